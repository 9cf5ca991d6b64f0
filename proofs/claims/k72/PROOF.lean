import PyProof.Rows.All
import Wide.All
import OpenK.AllK
import Wide.FinOn
import HandS.ForMost
import HandS.ForExc
import HandS.TryMany
import HandS.NestedK
import HandS.Walk
import HandS.CallSlots
import HandS.Deep
import HandS.IsInst
import HandS.SortInts
import HandS.Conv
import HandS.ExcIs
import HandS.Text
import HandS.EndTab
import PySem.Challenge.RW_backline_k72_programs_of_numbers
set_option Elab.async false
set_option linter.all false
set_option maxRecDepth 100000
set_option maxHeartbeats 4000000
namespace L3
open PySem PySem.Spec L2 NdefX LamX
/-- what the cells of the running frames that functions have captured hold -/
class GG (K : PySem.W.Frag) where
  cell : Addr → Option V

/-- the words of a function that is made within a def: its statement, name, qualified name, captured names -/
structure Ck where
  st : Stmt
  name : Str
  qual : Str
  fr : List Str
abbrev Ck.nf (k : Ck) (cl : List (Str × Addr)) (c : Addr) : NF := NF.of k.st k.name k.qual cl c
inductive LV where
  | non | bl (b : Bool) | int (i : Int) | str (x : Str) | ty (n : String) | ref (a : Addr) | scr (ns : List Int)
  | tup (xs : List LV) | lst (xs : List LV) | dT (kvs : List (List Key × LV)) | ins (C : Addr) (fs : List (Str × LV))
  | clo (k : Ck) (xs : List LV)

/-- what stands in the store at an address: a thing that may change -/
inductive LO where
  | lst (xs : List LV) | dK (kvs : List (Key × LV)) | dT (kvs : List (List Key × LV)) | ins (C : Addr) (fs : List (Str × LV)) | tab (q : Str)

abbrev LS := Addr → Option LO
def put (s : LS) (a : Addr) (o : LO) : LS := fun b => if b = a then some o else s b
def del (s : LS) (a : Addr) : LS := fun b => if b = a then none else s b
theorem put_same {s : LS} {a : Addr} {o : LO} : put s a o a = some o := by unfold put; rw [if_pos rfl]
theorem put_ne {s : LS} {a b : Addr} {o : LO} (h : b ≠ a) : put s a o b = s b := by unfold put; rw [if_neg h]
theorem put_put {s : LS} {a : Addr} {o u : LO} : put (put s a o) a u = put s a u := by
  funext b; unfold put; split <;> rfl
theorem del_put {s : LS} {a : Addr} {o : LO} (h : s a = none) : del (put s a o) a = s := by
  funext b; unfold del put
  split
  · next e => rw [e, h]
  · rfl
theorem put_self {s : LS} {a : Addr} {o : LO} (h : s a = some o) : put s a o = s := by
  funext b; unfold put
  split
  · next e => rw [e, h]
  · rfl
theorem ne_put {s : LS} {a b : Addr} {o : LO} (h : put s a o b = none) : b ≠ a ∧ s b = none := by
  unfold put at h
  split at h
  · cases h
  · next e => exact ⟨e, h⟩

def isD (us : List (List Key × V)) (o : HO) : Prop := o = .dT us ∨ ∃ ob, o = .frz ob (.dT us)
theorem isD.inj {us vs : List (List Key × V)} {o : HO} (a : isD us o) (b : isD vs o) : us = vs := by
  rcases a with rfl | ⟨_, rfl⟩ <;> rcases b with e | ⟨_, e⟩ <;> cases e <;> rfl
/-- the same, up to a dict's lock; a table of code objects may grow -/
def Eqo (o o' : HO) : Prop := o' = o ∨ (∃ us, isD us o ∧ isD us o') ∨ ∃ ps, o = .tbl ps
theorem Eqo.refl (o : HO) : Eqo o o := .inl rfl
theorem isD.notbl {us : List (List Key × V)} {ps : Array Value} (h : isD us (.tbl ps)) : False := by
  rcases h with h | ⟨_, h⟩ <;> cases h
theorem Eqo.trans {a b c : HO} (x : Eqo a b) (y : Eqo b c) : Eqo a c := by
  rcases x with rfl | ⟨us, h1, h2⟩ | ⟨ps, rfl⟩
  · exact y
  · rcases y with rfl | ⟨vs, h3, h4⟩ | ⟨ps, rfl⟩
    · exact .inr (.inl ⟨us, h1, h2⟩)
    · cases h2.inj h3
      exact .inr (.inl ⟨us, h1, h4⟩)
    · exact h2.notbl.elim
  · exact .inr (.inr ⟨ps, rfl⟩)
theorem Eqo.same {a o : HO} (h : Eqo a o) (n1 : ∀ us, ¬ L3.isD us a) (n2 : ∀ ps, a ≠ .tbl ps) : o = a := by
  rcases h with h | ⟨us, h1, _⟩ | ⟨ps, h⟩
  · exact h
  · exact (n1 us h1).elim
  · exact (n2 ps h).elim
theorem Eqo.tup {xs : List V} {o : HO} (h : Eqo (.tup xs) o) : o = .tup xs := h.same (fun us z => by rcases z with z | ⟨_, z⟩ <;> cases z) fun ps z => by cases z
theorem Eqo.lst {xs : List V} {o : HO} (h : Eqo (.lst xs) o) : o = .lst xs := h.same (fun us z => by rcases z with z | ⟨_, z⟩ <;> cases z) fun ps z => by cases z
theorem Eqo.ins {C dx : Addr} {xs : List (Str × V)} {o : HO} (h : Eqo (.ins C dx xs) o) : o = .ins C dx xs := h.same (fun us z => by rcases z with z | ⟨_, z⟩ <;> cases z) fun ps z => by cases z
theorem Eqo.frzL {ob : Obj} {xs : List V} {o : HO} (h : Eqo (.frz ob (.lst xs)) o) : o = .frz ob (.lst xs) := h.same (fun us z => by rcases z with z | ⟨_, z⟩ <;> cases z) fun ps z => by cases z
theorem Eqo.ext {φ : Heap → Prop} {o : HO} (h : Eqo (.ext φ) o) : o = .ext φ := h.same (fun us z => by rcases z with z | ⟨_, z⟩ <;> cases z) fun ps z => by cases z
theorem Eqo.isD {us : List (List Key × V)} {o o' : HO} (h : Eqo o o') (d : L3.isD us o) : L3.isD us o' := by
  rcases h with rfl | ⟨vs, h1, h2⟩ | ⟨ps, rfl⟩
  · exact d
  · cases d.inj h1
    exact h2
  · exact d.notbl.elim

/-- from one state to a later one: what the store does not hold stands as it stood, and comes into no store again -/
def Step (s : LS) (H : Hp) (s' : LS) (H' : Hp) : Prop := ∀ a o, H a = some o → s a = none → (∃ o', H' a = some o' ∧ Eqo o o') ∧ s' a = none
theorem Step.refl (s : LS) (H : Hp) : Step s H s H := fun a o h n => ⟨⟨o, h, .refl o⟩, n⟩
theorem Step.trans {s s1 s2 : LS} {H H1 H2 : Hp} (a : Step s H s1 H1) (b : Step s1 H1 s2 H2) : Step s H s2 H2 := fun x o h n => by
  obtain ⟨⟨o1, h1, e1⟩, n1⟩ := a x o h n
  obtain ⟨⟨o2, h2, e2⟩, n2⟩ := b x o1 h1 n1
  exact ⟨⟨o2, h2, e1.trans e2⟩, n2⟩

/-- a captured cell that holds v -/
def CelO (c : Addr) (v : V) : HO := .ext fun h => ∃ u, RelV v u ∧ h.IsCell c (some u)
/-- the captured cell c holds v: its frame is gone, or it runs -/
def CelH (K : PySem.W.Frag) [GG K] (s : LS) (H : Hp) (c : Addr) (v : V) : Prop := (s c = none ∧ H c = some (CelO c v)) ∨ GG.cell K c = some v
section
variable (K : PySem.W.Frag) [GG K] (s : LS) (H : Hp)
def ScrAt (a : Addr) (ns : List Int) : Prop := (s a = none ∧ Rd H a (.lst (ns.map V.int))) ∨
    ∃ (o : Obj) (its : Array Value) (n : Nat), K.lookup a = some o ∧ o.cls = .type "list" ∧ o.dict = none ∧ o.data = .seq its n ∧ its.size ≤ sizeLine ∧ Vals (ns.map V.int) its.toList
mutual
def RV : LV → V → Prop
  | .non, v => v = .non
  | .bl b, v => v = .bl b
  | .int i, v => v = .int i
  | .str x, v => v = .str x
  | .ty n, v => v = .ty n
  | .ref a, v => v = .ref a
  | .scr ns, v => ∃ a, v = .ref a ∧ ScrAt K s H a ns
  | .tup xs, v => ∃ a us, v = .ref a ∧ s a = none ∧ H a = some (.tup us) ∧ RVs xs us
  | .lst xs, v => ∃ a us, v = .ref a ∧ s a = none ∧ H a = some (.lst us) ∧ RVs xs us
  | .dT kvs, v => ∃ a us o, v = .ref a ∧ s a = none ∧ H a = some o ∧ isD us o ∧ RVk kvs us
  | .ins C fs, v => ∃ a dx us, v = .ref a ∧ s a = none ∧ H a = some (.ins C dx us) ∧ RVf fs us
  | .clo k xs, v => ∃ f c cl, v = .ref f ∧ s f = none ∧ H f = some (FnO f (k.nf cl c)) ∧ s c = none ∧ H c = some (CodeO c k.qual) ∧ cl.map (·.1) = k.fr ∧ (cl.map (·.2)).Nodup ∧ RVc xs (cl.map (·.2))
def RVc : List LV → List Addr → Prop
  | [], cs => cs = []
  | x :: xs, cs => ∃ c r u, cs = c :: r ∧ CelH K s H c u ∧ RV x u ∧ RVc xs r
def RVs : List LV → List V → Prop
  | [], us => us = []
  | x :: xs, us => ∃ u r, us = u :: r ∧ RV x u ∧ RVs xs r
def RVk : List (List Key × LV) → List (List Key × V) → Prop
  | [], us => us = []
  | (k, x) :: xs, us => ∃ u r, us = (k, u) :: r ∧ RV x u ∧ RVk xs r
def RVf : List (Str × LV) → List (Str × V) → Prop
  | [], us => us = []
  | (k, x) :: xs, us => ∃ u r, us = (k, u) :: r ∧ RV x u ∧ RVf xs r
end
end
/-- dicts with plain keys (in the store alone) -/
def RVd (K : PySem.W.Frag) [GG K] (s : LS) (H : Hp) : List (Key × LV) → List (Key × V) → Prop
  | [], us => us = []
  | (k, x) :: xs, us => ∃ u r, us = (k, u) :: r ∧ RV K s H x u ∧ RVd K s H xs r
def ObjR (K : PySem.W.Frag) [GG K] (s : LS) (H : Hp) (a : Addr) : LO → Prop
  | .lst xs => ∃ us, H a = some (.lst us) ∧ RVs K s H xs us
  | .dK kvs => ∃ us, H a = some (.dK us) ∧ RVd K s H kvs us
  | .dT kvs => ∃ us, H a = some (.dT us) ∧ RVk K s H kvs us
  | .ins C fs => ∃ dx us, H a = some (.ins C dx us) ∧ RVf K s H fs us
  | .tab q => ∃ ps, H a = some (.tbl ps) ∧ TriplesOk ps.toList ∧ ∀ (pos : Pos) (cv : Value), codeAmong pos ps.toList = some cv → ∃ c, cv = .ref c ∧ s c = none ∧ H c = some (CodeO c q)
def RelS (K : PySem.W.Frag) [GG K] (s : LS) (H : Hp) : Prop := ∀ a o, s a = some o → ObjR K s H a o

section
variable {K : PySem.W.Frag} [GG K] {s s' : LS} {H H' : Hp}
theorem ScrAt.mono (st : Step s H s' H') {a : Addr} {ns : List Int} (h : ScrAt K s H a ns) : ScrAt K s' H' a ns := by
  rcases h with ⟨n, h | ⟨o, h⟩⟩ | h
  · obtain ⟨⟨o', h', e⟩, n'⟩ := st a _ h n
    rw [e.lst] at h'
    exact .inl ⟨n', .inl h'⟩
  · obtain ⟨⟨o', h', e⟩, n'⟩ := st a _ h n
    rw [e.frzL] at h'
    exact .inl ⟨n', .inr ⟨o, h'⟩⟩
  · exact .inr h
theorem CelH.mono (st : Step s H s' H') {c : Addr} {v : V} (h : CelH K s H c v) : CelH K s' H' c v := by
  rcases h with ⟨n, h⟩ | h
  · obtain ⟨⟨o', h', e⟩, n'⟩ := st c _ h n
    rw [e.ext] at h'
    exact .inl ⟨n', h'⟩
  · exact .inr h
mutual
theorem RV.mono (st : Step s H s' H') : ∀ {x : LV} {v : V}, RV K s H x v → RV K s' H' x v
  | .non, _, h => h
  | .bl _, _, h => h
  | .int _, _, h => h
  | .str _, _, h => h
  | .ty _, _, h => h
  | .ref _, _, h => h
  | .scr _, _, h => by
    simp only [RV] at h ⊢
    obtain ⟨a, e, h⟩ := h
    exact ⟨a, e, h.mono st⟩
  | .tup xs, _, h => by
    simp only [RV] at h ⊢
    obtain ⟨a, us, e, n, h, r⟩ := h
    obtain ⟨⟨o', h', q⟩, n'⟩ := st a _ h n
    rw [q.tup] at h'
    exact ⟨a, us, e, n', h', RVs.mono st r⟩
  | .lst xs, _, h => by
    simp only [RV] at h ⊢
    obtain ⟨a, us, e, n, h, r⟩ := h
    obtain ⟨⟨o', h', q⟩, n'⟩ := st a _ h n
    rw [q.lst] at h'
    exact ⟨a, us, e, n', h', RVs.mono st r⟩
  | .dT kvs, _, h => by
    simp only [RV] at h ⊢
    obtain ⟨a, us, o, e, n, h, d, r⟩ := h
    obtain ⟨⟨o', h', q⟩, n'⟩ := st a _ h n
    exact ⟨a, us, o', e, n', h', q.isD d, RVk.mono st r⟩
  | .ins C fs, _, h => by
    simp only [RV] at h ⊢
    obtain ⟨a, dx, us, e, n, h, r⟩ := h
    obtain ⟨⟨o', h', q⟩, n'⟩ := st a _ h n
    rw [q.ins] at h'
    exact ⟨a, dx, us, e, n', h', RVf.mono st r⟩
  | .clo k xs, _, h => by
    simp only [RV] at h ⊢
    obtain ⟨f, c, cl, e, n, h, n2, h2, k, nd, r⟩ := h
    obtain ⟨⟨o', h', q⟩, n'⟩ := st f _ h n
    obtain ⟨⟨o2, h2', q2⟩, n2'⟩ := st c _ h2 n2
    rw [q.ext] at h'
    rw [q2.ext] at h2'
    exact ⟨f, c, cl, e, n', h', n2', h2', k, nd, RVc.mono st r⟩
theorem RVc.mono (st : Step s H s' H') : ∀ {xs : List LV} {us : List Addr}, RVc K s H xs us → RVc K s' H' xs us
  | [], _, h => by simp only [RVc] at h ⊢; exact h
  | x :: xs, _, h => by
    simp only [RVc] at h ⊢
    obtain ⟨c, r, u, e, h1, h2, h3⟩ := h
    exact ⟨c, r, u, e, h1.mono st, RV.mono st h2, RVc.mono st h3⟩
theorem RVs.mono (st : Step s H s' H') : ∀ {xs : List LV} {us : List V}, RVs K s H xs us → RVs K s' H' xs us
  | [], _, h => by simp only [RVs] at h ⊢; exact h
  | x :: xs, _, h => by
    simp only [RVs] at h ⊢
    obtain ⟨u, r, e, h1, h2⟩ := h
    exact ⟨u, r, e, RV.mono st h1, RVs.mono st h2⟩
theorem RVk.mono (st : Step s H s' H') : ∀ {xs : List (List Key × LV)} {us : List (List Key × V)}, RVk K s H xs us → RVk K s' H' xs us
  | [], _, h => by simp only [RVk] at h ⊢; exact h
  | (k, x) :: xs, _, h => by
    simp only [RVk] at h ⊢
    obtain ⟨u, r, e, h1, h2⟩ := h
    exact ⟨u, r, e, RV.mono st h1, RVk.mono st h2⟩
theorem RVf.mono (st : Step s H s' H') : ∀ {xs : List (Str × LV)} {us : List (Str × V)}, RVf K s H xs us → RVf K s' H' xs us
  | [], _, h => by simp only [RVf] at h ⊢; exact h
  | (k, x) :: xs, _, h => by
    simp only [RVf] at h ⊢
    obtain ⟨u, r, e, h1, h2⟩ := h
    exact ⟨u, r, e, RV.mono st h1, RVf.mono st h2⟩
end
theorem RVd.mono (st : Step s H s' H') : ∀ {xs : List (Key × LV)} {us : List (Key × V)}, RVd K s H xs us → RVd K s' H' xs us
  | [], _, h => by simp only [RVd] at h ⊢; exact h
  | (k, x) :: xs, _, h => by
    simp only [RVd] at h ⊢
    obtain ⟨u, r, e, h1, h2⟩ := h
    exact ⟨u, r, e, RV.mono st h1, RVd.mono st h2⟩
end

section
variable {K : PySem.W.Frag} [GG K] {s : LS} {H : Hp}
theorem RVs.nil : RVs K s H [] [] := by simp only [RVs]
theorem RVs.cons {x : LV} {u : V} {xs : List LV} {us : List V} (a : RV K s H x u) (b : RVs K s H xs us) : RVs K s H (x :: xs) (u :: us) := by
  simp only [RVs]; exact ⟨u, us, rfl, a, b⟩
theorem RVs.length : ∀ {xs : List LV} {us : List V}, RVs K s H xs us → us.length = xs.length
  | [], _, h => by simp only [RVs] at h; rw [h]; rfl
  | x :: xs, _, h => by
    simp only [RVs] at h
    obtain ⟨u, r, rfl, _, h2⟩ := h
    simp [RVs.length h2]
theorem RVs.get : ∀ {xs : List LV} {us : List V} {i : Nat} {x : LV}, RVs K s H xs us → xs[i]? = some x → ∃ u, us[i]? = some u ∧ RV K s H x u
  | [], _, _, _, _, e => by simp at e
  | y :: xs, _, 0, x, h, e => by
    simp only [RVs] at h
    obtain ⟨u, r, rfl, h1, _⟩ := h
    simp at e; subst e
    exact ⟨u, rfl, h1⟩
  | y :: xs, _, i + 1, x, h, e => by
    simp only [RVs] at h
    obtain ⟨u, r, rfl, _, h2⟩ := h
    obtain ⟨v, a, b⟩ := RVs.get (i := i) (x := x) h2 (by simpa using e)
    exact ⟨v, by simpa using a, b⟩
theorem RVs.get' : ∀ {xs : List LV} {us : List V} {i : Nat} {u : V}, RVs K s H xs us → us[i]? = some u → ∃ x, xs[i]? = some x ∧ RV K s H x u
  | [], _, _, _, h, e => by simp only [RVs] at h; subst h; simp at e
  | y :: xs, _, 0, u, h, e => by
    simp only [RVs] at h
    obtain ⟨v, r, rfl, h1, _⟩ := h
    simp at e; subst e
    exact ⟨y, rfl, h1⟩
  | y :: xs, _, i + 1, u, h, e => by
    simp only [RVs] at h
    obtain ⟨v, r, rfl, _, h2⟩ := h
    obtain ⟨w, a, b⟩ := RVs.get' (i := i) (u := u) h2 (by simpa using e)
    exact ⟨w, by simpa using a, b⟩
theorem RVs.append : ∀ {xs ys : List LV} {us vs : List V}, RVs K s H xs us → RVs K s H ys vs → RVs K s H (xs ++ ys) (us ++ vs)
  | [], _, _, _, h, g => by simp only [RVs] at h; subst h; exact g
  | x :: xs, _, _, _, h, g => by
    simp only [RVs] at h
    obtain ⟨u, r, rfl, h1, h2⟩ := h
    exact .cons h1 (RVs.append h2 g)
theorem RVs.take : ∀ {xs : List LV} {us : List V} (n : Nat), RVs K s H xs us → RVs K s H (xs.take n) (us.take n)
  | [], _, n, h => by simp only [RVs] at h; subst h; simp; exact .nil
  | x :: xs, _, 0, h => .nil
  | x :: xs, _, n + 1, h => by
    simp only [RVs] at h
    obtain ⟨u, r, rfl, h1, h2⟩ := h
    exact .cons h1 (RVs.take n h2)
theorem RVs.drop : ∀ {xs : List LV} {us : List V} (n : Nat), RVs K s H xs us → RVs K s H (xs.drop n) (us.drop n)
  | _, _, 0, h => h
  | [], _, n + 1, h => by simp only [RVs] at h; subst h; simp; exact .nil
  | x :: xs, _, n + 1, h => by
    simp only [RVs] at h
    obtain ⟨u, r, rfl, h1, h2⟩ := h
    exact RVs.drop n h2
theorem RVs.set : ∀ {xs : List LV} {us : List V} (i : Nat) {x : LV} {u : V}, RVs K s H xs us → RV K s H x u → RVs K s H (xs.set i x) (us.set i u)
  | [], _, _, _, _, h, _ => by simp only [RVs] at h; subst h; exact .nil
  | y :: xs, _, 0, _, _, h, g => by
    simp only [RVs] at h
    obtain ⟨u, r, rfl, h1, h2⟩ := h
    exact .cons g h2
  | y :: xs, _, i + 1, _, _, h, g => by
    simp only [RVs] at h
    obtain ⟨u, r, rfl, h1, h2⟩ := h
    exact .cons h1 (RVs.set i h2 g)
theorem RVs.ints : ∀ (ns : List Int), RVs K s H (ns.map LV.int) (ns.map V.int)
  | [] => .nil
  | n :: ns => .cons (by simp only [RV]) (RVs.ints ns)
theorem RVs.of_ints : ∀ {ns : List Int} {us : List V}, RVs K s H (ns.map LV.int) us → us = ns.map V.int
  | [], _, h => by simpa only [List.map_nil, RVs] using h
  | n :: ns, _, h => by
    simp only [List.map_cons, RVs, RV] at h
    obtain ⟨u, r, rfl, rfl, h2⟩ := h
    rw [RVs.of_ints h2]; rfl
theorem RVs.reverse : ∀ {xs : List LV} {us : List V}, RVs K s H xs us → RVs K s H xs.reverse us.reverse
  | [], _, h => by simp only [RVs] at h; subst h; exact .nil
  | x :: xs, _, h => by
    simp only [RVs] at h
    obtain ⟨u, r, rfl, h1, h2⟩ := h
    rw [List.reverse_cons, List.reverse_cons]
    exact (RVs.reverse h2).append (.cons h1 .nil)
def putL (f : Str) (v : LV) : List (Str × LV) → List (Str × LV)
  | [] => [(f, v)]
  | (g, u) :: r => if g = f then (g, v) :: r else (g, u) :: putL f v r
theorem RVf.look : ∀ {fs : List (Str × LV)} {us : List (Str × V)} {f : Str} {x : LV}, RVf K s H fs us → fs.lookup f = some x → ∃ v, us.lookup f = some v ∧ RV K s H x v
  | [], _, _, _, _, e => by simp at e
  | (g, y) :: fs, _, f, x, h, e => by
    simp only [RVf] at h
    obtain ⟨u, r, rfl, h1, h2⟩ := h
    rw [List.lookup_cons] at e ⊢
    cases q : f == g with
    | true => rw [q] at e; cases e; exact ⟨u, rfl, h1⟩
    | false => rw [q] at e; exact RVf.look h2 e
theorem RVf.look0 : ∀ {fs : List (Str × LV)} {us : List (Str × V)} {f : Str}, RVf K s H fs us → fs.lookup f = none → us.lookup f = none
  | [], _, _, h, e => by simp only [RVf] at h; subst h; rfl
  | (g, y) :: fs, _, f, h, e => by
    simp only [RVf] at h
    obtain ⟨u, r, rfl, h1, h2⟩ := h
    rw [List.lookup_cons] at e ⊢
    cases q : f == g with
    | true => rw [q] at e; cases e
    | false => rw [q] at e; exact RVf.look0 h2 e
theorem RVf.put : ∀ {fs : List (Str × LV)} {us : List (Str × V)} (f : Str) {x : LV} {v : V}, RVf K s H fs us → RV K s H x v → RVf K s H (putL f x fs) (putF f v us)
  | [], _, f, x, v, h, g => by
    simp only [RVf] at h; subst h
    show RVf K s H [(f, x)] [(f, v)]
    simp only [RVf]
    exact ⟨v, [], rfl, g, rfl⟩
  | (k, y) :: fs, _, f, x, v, h, g => by
    simp only [RVf] at h
    obtain ⟨u, r, rfl, h1, h2⟩ := h
    show RVf K s H (if k = f then (k, x) :: fs else (k, y) :: putL f x fs) (if k = f then (k, v) :: r else (k, u) :: putF f v r)
    split
    · simp only [RVf]; exact ⟨v, r, rfl, g, h2⟩
    · simp only [RVf]; exact ⟨u, _, rfl, h1, RVf.put f h2 g⟩
theorem RVf.length : ∀ {xs : List (Str × LV)} {us : List (Str × V)}, RVf K s H xs us → us.length = xs.length
  | [], _, h => by simp only [RVf] at h; rw [h]; rfl
  | (k, x) :: xs, _, h => by
    simp only [RVf] at h
    obtain ⟨u, r, rfl, _, h2⟩ := h
    simp [RVf.length h2]
theorem RVk.length : ∀ {xs : List (List Key × LV)} {us : List (List Key × V)}, RVk K s H xs us → us.length = xs.length
  | [], _, h => by simp only [RVk] at h; rw [h]; rfl
  | (k, x) :: xs, _, h => by
    simp only [RVk] at h
    obtain ⟨u, r, rfl, _, h2⟩ := h
    simp [RVk.length h2]
/-- the value at a key -/
def valL {κ : Type} [DecidableEq κ] : List (κ × LV) → κ → Option LV
  | [], _ => none
  | (j, x) :: r, k => if j = k then some x else valL r k
def putD {κ : Type} [DecidableEq κ] (kvs : List (κ × LV)) (k : κ) (v : LV) : List (κ × LV) :=
  if (kvs.any fun p => decide (p.1 = k)) = true then kvs.map (fun p => if p.1 = k then (p.1, v) else p) else kvs ++ [(k, v)]
end
end L3

namespace L3
open PySem PySem.Spec L2

abbrev LSt := List (Option LV)
abbrev LVK := LV → LS → Prop
/-- an exception that leaves: its class, the store -/
abbrev LX := Addr → LS → Prop
/-- .. with the slots -/
abbrev LXS := Addr → LSt → LS → Prop
abbrev LTE := LSt → LS → LVK → LX → Prop
abbrev LTT := LSt → LS → (Bool → LS → Prop) → LX → Prop
abbrev LTA := LSt → LS → (List LV → LS → Prop) → LX → Prop
structure LEnds where
  nx : LSt → LS → Prop
  rt : LVK
  bk : LSt → LS → Prop
  ct : LSt → LS → Prop
  ex : LXS
@[reducible] def LEnds.wnx (D : LEnds) (u : LSt → LS → Prop) : LEnds := { D with nx := u }
@[reducible] def LEnds.wex (D : LEnds) (u : LXS) : LEnds := { D with ex := u }
/-- within a loop: the next turn -/
@[reducible] def LEnds.wlp (D : LEnds) (u : LSt → LS → Prop) : LEnds := { D with nx := u, ct := u, bk := D.nx }
abbrev LTS := LEnds → LSt → LS → Prop
abbrev LTG := LV → LSt → LS → (LSt → LS → Prop) → LX → Prop

section
variable (K : PySem.W.Frag) [GG K] (s : LS) (H : Hp)
def RSt : LSt → St → Prop
  | [], vs => vs = []
  | none :: xs, vs => ∃ v r, vs = v :: r ∧ RSt xs r
  | some x :: xs, vs => ∃ v r, vs = some v :: r ∧ RV K s H x v ∧ RSt xs r
end
section
variable {K : PySem.W.Frag} [GG K] {s s' : LS} {H H' : Hp}
theorem RSt.mono (st : Step s H s' H') : ∀ {xs : LSt} {vs : St}, RSt K s H xs vs → RSt K s' H' xs vs
  | [], _, h => h
  | none :: xs, _, h => let ⟨v, r, e, h⟩ := h; ⟨v, r, e, RSt.mono st h⟩
  | some x :: xs, _, h => let ⟨v, r, e, g, h⟩ := h; ⟨v, r, e, g.mono st, RSt.mono st h⟩
theorem RSt.get : ∀ {xs : LSt} {vs : St} {i : Nat} {x : LV}, RSt K s H xs vs → xs[i]? = some (some x) → ∃ v, vs[i]? = some (some v) ∧ RV K s H x v
  | [], _, _, _, _, e => by simp at e
  | none :: xs, _, 0, _, _, e => by simp at e
  | some y :: xs, _, 0, x, h, e => by
    obtain ⟨v, r, rfl, g, h⟩ := h
    simp at e; subst e
    exact ⟨v, rfl, g⟩
  | none :: xs, _, i + 1, x, h, e => by
    obtain ⟨v, r, rfl, h⟩ := h
    obtain ⟨w, a, b⟩ := RSt.get (i := i) (x := x) h (by simpa using e)
    exact ⟨w, by simpa using a, b⟩
  | some y :: xs, _, i + 1, x, h, e => by
    obtain ⟨v, r, rfl, g, h⟩ := h
    obtain ⟨w, a, b⟩ := RSt.get (i := i) (x := x) h (by simpa using e)
    exact ⟨w, by simpa using a, b⟩
theorem RSt.set : ∀ {xs : LSt} {vs : St} (i : Nat) {x : LV} {v : V}, RSt K s H xs vs → RV K s H x v → RSt K s H (xs.set i (some x)) (vs.set i (some v))
  | [], _, _, _, _, h, _ => by cases h; rfl
  | none :: xs, _, 0, _, _, h, g => by obtain ⟨v, r, rfl, h⟩ := h; exact ⟨_, r, rfl, g, h⟩
  | some y :: xs, _, 0, _, _, h, g => by obtain ⟨v, r, rfl, _, h⟩ := h; exact ⟨_, r, rfl, g, h⟩
  | none :: xs, _, i + 1, _, _, h, g => by obtain ⟨v, r, rfl, h⟩ := h; exact ⟨v, _, rfl, RSt.set i h g⟩
  | some y :: xs, _, i + 1, _, _, h, g => by obtain ⟨v, r, rfl, g', h⟩ := h; exact ⟨v, _, rfl, g', RSt.set i h g⟩
theorem RSt.setN : ∀ {xs : LSt} {vs : St} (i : Nat) (v : Option V), RSt K s H xs vs → RSt K s H (xs.set i none) (vs.set i v)
  | [], _, _, _, h => by cases h; rfl
  | none :: xs, _, 0, v, h => by obtain ⟨_, r, rfl, h⟩ := h; exact ⟨v, r, rfl, h⟩
  | some y :: xs, _, 0, v, h => by obtain ⟨_, r, rfl, _, h⟩ := h; exact ⟨v, r, rfl, h⟩
  | none :: xs, _, i + 1, v, h => by obtain ⟨_, r, rfl, h⟩ := h; exact ⟨_, _, rfl, RSt.setN i v h⟩
  | some y :: xs, _, i + 1, v, h => by obtain ⟨_, r, rfl, g, h⟩ := h; exact ⟨_, _, rfl, g, RSt.setN i v h⟩
theorem RSt.nones : ∀ (n : Nat), RSt K s H (List.replicate n none) (List.replicate n none)
  | 0 => rfl
  | n + 1 => ⟨none, _, rfl, RSt.nones n⟩
theorem RSt.append : ∀ {xs ys : LSt} {us vs : St}, RSt K s H xs us → RSt K s H ys vs → RSt K s H (xs ++ ys) (us ++ vs)
  | [], _, _, _, h, g => by cases h; exact g
  | none :: xs, _, _, _, h, g => by obtain ⟨v, r, rfl, h⟩ := h; exact ⟨v, _, rfl, RSt.append h g⟩
  | some x :: xs, _, _, _, h, g => by obtain ⟨v, r, rfl, g', h⟩ := h; exact ⟨v, _, rfl, g', RSt.append h g⟩
theorem RSt.vals : ∀ {xs : List LV} {us : List V}, RVs K s H xs us → RSt K s H (xs.map some) (us.map some)
  | [], _, h => by simp only [RVs] at h; subst h; rfl
  | x :: xs, _, h => by
    simp only [RVs] at h
    obtain ⟨u, r, rfl, h1, h2⟩ := h
    exact ⟨u, _, rfl, h1, RSt.vals h2⟩
end

/-- the wish about exceptions, lifted -/
def WL (K : PySem.W.Frag) [GG K] (s0 : LS) (H0 : Hp) (E : LXS) : WX := fun cls d σ H => ∃ C σl s, cls = .ref C ∧ d = none ∧ RSt K s H σl σ ∧ RelS K s H ∧ Step s0 H0 s H ∧ E C σl s
def up (K : PySem.W.Frag) [GG K] (s0 : LS) (H0 : Hp) (E : LXS) (t : LTE) : TE := fun σ H Q => ∃ σl s Q0 E1, RSt K s H σl σ ∧ RelS K s H ∧ Step s0 H0 s H ∧ (∀ C s', E1 C s' → E C σl s') ∧ t σl s Q0 E1 ∧
  ∀ lv s' v H', Q0 lv s' → Step s H s' H' → RelS K s' H' → RV K s' H' lv v → Q v H'
def upT (K : PySem.W.Frag) [GG K] (s0 : LS) (H0 : Hp) (E : LXS) (t : LTT) : TT := fun σ H Q => ∃ σl s Q0 E1, RSt K s H σl σ ∧ RelS K s H ∧ Step s0 H0 s H ∧ (∀ C s', E1 C s' → E C σl s') ∧ t σl s Q0 E1 ∧
  ∀ b s' H', Q0 b s' → Step s H s' H' → RelS K s' H' → Q b H'
def upA (K : PySem.W.Frag) [GG K] (s0 : LS) (H0 : Hp) (E : LXS) (t : LTA) : TA := fun σ H Q => ∃ σl s Q0 E1, RSt K s H σl σ ∧ RelS K s H ∧ Step s0 H0 s H ∧ (∀ C s', E1 C s' → E C σl s') ∧ t σl s Q0 E1 ∧
  ∀ lvs s' vs H', Q0 lvs s' → Step s H s' H' → RelS K s' H' → RVs K s' H' lvs vs → Q vs H'
/-- the ends, lifted, from the state s, H -/
structure DnE (K : PySem.W.Frag) [GG K] (E : LXS) (s : LS) (H : Hp) (Dl : LEnds) (D : Ends) : Prop where
  nx : ∀ σl s' σ H', Dl.nx σl s' → Step s H s' H' → RelS K s' H' → RSt K s' H' σl σ → D.nx σ H'
  rt : ∀ lv s' v H', Dl.rt lv s' → Step s H s' H' → RelS K s' H' → RV K s' H' lv v → D.rt v H'
  bk : ∀ σl s' σ H', Dl.bk σl s' → Step s H s' H' → RelS K s' H' → RSt K s' H' σl σ → D.bk σ H'
  ct : ∀ σl s' σ H', Dl.ct σl s' → Step s H s' H' → RelS K s' H' → RSt K s' H' σl σ → D.ct σ H'
  ex : ∀ C σl s', Dl.ex C σl s' → E C σl s'
theorem DnE.mono {K : PySem.W.Frag} [GG K] {E : LXS} {s s1 : LS} {H H1 : Hp} {Dl : LEnds} {D : Ends} (d : DnE K E s H Dl D) (st : Step s H s1 H1) : DnE K E s1 H1 Dl D :=
  ⟨fun a b c e h t => d.nx a b c e h (st.trans t), fun a b c e h t => d.rt a b c e h (st.trans t), fun a b c e h t => d.bk a b c e h (st.trans t), fun a b c e h t => d.ct a b c e h (st.trans t), d.ex⟩
def upS (K : PySem.W.Frag) [GG K] (s0 : LS) (H0 : Hp) (E : LXS) (t : LTS) : TS := fun D σ H => ∃ σl s Dl, RSt K s H σl σ ∧ RelS K s H ∧ Step s0 H0 s H ∧ t Dl σl s ∧ DnE K E s H Dl D
def upG (K : PySem.W.Frag) [GG K] (s0 : LS) (H0 : Hp) (E : LXS) (t : LTG) : TG := fun v σ H Q => ∃ lv σl s Q0 E1, RSt K s H σl σ ∧ RelS K s H ∧ Step s0 H0 s H ∧ RV K s H lv v ∧ (∀ C s', E1 C s' → E C σl s') ∧ t lv σl s Q0 E1 ∧
  ∀ σl' s' σ' H', Q0 σl' s' → Step s H s' H' → RelS K s' H' → RSt K s' H' σl' σ' → Q σ' H'

def LE (X : Cx) [GG X.K] (e : Expr) (t : LTE) : Prop := ∀ s0 H0 E, Takes X (WL X.K s0 H0 E) → PE X e (up X.K s0 H0 E t)
def LT (X : Cx) [GG X.K] (e : Expr) (t : LTT) : Prop := ∀ s0 H0 E, Takes X (WL X.K s0 H0 E) → PT X e (upT X.K s0 H0 E t)
def LW (X : Cx) [GG X.K] (e : Expr) (t : LTT) : Prop := ∀ s0 H0 E, Takes X (WL X.K s0 H0 E) → PW X e (upT X.K s0 H0 E t)
def LA (X : Cx) [GG X.K] (es : List Expr) (t : LTA) : Prop := ∀ s0 H0 E, Takes X (WL X.K s0 H0 E) → PA X es (upA X.K s0 H0 E t)
def LP (X : Cx) [GG X.K] (st : Stmt) (t : LTS) : Prop := ∀ s0 H0 E, Takes X (WL X.K s0 H0 E) → PassesOwn (model X.prog X.w) X.A X.env X.xe → PS X st (upS X.K s0 H0 E t)
def LPs (X : Cx) [GG X.K] (st : List Stmt) (t : LTS) : Prop := ∀ s0 H0 E, Takes X (WL X.K s0 H0 E) → PassesOwn (model X.prog X.w) X.A X.env X.xe → PSs X st (upS X.K s0 H0 E t)
def LG (X : Cx) [GG X.K] (e : Expr) (t : LTG) : Prop := ∀ s0 H0 E, Takes X (WL X.K s0 H0 E) → PG X e (upG X.K s0 H0 E t)

theorem _root_.L2.PE.imp {X : Cx} [GG X.K] {e : Expr} {t t' : TE} (h : PE X e t) (i : ∀ σ H Q, t' σ H Q → t σ H Q) : PE X e t' := ⟨fun pins s σ H Q I q => h.run pins s σ H Q I (i _ _ _ q)⟩
theorem _root_.L2.PT.imp {X : Cx} [GG X.K] {e : Expr} {t t' : TT} (h : PT X e t) (i : ∀ σ H Q, t' σ H Q → t σ H Q) : PT X e t' := ⟨fun pins s σ H Q I q => h.run pins s σ H Q I (i _ _ _ q)⟩
theorem _root_.L2.PW.imp {X : Cx} [GG X.K] {e : Expr} {t t' : TT} (h : PW X e t) (i : ∀ σ H Q, t' σ H Q → t σ H Q) : PW X e t' := ⟨fun wh pins s σ H Q I q => h.run wh pins s σ H Q I (i _ _ _ q)⟩
theorem _root_.L2.PA.imp {X : Cx} [GG X.K] {e : List Expr} {t t' : TA} (h : PA X e t) (i : ∀ σ H Q, t' σ H Q → t σ H Q) : PA X e t' := ⟨fun pos pins s σ H Q I q => h.run pos pins s σ H Q I (i _ _ _ q)⟩
theorem _root_.L2.PS.imp {X : Cx} [GG X.K] {e : Stmt} {t t' : TS} (h : PS X e t) (i : ∀ D σ H, t' D σ H → t D σ H) : PS X e t' := ⟨fun pins s σ H D I q => h.run pins s σ H D I (i _ _ _ q)⟩
theorem _root_.L2.PSs.imp {X : Cx} [GG X.K] {e : List Stmt} {t t' : TS} (h : PSs X e t) (i : ∀ D σ H, t' D σ H → t D σ H) : PSs X e t' := ⟨fun pins s σ H D I q => h.run pins s σ H D I (i _ _ _ q)⟩
theorem _root_.L2.PG.imp {X : Cx} [GG X.K] {e : Expr} {t t' : TG} (h : PG X e t) (i : ∀ v σ H Q, t' v σ H Q → t v σ H Q) : PG X e t' := ⟨fun pins s σ H v u Q I r q => h.run pins s σ H v u Q I r (i _ _ _ _ q)⟩

def lVar (i : Nat) : LTE := fun σ s Q _ => match σ[i]? with
  | some (some v) => Q v s
  | _ => False
def lC (v : LV) : LTE := fun _ s Q _ => Q v s
section
variable {X : Cx} [GG X.K] {e a b : Expr} {pos : Pos}
theorem le_of_pe_var {i : Nat} (h : PE X e (tVar i)) : LE X e (lVar i) := fun s0 H0 E tk => h.imp fun σ H Q ⟨σl, s, Q0, E1, hσ, hs, st, hE, h, k⟩ => by
  unfold lVar at h
  split at h
  · next v e =>
    obtain ⟨u, hu, r⟩ := hσ.get e
    exact ⟨u, hu, k _ _ _ _ h (.refl _ _) hs r⟩
  · exact h.elim
theorem lv (i : Nat) {x : Str} {pos : Pos} (hN : X.N[i]? = some x := by rfl) (hv : Vis X.env.scope x := by first | exact Or.inl rfl | exact Or.inr (Or.inl rfl) | exact Or.inr (Or.inr rfl)) (hd : (x == ("__debug__" : Str)) = false := by decide)
    (hcd : (x == ("__classdict__" : Str)) = false := by decide) : LE X (.Name x pos) (lVar i) := le_of_pe_var (pe_var hN hv hd hcd)
theorem le_of_pe_c {v : V} {x : LV} (h : PE X e (tC v)) (r : ∀ s H, RV X.K s H x v) : LE X e (lC x) := fun s0 H0 E tk => h.imp fun σ H Q ⟨σl, s, Q0, E1, hσ, hs, st, hE, h, k⟩ =>
  k _ _ _ _ h (.refl _ _) hs (r _ _)
theorem le_int {i j} : LE X (.Constant (.int i) j pos) (lC (.int i)) := le_of_pe_c pe_int fun _ _ => by simp only [RV]
theorem le_bl {i j} : LE X (.Constant (.bool i) j pos) (lC (.bl i)) := le_of_pe_c pe_bl fun _ _ => by simp only [RV]
theorem le_non {j} : LE X (.Constant .none j pos) (lC .non) := le_of_pe_c pe_non fun _ _ => by simp only [RV]
theorem le_str {x j} : LE X (.Constant (.str x) j pos) (lC (.str x)) := le_of_pe_c pe_str fun _ _ => by simp only [RV]
/-- a class or a def of the module as a value -/
theorem le_glob {x : Str} {c : Addr} (hg : Gl X x) (hm : X.mg x = some (.ref c)) (hd : (x == ("__debug__" : Str)) = false := by decide) : LE X (.Name x pos) (lC (.ref c)) :=
  le_of_pe_c (v := .ref c) (pe_glob hg hm rfl hd) fun _ _ => by simp only [RV]
theorem le_bty {x : Str} {n : String} (hg : Gl X x) (hm : X.mg x = none) (hv : bootBuiltins x = some (.type n)) (hn : x ≠ "__name__" := by decide) (hd : (x == ("__debug__" : Str)) = false := by decide) : LE X (.Name x pos) (lC (.ty n)) :=
  le_of_pe_c (v := .ty n) (pe_bltn hg hm hv rfl hn hd) fun _ _ => by simp only [RV]

abbrev LR2 := LV → LV → LS → LVK → Prop
abbrev LR1 := LV → LS → LVK → Prop
def lOp (r : LR2) (ta tb : LTE) : LTE := fun σ s Q E => ta σ s (fun x s1 => tb σ s1 (fun y s2 => r x y s2 Q) E) E
def lUn (r : LR1) (ta : LTE) : LTE := fun σ s Q E => ta σ s (fun x s1 => r x s1 Q) E
/-- what lies between: a rule on values -/
def Up2 (K : PySem.W.Frag) [GG K] (r : R2) (rl : LR2) : Prop := ∀ x y s H lx ly Q0 Q, RelS K s H → RV K s H lx x → RV K s H ly y → rl lx ly s Q0 →
  (∀ lv s' v H', Q0 lv s' → Step s H s' H' → RelS K s' H' → RV K s' H' lv v → Q v H') → r x y H Q
def Up1 (K : PySem.W.Frag) [GG K] (r : V → Hp → VK → Prop) (rl : LR1) : Prop := ∀ x s H lx Q0 Q, RelS K s H → RV K s H lx x → rl lx s Q0 →
  (∀ lv s' v H', Q0 lv s' → Step s H s' H' → RelS K s' H' → RV K s' H' lv v → Q v H') → r x H Q
variable {ta tb tc te : LTE}
theorem up_op {K : PySem.W.Frag} [GG K] {s0 : LS} {H0 : Hp} {E : LXS} {r : R2} {rl : LR2} (u : Up2 K r rl) {σ : St} {H : Hp} {Q : VK} (h : up K s0 H0 E (lOp rl ta tb) σ H Q) : tOp r (up K s0 H0 E ta) (up K s0 H0 E tb) σ H Q := by
  obtain ⟨σl, s, Q0, E1, hσ, hs, st, hE, h, k⟩ := h
  refine ⟨σl, s, _, E1, hσ, hs, st, hE, h, fun lx s1 x H1 h st1 hs1 rx => ?_⟩
  refine ⟨σl, s1, _, E1, hσ.mono st1, hs1, st.trans st1, hE, h, fun ly s2 y H2 h st2 hs2 ry => ?_⟩
  exact u x y s2 H2 lx ly Q0 Q hs2 (rx.mono st2) ry h fun lv s3 v H3 q st3 => k lv s3 v H3 q ((st1.trans st2).trans st3)
theorem le_op {op : Operator} {r : R2} {rl : LR2} (ho : OpR X (binaryOp op) r) (u : Up2 X.K r rl) (ha : LE X a ta) (hb : LE X b tb) : LE X (.BinOp a op b pos) (lOp rl ta tb) := fun s0 H0 E tk =>
  (pe_op ho (ha s0 H0 E tk) (hb s0 H0 E tk)).imp fun σ H Q h => up_op u h
theorem le_cmp {op : CmpOp} {r : R2} {rl : LR2} (ho : OpR X (compareOp op) r) (u : Up2 X.K r rl) (ha : LE X a ta) (hb : LE X b tb) (hm : behindInMarks op b = false) : LE X (.Compare a [op] [b] pos) (lOp rl ta tb) := fun s0 H0 E tk =>
  (pe_cmpR ho (ha s0 H0 E tk) (hb s0 H0 E tk) hm).imp fun σ H Q h => up_op u h
theorem le_ix {r : R2} {rl : LR2} (ho : IxR X r) (u : Up2 X.K r rl) (ha : LE X a ta) (hb : LE X b tb) (hs : PlainIx b) : LE X (.Subscript a b pos) (lOp rl ta tb) := fun s0 H0 E tk =>
  (pe_ix ho (ha s0 H0 E tk) (hb s0 H0 E tk) hs).imp fun σ H Q h => up_op u h
theorem le_un {op : UnaryOp} {r : V → Hp → VK → Prop} {rl : LR1} (ho : UnR X (unaryOp op) r) (u : Up1 X.K r rl) (ha : LE X a ta) : LE X (.UnaryOp op a pos) (lUn rl ta) := fun s0 H0 E tk =>
  (pe_un ho (ha s0 H0 E tk)).imp fun σ H Q ⟨σl, s, Q0, E1, hσ, hs, st, hE, h, k⟩ => ⟨σl, s, _, E1, hσ, hs, st, hE, h, fun lx s1 x H1 h st1 hs1 rx => u x s1 H1 lx Q0 Q hs1 rx h fun lv s3 v H3 q st3 => k lv s3 v H3 q (st1.trans st3)⟩

/-- a value that is a bool, as a test -/
def isBl (x : LV) (k : Bool → Prop) : Prop := match x with
  | .bl c => k c
  | _ => False
def lB (t : LTE) : LTT := fun σ s Q E => t σ s (fun x s1 => isBl x fun c => Q c s1) E
theorem lb_ok {x : LV} {k : Bool → Prop} (h : isBl x k) : ∃ c, x = .bl c ∧ k c := by
  cases x <;> first | exact ⟨_, rfl, h⟩ | exact h.elim
theorem RV.bl' {K : PySem.W.Frag} [GG K] {s : LS} {H : Hp} {b : Bool} {v : V} (h : RV K s H (.bl b) v) : v = .bl b := by simpa only [RV] using h
theorem RV.int' {K : PySem.W.Frag} [GG K] {s : LS} {H : Hp} {b : Int} {v : V} (h : RV K s H (.int b) v) : v = .int b := by simpa only [RV] using h
theorem RV.str' {K : PySem.W.Frag} [GG K] {s : LS} {H : Hp} {b : Str} {v : V} (h : RV K s H (.str b) v) : v = .str b := by simpa only [RV] using h
theorem RV.ref' {K : PySem.W.Frag} [GG K] {s : LS} {H : Hp} {b : Addr} {v : V} (h : RV K s H (.ref b) v) : v = .ref b := by simpa only [RV] using h
theorem RV.non' {K : PySem.W.Frag} [GG K] {s : LS} {H : Hp} {v : V} (h : RV K s H .non v) : v = .non := by simpa only [RV] using h
theorem RV.bl {K : PySem.W.Frag} [GG K] {s : LS} {H : Hp} {b : Bool} : RV K s H (.bl b) (.bl b) := by simp only [RV]
theorem RV.int {K : PySem.W.Frag} [GG K] {s : LS} {H : Hp} {b : Int} : RV K s H (.int b) (.int b) := by simp only [RV]
theorem RV.str {K : PySem.W.Frag} [GG K] {s : LS} {H : Hp} {b : Str} : RV K s H (.str b) (.str b) := by simp only [RV]
theorem RV.ref {K : PySem.W.Frag} [GG K] {s : LS} {H : Hp} {b : Addr} : RV K s H (.ref b) (.ref b) := by simp only [RV]
theorem RV.non {K : PySem.W.Frag} [GG K] {s : LS} {H : Hp} : RV K s H .non .non := by simp only [RV]
theorem lt_val (ha : LE X a ta) (he : ∀ whole, isTrue a X.env whole = (do let v ← whole; standAt a.pos; holding [v] (truthy v)) := by intro _; rfl) : LT X a (lB ta) := fun s0 H0 E tk =>
  (pt_val (ha s0 H0 E tk) he).imp fun σ H Q ⟨σl, s, Q0, E1, hσ, hs, st, hE, h, k⟩ => ⟨σl, s, _, E1, hσ, hs, st, hE, h, fun lx s1 x H1 h st1 hs1 rx => by
    obtain ⟨c, rfl, h⟩ := lb_ok h
    exact ⟨c, rx.bl', k _ _ _ h st1 hs1⟩⟩
theorem lt_cmp {op : CmpOp} {r : R2} {rl : LR2} (ho : OpR X (compareOp op) r) (u : Up2 X.K r rl) (ha : LE X a ta) (hb : LE X b tb) (hm : behindInMarks op b = false) : LT X (.Compare a [op] [b] pos) (lB (lOp rl ta tb)) := fun s0 H0 E tk =>
  (pt_cmpR ho (ha s0 H0 E tk) (hb s0 H0 E tk) hm).imp fun σ H Q ⟨σl, s, Q0, E1, hσ, hs, st, hE, h, k⟩ => by
    refine up_op u (Q := fun x H' => ∃ k, x = .bl k ∧ Q k H') ⟨σl, s, _, E1, hσ, hs, st, hE, h, fun lx s1 x H1 h st1 hs1 rx => ?_⟩
    obtain ⟨c, rfl, h⟩ := lb_ok h
    exact ⟨c, rx.bl', k _ _ _ h st1 hs1⟩
variable {tA tB : LTT} {rest : List Expr}
def lAnd (t u : LTT) : LTT := fun σ s Q E => t σ s (fun c s1 => (c = true → u σ s1 Q E) ∧ (c = false → Q false s1)) E
def lOr (t u : LTT) : LTT := fun σ s Q E => t σ s (fun c s1 => (c = true → Q true s1) ∧ (c = false → u σ s1 Q E)) E
def lNot (t : LTT) : LTT := fun σ s Q E => t σ s (fun c s1 => Q (!c) s1) E
theorem LW.lt (h : LW X e tA) : LT X e tA := fun s0 H0 E tk => (h s0 H0 E tk).pt
theorem lw_and1 (ha : LT X a tA) : LW X (.BoolOp .And [a] pos) tA := fun s0 H0 E tk => pw_and1 (ha s0 H0 E tk)
theorem lw_or1 (ha : LT X a tA) : LW X (.BoolOp .Or [a] pos) tA := fun s0 H0 E tk => pw_or1 (ha s0 H0 E tk)
theorem lw_and (ha : LT X a tA) (hb : LW X (.BoolOp .And (b :: rest) pos) tB) : LW X (.BoolOp .And (a :: b :: rest) pos) (lAnd tA tB) := fun s0 H0 E tk =>
  (pw_and (ha s0 H0 E tk) (hb s0 H0 E tk)).imp fun σ H Q ⟨σl, s, Q0, E1, hσ, hs, st, hE, h, k⟩ => ⟨σl, s, _, E1, hσ, hs, st, hE, h, fun c s1 H1 h st1 hs1 => by
    cases c with
    | true => exact ⟨σl, s1, _, E1, hσ.mono st1, hs1, st.trans st1, hE, h.1 rfl, fun b s2 H2 q st2 => k b s2 H2 q (st1.trans st2)⟩
    | false => exact k _ _ _ (h.2 rfl) st1 hs1⟩
theorem lw_or (ha : LT X a tA) (hb : LW X (.BoolOp .Or (b :: rest) pos) tB) : LW X (.BoolOp .Or (a :: b :: rest) pos) (lOr tA tB) := fun s0 H0 E tk =>
  (pw_or (ha s0 H0 E tk) (hb s0 H0 E tk)).imp fun σ H Q ⟨σl, s, Q0, E1, hσ, hs, st, hE, h, k⟩ => ⟨σl, s, _, E1, hσ, hs, st, hE, h, fun c s1 H1 h st1 hs1 => by
    cases c with
    | true => exact k _ _ _ (h.1 rfl) st1 hs1
    | false => exact ⟨σl, s1, _, E1, hσ.mono st1, hs1, st.trans st1, hE, h.2 rfl, fun b s2 H2 q st2 => k b s2 H2 q (st1.trans st2)⟩⟩
theorem lt_not (ha : LT X a tA) : LT X (.UnaryOp .Not a pos) (lNot tA) := fun s0 H0 E tk =>
  (pt_not (ha s0 H0 E tk)).imp fun σ H Q ⟨σl, s, Q0, E1, hσ, hs, st, hE, h, k⟩ => ⟨σl, s, _, E1, hσ, hs, st, hE, h, fun c s1 H1 h st1 hs1 => k _ _ _ h st1 hs1⟩
/-- .. as values -/
def lAndV (ta tb : LTE) : LTE := fun σ s Q E => lB ta σ s (fun c s1 => (c = true → tb σ s1 Q E) ∧ (c = false → Q (.bl false) s1)) E
def lOrV (ta tb : LTE) : LTE := fun σ s Q E => lB ta σ s (fun c s1 => (c = true → Q (.bl true) s1) ∧ (c = false → tb σ s1 Q E)) E
def lNotV (ta : LTE) : LTE := fun σ s Q E => lB ta σ s (fun c s1 => Q (.bl (!c)) s1) E
theorem le_one {op} (h : LE X a ta) : LE X (.BoolOp op [a] pos) ta := fun s0 H0 E tk => pe_one (h s0 H0 E tk)
theorem le_and (ha : LE X a ta) (hb : LE X (.BoolOp .And (b :: rest) pos) tb) : LE X (.BoolOp .And (a :: b :: rest) pos) (lAndV ta tb) := fun s0 H0 E tk =>
  (pe_and (ha s0 H0 E tk) (hb s0 H0 E tk)).imp fun σ H Q ⟨σl, s, Q0, E1, hσ, hs, st, hE, h, k⟩ => ⟨σl, s, _, E1, hσ, hs, st, hE, h, fun lx s1 x H1 h st1 hs1 rx => by
    obtain ⟨c, rfl, h⟩ := lb_ok h
    refine ⟨c, rx.bl', ?_⟩
    cases c with
    | true => exact ⟨σl, s1, _, E1, hσ.mono st1, hs1, st.trans st1, hE, h.1 rfl, fun b s2 v H2 q st2 => k b s2 v H2 q (st1.trans st2)⟩
    | false => exact k _ _ _ _ (h.2 rfl) st1 hs1 .bl⟩
theorem le_or (ha : LE X a ta) (hb : LE X (.BoolOp .Or (b :: rest) pos) tb) : LE X (.BoolOp .Or (a :: b :: rest) pos) (lOrV ta tb) := fun s0 H0 E tk =>
  (pe_or (ha s0 H0 E tk) (hb s0 H0 E tk)).imp fun σ H Q ⟨σl, s, Q0, E1, hσ, hs, st, hE, h, k⟩ => ⟨σl, s, _, E1, hσ, hs, st, hE, h, fun lx s1 x H1 h st1 hs1 rx => by
    obtain ⟨c, rfl, h⟩ := lb_ok h
    refine ⟨c, rx.bl', ?_⟩
    cases c with
    | true => exact k _ _ _ _ (h.1 rfl) st1 hs1 .bl
    | false => exact ⟨σl, s1, _, E1, hσ.mono st1, hs1, st.trans st1, hE, h.2 rfl, fun b s2 v H2 q st2 => k b s2 v H2 q (st1.trans st2)⟩⟩
theorem le_not (ha : LE X a ta) : LE X (.UnaryOp .Not a pos) (lNotV ta) := fun s0 H0 E tk =>
  (pe_not (ha s0 H0 E tk)).imp fun σ H Q ⟨σl, s, Q0, E1, hσ, hs, st, hE, h, k⟩ => ⟨σl, s, _, E1, hσ, hs, st, hE, h, fun lx s1 x H1 h st1 hs1 rx => by
    obtain ⟨c, rfl, h⟩ := lb_ok h
    exact ⟨c, rx.bl', k _ _ _ _ h st1 hs1 .bl⟩⟩
def lCutT (t : LTT) : LTT := fun σ s Q E => ∃ b, t σ s (fun b' s' => b' = b ∧ s' = s) E ∧ Q b s
theorem lt_cut (h : LT X e tA) : LT X e (lCutT tA) := fun s0 H0 E tk => (h s0 H0 E tk).imp fun σ H Q ⟨σl, s, Q0, E1, hσ, hs, st, hE, ⟨b, h, q⟩, k⟩ =>
  ⟨σl, s, _, E1, hσ, hs, st, hE, h, fun b' s' H' ⟨e1, e2⟩ st1 hs1 => by subst e1 e2; exact k _ _ _ q st1 hs1⟩
def lCutE (t : LTE) : LTE := fun σ s Q E => ∃ v, t σ s (fun v' s' => v' = v ∧ s' = s) E ∧ Q v s
theorem le_cut (h : LE X e ta) : LE X e (lCutE ta) := fun s0 H0 E tk => (h s0 H0 E tk).imp fun σ H Q ⟨σl, s, Q0, E1, hσ, hs, st, hE, ⟨b, h, q⟩, k⟩ =>
  ⟨σl, s, _, E1, hσ, hs, st, hE, h, fun b' s' v H' ⟨e1, e2⟩ st1 hs1 r => by subst e1 e2; exact k _ _ _ _ q st1 hs1 r⟩

def lNil : LTA := fun _ s Q _ => Q [] s
def lCons (t : LTE) (u : LTA) : LTA := fun σ s Q E => t σ s (fun x s1 => u σ s1 (fun xs s2 => Q (x :: xs) s2) E) E
variable {tas : LTA} {es : List Expr}
theorem la_nil : LA X [] lNil := fun s0 H0 E tk => pa_nil.imp fun σ H Q ⟨σl, s, Q0, E1, hσ, hs, st, hE, h, k⟩ => k _ _ _ _ h (.refl _ _) hs .nil
theorem la_cons (h : LE X e te) (t : LA X es tas) (hs : starEach (e :: es) X.env = (false, eval e X.env) :: starEach es X.env := by rfl) : LA X (e :: es) (lCons te tas) := fun s0 H0 E tk =>
  (pa_cons (h s0 H0 E tk) (t s0 H0 E tk) hs).imp fun σ H Q ⟨σl, s, Q0, E1, hσ, hs, st, hE, h, k⟩ => ⟨σl, s, _, E1, hσ, hs, st, hE, h, fun lx s1 x H1 h st1 hs1 rx =>
    ⟨σl, s1, _, E1, hσ.mono st1, hs1, st.trans st1, hE, h, fun ly s2 y H2 h st2 hs2 ry => k _ _ _ _ h (st1.trans st2) hs2 (.cons (rx.mono st2) ry)⟩⟩

variable {st : Stmt} {sts : List Stmt} {t u : LTS}
def lNext : LTS := fun D σ s => D.nx σ s
def lSeq (t u : LTS) : LTS := fun D σ s => t (D.wnx (u D)) σ s
theorem lps_nil : LPs X [] lNext := fun s0 H0 E tk hp => pss_nil.imp fun D σ H ⟨σl, s, Dl, hσ, hs, st, h, d⟩ => d.nx _ _ _ _ h (.refl _ _) hs hσ
theorem lps_cons (h1 : LP X st t) (h2 : LPs X sts u) : LPs X (st :: sts) (lSeq t u) := fun s0 H0 E tk hp => (pss_cons (h1 s0 H0 E tk hp) (h2 s0 H0 E tk hp)).imp fun D σ H ⟨σl, s, Dl, hσ, hs, st, h, d⟩ =>
  ⟨σl, s, _, hσ, hs, st, h, ⟨fun σl1 s1 σ1 H1 h1 st1 hs1 r1 => ⟨σl1, s1, Dl, r1, hs1, st.trans st1, h1, d.mono st1⟩, d.rt, d.bk, d.ct, d.ex⟩⟩
theorem lps_one (h1 : LP X st t) : LPs X [st] t := fun s0 H0 E tk hp => pss_one (h1 s0 H0 E tk hp)
theorem lp_pass : LP X (.Pass pos) lNext := fun s0 H0 E tk hp => ps_pass.imp fun D σ H ⟨σl, s, Dl, hσ, hs, st, h, d⟩ => d.nx _ _ _ _ h (.refl _ _) hs hσ
def lBreak : LTS := fun D σ s => D.bk σ s
def lCont : LTS := fun D σ s => D.ct σ s
theorem lp_break : LP X (.Break pos) lBreak := fun s0 H0 E tk hp => ps_break.imp fun D σ H ⟨σl, s, Dl, hσ, hs, st, h, d⟩ => d.bk _ _ _ _ h (.refl _ _) hs hσ
theorem lp_continue : LP X (.Continue pos) lCont := fun s0 H0 E tk hp => ps_continue.imp fun D σ H ⟨σl, s, Dl, hσ, hs, st, h, d⟩ => d.ct _ _ _ _ h (.refl _ _) hs hσ
theorem lp_doc {x j pos pos'} : LP X (.Expr (.Constant (.str x) j pos) pos') lNext := fun s0 H0 E tk hp => ps_doc.imp fun D σ H ⟨σl, s, Dl, hσ, hs, st, h, d⟩ => d.nx _ _ _ _ h (.refl _ _) hs hσ
def lDrop (te : LTE) : LTS := fun D σ s => te σ s (fun _ s1 => D.nx σ s1) (fun C s1 => D.ex C σ s1)
theorem lp_expr (he : LE X e te) (hs : swapsWith e none pos.line X.env = pure false := by rfl) : LP X (.Expr e pos) (lDrop te) := fun s0 H0 E tk hp =>
  (ps_expr (he s0 H0 E tk) hs).imp fun D σ H ⟨σl, s, Dl, hσ, hs, st, h, d⟩ =>
    ⟨σl, s, _, _, hσ, hs, st, fun C s' q => d.ex C σl s' q, h, fun lv s1 v H1 h1 st1 hs1 r1 => d.nx _ _ _ _ h1 st1 hs1 (hσ.mono st1)⟩
end
end L3

namespace L3
open PySem PySem.Spec L2
section
variable {X : Cx} [GG X.K] {e a b c : Expr} {pos : Pos} {ta tb tc te : LTE} {tt : LTT} {t u : LTS} {st : Stmt} {sts sts2 : List Stmt}
def lRet (te : LTE) : LTS := fun D σ s => te σ s D.rt (fun C s1 => D.ex C σ s1)
theorem lp_ret (he : LE X e te) : LP X (.Return (some e) pos) (lRet te) := fun s0 H0 E tk hp => (ps_ret (he s0 H0 E tk)).imp fun D σ H ⟨σl, s, Dl, hσ, hs, st, h, d⟩ =>
  ⟨σl, s, _, _, hσ, hs, st, fun C s' q => d.ex C σl s' q, h, d.rt⟩
def lRetN : LTS := fun D _ s => D.rt .non s
theorem lp_retN : LP X (.Return none pos) lRetN := fun s0 H0 E tk hp => ps_retN.imp fun D σ H ⟨σl, s, Dl, hσ, hs, st, h, d⟩ => d.rt _ _ _ _ h (.refl _ _) hs .non
def lIf (c : LTT) (t u : LTS) : LTS := fun D σ s => c σ s (fun b s1 => (b = true → t D σ s1) ∧ (b = false → u D σ s1)) (fun C s1 => D.ex C σ s1)
theorem lp_if (hc : LT X c tt) (ha : LPs X sts t) (hb : LPs X sts2 u) : LP X (.If c sts sts2 pos) (lIf tt t u) := fun s0 H0 E tk hp =>
  (ps_if (hc s0 H0 E tk) (ha s0 H0 E tk hp) (hb s0 H0 E tk hp)).imp fun D σ H ⟨σl, s, Dl, hσ, hs, st, h, d⟩ =>
    ⟨σl, s, _, _, hσ, hs, st, fun C s' q => d.ex C σl s' q, h, fun b s1 H1 h st1 hs1 => by
      cases b with
      | true => exact ⟨σl, s1, Dl, hσ.mono st1, hs1, st.trans st1, h.1 rfl, d.mono st1⟩
      | false => exact ⟨σl, s1, Dl, hσ.mono st1, hs1, st.trans st1, h.2 rfl, d.mono st1⟩⟩
/-- a cut behind a statement, a block: what holds there is said -/
def lCut (t : LTS) : LTS := fun D σ s => ∃ R : LSt → LS → Prop, t (D.wnx R) σ s ∧ ∀ σ' s', R σ' s' → D.nx σ' s'
theorem lp_cut (h : LP X st t) : LP X st (lCut t) := fun s0 H0 E tk hp => (h s0 H0 E tk hp).imp fun D σ H ⟨σl, s, Dl, hσ, hs, st, ⟨R, h, r⟩, d⟩ =>
  ⟨σl, s, _, hσ, hs, st, h, ⟨fun σl1 s1 σ1 H1 h1 => d.nx σl1 s1 σ1 H1 (r _ _ h1), d.rt, d.bk, d.ct, d.ex⟩⟩
def lNever : LTS := fun _ _ _ => False
theorem lp_never : LP X st lNever := fun s0 H0 E tk hp => ps_never.imp fun D σ H ⟨_, _, _, _, _, _, h, _⟩ => h
theorem lps_never : LPs X sts lNever := fun s0 H0 E tk hp => pss_never.imp fun D σ H ⟨_, _, _, _, _, _, h, _⟩ => h

def lgName (i : Nat) : LTG := fun v σ s Q _ => Q (σ.set i (some v)) s
theorem lg_name {i : Nat} {x : Str} (hN : X.N.Nodup) (hi : X.N[i]? = some x) (hx : Loc X.env.scope x) (hf : X.fn x = true ∨ X.env.scope.names.lookup x = some .local := by first | exact .inl rfl | exact .inr rfl | assumption) : LG X (.Name x pos) (lgName i) := fun s0 H0 E tk =>
  (pg_name hN hi hx hf).imp fun v σ H Q ⟨lv, σl, s, Q0, E1, hσ, hs, st, rv, hE, h, k⟩ => k _ _ _ _ h (.refl _ _) hs (hσ.set i rv)
/-- several names, from the left -/
def lSets : List Nat → List LV → LSt → Option LSt
  | [], [], σ => some σ
  | i :: is, v :: vs, σ => lSets is vs (σ.set i (some v))
  | _, _, _ => none
def lgTup (is : List Nat) : LTG := fun v σ s Q _ => match v with
  | .tup xs => (match lSets is xs σ with
    | some σ' => Q σ' s
    | none => False)
  | _ => False
/-- the real targets of names -/
def gNames : List Nat → TGs
  | [] => gNil
  | i :: is => gCons (gName i) (gNames is)
theorem gNames_ok {K : PySem.W.Frag} [GG K] {s : LS} {H : Hp} {Q : St → Hp → Prop} : ∀ {is : List Nat} {xs : List LV} {vs : List V} {σl σl' : LSt} {σ : St}, RSt K s H σl σ → RVs K s H xs vs → lSets is xs σl = some σl' →
    (∀ σ', RSt K s H σl' σ' → Q σ' H) → gNames is vs σ H Q
  | [], [], _, _, _, σ, hσ, rv, e, k => by
    simp only [RVs] at rv
    subst rv
    cases e
    exact ⟨rfl, k _ hσ⟩
  | i :: is, x :: xs, _, _, _, σ, hσ, rv, e, k => by
    simp only [RVs] at rv
    obtain ⟨u, r, rfl, r1, r2⟩ := rv
    exact ⟨u, r, rfl, gNames_ok (is := is) (hσ.set i r1) r2 e k⟩
  | [], _ :: _, _, _, _, _, _, _, e, _ => by cases e
  | _ :: _, [], _, _, _, _, _, _, e, _ => by cases e
theorem lSets_len : ∀ {is : List Nat} {xs : List LV} {σ σ' : LSt}, lSets is xs σ = some σ' → xs.length = is.length
  | [], [], _, _, _ => rfl
  | i :: is, x :: xs, _, _, e => by simp [lSets_len (is := is) e]
  | [], _ :: _, _, _, e => by cases e
  | _ :: _, [], _, _, e => by cases e
theorem lg_tup {es : List Expr} {k : Nat} {is : List Nat} (hc : X.calm = true) (h : PGs X es (gNames is)) (hn : (assignEach es X.env).length = is.length := by rfl) (hst : (assignEach es X.env).findIdx? (·.1) = none := by rfl) :
    LG X (.Tuple es k pos) (lgTup is) := fun s0 H0 E tk => (pg_tup hc h hn hst).imp fun v σ H Q ⟨lv, σl, s, Q0, E1, hσ, hs, st, rv, hE, h, k⟩ => by
  cases lv with
  | tup xs =>
    simp only [RV] at rv
    obtain ⟨a, us, rfl, n, hh, r⟩ := rv
    simp only [lgTup] at h
    split at h
    · next σ' e => exact ⟨a, us, rfl, SqT.of hh, by rw [r.length, lSets_len e], gNames_ok hσ r e fun σ2 q => k _ _ _ _ h (.refl _ _) hs q⟩
    · exact h.elim
  | _ => exact h.elim
/-- target = value -/
def lAsg (te : LTE) (g : LTG) : LTS := fun D σ s => te σ s (fun x s1 => g x σ s1 D.nx (fun C s2 => D.ex C σ s2)) (fun C s1 => D.ex C σ s1)
theorem lp_asg {tg : Expr} {g : LTG} (he : LE X e te) (hg : LG X tg g) (hs : swapsWithSole [tg] e pos.line X.env = pure false := by rfl) (hw : swappedStores [tg] e X.env = pure none := by rfl)
    (h1 : (assignEach [tg] X.env).map (·.2) = [assign tg X.env] := by rfl) : LP X (.Assign [tg] e pos) (lAsg te g) := fun s0 H0 E tk hp =>
  (ps_asg (he s0 H0 E tk) (hg s0 H0 E tk) hs hw h1).imp fun D σ H ⟨σl, s, Dl, hσ, hs, st, h, d⟩ =>
    ⟨σl, s, _, _, hσ, hs, st, fun C s' q => d.ex C σl s' q, h, fun lx s1 x H1 h st1 hs1 rx => ⟨lx, σl, s1, _, _, hσ.mono st1, hs1, st.trans st1, rx, fun C s' q => d.ex C σl s' q, h, (d.mono st1).nx⟩⟩
theorem lp_set {i : Nat} {x : Str} {pos' : Pos} (hN : X.N.Nodup) (hi : X.N[i]? = some x) (hx : Loc X.env.scope x) (he : LE X e te) (hs : swapsWith e (some (.Name x pos')) pos.line X.env = pure false := by rfl)
    (hf : X.fn x = true ∨ X.env.scope.names.lookup x = some .local := by first | exact .inl rfl | exact .inr rfl | assumption) : LP X (.Assign [.Name x pos'] e pos) (lAsg te (lgName i)) := fun s0 H0 E tk hp =>
  (ps_set hN hi hx (he s0 H0 E tk) hs hf).imp fun D σ H ⟨σl, s, Dl, hσ, hs, st, h, d⟩ =>
    ⟨σl, s, _, _, hσ, hs, st, fun C s' q => d.ex C σl s' q, h, fun lx s1 x H1 h st1 hs1 rx => d.nx _ _ _ _ h st1 hs1 ((hσ.mono st1).set i rx)⟩

def lWhile (c : LTT) (tb : LTS) : LTS := fun D σ s => ∃ W : Nat → LSt → LS → Prop, (∃ m, W m σ s) ∧ ∀ m σ s, W m σ s →
  c σ s (fun b s1 => (b = true → tb (D.wlp fun σ' s' => ∃ m', m' < m ∧ W m' σ' s') σ s1) ∧ (b = false → D.nx σ s1)) (fun C s1 => D.ex C σ s1)
theorem lp_while (hc : LT X c tt) (hb : LPs X sts t) : LP X (.While c sts [] pos) (lWhile tt t) := fun s0 H0 E tk hp =>
  (ps_while hp (hc s0 H0 E tk) (hb s0 H0 E tk hp)).imp fun D σ H ⟨σl, s, Dl, hσ, hs, st, ⟨W, ⟨m0, w0⟩, turn⟩, d⟩ => by
    refine ⟨fun m σ' H' => ∃ σl' s', RSt X.K s' H' σl' σ' ∧ RelS X.K s' H' ∧ Step s H s' H' ∧ W m σl' s', ⟨m0, σl, s, hσ, hs, .refl _ _, w0⟩, ?_⟩
    rintro m σ1 H1 ⟨σl1, s1, hσ1, hs1, st1, w1⟩
    refine ⟨σl1, s1, _, _, hσ1, hs1, st.trans st1, fun C s' q => d.ex C σl1 s' q, turn m σl1 s1 w1, fun b s2 H2 h st2 hs2 => ?_⟩
    have st12 := st1.trans st2
    cases b with
    | true =>
      refine iteT ?_
      refine ⟨fun σ' H' => ∃ m', m' < m ∧ ∃ σl' s', RSt X.K s' H' σl' σ' ∧ RelS X.K s' H' ∧ Step s H s' H' ∧ W m' σl' s', fun σ' H' q => q, σl1, s2, _, hσ1.mono st2, hs2, st.trans st12, h.1 rfl, ?_⟩
      exact ⟨fun σl3 s3 σ3 H3 ⟨m', lt, w⟩ st3 hs3 r3 => ⟨m', lt, σl3, s3, r3, hs3, st12.trans st3, w⟩, (d.mono st12).rt, (d.mono st12).nx, fun σl3 s3 σ3 H3 ⟨m', lt, w⟩ st3 hs3 r3 => ⟨m', lt, σl3, s3, r3, hs3, st12.trans st3, w⟩, d.ex⟩
    | false =>
      refine iteF ?_
      exact d.nx _ _ _ _ (h.2 rfl) st12 hs2 (hσ1.mono st2)

abbrev LTI := LSt → LS → (List LV → (LS → Prop) → LS → Prop) → LX → Prop
structure ItR (K : PySem.W.Frag) [GG K] (J : It) (xs : List LV) (stb : LS → Prop) (s1 : LS) (H1 : Hp) : Prop where
  go : ∀ i s H, i < xs.length → Step s1 H1 s H → RelS K s H → stb s → J.go i H
  stop : ∀ s H, Step s1 H1 s H → RelS K s H → stb s → J.stop xs.length H
  yld : ∀ i s H x H', i < xs.length → Step s1 H1 s H → RelS K s H → stb s → J.yld i H x H' → ∃ lx, xs[i]? = some lx ∧ RV K s H' lx x ∧ Step s H s H' ∧ RelS K s H'
def upI (K : PySem.W.Frag) [GG K] (s0 : LS) (H0 : Hp) (E : LXS) (t : LTI) : TI := fun σ H R => ∃ σl s Q0 E1, RSt K s H σl σ ∧ RelS K s H ∧ Step s0 H0 s H ∧ (∀ C s', E1 C s' → E C σl s') ∧ t σl s Q0 E1 ∧
  ∀ xs stb s' H' J, Q0 xs stb s' → Step s H s' H' → RelS K s' H' → ItR K J xs stb s' H' → R J H'
def LI (X : Cx) [GG X.K] (tg iter : Expr) (t : LTI) : Prop := ∀ s0 H0 E, Takes X (WL X.K s0 H0 E) → PI X tg iter (upI X.K s0 H0 E t)
theorem _root_.L2.PI.imp {X : Cx} [GG X.K] {tg e : Expr} {t t' : TI} (h : PI X tg e t) (i : ∀ σ H R, t' σ H R → t σ H R) : PI X tg e t' := ⟨fun pins s σ H R I q => h.run pins s σ H R I (i _ _ _ q)⟩

def lLoop (g : LTG) (tb : LTS) (stb : LS → Prop) (D : LEnds) : List LV → LSt → LS → Prop
  | [], σ, s => stb s ∧ D.nx σ s
  | x :: xs, σ, s => stb s ∧ g x σ s (fun σ2 s2 => tb (D.wlp (lLoop g tb stb D xs)) σ2 s2) (fun C s1 => D.ex C σ s1)
def lFor (it : LTI) (g : LTG) (tb : LTS) : LTS := fun D σ s => it σ s (fun xs stb s1 => lLoop g tb stb D xs σ s1) (fun C s1 => D.ex C σ s1)
theorem lLoop_stb {g : LTG} {tb : LTS} {stb : LS → Prop} {D : LEnds} : ∀ {xs : List LV} {σ : LSt} {s : LS}, lLoop g tb stb D xs σ s → stb s
  | [], _, _, h => h.1
  | _ :: _, _, _, h => h.1
theorem lp_for {tg iter : Expr} {it : LTI} {g : LTG} (hc : X.calm = true) (hi : LI X tg iter it) (hg : LG X tg g) (hb : LPs X sts t) (hs : ∀ x, foldedSetIterable iter X.env x = pure x := by intro _; rfl) :
    LP X (.For tg iter sts [] pos) (lFor it g t) := fun s0 H0 E tk hp =>
  (ps_for hp hc (hi s0 H0 E tk) (hg s0 H0 E tk) (hb s0 H0 E tk hp) hs).imp fun D σ H ⟨σl, s, Dl, hσ, hs, st, h, d⟩ => by
    refine ⟨σl, s, _, _, hσ, hs, st, fun C s' q => d.ex C σl s' q, h, fun xs stb s1 H1 J h st1 hs1 it => ?_⟩
    have d1 := d.mono st1
    refine ⟨fun i m σ' H' => ∃ σl' s', RSt X.K s' H' σl' σ' ∧ RelS X.K s' H' ∧ Step s1 H1 s' H' ∧ m = xs.length - i ∧ i ≤ xs.length ∧ lLoop g t stb Dl (xs.drop i) σl' s', ⟨xs.length, σl, s1, hσ.mono st1, hs1, .refl _ _, by simp, Nat.zero_le _, h⟩, ?_⟩
    rintro i m σ2 H2 ⟨σl2, s2, hσ2, hs2, st2, rfl, hi, h2⟩
    by_cases hlt : i < xs.length
    · rw [List.drop_eq_getElem_cons hlt] at h2
      refine .inr ⟨it.go i s2 H2 hlt st2 hs2 h2.1, fun σ' H' => ∃ σl' s', RSt X.K s' H' σl' σ' ∧ RelS X.K s' H' ∧ Step s1 H1 s' H' ∧ lLoop g t stb Dl (xs.drop (i + 1)) σl' s', fun σ' H' ⟨σl', s', q1, q2, q3, q4⟩ => ⟨xs.length - (i + 1), by omega, σl', s', q1, q2, q3, rfl, hlt, q4⟩, fun x H' y => ?_⟩
      obtain ⟨lx, ex, rx, st3, hs3⟩ := it.yld i s2 H2 x H' hlt st2 hs2 h2.1 y
      rw [List.getElem?_eq_getElem hlt] at ex
      cases ex
      have st23 := st2.trans st3
      refine ⟨_, σl2, s2, _, _, hσ2.mono st3, hs3, (st.trans st1).trans st23, rx, fun C s' q => d.ex C σl2 s' q, h2.2, fun σl4 s4 σ4 H4 q st4 hs4 hσ4 => ?_⟩
      have st24 := st23.trans st4
      refine ⟨σl4, s4, _, hσ4, hs4, (st.trans st1).trans st24, q, ?_⟩
      exact ⟨fun σl5 s5 σ5 H5 w st5 hs5 r5 => ⟨σl5, s5, r5, hs5, st24.trans st5, w⟩, (d1.mono st24).rt, (d1.mono st24).nx, fun σl5 s5 σ5 H5 w st5 hs5 r5 => ⟨σl5, s5, r5, hs5, st24.trans st5, w⟩, d.ex⟩
    · have ei : i = xs.length := by omega
      subst ei
      rw [List.drop_length] at h2
      exact .inl ⟨it.stop s2 H2 st2 hs2 h2.1, (d1.mono st2).nx _ _ _ _ h2.2 (.refl _ _) hs2 hσ2⟩
/-- a loop by a fold: its state after the items -/
theorem lLoop_fold {α : Type} {g : LTG} {tb : LTS} {stb : LS → Prop} {D : LEnds} {mkσ : α → LSt} {mks : α → LS} {f : α → LV → α} {P : α → Prop} : ∀ (xs : List LV) (z : α), P z → (∀ z, P z → stb (mks z)) →
    (∀ z x, P z → x ∈ xs → ∀ N : LSt → LS → Prop, (P (f z x) → N (mkσ (f z x)) (mks (f z x))) → g x (mkσ z) (mks z) (fun σ2 s2 => tb (D.wlp (N)) σ2 s2) (fun C s1 => D.ex C (mkσ z) s1)) →
    (∀ z x, P z → x ∈ xs → P (f z x)) → D.nx (mkσ (xs.foldl f z)) (mks (xs.foldl f z)) → lLoop g tb stb D xs (mkσ z) (mks z)
  | [], z, pz, hst, _, _, hn => ⟨hst z pz, hn⟩
  | x :: xs, z, pz, hst, hs, hp, hn => ⟨hst z pz, hs z x pz (by simp) _ fun p' =>
      lLoop_fold xs (f z x) p' hst (fun z y pz hy => hs z y pz (by simp [hy])) (fun z y pz hy => hp z y pz (by simp [hy])) hn⟩
/-- a loop by an invariant over what is done and what is left -/
theorem lLoop_inv {g : LTG} {tb : LTS} {stb : LS → Prop} {D : LEnds} (I : List LV → List LV → LSt → LS → Prop) {σ : LSt} {s : LS} {xs : List LV} (h0 : I [] xs σ s) (hst : ∀ p r σ s, I p r σ s → stb s)
    (hs : ∀ p x r σ s, p ++ x :: r = xs → I p (x :: r) σ s → g x σ s (fun σ2 s2 => tb (D.wlp (I (p ++ [x]) r)) σ2 s2) (fun C s1 => D.ex C σ s1))
    (mono : ∀ x σ s (N N' : LSt → LS → Prop), (∀ σ s, N σ s → N' σ s) → g x σ s (fun σ2 s2 => tb (D.wlp (N)) σ2 s2) (fun C s1 => D.ex C σ s1) → g x σ s (fun σ2 s2 => tb (D.wlp (N')) σ2 s2) (fun C s1 => D.ex C σ s1))
    (hn : ∀ σ s, I xs [] σ s → D.nx σ s) : lLoop g tb stb D xs σ s := by
  have go : ∀ (r p : List LV) (σ : LSt) (s : LS), p ++ r = xs → I p r σ s → lLoop g tb stb D r σ s := by
    intro r
    induction r with
    | nil =>
      intro p σ s e i
      rw [List.append_nil] at e
      subst e
      exact ⟨hst _ _ _ _ i, hn _ _ i⟩
    | cons x r ih =>
      intro p σ s e i
      exact ⟨hst _ _ _ _ i, mono x σ s _ _ (fun σ' s' q => ih (p ++ [x]) σ' s' (by simp [e]) q) (hs p x r σ s e i)⟩
  exact go xs [] σ s rfl h0
end
end L3

namespace L3
open PySem PySem.Spec L2
section
variable {K : PySem.W.Frag} [GG K] {s s' : LS} {H H' : Hp}
theorem RelS.ins {a : Addr} {C : Addr} {fs : List (Str × LV)} (r : RelS K s H) (h : s a = some (.ins C fs)) : ∃ dx us, H a = some (.ins C dx us) ∧ RVf K s H fs us := r a _ h
theorem RelS.lst {a : Addr} {xs : List LV} (r : RelS K s H) (h : s a = some (.lst xs)) : ∃ us, H a = some (.lst us) ∧ RVs K s H xs us := r a _ h
theorem RelS.some {a : Addr} {o : LO} (r : RelS K s H) (h : s a = some o) : ∃ u, H a = some u := by
  cases o with
  | lst xs => obtain ⟨us, h, _⟩ := r a _ h; exact ⟨_, h⟩
  | dK xs => obtain ⟨us, h, _⟩ := r a _ h; exact ⟨_, h⟩
  | dT xs => obtain ⟨us, h, _⟩ := r a _ h; exact ⟨_, h⟩
  | ins C xs => obtain ⟨dx, us, h, _⟩ := r a _ h; exact ⟨_, h⟩
  | tab q => obtain ⟨ps, h, _⟩ := r a _ h; exact ⟨_, h⟩
theorem RelS.free {a : Addr} (r : RelS K s H) (h : H a = none) : s a = none := by
  cases e : s a with
  | none => rfl
  | some o =>
    obtain ⟨u, q⟩ := r.some e
    rw [h] at q
    cases q
/-- a write at an address of the store, or a new one -/
theorem Step.put {a : Addr} {o : LO} {u : HO} (h : s a ≠ none ∨ H a = none) : Step s H (put s a o) (upd H a u) := fun b v hb nb => by
  have ne : b ≠ a := by
    rintro rfl
    rcases h with h | h
    · exact h nb
    · rw [h] at hb; cases hb
  rw [upd_ne ne, put_ne ne]
  exact ⟨⟨v, hb, .refl v⟩, nb⟩
theorem ObjR.mono {a : Addr} {o : LO} (st : Step s H s' H') (k : ∀ u, H a = some u → H' a = some u) (h : ObjR K s H a o) : ObjR K s' H' a o := by
  cases o with
  | lst xs => obtain ⟨us, h, r⟩ := h; exact ⟨us, k _ h, r.mono st⟩
  | dK xs => obtain ⟨us, h, r⟩ := h; exact ⟨us, k _ h, r.mono st⟩
  | dT xs => obtain ⟨us, h, r⟩ := h; exact ⟨us, k _ h, r.mono st⟩
  | ins C xs => obtain ⟨dx, us, h, r⟩ := h; exact ⟨dx, us, k _ h, r.mono st⟩
  | tab q =>
    obtain ⟨ps, h, t, r⟩ := h
    refine ⟨ps, k _ h, t, fun pos cv e => ?_⟩
    obtain ⟨c, e1, e2, e3⟩ := r pos cv e
    obtain ⟨⟨o', h', q⟩, n'⟩ := st c _ e3 e2
    rw [q.ext] at h'
    exact ⟨c, e1, n', h'⟩
theorem RelS.put {a : Addr} {o : LO} {u : HO} (r : RelS K s H) (h : s a ≠ none ∨ H a = none) (n : ObjR K (put s a o) (upd H a u) a o) : RelS K (put s a o) (upd H a u) := fun b v hb => by
  by_cases e : b = a
  · subst e
    rw [put_same] at hb
    cases hb
    exact n
  · rw [put_ne e] at hb
    exact (r b v hb).mono (.put h) fun w q => by rw [upd_ne e]; exact q
/-- forgetting what the store holds at an address -/
theorem Step.del (r : RelS K s H) (a : Addr) : Step s H (del s a) H := fun b v hb nb => ⟨⟨v, hb, .refl v⟩, by unfold L3.del; split <;> first | rfl | exact nb⟩
theorem RelS.del (r : RelS K s H) (a : Addr) : RelS K (del s a) H := fun b v hb => by
  unfold L3.del at hb
  split at hb
  · cases hb
  · exact (r b v hb).mono (.del r a) fun _ q => q
/-- a new frozen object -/
theorem Step.new {a : Addr} {u : HO} (r : RelS K s H) (h : H a = none) : Step s H s (upd H a u) := fun b v hb nb => by
  rw [upd_ne (ne_of_none hb h)]
  exact ⟨⟨v, hb, .refl v⟩, nb⟩
theorem RelS.new {a : Addr} {u : HO} (r : RelS K s H) (h : H a = none) : RelS K s (upd H a u) := fun b v hb =>
  (r b v hb).mono (.new r h) fun w q => by rw [upd_ne (ne_of_none q h)]; exact q
theorem RVs.tupAt {a : Addr} {xs : List LV} {us : List V} (r : RelS K s H) (h : H a = none) (q : RVs K s H xs us) : RV K s (upd H a (.tup us)) (.tup xs) (.ref a) := by
  simp only [RV]
  exact ⟨a, us, rfl, r.free h, upd_same, q.mono (.new r h)⟩
theorem RVs.lstAt {a : Addr} {xs : List LV} {us : List V} (r : RelS K s H) (h : H a = none) (q : RVs K s H xs us) : RV K s (upd H a (.lst us)) (.lst xs) (.ref a) := by
  simp only [RV]
  exact ⟨a, us, rfl, r.free h, upd_same, q.mono (.new r h)⟩
end

section
variable {X : Cx} [GG X.K] {e a b c o : Expr} {es : List Expr} {pos : Pos} {ta tb tc te : LTE} {tas : LTA} {tt : LTT} {t u : LTS} {st : Stmt} {sts sts2 : List Stmt}
/-- an expression that makes a new list; what it holds -/
abbrev LTL := LTA
def upL (K : PySem.W.Frag) [GG K] (s0 : LS) (H0 : Hp) (E : LXS) (t : LTL) : TE := fun σ H Q => ∃ σl s Q0 E1, RSt K s H σl σ ∧ RelS K s H ∧ Step s0 H0 s H ∧ (∀ C s', E1 C s' → E C σl s') ∧ t σl s Q0 E1 ∧
  ∀ xs s' us H', Q0 xs s' → Step s H s' H' → RelS K s' H' → RVs K s' H' xs us → ∀ p, H' p = none → Q (.ref p) (upd H' p (.lst us))
def LL (X : Cx) [GG X.K] (e : Expr) (t : LTL) : Prop := ∀ s0 H0 E, Takes X (WL X.K s0 H0 E) → PE X e (upL X.K s0 H0 E t)
def lFz (t : LTL) : LTE := fun σ s Q E => t σ s (fun xs s1 => Q (.lst xs) s1) E
def lNew (t : LTL) : LTE := fun σ s Q E => t σ s (fun xs s1 => ∀ p, s1 p = none → Q (.ref p) (put s1 p (.lst xs))) E
theorem fz_up {K : PySem.W.Frag} [GG K] {s0 : LS} {H0 : Hp} {E : LXS} {tl : LTL} {σ : St} {H : Hp} {Q : VK} (h : up K s0 H0 E (lFz tl) σ H Q) : upL K s0 H0 E tl σ H Q := by
  obtain ⟨σl, s, Q0, E1, hσ, hs, st, hE, h, k⟩ := h
  exact ⟨σl, s, _, E1, hσ, hs, st, hE, h, fun xs s1 us H1 h st1 hs1 r p np => k _ _ _ _ h (st1.trans (.new hs1 np)) (hs1.new np) (r.lstAt hs1 np)⟩
theorem new_up {K : PySem.W.Frag} [GG K] {s0 : LS} {H0 : Hp} {E : LXS} {tl : LTL} {σ : St} {H : Hp} {Q : VK} (h : up K s0 H0 E (lNew tl) σ H Q) : upL K s0 H0 E tl σ H Q := by
  obtain ⟨σl, s, Q0, E1, hσ, hs, st, hE, h, k⟩ := h
  exact ⟨σl, s, _, E1, hσ, hs, st, hE, h, fun xs s1 us H1 h st1 hs1 r p np => k _ _ _ _ (h p (hs1.free np)) (st1.trans (.put (.inr np))) (hs1.put (.inr np) ⟨us, upd_same, r.mono (.put (.inr np))⟩) .ref⟩
theorem le_fz {tl : LTL} (h : LL X e tl) : LE X e (lFz tl) := fun s0 H0 E tk => (h s0 H0 E tk).imp fun σ H Q q => fz_up q
theorem le_new {tl : LTL} (h : LL X e tl) : LE X e (lNew tl) := fun s0 H0 E tk => (h s0 H0 E tk).imp fun σ H Q q => new_up q
def lDisp (t : LTA) : LTL := fun σ s Q E => t σ s (fun xs s1 => xs.length ≤ 16777216 ∧ Q xs s1) E
theorem ll_disp (h : LA X es tas) : LL X (.List es pos) (lDisp tas) := fun s0 H0 E tk => (pe_lst (h s0 H0 E tk)).imp fun σ H Q ⟨σl, s, Q0, E1, hσ, hs, st, hE, h, k⟩ =>
  ⟨σl, s, _, E1, hσ, hs, st, hE, h, fun xs s1 us H1 h st1 hs1 r => ⟨by rw [r.length, sizeLine_eq]; exact h.1, fun p np => k _ _ _ _ h.2 st1 hs1 r p np⟩⟩
def lTup (t : LTA) : LTE := fun σ s Q E => t σ s (fun xs s1 => xs.length ≤ 16777216 ∧ Q (.tup xs) s1) E
theorem le_tup {k : Nat} (h : LA X es tas) : LE X (.Tuple es k pos) (lTup tas) := fun s0 H0 E tk => (pe_tup (h s0 H0 E tk)).imp fun σ H Q ⟨σl, s, Q0, E1, hσ, hs, st, hE, h, k⟩ =>
  ⟨σl, s, _, E1, hσ, hs, st, hE, h, fun xs s1 us H1 h st1 hs1 r => ⟨by rw [r.length, sizeLine_eq]; exact h.1, fun p np => k _ _ _ _ h.2 (st1.trans (.new hs1 np)) (hs1.new np) (r.tupAt hs1 np)⟩⟩

/-- the field f of the instance x of the class C -/
def fldAt (C : Addr) (f : Str) (x : LV) (s : LS) (k : LV → Prop) : Prop := match x with
  | .ref a => (match s a with
    | some (.ins D fs) => D = C ∧ (match fs.lookup f with
      | some v => k v
      | none => False)
    | _ => False)
  | .ins D fs => D = C ∧ (match fs.lookup f with
    | some v => k v
    | none => False)
  | _ => False
theorem fldAt_ok {K : PySem.W.Frag} [GG K] {s : LS} {H : Hp} {C : Addr} {f : Str} {x : LV} {v : V} {k : LV → Prop} (r : RelS K s H) (rx : RV K s H x v) (h : fldAt C f x s k) :
    ∃ a dx us lv w, v = .ref a ∧ H a = some (.ins C dx us) ∧ us.lookup f = some w ∧ RV K s H lv w ∧ k lv := by
  cases x with
  | ref a =>
    simp only [fldAt] at h
    split at h
    · next D fs e =>
      obtain ⟨rfl, h⟩ := h
      split at h
      · next lv el =>
        obtain ⟨dx, us, hh, rf⟩ := r.ins e
        obtain ⟨w, e1, e2⟩ := rf.look el
        exact ⟨a, dx, us, lv, w, rx.ref', hh, e1, e2, h⟩
      · exact h.elim
    · exact h.elim
  | ins D fs =>
    simp only [fldAt] at h
    obtain ⟨rfl, h⟩ := h
    split at h
    · next lv el =>
      simp only [RV] at rx
      obtain ⟨a, dx, us, rfl, _, hh, rf⟩ := rx
      obtain ⟨w, e1, e2⟩ := rf.look el
      exact ⟨a, dx, us, lv, w, rfl, hh, e1, e2, h⟩
    · exact h.elim
  | _ => exact h.elim
def lFld (C : Addr) (f : Str) (ta : LTE) : LTE := fun σ s Q E => ta σ s (fun x s1 => fldAt C f x s1 fun v => Q v s1) E
theorem le_fld {C : Addr} {f : Str} (hc : Cls X.K C) (hn : NoAttr X.K C f) (ha : LE X a ta) (hb : attributeBase a f X.env (eval a X.env) = eval a X.env := by rfl) : LE X (.Attribute a f pos) (lFld C f ta) := fun s0 H0 E tk =>
  (pe_fld (ha s0 H0 E tk) hb).imp fun σ H Q ⟨σl, s, Q0, E1, hσ, hs, st, hE, h, k⟩ => ⟨σl, s, _, E1, hσ, hs, st, hE, h, fun lx s1 x H1 h st1 hs1 rx => by
    obtain ⟨p, dx, us, lv, w, rfl, hh, e1, e2, h⟩ := fldAt_ok hs1 rx h
    exact ⟨p, C, dx, us, w, rfl, hh, hc, hn, e1, k _ _ _ _ h st1 hs1 e2⟩⟩
/-- o.f = e -/
def lSetF (C : Addr) (f : Str) (ta tv : LTE) : LTS := fun D σ s => tv σ s (fun y s1 => ta σ s1 (fun x s2 => match x with
  | .ref a => (match s2 a with
    | some (.ins B fs) => B = C ∧ fs.length < 1000 ∧ D.nx σ (put s2 a (.ins C (putL f y fs)))
    | _ => False)
  | _ => False) (fun C s3 => D.ex C σ s3)) (fun C s3 => D.ex C σ s3)
theorem lp_fld {C : Addr} {f : Str} {pos' : Pos} (hc : Cls X.K C) (hn : NoAttr X.K C f) (ha : LE X a ta) (hv : LE X e te) (hs : swapsWith e (some (.Attribute a f pos')) pos.line X.env = pure false := by rfl) :
    LP X (.Assign [.Attribute a f pos'] e pos) (lSetF C f ta te) := fun s0 H0 E tk hp => (ps_fld (ha s0 H0 E tk) (hv s0 H0 E tk) hs).imp fun D σ H ⟨σl, s, Dl, hσ, hs, st, h, d⟩ =>
  ⟨σl, s, _, _, hσ, hs, st, fun C s' q => d.ex C σl s' q, h, fun ly s1 y H1 h st1 hs1 ry => ⟨σl, s1, _, _, hσ.mono st1, hs1, st.trans st1, fun C s' q => d.ex C σl s' q, h, fun lx s2 x H2 h st2 hs2 rx => by
    cases lx with
    | ref p =>
      have h : (match s2 p with
        | some (.ins B fs) => B = C ∧ fs.length < 1000 ∧ Dl.nx σl (put s2 p (.ins C (putL f ly fs)))
        | _ => False) := h
      split at h
      · next B fs e =>
        obtain ⟨rfl, hl, h⟩ := h
        obtain ⟨dx, us, hh, rf⟩ := hs2.ins e
        have nn : s2 p ≠ none ∨ H2 p = none := .inl (by rw [e]; simp)
        have st3 : Step s2 H2 (put s2 p (.ins B (putL f ly fs))) (upd H2 p (.ins B dx (putF f y us))) := .put nn
        refine ⟨p, B, dx, us, rx.ref', hh, hc, hn, by rw [rf.length]; exact hl, ?_⟩
        refine d.nx _ _ _ _ h ((st1.trans st2).trans st3) (hs2.put nn ⟨dx, _, upd_same, (rf.put f (ry.mono st2)).mono st3⟩) (hσ.mono ((st1.trans st2).trans st3))
      · exact h.elim
    | _ => exact False.elim h⟩⟩

abbrev LSp := List LV → LS → LVK → LX → Prop
def dn (K : PySem.W.Frag) [GG K] (sp : LSp) : Sp := fun vs H Q E => ∃ lvs s Q0 E0, RVs K s H lvs vs ∧ RelS K s H ∧ sp lvs s Q0 E0 ∧ (∀ lv s' v H', Q0 lv s' → Step s H s' H' → RelS K s' H' → RV K s' H' lv v → Q v H') ∧
  ∀ C s' H', E0 C s' → Step s H s' H' → RelS K s' H' → E (.ref C) none H'
abbrev LFn (P : Program) (w : World) (K : PySem.W.Frag) [GG K] (mg : Str → Option Value) (base : Heap) (k : Nat) (f : Addr) (fd : FuncData) (ps : List Str) (sp : LSp) : Prop := FnOk P w K mg base (L2.CX P w) k f fd ps (dn K sp)
theorem LFn.imp {P : Program} {w : World} {K : PySem.W.Frag} [GG K] {mg : Str → Option Value} {base : Heap} {k : Nat} {f : Addr} {fd : FuncData} {ps : List Str} {sp sp' : LSp} (F : LFn P w K mg base k f fd ps sp)
    (h : ∀ vs s Q E, sp' vs s Q E → sp vs s Q E) : LFn P w K mg base k f fd ps sp' := FnOk.imp F fun vs H Q E ⟨lvs, s, Q0, E0, a, b, c, d, e⟩ => ⟨lvs, s, Q0, E0, a, b, h _ _ _ _ c, d, e⟩
/-- what a callee lets out, at our slots -/
theorem dn_call {s0 : LS} {H0 : Hp} {E : LXS} {σ : St} {H : Hp} {Q : VK} {sp : LSp} {K : PySem.W.Frag} [GG K] {σl : LSt} {s : LS} {lvs : List LV} {vs : List V} {Q0 : LVK} {E1 : LX} (hσ : RSt K s H σl σ) (hs : RelS K s H) (st : Step s0 H0 s H)
    (hE : ∀ C s', E1 C s' → E C σl s') (r : RVs K s H lvs vs) (h : sp lvs s Q0 E1) (k : ∀ lv s' v H', Q0 lv s' → Step s H s' H' → RelS K s' H' → RV K s' H' lv v → Q v H') : dn K sp vs H Q (WE (WL K s0 H0 E) σ) :=
  ⟨lvs, s, Q0, E1, r, hs, h, k, fun C s' H' q st1 hs1 => ⟨C, σl, s', rfl, rfl, hσ.mono st1, hs1, st.trans st1, hE _ _ q⟩⟩
theorem LE.go {s0 : LS} {H0 : Hp} {E : LXS} {σ : St} {H : Hp} {σl : LSt} {s : LS} {Q0 : LVK} {E1 : LX} {pins : List (Addr × Obj)} {si : Shared} (ha : LE X o ta) (tk : Takes X (WL X.K s0 H0 E)) (I : Inv X pins σ H si) (hσ : RSt X.K s H σl σ) (hs : RelS X.K s H)
    (st : Step s0 H0 s H) (hE : ∀ C s', E1 C s' → E C σl s') (h : ta σl s Q0 E1) :
    wpAny (model X.prog X.w) X.A (eval o X.env) (fun u si1 => ∃ x H1, Inv X pins σ H1 si1 ∧ RelV x u ∧ ∃ lx s1, Step s H s1 H1 ∧ RelS X.K s1 H1 ∧ RV X.K s1 H1 lx x ∧ Q0 lx s1) X.xe si :=
  (ha s0 H0 E tk).run pins si σ H (fun x H1 => ∃ lx s1, Step s H s1 H1 ∧ RelS X.K s1 H1 ∧ RV X.K s1 H1 lx x ∧ Q0 lx s1) I ⟨σl, s, Q0, E1, hσ, hs, st, hE, h, fun lx s1 x H1 h st1 hs1 rx => ⟨lx, s1, st1, hs1, rx, h⟩⟩
theorem LA.go {s0 : LS} {H0 : Hp} {E : LXS} {σ : St} {H : Hp} {σl : LSt} {s : LS} {Q0 : List LV → LS → Prop} {E1 : LX} {pins : List (Addr × Obj)} {si : Shared} (ha : LA X es tas) (tk : Takes X (WL X.K s0 H0 E)) (pos : Pos) (I : Inv X pins σ H si) (hσ : RSt X.K s H σl σ) (hs : RelS X.K s H)
    (st : Step s0 H0 s H) (hE : ∀ C s', E1 C s' → E C σl s') (h : tas σl s Q0 E1) :
    wpAny (model X.prog X.w) X.A (spliced (backTo pos (starEach es X.env))) (fun us si1 => ∃ vs H1, Inv X pins σ H1 si1 ∧ Vals vs us ∧ ∃ lvs s1, Step s H s1 H1 ∧ RelS X.K s1 H1 ∧ RVs X.K s1 H1 lvs vs ∧ Q0 lvs s1) X.xe si :=
  (ha s0 H0 E tk).run pos pins si σ H (fun vs H1 => ∃ lvs s1, Step s H s1 H1 ∧ RelS X.K s1 H1 ∧ RVs X.K s1 H1 lvs vs ∧ Q0 lvs s1) I ⟨σl, s, Q0, E1, hσ, hs, st, hE, h, fun lx s1 x H1 h st1 hs1 rx => ⟨lx, s1, st1, hs1, rx, h⟩⟩
def lCall (sp : LSp) (t : LTA) : LTE := fun σ s Q E => t σ s (fun vs s1 => sp vs s1 Q E) E
variable {k : Nat} {f C : Addr} {fd : FuncData} {ps : List Str} {sp : LSp} {x m : Str} {p apos : Pos}
theorem le_call (F : LFn X.prog X.w X.K X.mg X.base k f fd ps sp) (hr : Room k X.A) (hg : Gl X x) (hm : X.mg x = some (.ref f)) (hk : PySem.W.keepIn X.K (.ref f) = true) (hb : Binds X.K fd ps []) (ha : LA X (e :: es) tas)
    (hdb : (x == ("__debug__" : Str)) = false := by decide) (he : starEach (e :: es) X.env = (false, eval e X.env) :: starEach es X.env := by rfl) (hpl : (backTo pos (starEach es X.env)).any (·.1) = false := by rfl) :
    LE X (.Call (.Name x p) (e :: es) [] pos) (lCall sp tas) := fun s0 H0 E tk => (pe_callS F hr hg hm hk hb (fun σ => passAt tk σ) (ha s0 H0 E tk) hdb he hpl).imp fun σ H Q ⟨σl, s, Q0, E1, hσ, hs, st, hE, h, kk⟩ =>
  ⟨σl, s, _, E1, hσ, hs, st, hE, h, fun lvs s1 vs H1 h st1 hs1 r => dn_call (hσ.mono st1) hs1 (st.trans st1) hE r h fun lv s2 v H2 q st2 => kk lv s2 v H2 q (st1.trans st2)⟩
theorem le_call0 (F : LFn X.prog X.w X.K X.mg X.base k f fd ps sp) (hr : Room k X.A) (hg : Gl X x) (hm : X.mg x = some (.ref f)) (hk : PySem.W.keepIn X.K (.ref f) = true) (hb : Binds X.K fd ps [])
    (hdb : (x == ("__debug__" : Str)) = false := by decide) : LE X (.Call (.Name x p) [] [] pos) (lCall sp lNil) := fun s0 H0 E tk => ⟨fun pins s1 σ H Q I ⟨σl, s, Q0, E1, hσ, hs, st, hE, h, kk⟩ =>
  wpAny_Call_Name_kw (ld_glob I hg hm (PySem.W.callWith_K0 I.kIn hk (run_fnS (E := fun _ => WE (WL X.K s0 H0 E) σ) (us := []) F hr hb (passAt tk σ) I .nil (dn_call hσ hs st hE .nil h kk))) hdb)⟩
def methAt (C : Addr) (m : Str) (x : LV) (s : LS) : Prop := match x with
  | .ref a => (match s a with
    | some (.ins B fs) => B = C ∧ fs.lookup m = none
    | _ => False)
  | .ins B fs => B = C ∧ fs.lookup m = none
  | _ => False
def lMeth (C : Addr) (m : Str) (sp : LSp) (ta : LTE) (t : LTA) : LTE := fun σ s Q E => ta σ s (fun x s1 => methAt C m x s1 ∧ t σ s1 (fun vs s2 => sp (x :: vs) s2 Q E) E) E
theorem meth_ok {K : PySem.W.Frag} [GG K] {s : LS} {H : Hp} {x : LV} {v : V} (r : RelS K s H) (rx : RV K s H x v) (h : methAt C m x s) : ∃ a dx us, v = .ref a ∧ H a = some (.ins C dx us) ∧ us.lookup m = none := by
  cases x with
  | ref a =>
    simp only [methAt] at h
    split at h
    · next B fs e =>
      obtain ⟨rfl, h⟩ := h
      obtain ⟨dx, us, hh, rf⟩ := r.ins e
      exact ⟨a, dx, us, rx.ref', hh, rf.look0 h⟩
    · exact h.elim
  | ins B fs =>
    simp only [methAt] at h
    obtain ⟨rfl, h⟩ := h
    simp only [RV] at rx
    obtain ⟨a, dx, us, rfl, _, hh, rf⟩ := rx
    exact ⟨a, dx, us, rfl, hh, rf.look0 h⟩
  | _ => exact h.elim
theorem le_meth {pl : Sem Bool} (ha : LE X o ta) (c : Cls X.K C) (hm : Meth X.K C m f) (F : LFn X.prog X.w X.K X.mg X.base k f fd ps sp) (hr : Room k X.A) (hb : Binds X.K fd ps []) (hes : LA X (e :: es) tas)
    (hst : starEach (e :: es) X.env = (false, eval e X.env) :: starEach es X.env := by rfl) (hpl : (backTo pos (starEach es X.env)).any (·.1) = false := by rfl)
    (ht : eval (.Call (.Attribute o m apos) (e :: es) [] pos) X.env = (do
      let ov ← eval o X.env
      standAt apos.atName
      let (f, first) ← holding [ov] (getMethod ov m pl)
      callWith pos f first (backTo pos (starEach (e :: es) X.env)) (backToKw pos (keywordEach [] X.env))) := by rfl) : LE X (.Call (.Attribute o m apos) (e :: es) [] pos) (lMeth C m sp ta tas) := fun s0 H0 E tk =>
  ⟨fun pins si σ H Q I ⟨σl, s, Q0, E1, hσ, hs, st, hE, h, kk⟩ => by
    refine PySem.W.methodCall_KW (pl := pl) (thn (ha.go tk I hσ hs st hE h) fun u si1 hx => ?_) ht
    obtain ⟨x, H1, I1, rv, lx, s1, st1, hs1, rx, h⟩ := hx
    obtain ⟨a, dx, us, rfl, hh, l⟩ := meth_ok hs1 rx h.1
    obtain rfl : u = Value.ref a := rv
    refine getmeth_ok I1 hh c hm l ?_
    refine PySem.W.callWith_K (first := [.ref a]) (h₀ := X.base) I.ok.mod.kin hm.kp (thn (hes.go tk pos I1 (hσ.mono st1) hs1 (st.trans st1) hE h.2) fun us si2 hx2 => ?_) hst hpl
    obtain ⟨vs, H2, I2, rvs, lvs, s2, st2, hs2, r, h⟩ := hx2
    refine ⟨I2.kIn, ?_⟩
    have st12 := st1.trans st2
    exact run_fnS (E := fun _ => WE (WL X.K s0 H0 E) σ) (us := .ref a :: us) (vs := .ref a :: vs) F hr hb (passAt tk σ) I2 (.cons rfl rvs) (dn_call (hσ.mono st12) hs2 (st.trans st12) hE (.cons (rx.mono st2) r) h fun lv s3 v H3 q st3 => kk lv s3 v H3 q (st12.trans st3))⟩
theorem le_meth0 {pl : Sem Bool} (ha : LE X o ta) (c : Cls X.K C) (hm : Meth X.K C m f) (F : LFn X.prog X.w X.K X.mg X.base k f fd ps sp) (hr : Room k X.A) (hb : Binds X.K fd ps [])
    (ht : eval (.Call (.Attribute o m apos) [] [] pos) X.env = (do
      let ov ← eval o X.env
      standAt apos.atName
      let (f, first) ← holding [ov] (getMethod ov m pl)
      callWith pos f first (backTo pos (starEach [] X.env)) (backToKw pos (keywordEach [] X.env))) := by rfl) : LE X (.Call (.Attribute o m apos) [] [] pos) (lMeth C m sp ta lNil) := fun s0 H0 E tk =>
  ⟨fun pins si σ H Q I ⟨σl, s, Q0, E1, hσ, hs, st, hE, h, kk⟩ => by
    refine PySem.W.methodCall_KW (pl := pl) (thn (ha.go tk I hσ hs st hE h) fun u si1 hx => ?_) ht
    obtain ⟨x, H1, I1, rv, lx, s1, st1, hs1, rx, h⟩ := hx
    obtain ⟨a, dx, us, rfl, hh, l⟩ := meth_ok hs1 rx h.1
    obtain rfl : u = Value.ref a := rv
    refine getmeth_ok I1 hh c hm l ?_
    exact PySem.W.callWith_K0 (first := [.ref a]) I1.kIn hm.kp (run_fnS (E := fun _ => WE (WL X.K s0 H0 E) σ) (us := [.ref a]) (vs := [.ref a]) F hr hb (passAt tk σ) I1 (.cons rfl .nil)
      (dn_call (hσ.mono st1) hs1 (st.trans st1) hE (.cons rx .nil) h.2 fun lv s3 v H3 q st3 => kk lv s3 v H3 q (st1.trans st3)))⟩
/-- C(..): a new instance in the store, then its __init__ -/
def lMake (C : Addr) (sp : LSp) (t : LTA) : LTE := fun σ s Q E => t σ s (fun vs s1 => ∀ x, s1 x = none → sp (.ref x :: vs) (put s1 x (.ins C [])) (fun v s2 => v = .non ∧ Q (.ref x) s2) E) E
/-- .. frozen behind it -/
def lMakeF (C : Addr) (sp : LSp) (t : LTA) : LTE := fun σ s Q E => t σ s (fun vs s1 => ∀ x, s1 x = none → sp (.ref x :: vs) (put s1 x (.ins C [])) (fun v s2 => v = .non ∧ ∃ fs, s2 x = some (.ins C fs) ∧ Q (.ins C fs) (del s2 x)) E) E
theorem run_makeS {pins : List (Addr × Obj)} {σ : St} {H : Hp} {s : Shared} {Q : VK} {us : List Value} {vs : List V} {spr : Sp} {E : XK} (M : Mk X.K C f) (F : FnOk X.prog X.w X.K X.mg X.base (L2.CX X.prog X.w) k f fd ps spr) (hr : Room (k + 1) X.A) (hb : Binds X.K fd ps [])
    (hx : PassesAt (L2.CX X.prog X.w) X σ E) (I : Inv X pins σ H s) (r : Vals vs us) (h : ∀ x dx, H x = none → H dx = none → dx ≠ x → spr (.ref x :: vs) (upd (upd H dx (.own x)) x (.ins C dx [])) (fun v H2 => v = .non ∧ Q (.ref x) H2) E) :
    wpAny (model X.prog X.w) X.A (call (.ref C) us) (EP X pins σ Q) X.xe s := by
  have q0 := h (s.heap.objs.size + 1) s.heap.objs.size (I.hok.fresh (Nat.le_succ _)) (I.hok.fresh (Nat.le_refl _)) (Nat.ne_of_lt (Nat.lt_succ_self _))
  have J := Inv.made (C := C) I
  have r1 : Vals (V.ref (s.heap.objs.size + 1) :: vs) (Value.ref (s.heap.objs.size + 1) :: us) := .cons rfl r
  have hl : (Value.ref (s.heap.objs.size + 1) :: us).length = ps.length := r1.length.symm.trans (F.len _ _ _ _ q0)
  have bb := hb { s with heap := _ } (Value.ref (s.heap.objs.size + 1) :: us) J.kIn (by rw [List.append_nil]; exact hl)
  rw [List.append_nil] at bb
  refine wpAny_call (make_map (f := f) I.kIn M.makes M.init (beq_iff_eq.mp M.fn) (codeAny_mono (F.run _ X.stack _ _ ⟨Value.ref (s.heap.objs.size + 1) :: us, []⟩ _ _ _ E (hr.make C us []) (J.env0.make C us []) bb r1 q0) fun r s' hq => ?_))
  cases r with
  | error e => exact hx pins _ _ e s' J hq
  | ok fl =>
    cases fl with
    | ret u =>
      obtain ⟨v, H', I3, rv, ev, q3⟩ := J.after hq
      subst ev
      exact ⟨rv, ⟨V.ref (s.heap.objs.size + 1), H', I3, rfl, q3⟩⟩
    | next => exact hq.elim
    | brk => exact hq.elim
    | cont => exact hq.elim
theorem made_step {K : PySem.W.Frag} [GG K] {s : LS} {H : Hp} {x dx : Addr} (hs : RelS K s H) (nx : H x = none) (nd : H dx = none) (ne : dx ≠ x) : Step s H (put s x (.ins C [])) (upd (upd H dx (.own x)) x (.ins C dx [])) ∧ RelS K (put s x (.ins C [])) (upd (upd H dx (.own x)) x (.ins C dx [])) := by
  have s1 := hs.new (u := .own x) nd
  have n1 : upd H dx (.own x) x = none := by rw [upd_ne (Ne.symm ne)]; exact nx
  exact ⟨(Step.new hs nd).trans (.put (.inr n1)), s1.put (.inr n1) ⟨dx, [], upd_same, by simp only [RVf]⟩⟩
theorem le_make (M : Mk X.K C f) (F : LFn X.prog X.w X.K X.mg X.base k f fd ps sp) (hr : Room (k + 1) X.A) (hg : Gl X x) (hm : X.mg x = some (.ref C)) (hb : Binds X.K fd ps []) (ha : LA X (e :: es) tas)
    (hdb : (x == ("__debug__" : Str)) = false := by decide) (he : starEach (e :: es) X.env = (false, eval e X.env) :: starEach es X.env := by rfl) (hpl : (backTo pos (starEach es X.env)).any (·.1) = false := by rfl) :
    LE X (.Call (.Name x p) (e :: es) [] pos) (lMake C sp tas) := fun s0 H0 E tk => ⟨fun pins si σ H Q I ⟨σl, s, Q0, E1, hσ, hs, st, hE, h, kk⟩ => by
  refine wpAny_Call_Name_kw (ld_glob I hg hm ?_ hdb)
  refine PySem.W.callWith_K (h₀ := X.base) I.ok.mod.kin M.kp (thn (ha.go tk pos I hσ hs st hE h) fun us si1 hx => ?_) he hpl
  obtain ⟨vs, H1, I1, rvs, lvs, s1, st1, hs1, r, h⟩ := hx
  refine ⟨I1.kIn, run_makeS M F hr hb (passAt tk σ) I1 rvs fun y dx ny nd ne => ?_⟩
  obtain ⟨stm, hsm⟩ := made_step (C := C) hs1 ny nd ne
  have st2 := st1.trans stm
  exact dn_call (hσ.mono st2) hsm (st.trans st2) hE (.cons .ref (r.mono stm)) (h y (hs1.free ny)) fun lv s3 v H3 q st3 hs3 rv => ⟨by rw [q.1] at rv; exact rv.non', kk _ s3 _ H3 q.2 (st2.trans st3) hs3 .ref⟩⟩
theorem le_make0 (M : Mk X.K C f) (F : LFn X.prog X.w X.K X.mg X.base k f fd ps sp) (hr : Room (k + 1) X.A) (hg : Gl X x) (hm : X.mg x = some (.ref C)) (hb : Binds X.K fd ps [])
    (hdb : (x == ("__debug__" : Str)) = false := by decide) : LE X (.Call (.Name x p) [] [] pos) (lMake C sp lNil) := fun s0 H0 E tk => ⟨fun pins si σ H Q I ⟨σl, s, Q0, E1, hσ, hs, st, hE, h, kk⟩ => by
  refine wpAny_Call_Name_kw (ld_glob I hg hm ?_ hdb)
  refine PySem.W.callWith_K0 I.kIn M.kp (run_makeS (us := []) M F hr hb (passAt tk σ) I .nil fun y dx ny nd ne => ?_)
  obtain ⟨stm, hsm⟩ := made_step (C := C) hs ny nd ne
  exact dn_call (hσ.mono stm) hsm (st.trans stm) hE (.cons .ref .nil) (h y (hs.free ny)) fun lv s3 v H3 q st3 hs3 rv => ⟨by rw [q.1] at rv; exact rv.non', kk _ s3 _ H3 q.2 (stm.trans st3) hs3 .ref⟩⟩
/-- a value frozen: what it is to the store s1, it is, by value, to the store s2, that holds less -/
def Frz (x : LV) (s1 : LS) (y : LV) (s2 : LS) : Prop := ∀ (K : PySem.W.Frag) [GG K] H v, RelS K s1 H → RV K s1 H x v → RV K s2 H y v ∧ RelS K s2 H ∧ Step s1 H s2 H
def lFrz (t : LTE) : LTE := fun σ s Q E => t σ s (fun x s1 => ∃ y s2, Frz x s1 y s2 ∧ Q y s2) E
theorem le_frz (h : LE X e te) : LE X e (lFrz te) := fun s0 H0 E tk => (h s0 H0 E tk).imp fun σ H Q ⟨σl, s, Q0, E1, hσ, hs, st, hE, h, k⟩ => ⟨σl, s, _, E1, hσ, hs, st, hE, h, fun lx s1 x H1 ⟨y, s2, fz, h⟩ st1 hs1 rx => by
  obtain ⟨a, b, c⟩ := fz _ _ _ hs1 rx
  exact k _ _ _ _ h (st1.trans c) b a⟩
theorem Frz.refl (x : LV) (s : LS) : Frz x s x s := fun _ _ H _ hs r => ⟨r, hs, .refl s H⟩
/-- less is held -/
def Sub (s2 s1 : LS) : Prop := ∀ a, s2 a = none ∨ s2 a = s1 a
theorem Sub.step {s1 s2 : LS} {H : Hp} (h : Sub s2 s1) : Step s1 H s2 H := fun a o e n => ⟨⟨o, e, .refl o⟩, by
  rcases h a with h | h
  · exact h
  · rw [h]; exact n⟩
theorem Sub.rel {K : PySem.W.Frag} [GG K] {s1 s2 : LS} {H : Hp} (h : Sub s2 s1) (r : RelS K s1 H) : RelS K s2 H := fun a o e => by
  rcases h a with q | q
  · rw [q] at e; cases e
  · rw [q] at e
    exact (r a o e).mono h.step fun _ z => z
theorem Frz.sub {x : LV} {s1 s2 : LS} (h : Sub s2 s1) : Frz x s1 x s2 := fun _ _ H _ hs r => ⟨r.mono h.step, h.rel hs, h.step⟩
theorem Frz.lst {a : Addr} {xs : List LV} {s1 s2 : LS} (e : s1 a = some (.lst xs)) (n : s2 a = none) (h : Sub s2 s1) : Frz (.ref a) s1 (.lst xs) s2 := fun K _ H v hs r => by
  obtain ⟨us, hh, q⟩ := hs.lst e
  refine ⟨?_, h.rel hs, h.step⟩
  simp only [RV]
  exact ⟨a, us, r.ref', n, hh, q.mono h.step⟩
theorem Frz.ins {a C : Addr} {fs : List (Str × LV)} {s1 s2 : LS} (e : s1 a = some (.ins C fs)) (n : s2 a = none) (h : Sub s2 s1) : Frz (.ref a) s1 (.ins C fs) s2 := fun K _ H v hs r => by
  obtain ⟨dx, us, hh, q⟩ := hs.ins e
  refine ⟨?_, h.rel hs, h.step⟩
  simp only [RV]
  exact ⟨a, dx, us, r.ref', n, hh, q.mono h.step⟩
theorem Frz.dT {a : Addr} {kvs : List (List Key × LV)} {s1 s2 : LS} (e : s1 a = some (.dT kvs)) (n : s2 a = none) (h : Sub s2 s1) : Frz (.ref a) s1 (.dT kvs) s2 := fun K _ H v hs r => by
  obtain ⟨us, hh, q⟩ := hs a _ e
  refine ⟨?_, h.rel hs, h.step⟩
  simp only [RV]
  exact ⟨a, us, _, r.ref', n, hh, .inl rfl, q.mono h.step⟩
end
end L3

namespace L3
open PySem PySem.Spec L2
/-- some value: then k of it -/
def opt {α : Type} (o : Option α) (k : α → Prop) : Prop := match o with
  | some v => k v
  | none => False
theorem opt_ok {α : Type} {o : Option α} {k : α → Prop} (h : opt o k) : ∃ v, o = some v ∧ k v := by
  cases o with
  | none => exact h.elim
  | some v => exact ⟨v, rfl, h⟩
section
variable {X : Cx} [GG X.K] {K : PySem.W.Frag} [GG K] {s : LS} {H : Hp}
def rl2 (C : Int → Int → Prop) (g : Int → Int → LV) : LR2 := fun x y s Q => match x, y with
  | .int i, .int j => C i j ∧ Q (g i j) s
  | _, _ => False
def rl2' (g : Int → Int → LV) : LR2 := fun x y s Q => match x, y with
  | .int i, .int j => Q (g i j) s
  | _, _ => False
theorem up2_I {C : Int → Int → Prop} {g : Int → Int → V} {gl : Int → Int → LV} (hg : ∀ s H i j, RV K s H (gl i j) (g i j)) : Up2 K (rI C g) (rl2 C gl) := fun x y s H lx ly Q0 Q hs rx ry h k => by
  cases lx <;> try exact False.elim h
  cases ly <;> try exact False.elim h
  exact ⟨_, _, rx.int', ry.int', h.1, k _ _ _ _ h.2 (.refl _ _) hs (hg _ _ _ _)⟩
theorem up2_I0 {g : Int → Int → V} {gl : Int → Int → LV} (hg : ∀ s H i j, RV K s H (gl i j) (g i j)) : Up2 K (rI0 g) (rl2' gl) := fun x y s H lx ly Q0 Q hs rx ry h k => by
  cases lx <;> try exact False.elim h
  cases ly <;> try exact False.elim h
  exact ⟨_, _, rx.int', ry.int', k _ _ _ _ h (.refl _ _) hs (hg _ _ _ _)⟩
variable {a b e : Expr} {pos : Pos} {ta tb : LTE}
abbrev rSubI : LR2 := rl2' fun i j => .int (i - j)
abbrev rMulI : LR2 := rl2 CMul fun i j => .int (i * j)
abbrev rDivI : LR2 := rl2 CDiv fun i j => .int (i / j)
abbrev rModI : LR2 := rl2 (fun _ j => 0 < j) fun i j => .int (i % j)
abbrev rPowI : LR2 := rl2 CPow fun i j => .int (i ^ j.toNat)
abbrev rShrI : LR2 := rl2 (fun _ j => 0 ≤ j) fun i j => .int (i / 2 ^ j.toNat)
abbrev rAndI : LR2 := rl2' fun i j => .int (Builtin.bitAnd i j)
abbrev rXorI : LR2 := rl2' fun i j => .int (Builtin.bitXor i j)
theorem le_sub (ha : LE X a ta) (hb : LE X b tb) : LE X (.BinOp a .Sub b pos) (lOp rSubI ta tb) := le_op op_sub (up2_I0 fun _ _ _ _ => .int) ha hb
theorem le_mul (ha : LE X a ta) (hb : LE X b tb) : LE X (.BinOp a .Mult b pos) (lOp rMulI ta tb) := le_op op_mul (up2_I fun _ _ _ _ => .int) ha hb
theorem le_div (ha : LE X a ta) (hb : LE X b tb) : LE X (.BinOp a .FloorDiv b pos) (lOp rDivI ta tb) := le_op op_fdiv (up2_I fun _ _ _ _ => .int) ha hb
theorem le_mod (ha : LE X a ta) (hb : LE X b tb) : LE X (.BinOp a .Mod b pos) (lOp rModI ta tb) := le_op op_mod (up2_I fun _ _ _ _ => .int) ha hb
theorem le_pow (ha : LE X a ta) (hb : LE X b tb) : LE X (.BinOp a .Pow b pos) (lOp rPowI ta tb) := le_op op_pow (up2_I fun _ _ _ _ => .int) ha hb
theorem le_shr (ha : LE X a ta) (hb : LE X b tb) : LE X (.BinOp a .RShift b pos) (lOp rShrI ta tb) := le_op op_shr (up2_I fun _ _ _ _ => .int) ha hb
theorem le_band (ha : LE X a ta) (hb : LE X b tb) : LE X (.BinOp a .BitAnd b pos) (lOp rAndI ta tb) := le_op op_and (up2_I0 fun _ _ _ _ => .int) ha hb
theorem le_bxor (ha : LE X a ta) (hb : LE X b tb) : LE X (.BinOp a .BitXor b pos) (lOp rXorI ta tb) := le_op op_xor (up2_I0 fun _ _ _ _ => .int) ha hb
def rNegI : LR1 := fun x s Q => match x with
  | .int i => Q (.int (-i)) s
  | _ => False
theorem le_neg (ha : LE X a ta) : LE X (.UnaryOp .USub a pos) (lUn rNegI ta) := le_un un_neg (fun x s H lx Q0 Q hs rx h k => by
  cases lx <;> try exact False.elim h
  exact ⟨_, rx.int', k _ _ _ _ h (.refl _ _) hs .int⟩) ha
def rAddL : LR2 := fun x y s Q => match x, y with
  | .int i, .int j => Q (.int (i + j)) s
  | .str i, .str j => i.length + j.length ≤ 16777216 ∧ Q (.str (i ++ j)) s
  | _, _ => False
theorem OpR.or2 {f : Value → Value → Sem Value} {r r' : R2} (h : OpR X f r) (h' : OpR X f r') : OpR X f (fun x y H Q => r x y H Q ∨ r' x y H Q) := h.or h'
theorem le_add (ha : LE X a ta) (hb : LE X b tb) : LE X (.BinOp a .Add b pos) (lOp rAddL ta tb) := le_op (op_add.or op_add_str) (fun x y s H lx ly Q0 Q hs rx ry h k => by
  cases lx <;> try exact False.elim h
  · cases ly <;> try exact False.elim h
    exact .inl ⟨_, _, rx.int', ry.int', k _ _ _ _ h (.refl _ _) hs .int⟩
  · cases ly <;> try exact False.elim h
    exact .inr ⟨_, _, rx.str', ry.str', by rw [sizeLine_eq]; exact h.1, k _ _ _ _ h.2 (.refl _ _) hs .str⟩) ha hb
/-- the list that a value is, frozen or in the store -/
def seqL (x : LV) (s : LS) : Option (List LV) := match x with
  | .lst xs => some xs
  | .ref a => (match s a with
    | some (.lst xs) => some xs
    | _ => none)
  | _ => none
theorem seqL_ok {x : LV} {xs : List LV} {v : V} (r : RelS K s H) (rx : RV K s H x v) (h : seqL x s = some xs) : ∃ a us, v = .ref a ∧ H a = some (.lst us) ∧ RVs K s H xs us := by
  cases x with
  | lst ys =>
    cases h
    simp only [RV] at rx
    obtain ⟨a, us, rfl, _, hh, q⟩ := rx
    exact ⟨a, us, rfl, hh, q⟩
  | ref a =>
    simp only [seqL] at h
    split at h
    · next ys e =>
      cases h
      obtain ⟨us, hh, q⟩ := r.lst e
      exact ⟨a, us, rx.ref', hh, q⟩
    · cases h
  | _ => cases h
/-- a new list of two values: r tells its items -/
def UpL2 (K : PySem.W.Frag) [GG K] (r : R2) (rl : LV → LV → LS → (List LV → LS → Prop) → Prop) : Prop := ∀ x y s H lx ly Q0 Q, RelS K s H → RV K s H lx x → RV K s H ly y → rl lx ly s Q0 →
  (∀ xs s' us H', Q0 xs s' → Step s H s' H' → RelS K s' H' → RVs K s' H' xs us → ∀ p, H' p = none → Q (.ref p) (upd H' p (.lst us))) → r x y H Q
def lOpL (r : LV → LV → LS → (List LV → LS → Prop) → Prop) (ta tb : LTE) : LTL := fun σ s Q E => ta σ s (fun x s1 => tb σ s1 (fun y s2 => r x y s2 Q) E) E
theorem ll_op {op : Operator} {r : R2} {rl : LV → LV → LS → (List LV → LS → Prop) → Prop} (ho : OpR X (binaryOp op) r) (u : UpL2 X.K r rl) (ha : LE X a ta) (hb : LE X b tb) : LL X (.BinOp a op b pos) (lOpL rl ta tb) := fun s0 H0 E tk =>
  (pe_op ho (ha s0 H0 E tk) (hb s0 H0 E tk)).imp fun σ H Q ⟨σl, s, Q0, E1, hσ, hs, st, hE, h, k⟩ => ⟨σl, s, _, E1, hσ, hs, st, hE, h, fun lx s1 x H1 h st1 hs1 rx =>
    ⟨σl, s1, _, E1, hσ.mono st1, hs1, st.trans st1, hE, h, fun ly s2 y H2 h st2 hs2 ry => u x y s2 H2 lx ly Q0 Q hs2 (rx.mono st2) ry h fun xs s3 us H3 q st3 => k xs s3 us H3 q ((st1.trans st2).trans st3)⟩⟩
def rCatL : LV → LV → LS → (List LV → LS → Prop) → Prop := fun x y s Q => opt (seqL x s) fun xs => opt (seqL y s) fun ys => xs.length + ys.length ≤ 16777216 ∧ Q (xs ++ ys) s
theorem ll_cat (ha : LE X a ta) (hb : LE X b tb) : LL X (.BinOp a .Add b pos) (lOpL rCatL ta tb) := ll_op op_cat (fun x y s H lx ly Q0 Q hs rx ry h k => by
  obtain ⟨xs, e1, h⟩ := opt_ok h
  obtain ⟨ys, e2, hl, h⟩ := opt_ok h
  obtain ⟨p, us, rfl, h1, r1⟩ := seqL_ok hs rx e1
  obtain ⟨q, ws, rfl, h2, r2⟩ := seqL_ok hs ry e2
  exact ⟨p, q, us, ws, rfl, rfl, h1, h2, by rw [r1.length, r2.length, sizeLine_eq]; exact hl, fun l hn => k _ _ _ _ h (.refl _ _) hs (r1.append r2) l hn⟩) ha hb
def rRepL : LV → LV → LS → (List LV → LS → Prop) → Prop := fun x y s Q => opt (seqL x s) fun xs => match y with
  | .int k => -(2 ^ 63) ≤ k ∧ k < 2 ^ 63 ∧ xs.length * k.toNat ≤ 16777216 ∧ Q (List.replicate k.toNat xs).flatten s
  | _ => False
theorem RVs.rep {xs : List LV} {us : List V} (h : RVs K s H xs us) : ∀ k : Nat, RVs K s H (List.replicate k xs).flatten (List.replicate k us).flatten
  | 0 => .nil
  | k + 1 => by
    rw [List.replicate_succ, List.replicate_succ, List.flatten_cons, List.flatten_cons]
    exact h.append (RVs.rep h k)
theorem ll_rep (ha : LE X a ta) (hb : LE X b tb) : LL X (.BinOp a .Mult b pos) (lOpL rRepL ta tb) := ll_op op_rep (fun x y s H lx ly Q0 Q hs rx ry h k => by
  obtain ⟨xs, e1, h⟩ := opt_ok h
  obtain ⟨p, us, rfl, h1, r1⟩ := seqL_ok hs rx e1
  cases ly with
  | int n => exact ⟨p, n, us, rfl, ry.int', h1, h.1, h.2.1, by rw [r1.length, sizeLine_eq]; exact h.2.2.1, fun l hn => k _ _ _ _ h.2.2.2 (.refl _ _) hs (r1.rep _) l hn⟩
  | _ => exact False.elim h) ha hb
abbrev rLtI : LR2 := rl2' fun i j => .bl (decide (i < j))
abbrev rLeI : LR2 := rl2' fun i j => .bl (decide (i ≤ j))
abbrev rGtI : LR2 := rl2' fun i j => .bl (decide (j < i))
abbrev rGeI : LR2 := rl2' fun i j => .bl (decide (j ≤ i))
theorem le_lt (ha : LE X a ta) (hb : LE X b tb) : LE X (.Compare a [.Lt] [b] pos) (lOp rLtI ta tb) := le_cmp op_lt (up2_I0 fun _ _ _ _ => .bl) ha hb (nomark _)
theorem le_le (ha : LE X a ta) (hb : LE X b tb) : LE X (.Compare a [.LtE] [b] pos) (lOp rLeI ta tb) := le_cmp op_le (up2_I0 fun _ _ _ _ => .bl) ha hb (nomark _)
theorem le_gt (ha : LE X a ta) (hb : LE X b tb) : LE X (.Compare a [.Gt] [b] pos) (lOp rGtI ta tb) := le_cmp op_gt (up2_I0 fun _ _ _ _ => .bl) ha hb (nomark _)
theorem le_ge (ha : LE X a ta) (hb : LE X b tb) : LE X (.Compare a [.GtE] [b] pos) (lOp rGeI ta tb) := le_cmp op_ge (up2_I0 fun _ _ _ _ => .bl) ha hb (nomark _)
theorem lt_lt (ha : LE X a ta) (hb : LE X b tb) : LT X (.Compare a [.Lt] [b] pos) (lB (lOp rLtI ta tb)) := lt_cmp op_lt (up2_I0 fun _ _ _ _ => .bl) ha hb (nomark _)
theorem lt_le (ha : LE X a ta) (hb : LE X b tb) : LT X (.Compare a [.LtE] [b] pos) (lB (lOp rLeI ta tb)) := lt_cmp op_le (up2_I0 fun _ _ _ _ => .bl) ha hb (nomark _)
theorem lt_gt (ha : LE X a ta) (hb : LE X b tb) : LT X (.Compare a [.Gt] [b] pos) (lB (lOp rGtI ta tb)) := lt_cmp op_gt (up2_I0 fun _ _ _ _ => .bl) ha hb (nomark _)
theorem lt_ge (ha : LE X a ta) (hb : LE X b tb) : LT X (.Compare a [.GtE] [b] pos) (lB (lOp rGeI ta tb)) := lt_cmp op_ge (up2_I0 fun _ _ _ _ => .bl) ha hb (nomark _)
mutual
/-- the value is the data d, read through the store -/
def Isd (s : LS) : PyData → LV → Prop
  | .none, x => x = .non
  | .bool b, x => x = .bl b
  | .int i, x => x = .int i
  | .str z, x => x = .str z
  | .list ds, x => (∃ xs, x = .lst xs ∧ Isds s ds xs) ∨ ∃ a xs, x = .ref a ∧ s a = some (.lst xs) ∧ Isds s ds xs
  | .tuple ds, x => ∃ xs, x = .tup xs ∧ Isds s ds xs
  | .dict _, _ => False
def Isds (s : LS) : List PyData → List LV → Prop
  | [], xs => xs = []
  | d :: ds, xs => ∃ y r, xs = y :: r ∧ Isd s d y ∧ Isds s ds r
end
mutual
theorem Isd.dp (hs : RelS K s H) : ∀ {d : PyData} {x : LV} {v : V}, Isd s d x → RV K s H x v → Dp K H v d
  | .none, _, _, h, r => by simp only [Isd] at h; subst h; rw [r.non']; exact .non
  | .bool b, _, _, h, r => by simp only [Isd] at h; subst h; rw [r.bl']; exact .bl b
  | .int b, _, _, h, r => by simp only [Isd] at h; subst h; rw [r.int']; exact .int b
  | .str b, _, _, h, r => by simp only [Isd] at h; subst h; rw [r.str']; exact .str b
  | .list ds, _, _, h, r => by
    simp only [Isd] at h
    rcases h with ⟨xs, rfl, h⟩ | ⟨a, xs, rfl, e, h⟩
    · simp only [RV] at r
      obtain ⟨a, us, rfl, _, hh, q⟩ := r
      exact .lst (SqL.of hh) (Isds.dp hs h q)
    · obtain ⟨us, hh, q⟩ := hs.lst e
      rw [r.ref']
      exact .lst (SqL.of hh) (Isds.dp hs h q)
  | .tuple ds, _, _, h, r => by
    simp only [Isd] at h
    obtain ⟨xs, rfl, h⟩ := h
    simp only [RV] at r
    obtain ⟨a, us, rfl, _, hh, q⟩ := r
    exact .tup (SqT.of hh) (Isds.dp hs h q)
  | .dict _, _, _, h, _ => by simp only [Isd] at h
theorem Isds.dp (hs : RelS K s H) : ∀ {ds : List PyData} {xs : List LV} {us : List V}, Isds s ds xs → RVs K s H xs us → DpAll K H us ds
  | [], _, _, h, r => by
    simp only [Isds] at h
    subst h
    simp only [RVs] at r
    subst r
    exact .nil
  | d :: ds, _, _, h, r => by
    simp only [Isds] at h
    obtain ⟨y, q, rfl, h1, h2⟩ := h
    simp only [RVs] at r
    obtain ⟨u, w, rfl, r1, r2⟩ := r
    exact .cons (Isd.dp hs h1 r1) (Isds.dp hs h2 r2)
end
def rEqL : LR2 := fun x y s Q => ∃ d e, Isd s d x ∧ Isd s e y ∧ SeqAt.shaped d = true ∧ SeqAt.shaped e = true ∧ Q (.bl (PyData.eqv d e)) s
def rNeL : LR2 := fun x y s Q => ∃ d e, Isd s d x ∧ Isd s e y ∧ SeqAt.shaped d = true ∧ SeqAt.shaped e = true ∧ Q (.bl (!PyData.eqv d e)) s
theorem up_eqL : Up2 K (rEqD K) rEqL := fun x y s H lx ly Q0 Q hs rx ry ⟨d, e, h1, h2, s1, s2, q⟩ k => ⟨d, e, h1.dp hs rx, h2.dp hs ry, s1, s2, k _ _ _ _ q (.refl _ _) hs .bl⟩
theorem up_neL : Up2 K (rNeD K) rNeL := fun x y s H lx ly Q0 Q hs rx ry ⟨d, e, h1, h2, s1, s2, q⟩ k => ⟨d, e, h1.dp hs rx, h2.dp hs ry, s1, s2, k _ _ _ _ q (.refl _ _) hs .bl⟩
theorem le_eqD (hu : X.A.units + 64 < cLine) (ha : LE X a ta) (hb : LE X b tb) : LE X (.Compare a [.Eq] [b] pos) (lOp rEqL ta tb) := le_cmp (op_eqD hu) up_eqL ha hb (nomark _)
theorem le_neD (hu : X.A.units + 64 < cLine) (ha : LE X a ta) (hb : LE X b tb) : LE X (.Compare a [.NotEq] [b] pos) (lOp rNeL ta tb) := le_cmp (op_neD hu) up_neL ha hb (nomark _)
theorem lt_eqD (hu : X.A.units + 64 < cLine) (ha : LE X a ta) (hb : LE X b tb) : LT X (.Compare a [.Eq] [b] pos) (lB (lOp rEqL ta tb)) := lt_cmp (op_eqD hu) up_eqL ha hb (nomark _)
theorem lt_neD (hu : X.A.units + 64 < cLine) (ha : LE X a ta) (hb : LE X b tb) : LT X (.Compare a [.NotEq] [b] pos) (lB (lOp rNeL ta tb)) := lt_cmp (op_neD hu) up_neL ha hb (nomark _)
/-- == of two ints, bools or texts, both of one kind -/
def rEqS : LR2 := fun x y s Q => match x, y with
  | .int i, .int j => Q (.bl (decide (i = j))) s
  | .bl i, .bl j => Q (.bl (decide (i = j))) s
  | .str i, .str j => Q (.bl (decide (i = j))) s
  | _, _ => False
def rNeS : LR2 := fun x y s Q => match x, y with
  | .int i, .int j => Q (.bl (!decide (i = j))) s
  | .bl i, .bl j => Q (.bl (!decide (i = j))) s
  | .str i, .str j => Q (.bl (!decide (i = j))) s
  | _, _ => False
theorem dci {i j : Int} : decide (V.int i = V.int j) = decide (i = j) := by by_cases h : i = j <;> simp [h]
theorem dcb {i j : Bool} : decide (V.bl i = V.bl j) = decide (i = j) := by by_cases h : i = j <;> simp [h]
theorem dcs {i j : Str} : decide (V.str i = V.str j) = decide (i = j) := by by_cases h : i = j <;> simp [h]
theorem up_eqS : Up2 K rEq rEqS := fun x y s H lx ly Q0 Q hs rx ry h k => by
  cases lx <;> cases ly <;> first
    | exact False.elim h
    | (rw [rx.int', ry.int']; exact ⟨rfl, by rw [dci]; exact k _ _ _ _ h (.refl _ _) hs .bl⟩)
    | (rw [rx.bl', ry.bl']; exact ⟨rfl, by rw [dcb]; exact k _ _ _ _ h (.refl _ _) hs .bl⟩)
    | (rw [rx.str', ry.str']; exact ⟨rfl, by rw [dcs]; exact k _ _ _ _ h (.refl _ _) hs .bl⟩)
theorem up_neS : Up2 K rNe rNeS := fun x y s H lx ly Q0 Q hs rx ry h k => by
  cases lx <;> cases ly <;> first
    | exact False.elim h
    | (rw [rx.int', ry.int']; exact ⟨rfl, by rw [dci]; exact k _ _ _ _ h (.refl _ _) hs .bl⟩)
    | (rw [rx.bl', ry.bl']; exact ⟨rfl, by rw [dcb]; exact k _ _ _ _ h (.refl _ _) hs .bl⟩)
    | (rw [rx.str', ry.str']; exact ⟨rfl, by rw [dcs]; exact k _ _ _ _ h (.refl _ _) hs .bl⟩)
theorem le_eq (ha : LE X a ta) (hb : LE X b tb) : LE X (.Compare a [.Eq] [b] pos) (lOp rEqS ta tb) := le_cmp op_eq up_eqS ha hb (nomark _)
theorem le_ne (ha : LE X a ta) (hb : LE X b tb) : LE X (.Compare a [.NotEq] [b] pos) (lOp rNeS ta tb) := le_cmp op_ne up_neS ha hb (nomark _)
theorem lt_eq (ha : LE X a ta) (hb : LE X b tb) : LT X (.Compare a [.Eq] [b] pos) (lB (lOp rEqS ta tb)) := lt_cmp op_eq up_eqS ha hb (nomark _)
theorem lt_ne (ha : LE X a ta) (hb : LE X b tb) : LT X (.Compare a [.NotEq] [b] pos) (lB (lOp rNeS ta tb)) := lt_cmp op_ne up_neS ha hb (nomark _)
/-- is None -/
def rIsNonL : LR2 := fun x y s Q => match y, x with
  | .non, .non => Q (.bl true) s
  | .non, .bl _ => Q (.bl false) s
  | .non, .int _ => Q (.bl false) s
  | .non, .str _ => Q (.bl false) s
  | .non, .ref _ => Q (.bl false) s
  | .non, .tup _ => Q (.bl false) s
  | .non, .lst _ => Q (.bl false) s
  | .non, .dT _ => Q (.bl false) s
  | .non, .ins _ _ => Q (.bl false) s
  | _, _ => False
def rNotNonL : LR2 := fun x y s Q => rIsNonL x y s fun v s' => match v with
  | .bl c => Q (.bl (!c)) s'
  | _ => False
theorem isNon_ok {x y : LV} {v w : V} {Q : LVK} (rx : RV K s H x v) (ry : RV K s H y w) (h : rIsNonL x y s Q) : w = .non ∧ Q (.bl (decide (v = .non))) s := by
  cases y <;> try exact False.elim h
  refine ⟨ry.non', ?_⟩
  cases x with
  | non => rw [rx.non']; exact h
  | bl b => rw [rx.bl']; exact h
  | int b => rw [rx.int']; exact h
  | str b => rw [rx.str']; exact h
  | ref b => rw [rx.ref']; exact h
  | tup xs => simp only [RV] at rx; obtain ⟨a, us, rfl, _⟩ := rx; exact h
  | lst xs => simp only [RV] at rx; obtain ⟨a, us, rfl, _⟩ := rx; exact h
  | dT xs => simp only [RV] at rx; obtain ⟨a, us, o, rfl, _⟩ := rx; exact h
  | ins C xs => simp only [RV] at rx; obtain ⟨a, dx, us, rfl, _⟩ := rx; exact h
  | _ => exact False.elim h
theorem up_isN : Up2 K (fun x y H Q => y = .non ∧ Q (.bl (decide (x = .non))) H) rIsNonL := fun x y s H lx ly Q0 Q hs rx ry h k => by
  obtain ⟨e, q⟩ := isNon_ok rx ry h
  exact ⟨e, k _ _ _ _ q (.refl _ _) hs .bl⟩
theorem up_notN : Up2 K (fun x y H Q => y = .non ∧ Q (.bl (!decide (x = .non))) H) rNotNonL := fun x y s H lx ly Q0 Q hs rx ry h k => by
  obtain ⟨e, q⟩ := isNon_ok rx ry h
  exact ⟨e, k _ _ _ _ q (.refl _ _) hs .bl⟩
theorem le_isN (ha : LE X a ta) (hb : LE X b tb) : LE X (.Compare a [.Is] [b] pos) (lOp rIsNonL ta tb) := le_cmp op_isN up_isN ha hb (nomark _)
theorem le_notN (ha : LE X a ta) (hb : LE X b tb) : LE X (.Compare a [.IsNot] [b] pos) (lOp rNotNonL ta tb) := le_cmp op_notN up_notN ha hb (nomark _)
theorem lt_isN (ha : LE X a ta) (hb : LE X b tb) : LT X (.Compare a [.Is] [b] pos) (lB (lOp rIsNonL ta tb)) := lt_cmp op_isN up_isN ha hb (nomark _)
theorem lt_notN (ha : LE X a ta) (hb : LE X b tb) : LT X (.Compare a [.IsNot] [b] pos) (lB (lOp rNotNonL ta tb)) := lt_cmp op_notN up_notN ha hb (nomark _)
/-- x in a list of ints, by places -/
def rInL (neg : Bool) : LR2 := fun x y s Q => opt (seqL y s) fun xs => ∃ d ds, Isd s d x ∧ Isds s ds xs ∧ SeqAt.shaped d = true ∧ SeqAt.shaped (.list ds) = true ∧ Q (.bl (neg.xor (ds.any fun z => PyData.eqv z d))) s
theorem up_inL : Up2 K (rInD K) (rInL false) := fun x y s H lx ly Q0 Q hs rx ry h k => by
  obtain ⟨xs, e, d, ds, h1, h2, s1, s2, q⟩ := opt_ok h
  obtain ⟨p, us, rfl, hh, r⟩ := seqL_ok hs ry e
  rw [Bool.false_xor] at q
  exact ⟨d, ds, h1.dp hs rx, .lst (SqL.of hh) (h2.dp hs r), s1, s2, k _ _ _ _ q (.refl _ _) hs .bl⟩
theorem up_ninL : Up2 K (rNotInD K) (rInL true) := fun x y s H lx ly Q0 Q hs rx ry h k => by
  obtain ⟨xs, e, d, ds, h1, h2, s1, s2, q⟩ := opt_ok h
  obtain ⟨p, us, rfl, hh, r⟩ := seqL_ok hs ry e
  rw [Bool.true_xor] at q
  exact ⟨d, ds, h1.dp hs rx, .lst (SqL.of hh) (h2.dp hs r), s1, s2, k _ _ _ _ q (.refl _ _) hs .bl⟩
theorem le_inL (hu : X.A.units + 65 < cLine) (ha : LE X a ta) (hb : LE X b tb) (hm : behindInMarks .In b = false) : LE X (.Compare a [.In] [b] pos) (lOp (rInL false) ta tb) := le_cmp (op_inD hu) up_inL ha hb hm
theorem le_ninL (hu : X.A.units + 65 < cLine) (ha : LE X a ta) (hb : LE X b tb) (hm : behindInMarks .NotIn b = false) : LE X (.Compare a [.NotIn] [b] pos) (lOp (rInL true) ta tb) := le_cmp (op_notInD hu) up_ninL ha hb hm
theorem lt_inL (hu : X.A.units + 65 < cLine) (ha : LE X a ta) (hb : LE X b tb) (hm : behindInMarks .In b = false) : LT X (.Compare a [.In] [b] pos) (lB (lOp (rInL false) ta tb)) := lt_cmp (op_inD hu) up_inL ha hb hm
theorem lt_ninL (hu : X.A.units + 65 < cLine) (ha : LE X a ta) (hb : LE X b tb) (hm : behindInMarks .NotIn b = false) : LT X (.Compare a [.NotIn] [b] pos) (lB (lOp (rInL true) ta tb)) := lt_cmp (op_notInD hu) up_ninL ha hb hm
/-- x in a dict whose keys are tuples -/
def keyL : LV → Option Key
  | .int i => some (.inl i)
  | .str z => some (.inr z)
  | _ => none
def keysL : List LV → Option (List Key)
  | [] => some []
  | x :: xs => (keyL x).bind fun k => (keysL xs).map (k :: ·)
theorem keysL_ok : ∀ {xs : List LV} {ks : List Key} {us : List V}, keysL xs = some ks → RVs K s H xs us → us = ks.map kV
  | [], _, _, e, r => by
    simp only [RVs] at r
    subst r
    cases e
    rfl
  | x :: xs, _, _, e, r => by
    simp only [RVs] at r
    obtain ⟨u, w, rfl, r1, r2⟩ := r
    unfold keysL at e
    obtain ⟨k, ek, e⟩ := Option.bind_eq_some_iff.mp e
    obtain ⟨ks, eks, rfl⟩ := Option.map_eq_some_iff.mp e
    rw [keysL_ok eks r2]
    cases x with
    | int i => cases ek; rw [r1.int']; rfl
    | str z => cases ek; rw [r1.str']; rfl
    | _ => cases ek
/-- the dict with tuple keys that a value is -/
def dicT (x : LV) (s : LS) : Option (List (List Key × LV)) := match x with
  | .dT kvs => some kvs
  | .ref a => (match s a with
    | some (.dT kvs) => some kvs
    | _ => none)
  | _ => none
theorem dicT_ok {x : LV} {kvs : List (List Key × LV)} {v : V} (r : RelS K s H) (rx : RV K s H x v) (h : dicT x s = some kvs) : ∃ a us o, v = .ref a ∧ H a = some o ∧ isD us o ∧ RVk K s H kvs us := by
  cases x with
  | dT ys =>
    cases h
    simp only [RV] at rx
    obtain ⟨a, us, o, rfl, _, hh, d, q⟩ := rx
    exact ⟨a, us, o, rfl, hh, d, q⟩
  | ref a =>
    simp only [dicT] at h
    split at h
    · next ys e =>
      cases h
      obtain ⟨us, hh, q⟩ := r a _ e
      exact ⟨a, us, _, rx.ref', hh, .inl rfl, q⟩
    · cases h
  | _ => cases h
theorem isD.rd {a : Addr} {us : List (List Key × V)} {o : HO} (h : H a = some o) (d : isD us o) : Rd H a (.dT us) := by
  rcases d with rfl | ⟨ob, rfl⟩
  · exact .inl h
  · exact .inr ⟨ob, h⟩
theorem RVk.val : ∀ {kvs : List (List Key × LV)} {us : List (List Key × V)} (k : List Key), RVk K s H kvs us → match valL kvs k with
    | some x => ∃ v, valV us k = some v ∧ RV K s H x v
    | none => valV us k = none
  | [], _, k, h => by simp only [RVk] at h; subst h; rfl
  | (j, x) :: kvs, _, k, h => by
    simp only [RVk] at h
    obtain ⟨u, r, rfl, h1, h2⟩ := h
    by_cases e : j = k
    · simp only [valL, if_pos e]
      exact ⟨u, valV_pos e, h1⟩
    · simp only [valL, if_neg e]
      rw [valV_neg (p := (j, u)) e]
      exact RVk.val k h2
/-- the dict with plain keys that stands in the store -/
def dicK (x : LV) (s : LS) : Option (List (Key × LV)) := match x with
  | .ref a => (match s a with
    | some (.dK kvs) => some kvs
    | _ => none)
  | _ => none
theorem dicK_ok {x : LV} {kvs : List (Key × LV)} {v : V} (r : RelS K s H) (rx : RV K s H x v) (h : dicK x s = some kvs) : ∃ a us, x = .ref a ∧ v = .ref a ∧ H a = some (.dK us) ∧ RVd K s H kvs us := by
  cases x with
  | ref a =>
    simp only [dicK] at h
    split at h
    · next ys e =>
      cases h
      obtain ⟨us, hh, q⟩ := r a _ e
      exact ⟨a, us, rfl, rx.ref', hh, q⟩
    · cases h
  | _ => cases h
theorem RVd.val : ∀ {kvs : List (Key × LV)} {us : List (Key × V)} (k : Key), RVd K s H kvs us → match valL kvs k with
    | some x => ∃ v, valV us k = some v ∧ RV K s H x v
    | none => valV us k = none
  | [], _, k, h => by cases h; rfl
  | (j, x) :: kvs, _, k, h => by
    obtain ⟨u, r, rfl, h1, h2⟩ := h
    by_cases e : j = k
    · simp only [valL, if_pos e]
      exact ⟨u, valV_pos e, h1⟩
    · simp only [valL, if_neg e]
      rw [valV_neg (p := (j, u)) e]
      exact RVd.val k h2
end
end L3

namespace L3
open PySem PySem.Spec L2
section
variable {X : Cx} [GG X.K] {K : PySem.W.Frag} [GG K] {s : LS} {H : Hp} {a b e o : Expr} {es : List Expr} {pos : Pos} {ta tb te : LTE} {tas : LTA}
def rIxD : R2 := fun x y H Q => ∃ a v, x = .ref a ∧ DGet H a y (some v) ∧ Q v H
theorem ix_dict (hu : X.A.units + 1 < cLine) : IxR X rIxD := by
  intro value slice pins s σ H x y v u Q I rx ry h hs
  obtain ⟨a, w, rfl, g, q⟩ := h
  cases rx
  exact PyProof.Rows.tail_any (dict_typeIs I g) PySem.F.slot_dict_getitem.lookup (d_getItem hu I g ry fun w' s' I' rw' => ⟨w, H, I', rw', q⟩) hs
def seqT : LV → Option (List LV)
  | .tup xs => some xs
  | _ => none
def rIxL : LR2 := fun x y s Q => match y with
  | .int i => (match x with
    | .lst xs => opt (atI xs i) fun v => Q v s
    | .tup xs => opt (atI xs i) fun v => Q v s
    | .scr ns => opt (atI ns i) fun n => Q (.int n) s
    | .str z => z.length ≤ 16777216 ∧ opt (atI z.cps.toList i) fun c => Q (.str ⟨#[c]⟩) s
    | .ref a => (match s a with
      | some (.lst xs) => opt (atI xs i) fun v => Q v s
      | some (.dK kvs) => opt (valL kvs (.inl i)) fun v => Q v s
      | _ => False)
    | _ => False)
  | .str z => opt (dicK x s) fun kvs => opt (valL kvs (.inr z)) fun v => Q v s
  | .tup ks => opt (dicT x s) fun kvs => opt (keysL ks) fun k => opt (valL kvs k) fun v => Q v s
  | _ => False
theorem RVs.atI {xs : List LV} {us : List V} {i : Int} {x : LV} (r : RVs K s H xs us) (h : L2.atI xs i = some x) : ∃ u, L2.atI us i = some u ∧ RV K s H x u := by
  unfold L2.atI at h ⊢
  rw [r.length]
  obtain ⟨j, e1, e2⟩ := Option.bind_eq_some_iff.mp h
  obtain ⟨u, e3, e4⟩ := r.get e2
  exact ⟨u, by rw [e1]; exact e3, e4⟩
theorem atI_map {α β : Type} (f : α → β) (xs : List α) (i : Int) : L2.atI (xs.map f) i = (L2.atI xs i).map f := by
  unfold L2.atI
  rw [List.length_map]
  cases ixN xs.length i with
  | none => rfl
  | some j => simp
theorem up_ix : Up2 K (fun x y H Q => rIx K x y H Q ∨ rIxD x y H Q) rIxL := fun x y s H lx ly Q0 Q hs rx ry h k => by
  cases ly with
  | int i =>
    cases lx with
    | lst xs =>
      obtain ⟨w, e, h⟩ := opt_ok h
      simp only [RV] at rx
      obtain ⟨p, us, rfl, _, hh, r⟩ := rx
      obtain ⟨u, e2, ru⟩ := r.atI e
      exact .inl (.inl ⟨p, us, i, u, rfl, ry.int', SqL.of hh, e2, k _ _ _ _ h (.refl _ _) hs ru⟩)
    | tup xs =>
      obtain ⟨w, e, h⟩ := opt_ok h
      simp only [RV] at rx
      obtain ⟨p, us, rfl, _, hh, r⟩ := rx
      obtain ⟨u, e2, ru⟩ := r.atI e
      exact .inl (.inr (.inl ⟨p, us, i, u, rfl, ry.int', SqT.of hh, e2, k _ _ _ _ h (.refl _ _) hs ru⟩))
    | scr ns =>
      obtain ⟨w, e, h⟩ := opt_ok h
      simp only [RV] at rx
      obtain ⟨p, rfl, hh⟩ := rx
      refine .inl (.inl ⟨p, ns.map V.int, i, .int w, rfl, ry.int', ?_, by rw [atI_map, e]; rfl, k _ _ _ _ h (.refl _ _) hs .int⟩)
      rcases hh with ⟨_, hh⟩ | hh
      · exact .inl hh
      · exact .inr hh
    | str z =>
      obtain ⟨hl, h⟩ := h
      obtain ⟨w, e, h⟩ := opt_ok h
      exact .inl (.inr (.inr ⟨z, i, w, rx.str', ry.int', by rw [sizeLine_eq]; exact hl, e, k _ _ _ _ h (.refl _ _) hs .str⟩))
    | ref p =>
      simp only [rIxL] at h
      split at h
      · next xs ex =>
        obtain ⟨w, e, h⟩ := opt_ok h
        obtain ⟨us, hh, r⟩ := hs.lst ex
        obtain ⟨u, e2, ru⟩ := r.atI e
        exact .inl (.inl ⟨p, us, i, u, rx.ref', ry.int', SqL.of hh, e2, k _ _ _ _ h (.refl _ _) hs ru⟩)
      · next kvs ex =>
        obtain ⟨w, e, h⟩ := opt_ok h
        obtain ⟨us, hh, r⟩ := hs p _ ex
        have q := r.val (.inl i)
        rw [e] at q
        obtain ⟨u, e2, ru⟩ := q
        refine .inr ⟨p, u, rx.ref', ?_, k _ _ _ _ h (.refl _ _) hs ru⟩
        rw [ry.int', ← e2]
        exact DGet.k (k := .inl i) hh
      · exact h.elim
    | _ => exact False.elim h
  | str z =>
    have h : opt (dicK lx s) (fun kvs => opt (valL kvs (.inr z)) fun v => Q0 v s) := h
    obtain ⟨kvs, ed, h1⟩ := opt_ok h
    obtain ⟨w, e, h2⟩ := opt_ok h1
    obtain ⟨p, us, _, rfl, hh, r⟩ := dicK_ok hs rx ed
    have q := r.val (.inr z)
    rw [e] at q
    obtain ⟨u, e2, ru⟩ := q
    refine .inr ⟨p, u, rfl, ?_, k _ _ _ _ h2 (.refl _ _) hs ru⟩
    rw [ry.str', ← e2]
    exact DGet.k (k := .inr z) hh
  | tup ks =>
    simp only [rIxL] at h
    obtain ⟨kvs, ed, h⟩ := opt_ok h
    obtain ⟨kk, ek, h⟩ := opt_ok h
    obtain ⟨w, e, h⟩ := opt_ok h
    obtain ⟨p, us, ob, rfl, hh, d, r⟩ := dicT_ok hs rx ed
    have q := r.val kk
    rw [e] at q
    obtain ⟨u, e2, ru⟩ := q
    simp only [RV] at ry
    obtain ⟨t, ts, rfl, _, ht, rt⟩ := ry
    rw [keysL_ok ek rt] at ht
    exact .inr ⟨p, u, rfl, .inr ⟨us, kk, t, d.rd hh, rfl, ht, e2.symm⟩, k _ _ _ _ h (.refl _ _) hs ru⟩
  | _ => exact False.elim h
theorem le_item (hu : X.A.units + 1 < cLine) (ha : LE X a ta) (hb : LE X b tb) (hs : PlainIx b := by exact fun _ _ => rfl) : LE X (.Subscript a b pos) (lOp rIxL ta tb) := le_ix (ix_seq.or (ix_dict hu)) up_ix ha hb hs

abbrev LTO := LSt → LS → (Option Int → LS → Prop) → LX → Prop
def upO (K : PySem.W.Frag) [GG K] (s0 : LS) (H0 : Hp) (E : LXS) (t : LTO) : TO := fun σ H Q => ∃ σl s Q0 E1, RSt K s H σl σ ∧ RelS K s H ∧ Step s0 H0 s H ∧ (∀ C s', E1 C s' → E C σl s') ∧ t σl s Q0 E1 ∧
  ∀ i s' H', Q0 i s' → Step s H s' H' → RelS K s' H' → Q i H'
def LO' (X : Cx) [GG X.K] (e : Option Expr) (t : LTO) : Prop := ∀ s0 H0 E, Takes X (WL X.K s0 H0 E) → PO X e (upO X.K s0 H0 E t)
theorem _root_.L2.PO.imp {X : Cx} [GG X.K] {e : Option Expr} {t t' : TO} (h : PO X e t) (i : ∀ σ H Q, t' σ H Q → t σ H Q) : PO X e t' := ⟨fun pins s σ H Q I q => h.run pins s σ H Q I (i _ _ _ q)⟩
def lNoP : LTO := fun _ s Q _ => Q none s
def lPart (t : LTE) : LTO := fun σ s Q E => t σ s (fun x s1 => match x with
  | .int i => Q (some i) s1
  | _ => False) E
theorem lo_none : LO' X none lNoP := fun s0 H0 E tk => po_none.imp fun σ H Q ⟨σl, s, Q0, E1, hσ, hs, st, hE, h, k⟩ => k _ _ _ h (.refl _ _) hs
theorem lo_some (h : LE X e te) : LO' X (some e) (lPart te) := fun s0 H0 E tk => (po_some (h s0 H0 E tk)).imp fun σ H Q ⟨σl, s, Q0, E1, hσ, hs, st, hE, h, k⟩ =>
  ⟨σl, s, _, E1, hσ, hs, st, hE, h, fun lx s1 x H1 h st1 hs1 rx => by
    cases lx with
    | int i => exact ⟨i, rx.int', k _ _ _ h st1 hs1⟩
    | _ => exact False.elim h⟩
def cutL (xs : List LV) (lo hi : Option Int) : List LV := (xs.drop (HT.sIx xs.length 0 lo)).take (HT.sIx xs.length xs.length hi - HT.sIx xs.length 0 lo)
/-- the list that is read: the script too -/
def seqR (x : LV) (s : LS) : Option (List LV) := match x with
  | .scr ns => some (ns.map .int)
  | _ => seqL x s
theorem seqR_ok {x : LV} {xs : List LV} {v : V} (r : RelS K s H) (rx : RV K s H x v) (h : seqR x s = some xs) : ∃ a us, v = .ref a ∧ SqL K H a us ∧ RVs K s H xs us := by
  have old : seqL x s = some xs → ∃ a us, v = .ref a ∧ SqL K H a us ∧ RVs K s H xs us := fun h => by
    obtain ⟨a, us, e, hh, q⟩ := seqL_ok r rx h
    exact ⟨a, us, e, SqL.of hh, q⟩
  cases x with
  | scr ns =>
    cases h
    simp only [RV] at rx
    obtain ⟨a, rfl, hh⟩ := rx
    refine ⟨a, _, rfl, ?_, .ints ns⟩
    rcases hh with ⟨_, hh⟩ | hh
    · exact .inl hh
    · exact .inr hh
  | _ => exact old h
theorem seqR_stay {x : LV} {xs : List LV} {s1 s2 : LS} {H1 H2 : Hp} {v : V} (st : Step s1 H1 s2 H2) (r : RelS K s2 H2) (rx : RV K s1 H1 x v) (h : seqR x s2 = some xs) : ∃ a us, v = .ref a ∧ SqL K H2 a us ∧ RVs K s2 H2 xs us := seqR_ok r (rx.mono st) h
def lSl (te : LTE) (tl th : LTO) : LTL := fun σ s Q E => te σ s (fun x s1 => tl σ s1 (fun lo s2 => th σ s2 (fun hi s3 => opt (seqR x s3) fun xs => Q (cutL xs lo hi) s3) E) E) E
theorem ll_slice {lo hi : Option Expr} {tl th : LTO} {p2 : Pos} (he : LE X e te) (hl : LO' X lo tl) (hh : LO' X hi th) : LL X (.Subscript e (.Slice lo hi none p2) pos) (lSl te tl th) := fun s0 H0 E tk =>
  (pe_slice sl_list (he s0 H0 E tk) (hl s0 H0 E tk) (hh s0 H0 E tk)).imp fun σ H Q ⟨σl, s, Q0, E1, hσ, hs, st, hE, h, k⟩ => ⟨σl, s, _, E1, hσ, hs, st, hE, h, fun lx s1 x H1 h st1 hs1 rx =>
    ⟨σl, s1, _, E1, hσ.mono st1, hs1, st.trans st1, hE, h, fun i s2 H2 h st2 hs2 => ⟨σl, s2, _, E1, hσ.mono (st1.trans st2), hs2, st.trans (st1.trans st2), hE, h, fun j s3 H3 h st3 hs3 => by
      obtain ⟨xs, e, h⟩ := opt_ok h
      obtain ⟨p, us, rfl, hh, r⟩ := seqR_stay (st2.trans st3) hs3 rx e
      refine ⟨p, us, rfl, hh, fun q nq => ?_⟩
      have z := k _ s3 (cutV us i j) H3 h ((st1.trans st2).trans st3) hs3
      refine z ?_ q nq
      unfold cutV cutL
      rw [r.length]
      exact (r.drop _).take _⟩⟩⟩

abbrev LRc := List LV → LS → LVK → Prop
def UpC (K : PySem.W.Frag) [GG K] (r : List V → Hp → VK → Prop) (rl : LRc) : Prop := ∀ vs s H lvs Q0 Q, RelS K s H → RVs K s H lvs vs → rl lvs s Q0 →
  (∀ lv s' v H', Q0 lv s' → Step s H s' H' → RelS K s' H' → RV K s' H' lv v → Q v H') → r vs H Q
def lCB (r : LRc) (t : LTA) : LTE := fun σ s Q E => t σ s (fun vs s1 => r vs s1 Q) E
variable {x : Str} {p : Pos} {id T : String} {r : List V → Hp → VK → Prop} {rl : LRc}
theorem le_cb (hc : CallR X (.builtin id) r) (u : UpC X.K r rl) (hg : Gl X x) (hm : X.mg x = none) (hv : bootBuiltins x = some (.builtin id)) (ha : LA X (e :: es) tas) (hn : x ≠ "__name__" := by decide) (hdb : (x == ("__debug__" : Str)) = false := by decide)
    (he : starEach (e :: es) X.env = (false, eval e X.env) :: starEach es X.env := by rfl) (hpl : (backTo pos (starEach es X.env)).any (·.1) = false := by rfl) : LE X (.Call (.Name x p) (e :: es) [] pos) (lCB rl tas) := fun s0 H0 E tk =>
  (pe_callB hc hg hm hv (ha s0 H0 E tk) hn hdb he hpl).imp fun σ H Q ⟨σl, s, Q0, E1, hσ, hs, st, hE, h, k⟩ => ⟨σl, s, _, E1, hσ, hs, st, hE, h, fun lvs s1 vs H1 h st1 hs1 r => u vs s1 H1 lvs Q0 Q hs1 r h fun lv s2 v H2 q st2 => k lv s2 v H2 q (st1.trans st2)⟩
theorem le_cty (hc : CallR X (.type T) r) (u : UpC X.K r rl) (hg : Gl X x) (hm : X.mg x = none) (hv : bootBuiltins x = some (.type T)) (ha : LA X (e :: es) tas) (hn : x ≠ "__name__" := by decide) (hdb : (x == ("__debug__" : Str)) = false := by decide)
    (he : starEach (e :: es) X.env = (false, eval e X.env) :: starEach es X.env := by rfl) (hpl : (backTo pos (starEach es X.env)).any (·.1) = false := by rfl) : LE X (.Call (.Name x p) (e :: es) [] pos) (lCB rl tas) := fun s0 H0 E tk =>
  (pe_callTy hc hg hm hv (ha s0 H0 E tk) hn hdb he hpl).imp fun σ H Q ⟨σl, s, Q0, E1, hσ, hs, st, hE, h, k⟩ => ⟨σl, s, _, E1, hσ, hs, st, hE, h, fun lvs s1 vs H1 h st1 hs1 r => u vs s1 H1 lvs Q0 Q hs1 r h fun lv s2 v H2 q st2 => k lv s2 v H2 q (st1.trans st2)⟩
/-- .. that makes a new list -/
def UpCL (K : PySem.W.Frag) [GG K] (r : List V → Hp → VK → Prop) (rl : List LV → LS → (List LV → LS → Prop) → Prop) : Prop := ∀ vs s H lvs Q0 Q, RelS K s H → RVs K s H lvs vs → rl lvs s Q0 →
  (∀ xs s' us H', Q0 xs s' → Step s H s' H' → RelS K s' H' → RVs K s' H' xs us → ∀ p, H' p = none → Q (.ref p) (upd H' p (.lst us))) → r vs H Q
def lCBL (r : List LV → LS → (List LV → LS → Prop) → Prop) (t : LTA) : LTL := fun σ s Q E => t σ s (fun vs s1 => r vs s1 Q) E
theorem ll_cb {rl : List LV → LS → (List LV → LS → Prop) → Prop} (hc : CallR X (.builtin id) r) (u : UpCL X.K r rl) (hg : Gl X x) (hm : X.mg x = none) (hv : bootBuiltins x = some (.builtin id)) (ha : LA X (e :: es) tas) (hn : x ≠ "__name__" := by decide) (hdb : (x == ("__debug__" : Str)) = false := by decide)
    (he : starEach (e :: es) X.env = (false, eval e X.env) :: starEach es X.env := by rfl) (hpl : (backTo pos (starEach es X.env)).any (·.1) = false := by rfl) : LL X (.Call (.Name x p) (e :: es) [] pos) (lCBL rl tas) := fun s0 H0 E tk =>
  (pe_callB hc hg hm hv (ha s0 H0 E tk) hn hdb he hpl).imp fun σ H Q ⟨σl, s, Q0, E1, hσ, hs, st, hE, h, k⟩ => ⟨σl, s, _, E1, hσ, hs, st, hE, h, fun lvs s1 vs H1 h st1 hs1 r => u vs s1 H1 lvs Q0 Q hs1 r h fun xs s2 us H2 q st2 => k xs s2 us H2 q (st1.trans st2)⟩
theorem ll_cty {rl : List LV → LS → (List LV → LS → Prop) → Prop} (hc : CallR X (.type T) r) (u : UpCL X.K r rl) (hg : Gl X x) (hm : X.mg x = none) (hv : bootBuiltins x = some (.type T)) (ha : LA X (e :: es) tas) (hn : x ≠ "__name__" := by decide) (hdb : (x == ("__debug__" : Str)) = false := by decide)
    (he : starEach (e :: es) X.env = (false, eval e X.env) :: starEach es X.env := by rfl) (hpl : (backTo pos (starEach es X.env)).any (·.1) = false := by rfl) : LL X (.Call (.Name x p) (e :: es) [] pos) (lCBL rl tas) := fun s0 H0 E tk =>
  (pe_callTy hc hg hm hv (ha s0 H0 E tk) hn hdb he hpl).imp fun σ H Q ⟨σl, s, Q0, E1, hσ, hs, st, hE, h, k⟩ => ⟨σl, s, _, E1, hσ, hs, st, hE, h, fun lvs s1 vs H1 h st1 hs1 r => u vs s1 H1 lvs Q0 Q hs1 r h fun xs s2 us H2 q st2 => k xs s2 us H2 q (st1.trans st2)⟩
def lenL (x : LV) (s : LS) : Option Nat := match x with
  | .lst xs => some xs.length
  | .tup xs => some xs.length
  | .scr ns => some ns.length
  | .ref a => (match s a with
    | some (.lst xs) => some xs.length
    | _ => none)
  | _ => none
def rLenL : LRc := fun vs s Q => match vs with
  | [.str z] => z.length ≤ 16777216 ∧ Q (.int z.length) s
  | [x] => opt (lenL x s) fun n => Q (.int (n : Int)) s
  | _ => False
theorem RVs.one {x : LV} {us : List V} (r : RVs K s H [x] us) : ∃ u, us = [u] ∧ RV K s H x u := by
  simp only [RVs] at r
  obtain ⟨u, w, rfl, r1, r2⟩ := r
  exact ⟨u, by rw [r2], r1⟩
theorem RVs.two {x y : LV} {us : List V} (r : RVs K s H [x, y] us) : ∃ u v, us = [u, v] ∧ RV K s H x u ∧ RV K s H y v := by
  simp only [RVs] at r
  obtain ⟨u, w, rfl, r1, v, z, rfl, r2, r3⟩ := r
  exact ⟨u, v, by rw [r3], r1, r2⟩
theorem RVd.length : ∀ {xs : List (Key × LV)} {us : List (Key × V)}, RVd K s H xs us → us.length = xs.length
  | [], _, h => by cases h; rfl
  | (k, x) :: xs, _, h => by
    obtain ⟨u, r, rfl, _, h2⟩ := h
    simp [RVd.length h2]
theorem up_len : UpC K (fun xs H Q => ∃ x n, xs = [x] ∧ LenV K x H n ∧ Q (.int n) H) rLenL := fun vs s H lvs Q0 Q hs r h k => by
  rcases lvs with _ | ⟨x, _ | ⟨y, l⟩⟩
  · exact False.elim h
  rotate_left
  · exact False.elim (by cases x <;> exact h)
  · obtain ⟨u, rfl, r1⟩ := r.one
    clear r
    have r := r1
    clear r1
    cases x with
    | str z => exact ⟨u, z.length, rfl, by rw [r.str']; exact ⟨by rw [sizeLine_eq]; exact h.1, rfl⟩, k _ _ _ _ h.2 (.refl _ _) hs .int⟩
    | lst xs =>
      have h : Q0 (.int (xs.length : Int)) s := h
      simp only [RV] at r
      obtain ⟨a, us, rfl, _, hh, q⟩ := r
      exact ⟨_, us.length, rfl, .inl ⟨us, SqL.of hh, rfl⟩, by rw [q.length]; exact k _ _ _ _ h (.refl _ _) hs .int⟩
    | tup xs =>
      have h : Q0 (.int (xs.length : Int)) s := h
      simp only [RV] at r
      obtain ⟨a, us, rfl, _, hh, q⟩ := r
      exact ⟨_, us.length, rfl, .inr ⟨us, SqT.of hh, rfl⟩, by rw [q.length]; exact k _ _ _ _ h (.refl _ _) hs .int⟩
    | scr ns =>
      have h : Q0 (.int (ns.length : Int)) s := h
      obtain ⟨a, us, rfl, hh, q⟩ := seqR_ok hs r rfl
      exact ⟨_, us.length, rfl, .inl ⟨us, hh, rfl⟩, by rw [q.length, List.length_map]; exact k _ _ _ _ h (.refl _ _) hs .int⟩
    | ref a =>
      simp only [rLenL, lenL] at h
      split at h
      · next xs ex =>
        have h : Q0 (.int (xs.length : Int)) s := h
        obtain ⟨us, hh, q⟩ := hs.lst ex
        exact ⟨_, us.length, rfl, by rw [r.ref']; exact .inl ⟨us, SqL.of hh, rfl⟩, by rw [q.length]; exact k _ _ _ _ h (.refl _ _) hs .int⟩
      · exact h.elim
    | _ => exact False.elim h
theorem le_len (hg : Gl X "len") (hm : X.mg "len" = none) (ha : LA X [e] tas) (he : starEach [e] X.env = (false, eval e X.env) :: starEach [] X.env := by rfl) (hpl : (backTo pos (starEach [] X.env)).any (·.1) = false := by rfl) :
    LE X (.Call (.Name "len" p) [e] [] pos) (lCB rLenL tas) := le_cb call_len up_len hg hm PySem.boot_len ha (by decide) (by decide) he hpl
end
end L3

namespace L3
open PySem PySem.Spec L2
section
variable {X : Cx} [GG X.K] {K : PySem.W.Frag} [GG K] {s : LS} {H : Hp} {a b e o : Expr} {es : List Expr} {pos : Pos} {ta tb te to : LTE} {tas : LTA}
variable {x : Str} {p : Pos}
/-- the type of a value, as isinstance asks it; CT: what is said of an own class -/
def tyAt (CT : Addr → Prop) (x : LV) (s : LS) : Option Value := match x with
  | .non => some (.type "NoneType")
  | .bl _ => some (.type "bool")
  | .int _ => some (.type "int")
  | .str _ => some (.type "str")
  | .lst _ => some (.type "list")
  | .tup _ => some (.type "tuple")
  | .ins C _ => some (.ref C)
  | .ref a => (match s a with
    | some (.lst _) => some (.type "list")
    | some (.dK _) => some (.type "dict")
    | some (.dT _) => some (.type "dict")
    | some (.ins C _) => some (.ref C)
    | _ => none)
  | _ => none
/-- what an own class must say, for isinstance -/
structure InsC (K : PySem.W.Frag) (C : Addr) : Prop where
  cl : Cls K C
  ha : PySem.W.findIn K (.ref C) "__class__" = some (some (.builtin "object.__class__"))
  hn : PySem.W.specialIn K (.builtin "object.__class__") "__get__" = some (some (.builtin "getset_descriptor.__get__"))
  ht : PySem.W.takesIn K (.builtin "object.__class__") = some true
  hm : PySem.W.mroIn K C (.type "object") = some true
def clsVal : LV → Option Value
  | .ref a => some (.ref a)
  | .ty n => some (.type n)
  | _ => none
def rIsiL (K : PySem.W.Frag) : LRc := fun vs s Q => match vs with
  | [x, c] => opt (tyAt (fun _ => True) x s) fun t => opt (clsVal c) fun u => (∀ C, t = .ref C → InsC K C) ∧ ∃ b, PySem.W.kitOne K t u = some b ∧ Q (.bl b) s
  | _ => False
theorem tyAt_ok {x : LV} {v : V} {t : Value} (hs : RelS K s H) (rx : RV K s H x v) (h : tyAt (fun _ => True) x s = some t) (hc : ∀ C, t = .ref C → InsC K C) : TyX K H v t := by
  cases x with
  | non => cases h; rw [rx.non']; exact .base .non
  | bl b => cases h; rw [rx.bl']; exact .base (.bl b)
  | int b => cases h; rw [rx.int']; exact .base (.int b)
  | str b => cases h; rw [rx.str']; exact .base (.str b)
  | lst xs =>
    cases h
    simp only [RV] at rx
    obtain ⟨a, us, rfl, _, hh, _⟩ := rx
    exact .base (.lst hh)
  | tup xs =>
    cases h
    simp only [RV] at rx
    obtain ⟨a, us, rfl, _, hh, _⟩ := rx
    exact .base (.tup hh)
  | ins C fs =>
    cases h
    simp only [RV] at rx
    obtain ⟨a, dx, us, rfl, _, hh, _⟩ := rx
    have c := hc C rfl
    exact .base (.ins hh c.cl c.ha c.hn c.ht c.hm)
  | ref a =>
    rw [rx.ref']
    simp only [tyAt] at h
    split at h
    · next e => cases h; obtain ⟨us, hh, _⟩ := hs a _ e; exact .base (.lst hh)
    · next e => cases h; obtain ⟨us, hh, _⟩ := hs a _ e; exact .base (.dK hh)
    · next e => cases h; obtain ⟨us, hh, _⟩ := hs a _ e; exact .base (.dT hh)
    · next C fs e =>
      cases h
      obtain ⟨dx, us, hh, _⟩ := hs a _ e
      have c := hc C rfl
      exact .base (.ins hh c.cl c.ha c.hn c.ht c.hm)
    · cases h
  | _ => cases h
theorem clsVal_ok {c : LV} {v : V} {u : Value} (rx : RV K s H c v) (h : clsVal c = some u) : ClsV v u := by
  cases c with
  | ref a => cases h; rw [rx.ref']; exact .own a
  | ty n => cases h; simp only [RV] at rx; rw [rx]; exact .ty n
  | _ => cases h
theorem up_isi : UpC K (L2.rIsi K) (rIsiL K) := fun vs s H lvs Q0 Q hs r h k => by
  rcases lvs with _ | ⟨x, _ | ⟨c, _ | ⟨y, l⟩⟩⟩
  · exact False.elim h
  · exact False.elim h
  · obtain ⟨t, e1, h⟩ := opt_ok h
    obtain ⟨u, e2, hc, b, e3, h⟩ := opt_ok h
    obtain ⟨v, w, rfl, r1, r2⟩ := r.two
    exact ⟨v, w, t, u, b, rfl, clsVal_ok r2 e2, tyAt_ok hs r1 e1 hc, e3, k _ _ _ _ h (.refl _ _) hs .bl⟩
  · exact False.elim h
theorem le_isi (hg : Gl X "isinstance") (hm : X.mg "isinstance" = none) (ha : LA X (e :: es) tas) (he : starEach (e :: es) X.env = (false, eval e X.env) :: starEach es X.env := by rfl) (hpl : (backTo pos (starEach es X.env)).any (·.1) = false := by rfl) :
    LE X (.Call (.Name "isinstance" p) (e :: es) [] pos) (lCB (rIsiL X.K) tas) := le_cb call_isi up_isi hg hm (by decide +kernel) ha (by decide) (by decide) he hpl

def rMax2L : LRc := fun vs s Q => match vs with
  | [.int i, .int j] => Q (.int (if j > i then j else i)) s
  | _ => False
def rMin2L : LRc := fun vs s Q => match vs with
  | [.int i, .int j] => Q (.int (if j < i then j else i)) s
  | _ => False
theorem ints2 {lvs : List LV} {k : Int → Int → Prop} (h : match lvs with
  | [.int i, .int j] => k i j
  | _ => False) : ∃ i j, lvs = [.int i, .int j] ∧ k i j := by
  rcases lvs with _ | ⟨x, _ | ⟨c, _ | ⟨y, l⟩⟩⟩
  · exact h.elim
  · exact False.elim (by cases x <;> exact h)
  · cases x <;> cases c <;> first | exact h.elim | exact ⟨_, _, rfl, h⟩
  · exact False.elim (by cases x <;> cases c <;> exact h)
theorem up_max2 : UpC K (fun xs H Q => ∃ i j, xs = [.int i, .int j] ∧ Q (.int (if j > i then j else i)) H) rMax2L := fun vs s H lvs Q0 Q hs r h k => by
  obtain ⟨i, j, rfl, h⟩ := ints2 (k := fun i j => Q0 (.int (if j > i then j else i)) s) h
  obtain ⟨v, w, rfl, r1, r2⟩ := r.two
  exact ⟨i, j, by rw [r1.int', r2.int'], k _ _ _ _ h (.refl _ _) hs .int⟩
theorem up_min2 : UpC K (fun xs H Q => ∃ i j, xs = [.int i, .int j] ∧ Q (.int (if j < i then j else i)) H) rMin2L := fun vs s H lvs Q0 Q hs r h k => by
  obtain ⟨i, j, rfl, h⟩ := ints2 (k := fun i j => Q0 (.int (if j < i then j else i)) s) h
  obtain ⟨v, w, rfl, r1, r2⟩ := r.two
  exact ⟨i, j, by rw [r1.int', r2.int'], k _ _ _ _ h (.refl _ _) hs .int⟩
theorem le_max2 (hc : X.calm = true) (hg : Gl X "max") (hm : X.mg "max" = none) (ha : LA X (e :: es) tas) (he : starEach (e :: es) X.env = (false, eval e X.env) :: starEach es X.env := by rfl) (hpl : (backTo pos (starEach es X.env)).any (·.1) = false := by rfl) :
    LE X (.Call (.Name "max" p) (e :: es) [] pos) (lCB rMax2L tas) := le_cb (call_max2 hc) up_max2 hg hm (by decide +kernel) ha (by decide) (by decide) he hpl
theorem le_min2 (hc : X.calm = true) (hg : Gl X "min") (hm : X.mg "min" = none) (ha : LA X (e :: es) tas) (he : starEach (e :: es) X.env = (false, eval e X.env) :: starEach es X.env := by rfl) (hpl : (backTo pos (starEach es X.env)).any (·.1) = false := by rfl) :
    LE X (.Call (.Name "min" p) (e :: es) [] pos) (lCB rMin2L tas) := le_cb (call_min2 hc) up_min2 hg hm (by decide +kernel) ha (by decide) (by decide) he hpl
def rIntL : LRc := fun vs s Q => match vs with
  | [.int i] => Q (.int i) s
  | [.bl k] => Q (.int (if k then 1 else 0)) s
  | _ => False
theorem up_int1 : UpC K (fun xs H Q => (∃ i, xs = [.int i] ∧ Q (.int i) H) ∨ ∃ k, xs = [.bl k] ∧ Q (.int (if k then 1 else 0)) H) rIntL := fun vs s H lvs Q0 Q hs r h k => by
  rcases lvs with _ | ⟨x, _ | ⟨c, l⟩⟩
  · exact False.elim h
  · obtain ⟨v, rfl, r1⟩ := r.one
    cases x with
    | int i => exact .inl ⟨i, by rw [r1.int'], k _ _ _ _ h (.refl _ _) hs .int⟩
    | bl i => exact .inr ⟨i, by rw [r1.bl'], k _ _ _ _ h (.refl _ _) hs .int⟩
    | _ => exact False.elim h
  · exact False.elim (by cases x <;> exact h)
theorem le_int1 (hg : Gl X "int") (hm : X.mg "int" = none) (ha : LA X (e :: es) tas) (he : starEach (e :: es) X.env = (false, eval e X.env) :: starEach es X.env := by rfl) (hpl : (backTo pos (starEach es X.env)).any (·.1) = false := by rfl) :
    LE X (.Call (.Name "int" p) (e :: es) [] pos) (lCB rIntL tas) := le_cty call_int1 up_int1 hg hm PyProof.Rows.boot_int ha (by decide) (by decide) he hpl

def intsOf : List LV → Option (List Int)
  | [] => some []
  | .int i :: xs => (intsOf xs).map (i :: ·)
  | _ :: _ => none
theorem intsOf_ok : ∀ {xs : List LV} {ns : List Int}, intsOf xs = some ns → xs = ns.map .int
  | [], _, h => by cases h; rfl
  | x :: xs, ns, h => by
    cases x with
    | int i =>
      obtain ⟨r, e, rfl⟩ := Option.map_eq_some_iff.mp (show (intsOf xs).map (i :: ·) = some ns from h)
      rw [intsOf_ok e]
      rfl
    | _ => cases h
theorem intsOf_map (ns : List Int) : intsOf (ns.map .int) = some ns := by
  induction ns with
  | nil => rfl
  | cons n ns ih => simp [intsOf, ih]
def blsOf : List LV → Option (List Bool)
  | [] => some []
  | .bl i :: xs => (blsOf xs).map (i :: ·)
  | _ :: _ => none
theorem blsOf_ok : ∀ {xs : List LV} {ns : List Bool}, blsOf xs = some ns → xs = ns.map .bl
  | [], _, h => by cases h; rfl
  | x :: xs, ns, h => by
    cases x with
    | bl i =>
      obtain ⟨r, e, rfl⟩ := Option.map_eq_some_iff.mp (show (blsOf xs).map (i :: ·) = some ns from h)
      rw [blsOf_ok e]
      rfl
    | _ => cases h
theorem blsOf_map (ns : List Bool) : blsOf (ns.map .bl) = some ns := by
  induction ns with
  | nil => rfl
  | cons n ns ih => simp [blsOf, ih]
theorem RVs.of_bls : ∀ {ns : List Bool} {us : List V}, RVs K s H (ns.map LV.bl) us → us = ns.map V.bl
  | [], _, h => by simpa only [List.map_nil, RVs] using h
  | n :: ns, _, h => by
    simp only [List.map_cons, RVs, RV] at h
    obtain ⟨u, r, rfl, rfl, h2⟩ := h
    rw [RVs.of_bls h2]; rfl
def one1 (vs : List LV) (k : LV → Prop) : Prop := match vs with
  | [x] => k x
  | _ => False
theorem one1_ok {vs : List LV} {k : LV → Prop} (h : one1 vs k) : ∃ x, vs = [x] ∧ k x := by
  rcases vs with _ | ⟨x, _ | ⟨c, l⟩⟩
  · exact h.elim
  · exact ⟨x, rfl, h⟩
  · exact h.elim
/-- sorted of ints -/
def rSrtI : List LV → LS → (List LV → LS → Prop) → Prop := fun vs s Q => one1 vs fun x => opt (seqL x s) fun xs => opt (intsOf xs) fun ns => ∀ ns' : List Int, ns'.Perm ns → ns'.Pairwise (· ≤ ·) → Q (ns'.map .int) s
theorem up_srtI : UpCL K (rSortedI K) rSrtI := fun vs s H lvs Q0 Q hs r h k => by
  obtain ⟨x, rfl, h⟩ := one1_ok h
  obtain ⟨xs, e1, h⟩ := opt_ok h
  obtain ⟨ns, e2, h⟩ := opt_ok h
  obtain ⟨v, rfl, r1⟩ := r.one
  obtain ⟨q, us, rfl, hh, r2⟩ := seqL_ok hs r1 e1
  rw [intsOf_ok e2] at r2
  rw [r2.of_ints] at hh
  exact ⟨q, ns, rfl, SqL.of hh, fun ns' l pm so np => k _ _ _ _ (h ns' pm so) (.refl _ _) hs (.ints ns') l np⟩
theorem ll_sortedI (hg : Gl X "sorted") (hm : X.mg "sorted" = none) (ha : LA X (e :: es) tas) (he : starEach (e :: es) X.env = (false, eval e X.env) :: starEach es X.env := by rfl) (hpl : (backTo pos (starEach es X.env)).any (·.1) = false := by rfl) :
    LL X (.Call (.Name "sorted" p) (e :: es) [] pos) (lCBL rSrtI tas) := ll_cb cr_sortedI up_srtI hg hm (by decide +kernel) ha (by decide) (by decide) he hpl
/-- list of a list, of a tuple -/
def rLstOf : List LV → LS → (List LV → LS → Prop) → Prop := fun vs s Q => one1 vs fun x => match x with
  | .tup xs => Q xs s
  | _ => opt (seqR x s) fun xs => Q xs s
theorem up_lstOf : UpCL K (fun xs H Q => ∃ p ys, xs = [.ref p] ∧ (SqL K H p ys ∨ SqT K H p ys) ∧ ∀ l, H l = none → Q (.ref l) (upd H l (.lst ys))) rLstOf := fun vs s H lvs Q0 Q hs r h k => by
  obtain ⟨x, rfl, h⟩ := one1_ok h
  obtain ⟨v, rfl, r1⟩ := r.one
  have go : opt (seqR x s) (fun xs => Q0 xs s) → ∃ p ys, [v] = [V.ref p] ∧ (SqL K H p ys ∨ SqT K H p ys) ∧ ∀ l, H l = none → Q (.ref l) (upd H l (.lst ys)) := fun h => by
    obtain ⟨xs, e1, h⟩ := opt_ok h
    obtain ⟨q, us, rfl, hh, r2⟩ := seqR_ok hs r1 e1
    exact ⟨q, us, rfl, .inl hh, fun l np => k _ _ _ _ h (.refl _ _) hs r2 l np⟩
  cases x with
  | tup xs =>
    simp only [RV] at r1
    obtain ⟨a, us, rfl, _, hh, q⟩ := r1
    exact ⟨a, us, rfl, .inr (SqT.of hh), fun l np => k _ _ _ _ h (.refl _ _) hs q l np⟩
  | _ => exact go h
theorem ll_list (hg : Gl X "list") (hm : X.mg "list" = none) (ha : LA X (e :: es) tas) (he : starEach (e :: es) X.env = (false, eval e X.env) :: starEach es X.env := by rfl) (hpl : (backTo pos (starEach es X.env)).any (·.1) = false := by rfl) :
    LL X (.Call (.Name "list" p) (e :: es) [] pos) (lCBL rLstOf tas) := ll_cty call_list_of up_lstOf hg hm PyProof.Rows.boot_list ha (by decide) (by decide) he hpl
/-- list(range(a, b)) -/
def rgL (a b : Int) : List LV := (List.range (b - a).toNat).map fun i => LV.int (a + (i : Nat))
theorem RVs.rg (a b : Int) : RVs K s H (rgL a b) (rgV a b) := by
  have e : rgL a b = ((List.range (b - a).toNat).map fun i => a + ((i : Nat) : Int)).map LV.int := by unfold rgL; rw [List.map_map]; rfl
  have e2 : rgV a b = ((List.range (b - a).toNat).map fun i => a + ((i : Nat) : Int)).map V.int := by unfold rgV; rw [List.map_map]; rfl
  rw [e, e2]
  exact .ints _
def lLstRg2 (ta tb : LTE) : LTL := fun σ s Q E => ta σ s (fun x s1 => tb σ s1 (fun y s2 => match x, y with
  | .int i, .int j => RgOk i j ∧ Q (rgL i j) s2
  | _, _ => False) E) E
def lLstRg1 (ta : LTE) : LTL := fun σ s Q E => ta σ s (fun x s1 => match x with
  | .int j => RgOk 0 j ∧ Q (rgL 0 j) s1
  | _ => False) E
theorem ll_listRg2 {p2 pos2 : Pos} (hc : X.calm = true) (hg : Gl X "list") (hm : X.mg "list" = none) (hg2 : Gl X "range") (hm2 : X.mg "range" = none) (ha : LE X a ta) (hb : LE X b tb)
    (n1 : starEach [a, b] X.env = (false, eval a X.env) :: starEach [b] X.env := by rfl) (n2 : starEach [b] X.env = (false, eval b X.env) :: starEach [] X.env := by rfl)
    (na : starEach [.Call (.Name "range" p2) [a, b] [] pos2] X.env = (false, eval (.Call (.Name "range" p2) [a, b] [] pos2) X.env) :: starEach [] X.env := by rfl) (hq : (backTo pos2 (starEach [b] X.env)).any (·.1) = false := by rfl) :
    LL X (.Call (.Name "list" p) [.Call (.Name "range" p2) [a, b] [] pos2] [] pos) (lLstRg2 ta tb) := fun s0 H0 E tk =>
  (pe_listRg hc hg hm (prg_2 hg2 hm2 (ha s0 H0 E tk) (hb s0 H0 E tk) n1 n2 hq) na).imp fun σ H Q ⟨σl, s, Q0, E1, hσ, hs, st, hE, h, k⟩ => ⟨σl, s, _, E1, hσ, hs, st, hE, h, fun lx s1 x H1 h st1 hs1 rx =>
    ⟨σl, s1, _, E1, hσ.mono st1, hs1, st.trans st1, hE, h, fun ly s2 y H2 h st2 hs2 ry => by
      cases lx <;> try exact False.elim h
      cases ly <;> try exact False.elim h
      exact ⟨_, _, rx.int', ry.int', h.1, fun q nq => k _ _ _ _ h.2 (st1.trans st2) hs2 (.rg _ _) q nq⟩⟩⟩
theorem ll_listRg1 {p2 pos2 : Pos} (hc : X.calm = true) (hg : Gl X "list") (hm : X.mg "list" = none) (hg2 : Gl X "range") (hm2 : X.mg "range" = none) (ha : LE X a ta)
    (n1 : starEach [a] X.env = (false, eval a X.env) :: starEach [] X.env := by rfl)
    (na : starEach [.Call (.Name "range" p2) [a] [] pos2] X.env = (false, eval (.Call (.Name "range" p2) [a] [] pos2) X.env) :: starEach [] X.env := by rfl) :
    LL X (.Call (.Name "list" p) [.Call (.Name "range" p2) [a] [] pos2] [] pos) (lLstRg1 ta) := fun s0 H0 E tk =>
  (pe_listRg hc hg hm (prg_1 hg2 hm2 (ha s0 H0 E tk) n1) na).imp fun σ H Q ⟨σl, s, Q0, E1, hσ, hs, st, hE, h, k⟩ => ⟨σl, s, _, E1, hσ, hs, st, hE, h, fun lx s1 x H1 h st1 hs1 rx => by
      cases lx <;> try exact False.elim h
      exact ⟨_, rx.int', h.1, fun q nq => k _ _ _ _ h.2 st1 hs1 (.rg _ _) q nq⟩⟩
def rAllL : LRc := fun vs s Q => one1 vs fun x => opt (seqL x s) fun xs => opt (blsOf xs) fun bs => Q (.bl (bs.all id)) s
def rAnyL : LRc := fun vs s Q => one1 vs fun x => opt (seqL x s) fun xs => opt (blsOf xs) fun bs => Q (.bl (bs.any id)) s
theorem up_all : UpC K (L2.rAll K) rAllL := fun vs s H lvs Q0 Q hs r h k => by
  obtain ⟨x, rfl, h⟩ := one1_ok h
  obtain ⟨xs, e1, h⟩ := opt_ok h
  obtain ⟨ns, e2, h⟩ := opt_ok h
  obtain ⟨v, rfl, r1⟩ := r.one
  obtain ⟨q, us, rfl, hh, r2⟩ := seqL_ok hs r1 e1
  rw [blsOf_ok e2] at r2
  rw [r2.of_bls] at hh
  exact ⟨q, ns, rfl, SqL.of hh, k _ _ _ _ h (.refl _ _) hs .bl⟩
theorem up_any : UpC K (L2.rAny K) rAnyL := fun vs s H lvs Q0 Q hs r h k => by
  obtain ⟨x, rfl, h⟩ := one1_ok h
  obtain ⟨xs, e1, h⟩ := opt_ok h
  obtain ⟨ns, e2, h⟩ := opt_ok h
  obtain ⟨v, rfl, r1⟩ := r.one
  obtain ⟨q, us, rfl, hh, r2⟩ := seqL_ok hs r1 e1
  rw [blsOf_ok e2] at r2
  rw [r2.of_bls] at hh
  exact ⟨q, ns, rfl, SqL.of hh, k _ _ _ _ h (.refl _ _) hs .bl⟩
theorem le_all (hc : X.calm = true) (hg : Gl X "all") (hm : X.mg "all" = none) (ha : LA X (e :: es) tas) (he : starEach (e :: es) X.env = (false, eval e X.env) :: starEach es X.env := by rfl) (hpl : (backTo pos (starEach es X.env)).any (·.1) = false := by rfl) :
    LE X (.Call (.Name "all" p) (e :: es) [] pos) (lCB rAllL tas) := le_cb (cr_all hc) up_all hg hm (by decide +kernel) ha (by decide) (by decide) he hpl
theorem le_any (hc : X.calm = true) (hg : Gl X "any") (hm : X.mg "any" = none) (ha : LA X (e :: es) tas) (he : starEach (e :: es) X.env = (false, eval e X.env) :: starEach es X.env := by rfl) (hpl : (backTo pos (starEach es X.env)).any (·.1) = false := by rfl) :
    LE X (.Call (.Name "any" p) (e :: es) [] pos) (lCB rAnyL tas) := le_cb (cr_any hc) up_any hg hm (by decide +kernel) ha (by decide) (by decide) he hpl
/-- max, min of a list of ints -/
def rMaxL : LRc := fun vs s Q => one1 vs fun x => opt (seqL x s) fun xs => opt (intsOf xs) fun ns => 0 < ns.length ∧ ∀ m, m ∈ ns → (∀ y, y ∈ ns → y ≤ m) → Q (.int m) s
def rMinL : LRc := fun vs s Q => one1 vs fun x => opt (seqL x s) fun xs => opt (intsOf xs) fun ns => 0 < ns.length ∧ ∀ m, m ∈ ns → (∀ y, y ∈ ns → m ≤ y) → Q (.int m) s
theorem up_max : UpC K (L2.rMax K) rMaxL := fun vs s H lvs Q0 Q hs r h k => by
  obtain ⟨x, rfl, h⟩ := one1_ok h
  obtain ⟨xs, e1, h⟩ := opt_ok h
  obtain ⟨ns, e2, h0, h⟩ := opt_ok h
  obtain ⟨v, rfl, r1⟩ := r.one
  obtain ⟨q, us, rfl, hh, r2⟩ := seqL_ok hs r1 e1
  rw [intsOf_ok e2] at r2
  rw [r2.of_ints] at hh
  exact ⟨q, ns, rfl, SqL.of hh, h0, fun m hm hle => k _ _ _ _ (h m hm hle) (.refl _ _) hs .int⟩
theorem up_min : UpC K (L2.rMin K) rMinL := fun vs s H lvs Q0 Q hs r h k => by
  obtain ⟨x, rfl, h⟩ := one1_ok h
  obtain ⟨xs, e1, h⟩ := opt_ok h
  obtain ⟨ns, e2, h0, h⟩ := opt_ok h
  obtain ⟨v, rfl, r1⟩ := r.one
  obtain ⟨q, us, rfl, hh, r2⟩ := seqL_ok hs r1 e1
  rw [intsOf_ok e2] at r2
  rw [r2.of_ints] at hh
  exact ⟨q, ns, rfl, SqL.of hh, h0, fun m hm hle => k _ _ _ _ (h m hm hle) (.refl _ _) hs .int⟩
theorem le_max (hc : X.calm = true) (hg : Gl X "max") (hm : X.mg "max" = none) (ha : LA X (e :: es) tas) (he : starEach (e :: es) X.env = (false, eval e X.env) :: starEach es X.env := by rfl) (hpl : (backTo pos (starEach es X.env)).any (·.1) = false := by rfl) :
    LE X (.Call (.Name "max" p) (e :: es) [] pos) (lCB rMaxL tas) := le_cb (cr_max hc) up_max hg hm (by decide +kernel) ha (by decide) (by decide) he hpl
theorem le_min (hc : X.calm = true) (hg : Gl X "min") (hm : X.mg "min" = none) (ha : LA X (e :: es) tas) (he : starEach (e :: es) X.env = (false, eval e X.env) :: starEach es X.env := by rfl) (hpl : (backTo pos (starEach es X.env)).any (·.1) = false := by rfl) :
    LE X (.Call (.Name "min" p) (e :: es) [] pos) (lCB rMinL tas) := le_cb (cr_min hc) up_min hg hm (by decide +kernel) ha (by decide) (by decide) he hpl

abbrev LRm := LV → List LV → LS → LVK → Prop
def UpM (K : PySem.W.Frag) [GG K] (r : V → List V → Hp → VK → Prop) (rl : LRm) : Prop := ∀ x vs s H lx lvs Q0 Q, RelS K s H → RV K s H lx x → RVs K s H lvs vs → rl lx lvs s Q0 →
  (∀ lv s' v H', Q0 lv s' → Step s H s' H' → RelS K s' H' → RV K s' H' lv v → Q v H') → r x vs H Q
def lBML (r : LRm) (to : LTE) (t : LTA) : LTE := fun σ s Q E => to σ s (fun x s1 => (seqL x s1).isSome = true ∧ t σ s1 (fun vs s2 => r x vs s2 Q) E) E
variable {name : Str} {apos cpos : Pos} {id : String} {r : V → List V → Hp → VK → Prop} {rl : LRm}
theorem isSeq_ty {x : LV} {v : V} (hs : RelS K s H) (rx : RV K s H x v) (h : (seqL x s).isSome = true) : tyV K "list" v H := by
  obtain ⟨xs, e⟩ := Option.isSome_iff_exists.mp h
  obtain ⟨a, us, rfl, hh, _⟩ := seqL_ok hs rx e
  exact .inl ⟨rfl, us, SqL.of hh⟩
theorem le_bml (slot : Slot "list" name id) (hty : typeOf (.builtin id) = pure (.type "method_descriptor")) (hm : MtR X id r) (u : UpM X.K r rl) (ho : LE X o to) (ha : LA X (e :: es) tas)
    (hbase : attributeBase o name X.env (eval o X.env) = eval o X.env := by rfl)
    (hfew : ((backTo cpos (starEach (e :: es) X.env)).all (fun x => !x.1) && (backToKw cpos (keywordEach [] X.env)).all (fun x => x.1.isSome)
      && decide ((e :: es).length + ([] : List Keyword).length + (if ([] : List Keyword).isEmpty then 0 else 1) < 30)) = true := by rfl)
    (hline : (apos.endLine == cpos.line) = true := by rfl) (hs : starEach (e :: es) X.env = (false, eval e X.env) :: starEach es X.env := by rfl) (hplain : (backTo cpos (starEach es X.env)).any (·.1) = false := by rfl) :
    LE X (.Call (.Attribute o name apos) (e :: es) [] cpos) (lBML rl to tas) := fun s0 H0 E tk => (pe_bm PySem.F.plainAttrs_list slot hty hm (ho s0 H0 E tk) (ha s0 H0 E tk) hbase hfew hline hs hplain).imp fun σ H Q ⟨σl, s, Q0, E1, hσ, hs, st, hE, h, k⟩ =>
  ⟨σl, s, _, E1, hσ, hs, st, hE, h, fun lx s1 x H1 h st1 hs1 rx => ⟨isSeq_ty hs1 rx h.1, σl, s1, _, E1, hσ.mono st1, hs1, st.trans st1, hE, h.2, fun lvs s2 vs H2 h st2 hs2 rs => u x vs s2 H2 lx lvs Q0 Q hs2 (rx.mono st2) rs h fun lv s3 v H3 q st3 => k lv s3 v H3 q ((st1.trans st2).trans st3)⟩⟩
theorem le_bml0 (slot : Slot "list" name id) (hty : typeOf (.builtin id) = pure (.type "method_descriptor")) (hm : MtR X id r) (u : UpM X.K r rl) (ho : LE X o to)
    (hbase : attributeBase o name X.env (eval o X.env) = eval o X.env := by rfl) (hline : (apos.endLine == cpos.line) = true := by rfl) :
    LE X (.Call (.Attribute o name apos) [] [] cpos) (lBML rl to lNil) := fun s0 H0 E tk => (pe_bm0 PySem.F.plainAttrs_list slot hty hm (ho s0 H0 E tk) hbase hline).imp fun σ H Q ⟨σl, s, Q0, E1, hσ, hs, st, hE, h, k⟩ =>
  ⟨σl, s, _, E1, hσ, hs, st, hE, h, fun lx s1 x H1 h st1 hs1 rx => ⟨isSeq_ty hs1 rx h.1, u x [] s1 H1 lx [] Q0 Q hs1 rx .nil h.2 fun lv s3 v H3 q st3 => k lv s3 v H3 q (st1.trans st3)⟩⟩
/-- the list in the store at a -/
def atL (x : LV) (s : LS) (k : Addr → List LV → Prop) : Prop := match x with
  | .ref a => (match s a with
    | some (.lst xs) => k a xs
    | _ => False)
  | _ => False
theorem atL_ok {x : LV} {s : LS} {k : Addr → List LV → Prop} (h : atL x s k) : ∃ a xs, x = .ref a ∧ s a = some (.lst xs) ∧ k a xs := by
  cases x with
  | ref a =>
    simp only [atL] at h
    split at h
    · next xs e => exact ⟨a, xs, rfl, e, h⟩
    · exact h.elim
  | _ => exact h.elim
def rAppL : LRm := fun x vs s Q => one1 vs fun y => atL x s fun a xs => xs.length < 16777216 ∧ Q .non (put s a (.lst (xs ++ [y])))
theorem up_app : UpM K rAppend rAppL := fun x vs s H lx lvs Q0 Q hs rx rs h k => by
  obtain ⟨y, rfl, h⟩ := one1_ok h
  obtain ⟨a, xs, rfl, e, hl, h⟩ := atL_ok h
  obtain ⟨v, rfl, r1⟩ := rs.one
  obtain ⟨us, hh, q⟩ := hs.lst e
  have nn : s a ≠ none ∨ H a = none := .inl (by rw [e]; simp)
  exact ⟨a, us, v, rx.ref', rfl, hh, by rw [q.length, sizeLine_eq]; exact hl, k _ _ _ _ h (.put nn) (hs.put nn ⟨_, upd_same, (q.append (.cons r1 .nil)).mono (.put nn)⟩) .non⟩
theorem le_append (ho : LE X o to) (ha : LA X (e :: es) tas)
    (hbase : attributeBase o "append" X.env (eval o X.env) = eval o X.env := by rfl)
    (hfew : ((backTo cpos (starEach (e :: es) X.env)).all (fun x => !x.1) && (backToKw cpos (keywordEach [] X.env)).all (fun x => x.1.isSome)
      && decide ((e :: es).length + ([] : List Keyword).length + (if ([] : List Keyword).isEmpty then 0 else 1) < 30)) = true := by rfl)
    (hline : (apos.endLine == cpos.line) = true := by rfl) (hs : starEach (e :: es) X.env = (false, eval e X.env) :: starEach es X.env := by rfl) (hplain : (backTo cpos (starEach es X.env)).any (·.1) = false := by rfl) :
    LE X (.Call (.Attribute o "append" apos) (e :: es) [] cpos) (lBML rAppL to tas) := le_bml PySem.F.slot_list_append PySem.F.type_list_append mt_append up_app ho ha hbase hfew hline hs hplain
def rClrL : LRm := fun x vs s Q => vs = [] ∧ atL x s fun a xs => Q .non (put s a (.lst []))
theorem up_clear : UpM K rClear rClrL := fun x vs s H lx lvs Q0 Q hs rx rs ⟨h0, h⟩ k => by
  subst h0
  obtain ⟨a, xs, rfl, e, h⟩ := atL_ok h
  simp only [RVs] at rs
  obtain ⟨us, hh, q⟩ := hs.lst e
  have nn : s a ≠ none ∨ H a = none := .inl (by rw [e]; simp)
  exact ⟨a, us, rx.ref', rs, hh, k _ _ _ _ h (.put nn) (hs.put nn ⟨_, upd_same, .nil⟩) .non⟩
theorem le_clear (ho : LE X o to) (hbase : attributeBase o "clear" X.env (eval o X.env) = eval o X.env := by rfl) (hline : (apos.endLine == cpos.line) = true := by rfl) :
    LE X (.Call (.Attribute o "clear" apos) [] [] cpos) (lBML rClrL to lNil) := le_bml0 PySem.F.slot_list_clear PySem.F.type_list_clear mt_clear up_clear ho hbase hline
def rPopL : LRm := fun x vs s Q => vs = [] ∧ atL x s fun a xs => opt (xs[xs.length - 1]?) fun y => Q y (put s a (.lst xs.dropLast))
theorem RVs.dropLast {xs : List LV} {us : List V} (h : RVs K s H xs us) : RVs K s H xs.dropLast us.dropLast := by
  rw [List.dropLast_eq_take, List.dropLast_eq_take, h.length]
  exact h.take _
theorem up_pop : UpM K rPop rPopL := fun x vs s H lx lvs Q0 Q hs rx rs ⟨h0, h⟩ k => by
  subst h0
  obtain ⟨a, xs, rfl, e, h⟩ := atL_ok h
  obtain ⟨y, ey, h⟩ := opt_ok h
  simp only [RVs] at rs
  obtain ⟨us, hh, q⟩ := hs.lst e
  obtain ⟨u, eu, ru⟩ := q.get ey
  have nn : s a ≠ none ∨ H a = none := .inl (by rw [e]; simp)
  exact ⟨a, us, u, rx.ref', rs, hh, by rw [q.length]; exact eu, k _ _ _ _ h (.put nn) (hs.put nn ⟨_, upd_same, q.dropLast.mono (.put nn)⟩) (ru.mono (.put nn))⟩
theorem le_pop (ho : LE X o to) (hbase : attributeBase o "pop" X.env (eval o X.env) = eval o X.env := by rfl) (hline : (apos.endLine == cpos.line) = true := by rfl) :
    LE X (.Call (.Attribute o "pop" apos) [] [] cpos) (lBML rPopL to lNil) := le_bml0 PySem.F.slot_list_pop PySem.F.type_list_pop mt_pop up_pop ho hbase hline
def rExtL : LRm := fun x vs s Q => one1 vs fun y => opt (seqL y s) fun ys => atL x s fun a xs => xs.length + ys.length ≤ 16777216 ∧ Q .non (put s a (.lst (xs ++ ys)))
theorem up_ext : UpM K rExtend rExtL := fun x vs s H lx lvs Q0 Q hs rx rs h k => by
  obtain ⟨y, rfl, h⟩ := one1_ok h
  obtain ⟨ys, e2, h⟩ := opt_ok h
  obtain ⟨a, xs, rfl, e, hl, h⟩ := atL_ok h
  obtain ⟨v, rfl, r1⟩ := rs.one
  obtain ⟨us, hh, q⟩ := hs.lst e
  obtain ⟨b, ws, rfl, hh2, q2⟩ := seqL_ok hs r1 e2
  have nn : s a ≠ none ∨ H a = none := .inl (by rw [e]; simp)
  exact ⟨a, b, us, ws, rx.ref', rfl, hh, hh2, by rw [q.length, q2.length, sizeLine_eq]; exact hl, k _ _ _ _ h (.put nn) (hs.put nn ⟨_, upd_same, (q.append q2).mono (.put nn)⟩) .non⟩
theorem le_extend (ho : LE X o to) (ha : LA X (e :: es) tas)
    (hbase : attributeBase o "extend" X.env (eval o X.env) = eval o X.env := by rfl)
    (hfew : ((backTo cpos (starEach (e :: es) X.env)).all (fun x => !x.1) && (backToKw cpos (keywordEach [] X.env)).all (fun x => x.1.isSome)
      && decide ((e :: es).length + ([] : List Keyword).length + (if ([] : List Keyword).isEmpty then 0 else 1) < 30)) = true := by rfl)
    (hline : (apos.endLine == cpos.line) = true := by rfl) (hs : starEach (e :: es) X.env = (false, eval e X.env) :: starEach es X.env := by rfl) (hplain : (backTo cpos (starEach es X.env)).any (·.1) = false := by rfl) :
    LE X (.Call (.Attribute o "extend" apos) (e :: es) [] cpos) (lBML rExtL to tas) := le_bml PySem.F.slot_list_extend PySem.F.type_list_extend mt_extend up_ext ho ha hbase hfew hline hs hplain
end
end L3

namespace L3
open PySem PySem.Spec L2
section
variable {X : Cx} [GG X.K] {K : PySem.W.Frag} [GG K] {s : LS} {H : Hp} {a b e o i : Expr} {es : List Expr} {pos : Pos} {ta tb te to ti : LTE} {tas : LTA}
variable {x : Str} {p : Pos}
theorem set_dict (hu : X.A.units + 1 < cLine) : PSet X (fun o i v H Q => ∃ a H', o = .ref a ∧ DPut H a i v H' ∧ Q H') := by
  intro pins s σ H o i v ov iv u Q I ro ri rv h
  obtain ⟨a, H', rfl, g, q⟩ := h
  cases ro
  exact d_setItem hu I g ri rv fun s' I' => ⟨H', I', q⟩
theorem PSet.or {t t' : TSet} (h : PSet X t) (h' : PSet X t') : PSet X (fun o i v H Q => t o i v H Q ∨ t' o i v H Q) := by
  intro pins s σ H o i v ov iv u Q I ro ri rv q
  rcases q with q | q
  · exact h pins s σ H o i v ov iv u Q I ro ri rv q
  · exact h' pins s σ H o i v ov iv u Q I ro ri rv q
def rSetL (x y v : LV) (s : LS) (Q : LS → Prop) : Prop := match x with
  | .ref a => (match s a, y with
    | some (.lst xs), .int k => opt (ixN xs.length k) fun j => Q (put s a (.lst (xs.set j v)))
    | some (.dK kvs), .int k => kvs.length < 16777216 ∧ Q (put s a (.dK (putD kvs (.inl k) v)))
    | some (.dK kvs), .str k => kvs.length < 16777216 ∧ Q (put s a (.dK (putD kvs (.inr k) v)))
    | some (.dT kvs), .tup ks => opt (keysL ks) fun k => kvs.length < 16777216 ∧ Q (put s a (.dT (putD kvs k v)))
    | _, _ => False)
  | _ => False
theorem RVd.any : ∀ {kvs : List (Key × LV)} {us : List (Key × V)} (k : Key), RVd K s H kvs us → (us.any fun p => decide (p.1 = k)) = (kvs.any fun p => decide (p.1 = k))
  | [], _, _, h => by cases h; rfl
  | (j, y) :: kvs, _, k, h => by
    obtain ⟨u, r, rfl, _, h2⟩ := h
    simp only [List.any_cons, RVd.any k h2]
theorem RVd.map : ∀ {kvs : List (Key × LV)} {us : List (Key × V)} (k : Key) {x : LV} {v : V}, RVd K s H kvs us → RV K s H x v → RVd K s H (kvs.map fun p => if p.1 = k then (p.1, x) else p) (us.map fun p => if p.1 = k then (p.1, v) else p)
  | [], _, _, _, _, h, _ => by cases h; rfl
  | (j, y) :: kvs, _, k, x, v, h, g => by
    obtain ⟨u, r, rfl, h1, h2⟩ := h
    simp only [List.map_cons]
    by_cases e : j = k
    · simp only [if_pos e]; exact ⟨v, _, rfl, g, RVd.map k h2 g⟩
    · simp only [if_neg e]; exact ⟨u, _, rfl, h1, RVd.map k h2 g⟩
theorem RVd.snoc : ∀ {kvs : List (Key × LV)} {us : List (Key × V)} (k : Key) {x : LV} {v : V}, RVd K s H kvs us → RV K s H x v → RVd K s H (kvs ++ [(k, x)]) (us ++ [(k, v)])
  | [], _, _, _, v, h, g => by cases h; exact ⟨v, [], rfl, g, rfl⟩
  | (j, y) :: kvs, _, k, x, v, h, g => by
    obtain ⟨u, r, rfl, h1, h2⟩ := h
    exact ⟨u, _, rfl, h1, RVd.snoc k h2 g⟩
theorem RVd.put {kvs : List (Key × LV)} {us : List (Key × V)} (k : Key) {x : LV} {v : V} (h : RVd K s H kvs us) (g : RV K s H x v) : RVd K s H (putD kvs k x) (putK us k v) := by
  unfold putD putK
  rw [h.any k]
  split
  · exact h.map k g
  · exact h.snoc k g
theorem RVk.any : ∀ {kvs : List (List Key × LV)} {us : List (List Key × V)} (k : List Key), RVk K s H kvs us → (us.any fun p => decide (p.1 = k)) = (kvs.any fun p => decide (p.1 = k))
  | [], _, _, h => by simp only [RVk] at h; subst h; rfl
  | (j, y) :: kvs, _, k, h => by
    simp only [RVk] at h
    obtain ⟨u, r, rfl, _, h2⟩ := h
    simp only [List.any_cons, RVk.any k h2]
theorem RVk.map : ∀ {kvs : List (List Key × LV)} {us : List (List Key × V)} (k : List Key) {x : LV} {v : V}, RVk K s H kvs us → RV K s H x v → RVk K s H (kvs.map fun p => if p.1 = k then (p.1, x) else p) (us.map fun p => if p.1 = k then (p.1, v) else p)
  | [], _, _, _, _, h, _ => by simp only [RVk] at h; subst h; simp only [List.map_nil, RVk]
  | (j, y) :: kvs, _, k, x, v, h, g => by
    simp only [RVk] at h
    obtain ⟨u, r, rfl, h1, h2⟩ := h
    simp only [List.map_cons]
    by_cases e : j = k
    · simp only [if_pos e, RVk]; exact ⟨v, _, rfl, g, RVk.map k h2 g⟩
    · simp only [if_neg e, RVk]; exact ⟨u, _, rfl, h1, RVk.map k h2 g⟩
theorem RVk.snoc : ∀ {kvs : List (List Key × LV)} {us : List (List Key × V)} (k : List Key) {x : LV} {v : V}, RVk K s H kvs us → RV K s H x v → RVk K s H (kvs ++ [(k, x)]) (us ++ [(k, v)])
  | [], _, _, _, v, h, g => by simp only [RVk] at h; subst h; simp only [List.nil_append, RVk]; exact ⟨v, [], rfl, g, rfl⟩
  | (j, y) :: kvs, _, k, x, v, h, g => by
    simp only [RVk] at h
    obtain ⟨u, r, rfl, h1, h2⟩ := h
    simp only [List.cons_append, RVk]
    exact ⟨u, _, rfl, h1, RVk.snoc k h2 g⟩
theorem RVk.put {kvs : List (List Key × LV)} {us : List (List Key × V)} (k : List Key) {x : LV} {v : V} (h : RVk K s H kvs us) (g : RV K s H x v) : RVk K s H (putD kvs k x) (putK us k v) := by
  unfold putD putK
  rw [h.any k]
  split
  · exact h.map k g
  · exact h.snoc k g
theorem up_set {x y v : V} {lx ly lv : LV} {Q0 : LS → Prop} {Q : Hp → Prop} (hs : RelS K s H) (rx : RV K s H lx x) (ry : RV K s H ly y) (rv : RV K s H lv v) (h : rSetL lx ly lv s Q0) (k : ∀ s' H', Q0 s' → Step s H s' H' → RelS K s' H' → Q H') :
    L2.rSetL x y v H Q ∨ ∃ a H', x = .ref a ∧ DPut H a y v H' ∧ Q H' := by
  cases lx with
  | ref a =>
    simp only [rSetL] at h
    split at h
    · next xs n e =>
      obtain ⟨j, ej, h⟩ := opt_ok h
      obtain ⟨us, hh, q⟩ := hs.lst e
      have nn : s a ≠ none ∨ H a = none := .inl (by rw [e]; simp)
      exact .inl ⟨a, us, n, j, rx.ref', ry.int', hh, by rw [q.length]; exact ej, k _ _ h (.put nn) (hs.put nn ⟨_, upd_same, (q.set j rv).mono (.put nn)⟩)⟩
    · next kvs n e =>
      obtain ⟨us, hh, q⟩ := hs a _ e
      have nn : s a ≠ none ∨ H a = none := .inl (by rw [e]; simp)
      refine .inr ⟨a, _, rx.ref', ?_, k _ _ h.2 (.put nn) (hs.put nn ⟨_, upd_same, (q.put (.inl n) rv).mono (.put nn)⟩)⟩
      rw [ry.int']
      exact DPut.k (k := .inl n) hh (by rw [q.length, sizeLine_eq]; exact h.1)
    · next kvs n e =>
      obtain ⟨us, hh, q⟩ := hs a _ e
      have nn : s a ≠ none ∨ H a = none := .inl (by rw [e]; simp)
      refine .inr ⟨a, _, rx.ref', ?_, k _ _ h.2 (.put nn) (hs.put nn ⟨_, upd_same, (q.put (.inr n) rv).mono (.put nn)⟩)⟩
      rw [ry.str']
      exact DPut.k (k := .inr n) hh (by rw [q.length, sizeLine_eq]; exact h.1)
    · next kvs ks e =>
      obtain ⟨kk, ek, hl, h⟩ := opt_ok h
      obtain ⟨us, hh, q⟩ := hs a _ e
      have nn : s a ≠ none ∨ H a = none := .inl (by rw [e]; simp)
      simp only [RV] at ry
      obtain ⟨t, ts, rfl, _, ht, rt⟩ := ry
      rw [keysL_ok ek rt] at ht
      exact .inr ⟨a, _, rx.ref', DPut.t hh ht (by rw [q.length, sizeLine_eq]; exact hl), k _ _ h (.put nn) (hs.put nn ⟨_, upd_same, (q.put kk rv).mono (.put nn)⟩)⟩
    · exact h.elim
  | _ => exact False.elim h
def lgSub (to ti : LTE) : LTG := fun v σ s Q E => to σ s (fun o s1 => ti σ s1 (fun i s2 => rSetL o i v s2 fun s3 => Q σ s3) E) E
theorem lg_sub (hu : X.A.units + 1 < cLine) (ho : LE X o to) (hi : LE X i ti) (ha : ∀ v, assign (.Subscript o i pos) X.env v = (do
      let ov ← holding [v] (eval o X.env)
      let iv ← holding [v, ov] (eval i X.env)
      standAt pos
      holding [v, ov, iv] (setItem ov iv v)
      release [v, ov, iv] []) := by intro _; rfl) : LG X (.Subscript o i pos) (lgSub to ti) := fun s0 H0 E tk =>
  (pg_sub (ho s0 H0 E tk) (hi s0 H0 E tk) (PSet.or set_list (set_dict hu)) ha).imp fun v σ H Q ⟨lv, σl, s, Q0, E1, hσ, hs, st, rv, hE, h, k⟩ => ⟨σl, s, _, E1, hσ, hs, st, hE, h, fun lx s1 x H1 h st1 hs1 rx =>
    ⟨σl, s1, _, E1, hσ.mono st1, hs1, st.trans st1, hE, h, fun ly s2 y H2 h st2 hs2 ry => up_set hs2 (rx.mono st2) ry (rv.mono (st1.trans st2)) h fun s3 H3 q st3 hs3 =>
      k _ _ _ _ q ((st1.trans st2).trans st3) hs3 (hσ.mono ((st1.trans st2).trans st3))⟩⟩

def lPairs (P : Addr) : List (Str × LTE) → LSt → LS → (List (Key × LV) → LS → Prop) → LX → Prop
  | [], _, s, Q, _ => Q [] s
  | (k, t) :: r, σ, s, Q, E => t σ s (fun v s1 => lPairs P r σ s1 (fun ps s2 => Q ((.inr k, v) :: ps) s2) E) E
/-- pairs with written texts as keys -/
structure LPP (X : Cx) [GG X.K] (pos : Pos) (keys : List (Option Expr)) (values : List Expr) (trs : List (Str × LTE)) : Prop where
  run : ∀ s0 H0 E, Takes X (WL X.K s0 H0 E) → PPs X pos keys values (trs.map fun p => (tC (.str p.1), up X.K s0 H0 E p.2))
theorem lpp_nil : LPP X pos [] [] [] := ⟨fun s0 H0 E tk => pps_nil⟩
theorem lpp_cons {z : Str} {j : Nat} {p2 : Pos} {ks : List (Option Expr)} {vs : List Expr} {trs : List (Str × LTE)} (hv : LE X e te) (hr : LPP X pos ks vs trs) : LPP X pos (some (.Constant (.str z) j p2) :: ks) (e :: vs) ((z, te) :: trs) :=
  ⟨fun s0 H0 E tk => pps_cons pe_str (hv s0 H0 E tk) (hr.run s0 H0 E tk)⟩
def lDisK (trs : List (Str × LTE)) : LTE := fun σ s Q E => ∀ p, s p = none → lPairs p trs σ (put s p (.dK [])) (fun kvs s2 => s2 p = some (.dK []) ∧ kvs.length ≤ 15 ∧ (kvs.map (·.1)).Nodup ∧ Q (.ref p) (put s2 p (.dK kvs))) E
theorem pairs_up {s0 : LS} {H0 : Hp} {E : LXS} {σ : St} {σl : LSt} {E1 : LX} {P : Addr} : ∀ {trs : List (Str × LTE)} {s : LS} {H : Hp} {Q0 : List (Key × LV) → LS → Prop} {Q : List (V × V) → Hp → Prop}, RSt K s H σl σ → RelS K s H → Step s0 H0 s H → (∀ C s', E1 C s' → E C σl s') →
    lPairs P trs σl s Q0 E1 → (∀ kvs s' us H', Q0 kvs s' → Step s H s' H' → RelS K s' H' → RVd K s' H' kvs us → Q (us.map fun p => (kV p.1, p.2)) H') → tPairs (trs.map fun p => (tC (.str p.1), up K s0 H0 E p.2)) σ H Q
  | [], s, H, Q0, Q, hσ, hs, st, hE, h, k => k _ _ [] _ h (.refl _ _) hs rfl
  | (z, t) :: r, s, H, Q0, Q, hσ, hs, st, hE, h, k => by
    refine ⟨σl, s, _, E1, hσ, hs, st, hE, h, fun lv s1 v H1 h st1 hs1 rv => ?_⟩
    exact pairs_up (trs := r) (hσ.mono st1) hs1 (st.trans st1) hE h fun kvs s2 us H2 q st2 hs2 r2 => k _ s2 ((.inr z, v) :: us) H2 q (st1.trans st2) hs2 ⟨v, us, rfl, rv.mono st2, r2⟩
theorem putK_snoc : ∀ {us : List (Key × V)} {k : Key} {v : V}, (∀ p ∈ us, p.1 ≠ k) → putK us k v = us ++ [(k, v)] := fun {us k v} h => by
  unfold putK
  rw [if_neg]
  intro e
  obtain ⟨p, hp, q⟩ := List.any_eq_true.mp e
  exact h p hp (of_decide_eq_true q)
theorem mergeK_app : ∀ (us acc : List (Key × V)), ((acc ++ us).map (·.1)).Nodup → mergeK acc us = acc ++ us
  | [], acc, _ => by simp [mergeK]
  | (k, v) :: us, acc, nd => by
    have e : mergeK acc ((k, v) :: us) = mergeK (putK acc k v) us := rfl
    rw [e, putK_snoc, mergeK_app us (acc ++ [(k, v)]) (by simpa using nd)]
    · simp
    · intro p hp z
      simp only [List.map_append, List.map_cons, List.nodup_append] at nd
      exact nd.2.2 p.1 (List.mem_map.mpr ⟨p, hp, rfl⟩) k (by simp) z
theorem mergeK_nd {us : List (Key × V)} (nd : (us.map (·.1)).Nodup) : mergeK [] us = us := by
  rw [mergeK_app us [] (by simpa using nd)]
  rfl
theorem RVd.keys : ∀ {kvs : List (Key × LV)} {us : List (Key × V)}, RVd K s H kvs us → us.map (·.1) = kvs.map (·.1)
  | [], _, h => by cases h; rfl
  | (j, y) :: kvs, _, h => by
    obtain ⟨u, r, rfl, _, h2⟩ := h
    simp [RVd.keys h2]
theorem le_disK {keys : List (Option Expr)} {values : List Expr} {trs : List (Str × LTE)} (h : LPP X pos keys values trs) (hall : keys.all (·.isSome) = true) (hl : keys.length = values.length) (h0 : keys ≠ []) (h15 : keys.length ≤ 15) :
    LE X (.Dict keys values pos) (lDisK trs) := fun s0 H0 E tk => (pe_disp (h.run s0 H0 E tk) hall hl h0 h15).imp fun σ H Q ⟨σl, s, Q0, E1, hσ, hs, st, hE, h, k⟩ => fun p np => by
  have st1 : Step s H (put s p (.dK [])) (upd H p (.dK [])) := .put (.inr np)
  have hs1 : RelS X.K (put s p (.dK [])) (upd H p (.dK [])) := hs.put (.inr np) ⟨[], upd_same, rfl⟩
  refine pairs_up (hσ.mono st1) hs1 (st.trans st1) hE (h p (hs.free np)) fun kvs s2 us H2 q st2 hs2 r2 => ?_
  obtain ⟨e, hl2, nd, q⟩ := q
  obtain ⟨ws, hh, r0⟩ := hs2 p _ e
  cases r0
  have nn : s2 p ≠ none ∨ H2 p = none := .inl (by rw [e]; simp)
  refine ⟨hh, us, rfl, ?_, ?_⟩
  · rw [r2.length]; exact hl2
  · rw [mergeK_nd (by rw [r2.keys]; exact nd)]
    exact k _ _ _ _ q ((st1.trans st2).trans (.put nn)) (hs2.put nn ⟨us, upd_same, r2.mono (.put nn)⟩) .ref
end
end L3

namespace L3
open PySem PySem.Spec L2
section
variable {X : Cx} [GG X.K] {K : PySem.W.Frag} [GG K] {s : LS} {H : Hp} {a b e o i : Expr} {es : List Expr} {pos : Pos} {ta tb te to ti : LTE} {tas : LTA} {tg : Expr}
variable {x : Str} {p : Pos}
/-- a list, a tuple, the script: its items; a list in the store stands still -/
def iSeq (te : LTE) : LTI := fun σ s Q E => te σ s (fun x s1 => match x with
  | .ref a => (match s1 a with
    | some (.lst xs) => Q xs (fun s2 => s2 a = some (.lst xs)) s1
    | _ => False)
  | _ => opt (seqR x s1) fun xs => Q xs (fun _ => True) s1) E
def iTupl (te : LTE) : LTI := fun σ s Q E => te σ s (fun x s1 => match x with
  | .tup xs => Q xs (fun _ => True) s1
  | _ => False) E
theorem it_list {J : Addr} {xs : List LV} {stb : LS → Prop} {s1 : LS} {H1 : Hp} (h : ∀ s H, Step s1 H1 s H → RelS K s H → stb s → ∃ us, SqL K H J us ∧ RVs K s H xs us) : ItR K (Itl K J) xs stb s1 H1 where
  go := fun i s H hi st hs b => by
    obtain ⟨us, q, r⟩ := h s H st hs b
    exact ⟨us, us[i]'(by rw [r.length]; exact hi), q, by simp⟩
  stop := fun s H st hs b => by
    obtain ⟨us, q, r⟩ := h s H st hs b
    exact ⟨us, q, by rw [r.length]; exact Nat.le_refl _⟩
  yld := fun i s H x H' hi st hs b y => by
    obtain ⟨us, q, r⟩ := h s H st hs b
    obtain ⟨rfl, y⟩ := y
    obtain ⟨lx, e1, e2⟩ := r.get' (y us q)
    exact ⟨lx, e1, e2, .refl _ _, hs⟩
theorem li_seq (he : LE X e te) : LI X tg e (iSeq te) := fun s0 H0 E tk => (pi_list (he s0 H0 E tk)).imp fun σ H R ⟨σl, s, Q0, E1, hσ, hs, st, hE, h, k⟩ => ⟨σl, s, _, E1, hσ, hs, st, hE, h, fun lx s1 x H1 h st1 hs1 rx => by
  have frozen : opt (seqR lx s1) (fun xs => Q0 xs (fun _ => True) s1) → (∀ s2 xs, seqR lx s1 = some xs → seqR lx s2 = some xs) → ∃ a, x = .ref a ∧ (∃ xs, SqL X.K H1 a xs) ∧ R (Itl X.K a) H1 := fun h same => by
    obtain ⟨xs, e, h⟩ := opt_ok h
    obtain ⟨a, us, rfl, hh, r⟩ := seqR_ok hs1 rx e
    exact ⟨a, rfl, ⟨us, hh⟩, k _ _ _ _ _ h st1 hs1 (it_list fun s2 H2 st2 hs2 _ => by
      obtain ⟨a', us', ea, hh', r'⟩ := seqR_ok hs2 (rx.mono st2) (same s2 xs e)
      cases ea
      exact ⟨us', hh', r'⟩)⟩
  cases lx with
  | ref a =>
    simp only at h
    split at h
    · next xs e =>
      obtain ⟨us, hh, r⟩ := hs1.lst e
      exact ⟨a, rx.ref', ⟨us, SqL.of hh⟩, k _ _ _ _ _ h st1 hs1 (it_list fun s2 H2 st2 hs2 b => by
        obtain ⟨us2, hh2, r2⟩ := hs2.lst b
        exact ⟨us2, SqL.of hh2, r2⟩)⟩
    · exact h.elim
  | lst xs => exact frozen h fun _ _ e => e
  | scr xs => exact frozen h fun _ _ e => e
  | _ => exact False.elim h⟩
theorem li_tup (he : LE X e te) : LI X tg e (iTupl te) := fun s0 H0 E tk => (pi_tup (he s0 H0 E tk)).imp fun σ H R ⟨σl, s, Q0, E1, hσ, hs, st, hE, h, k⟩ => ⟨σl, s, _, E1, hσ, hs, st, hE, h, fun lx s1 x H1 h st1 hs1 rx => by
  cases lx with
  | tup xs =>
    have rx0 := rx
    simp only [RV] at rx
    obtain ⟨a, us, rfl, n, hh, r⟩ := rx
    refine ⟨a, rfl, ⟨us, SqT.of hh⟩, k _ _ _ _ _ h st1 hs1 ?_⟩
    have go : ∀ s2 H2, Step s1 H1 s2 H2 → H2 a = some (.tup us) ∧ RVs X.K s2 H2 xs us := fun s2 H2 st2 => by
      obtain ⟨⟨o', h', q⟩, _⟩ := st2 a _ hh n
      rw [q.tup] at h'
      exact ⟨h', r.mono st2⟩
    refine ⟨fun i s2 H2 hi st2 hs2 _ => ⟨us, us[i]'(by rw [r.length]; exact hi), SqT.of (go s2 H2 st2).1, by simp⟩, fun s2 H2 st2 hs2 _ => ⟨us, SqT.of (go s2 H2 st2).1, by rw [r.length]; exact Nat.le_refl _⟩, fun i s2 H2 y H3 hi st2 hs2 _ hy => ?_⟩
    obtain ⟨rfl, hy⟩ := hy
    obtain ⟨lx, e1, e2⟩ := (go s2 _ st2).2.get' (hy us (SqT.of (go s2 _ st2).1))
    exact ⟨lx, e1, e2, .refl _ _, hs2⟩
  | _ => exact False.elim h⟩
/-- range -/
theorem rgL_get {lo hi : Int} {i : Nat} (h : i < (hi - lo).toNat) : (rgL lo hi)[i]? = some (.int (lo + (i : Nat))) := by
  unfold rgL
  simp [h]
theorem rgL_len {lo hi : Int} : (rgL lo hi).length = (hi - lo).toNat := by unfold rgL; simp
theorem it_range {lo hi : Int} {s1 : LS} {H1 : Hp} : ItR K (Itr lo (hi - lo).toNat) (rgL lo hi) (fun _ => True) s1 H1 where
  go := fun i s H h _ _ _ => by rw [rgL_len] at h; exact h
  stop := fun s H _ _ _ => by rw [rgL_len]; exact Nat.le_refl _
  yld := fun i s H x H' h st hs _ y => by
    rw [rgL_len] at h
    obtain ⟨rfl, rfl⟩ := y
    exact ⟨_, rgL_get h, .int, .refl _ _, hs⟩
def isInt (x : LV) (k : Int → Prop) : Prop := match x with
  | .int i => k i
  | _ => False
theorem isInt_ok {x : LV} {k : Int → Prop} (h : isInt x k) : ∃ i, x = .int i ∧ k i := by
  cases x <;> first | exact ⟨_, rfl, h⟩ | exact h.elim
def two2 (vs : List LV) (k : LV → LV → Prop) : Prop := match vs with
  | [x, y] => k x y
  | _ => False
theorem two2_ok {vs : List LV} {k : LV → LV → Prop} (h : two2 vs k) : ∃ x y, vs = [x, y] ∧ k x y := by
  rcases vs with _ | ⟨x, _ | ⟨c, _ | ⟨d, l⟩⟩⟩
  · exact h.elim
  · exact h.elim
  · exact ⟨x, c, rfl, h⟩
  · exact h.elim
def iRg1 (ta : LTA) : LTI := fun σ s Q E => ta σ s (fun vs s1 => one1 vs fun x => isInt x fun j => -(2 ^ 62) ≤ j ∧ j < 2 ^ 62 ∧ Q (rgL 0 j) (fun _ => True) s1) E
def iRg2 (ta : LTA) : LTI := fun σ s Q E => ta σ s (fun vs s1 => two2 vs fun x y => isInt x fun i => isInt y fun j => (-(2 ^ 62) ≤ i ∧ i < 2 ^ 62 ∧ -(2 ^ 62) ≤ j ∧ j < 2 ^ 62) ∧ Q (rgL i j) (fun _ => True) s1) E
theorem li_range1 (hg : Gl X "range") (hm : X.mg "range" = none) (ha : LA X [a] tas) (hs : starEach [a] X.env = [(false, eval a X.env)] := by rfl) : LI X tg (.Call (.Name "range" p) [a] [] pos) (iRg1 tas) := fun s0 H0 E tk =>
  (pi_range1 hg hm (ha s0 H0 E tk) hs).imp fun σ H R ⟨σl, s, Q0, E1, hσ, hs, st, hE, h, k⟩ => ⟨σl, s, _, E1, hσ, hs, st, hE, h, fun lvs s1 vs H1 h st1 hs1 rs => by
    obtain ⟨lx, rfl, h⟩ := one1_ok h
    obtain ⟨j, rfl, h1, h2, h⟩ := isInt_ok h
    obtain ⟨v, rfl, r⟩ := rs.one
    exact ⟨j, by rw [r.int'], h1, h2, k _ _ _ _ _ h st1 hs1 (by have q := it_range (K := X.K) (lo := 0) (hi := j) (s1 := s1) (H1 := H1); rw [Int.sub_zero] at q; exact q)⟩⟩
theorem li_range2 (hg : Gl X "range") (hm : X.mg "range" = none) (ha : LA X [a, b] tas) (hs : starEach [a, b] X.env = [(false, eval a X.env), (false, eval b X.env)] := by rfl) (hs2 : starEach [b] X.env = [(false, eval b X.env)] := by rfl) :
    LI X tg (.Call (.Name "range" p) [a, b] [] pos) (iRg2 tas) := fun s0 H0 E tk =>
  (pi_range2 hg hm (ha s0 H0 E tk) hs hs2).imp fun σ H R ⟨σl, s, Q0, E1, hσ, hs, st, hE, h, k⟩ => ⟨σl, s, _, E1, hσ, hs, st, hE, h, fun lvs s1 vs H1 h st1 hs1 rs => by
    obtain ⟨lx, ly, rfl, h⟩ := two2_ok h
    obtain ⟨i, rfl, h⟩ := isInt_ok h
    obtain ⟨j, rfl, hb, h⟩ := isInt_ok h
    obtain ⟨v, w, rfl, r1, r2⟩ := rs.two
    exact ⟨i, j, by rw [r1.int', r2.int'], hb, k _ _ _ _ _ h st1 hs1 it_range⟩⟩
/-- enumerate, zip: new pairs -/
theorem it_pairs {J : It} {xs ys : List LV} {n : Nat} {stb : LS → Prop} {s1 : LS} {H1 : Hp} (hn : n = min xs.length ys.length)
    (hg : ∀ i s H, i < n → Step s1 H1 s H → RelS K s H → stb s → J.go i H) (hst : ∀ s H, Step s1 H1 s H → RelS K s H → stb s → J.stop n H)
    (hy : ∀ i s H v H', i < n → Step s1 H1 s H → RelS K s H → stb s → J.yld i H v H' → ∃ T x y lx ly, v = .ref T ∧ H T = none ∧ H' = upd H T (.tup [x, y]) ∧ xs[i]? = some lx ∧ ys[i]? = some ly ∧ RV K s H lx x ∧ RV K s H ly y) :
    ItR K J ((xs.zip ys).map fun p => .tup [p.1, p.2]) stb s1 H1 := by
  have hl : ((xs.zip ys).map fun p => LV.tup [p.1, p.2]).length = n := by rw [List.length_map, List.length_zip, hn]
  refine ⟨fun i s H h => hg i s H (by omega), fun s H => by rw [hl]; exact hst s H, fun i s H x H' h st hs b y => ?_⟩
  obtain ⟨T, x, y, lx, ly, rfl, nT, rfl, e1, e2, r1, r2⟩ := hy i s H x H' (by omega) st hs b y
  refine ⟨.tup [lx, ly], ?_, RVs.tupAt hs nT (.cons r1 (.cons r2 .nil)), .new hs nT, hs.new nT⟩
  rw [List.getElem?_map, List.getElem?_zip_eq_some (z := (lx, ly)) |>.mpr ⟨e1, e2⟩]
  rfl
def stbOf (x : LV) (xs : List LV) : LS → Prop := match x with
  | .ref a => fun s => s a = some (.lst xs)
  | _ => fun _ => True
theorem seq_later {lx : LV} {xs : List LV} {s1 s2 : LS} {H1 H2 : Hp} {v : V} (rx : RV K s1 H1 lx v) (hs1 : RelS K s1 H1) (e : seqR lx s1 = some xs) (st : Step s1 H1 s2 H2) (hs2 : RelS K s2 H2) (b : stbOf lx xs s2) :
    ∃ a us, v = .ref a ∧ SqL K H2 a us ∧ RVs K s2 H2 xs us := by
  cases lx with
  | ref a =>
    obtain ⟨us, hh, r⟩ := hs2.lst b
    exact ⟨a, us, rx.ref', SqL.of hh, r⟩
  | lst ys => exact seqR_ok hs2 (rx.mono st) e
  | scr ys => exact seqR_ok hs2 (rx.mono st) e
  | _ => cases e
def iEnumL (ta : LTA) : LTI := fun σ s Q E => ta σ s (fun vs s1 => one1 vs fun x => opt (seqR x s1) fun xs => Q ((rgL 0 xs.length).zip xs |>.map fun p => .tup [p.1, p.2]) (stbOf x xs) s1) E
def iZipL (ta : LTA) : LTI := fun σ s Q E => ta σ s (fun vs s1 => two2 vs fun x y => opt (seqR x s1) fun xs => opt (seqR y s1) fun ys => Q ((xs.zip ys).map fun p => .tup [p.1, p.2]) (fun s2 => stbOf x xs s2 ∧ stbOf y ys s2) s1) E
theorem li_enum {elts : List Expr} {kk : Nat} {tpos : Pos} (hg : Gl X "enumerate") (hm : X.mg "enumerate" = none) (ha : LA X [a] tas) (hs : starEach [a] X.env = [(false, eval a X.env)] := by rfl) :
    LI X (.Tuple elts kk tpos) (.Call (.Name "enumerate" p) [a] [] pos) (iEnumL tas) := fun s0 H0 E tk =>
  (pi_enum hg hm (ha s0 H0 E tk) hs).imp fun σ H R ⟨σl, s, Q0, E1, hσ, hs, st, hE, h, k⟩ => ⟨σl, s, _, E1, hσ, hs, st, hE, h, fun lvs s1 vs H1 h st1 hs1 rs => by
    obtain ⟨lx, rfl, h⟩ := one1_ok h
    obtain ⟨xs, e, h⟩ := opt_ok h
    obtain ⟨v, rfl, rx⟩ := rs.one
    obtain ⟨q, us, rfl, hh, r⟩ := seqR_ok hs1 rx e
    refine ⟨q, us, rfl, hh, k _ _ _ _ _ h st1 hs1 (it_pairs (n := xs.length) (by rw [rgL_len]; omega) (fun i s2 H2 hi st2 hs2 b => ?_) (fun s2 H2 st2 hs2 b => ?_) fun i s2 H2 v H' hi st2 hs2 b y => ?_)⟩
    · obtain ⟨q', us', eq, hh', r'⟩ := seq_later rx hs1 e st2 hs2 b
      cases eq
      exact ⟨us', us'[i]'(by rw [r'.length]; exact hi), hh', by simp⟩
    · obtain ⟨q', us', eq, hh', r'⟩ := seq_later rx hs1 e st2 hs2 b
      cases eq
      exact ⟨us', hh', by rw [r'.length]; exact Nat.le_refl _⟩
    · obtain ⟨q', us', eq, hh', r'⟩ := seq_later rx hs1 e st2 hs2 b
      cases eq
      obtain ⟨T, x, rfl, nT, rfl, hx⟩ := y
      obtain ⟨lx, e1, e2⟩ := r'.get' (hx us' hh')
      exact ⟨T, .int (i : Nat), x, .int ((i : Nat) : Int), lx, rfl, nT, rfl, by rw [rgL_get (by omega), Int.zero_add], e1, .int, e2⟩⟩
theorem li_zip {elts : List Expr} {kk : Nat} {tpos : Pos} (hg : Gl X "zip") (hm : X.mg "zip" = none) (ha : LA X [a, b] tas) (hs : starEach [a, b] X.env = (false, eval a X.env) :: starEach [b] X.env := by rfl) (hpl : (backTo pos (starEach [b] X.env)).any (·.1) = false := by rfl) :
    LI X (.Tuple elts kk tpos) (.Call (.Name "zip" p) [a, b] [] pos) (iZipL tas) := fun s0 H0 E tk =>
  (pi_zip hg hm (ha s0 H0 E tk) hs hpl).imp fun σ H R ⟨σl, s, Q0, E1, hσ, hs, st, hE, h, k⟩ => ⟨σl, s, _, E1, hσ, hs, st, hE, h, fun lvs s1 vs H1 h st1 hs1 rs => by
    obtain ⟨lx, ly, rfl, h⟩ := two2_ok h
    obtain ⟨xs, e1, h⟩ := opt_ok h
    obtain ⟨ys, e2, h⟩ := opt_ok h
    obtain ⟨v, w, rfl, rx, ry⟩ := rs.two
    obtain ⟨q, us, rfl, hh, r⟩ := seqR_ok hs1 rx e1
    obtain ⟨q2, us2, rfl, hh2, r2⟩ := seqR_ok hs1 ry e2
    refine ⟨q, q2, us, us2, rfl, hh, hh2, k _ _ _ _ _ h st1 hs1 (it_pairs (n := min xs.length ys.length) rfl (fun i s2 H2 hi st2 hs2 b => ?_) (fun s2 H2 st2 hs2 b => ?_) fun i s2 H2 v H' hi st2 hs2 b y => ?_)⟩
    · obtain ⟨q', us', eq, hh', r'⟩ := seq_later rx hs1 e1 st2 hs2 b.1
      cases eq
      obtain ⟨q', us2', eq, hh2', r2'⟩ := seq_later ry hs1 e2 st2 hs2 b.2
      cases eq
      exact ⟨us', us2', us'[i]'(by rw [r'.length]; omega), us2'[i]'(by rw [r2'.length]; omega), hh', hh2', by simp, by simp⟩
    · obtain ⟨q', us', eq, hh', r'⟩ := seq_later rx hs1 e1 st2 hs2 b.1
      cases eq
      obtain ⟨q', us2', eq, hh2', r2'⟩ := seq_later ry hs1 e2 st2 hs2 b.2
      cases eq
      exact ⟨us', us2', hh', hh2', by rw [r'.length, r2'.length]; omega⟩
    · obtain ⟨q', us', eq, hh', r'⟩ := seq_later rx hs1 e1 st2 hs2 b.1
      cases eq
      obtain ⟨q', us2', eq, hh2', r2'⟩ := seq_later ry hs1 e2 st2 hs2 b.2
      cases eq
      obtain ⟨T, x, z, rfl, nT, rfl, hx, hz⟩ := y
      obtain ⟨lx, f1, f2⟩ := r'.get' (hx us' hh')
      obtain ⟨lz, g1, g2⟩ := r2'.get' (hz us2' hh2')
      exact ⟨T, x, z, lx, lz, rfl, nT, rfl, f1, g1, f2, g2⟩⟩

/-- targets of a comprehension: a name, names; the slots is are its own -/
inductive CTg : Type where
  | one (i : Nat)
  | many (is : List Nat)
def CTg.real (K : PySem.W.Frag) : CTg → TG
  | .one i => gName i
  | .many is => gTup K is.length (gNames is)
def CTg.lift : CTg → LTG
  | .one i => lgName i
  | .many is => lgTup is
def CTg.slots : CTg → List Nat
  | .one i => [i]
  | .many is => is
def lwipe (σ : LSt) : List Nat → LSt
  | [] => σ
  | v :: vs => (lwipe σ vs).set v none
theorem RSt.wipe {σl : LSt} {σ : St} (h : RSt K s H σl σ) : ∀ vs : List Nat, RSt K s H (lwipe σl vs) (L2.wipe σ vs)
  | [] => h
  | v :: vs => (RSt.wipe h vs).setN v none
theorem wipe_set {σ : St} {i : Nat} {v : Option V} : ∀ {vs : List Nat}, i ∈ vs → L2.wipe (σ.set i v) vs = L2.wipe σ vs
  | w :: vs, h => by
    simp only [L2.wipe]
    have com : ∀ (vs : List Nat), L2.wipe (σ.set i v) vs = (L2.wipe σ vs).set i v ∨ L2.wipe (σ.set i v) vs = L2.wipe σ vs := by
      intro vs
      induction vs with
      | nil => exact .inl rfl
      | cons w vs ih =>
        simp only [L2.wipe]
        rcases ih with ih | ih
        · rw [ih]
          by_cases e : i = w
          · subst e; right; rw [List.set_set]
          · left; rw [List.set_comm _ _ e]
        · right; rw [ih]
    rcases com vs with e | e
    · rw [e]
      by_cases q : i = w
      · subst q; rw [List.set_set]
      · rcases List.mem_cons.mp h with z | z
        · exact absurd z q
        · have := wipe_set (σ := σ) (v := v) z
          rw [← e, this]
    · rw [e]
theorem wipe_idem {σ : St} {vs : List Nat} : ∀ {ws : List Nat}, (∀ i ∈ ws, i ∈ vs) → L2.wipe (L2.wipe σ ws) vs = L2.wipe σ vs
  | [], _ => rfl
  | w :: ws, h => by
    show L2.wipe ((L2.wipe σ ws).set w none) vs = _
    rw [wipe_set (h w (by simp)), wipe_idem fun i hi => h i (by simp [hi])]
/-- a heap without what stands at an address -/
def cutH (H : Hp) (D : Addr) : Hp := fun b => if b = D then none else H b
theorem cutH_same {D : Addr} : cutH H D D = none := by unfold cutH; rw [if_pos rfl]
theorem cutH_ne {D b : Addr} (h : b ≠ D) : cutH H D b = H b := by unfold cutH; rw [if_neg h]
theorem cutH_upd {D : Addr} {u : HO} (h : H D = some u) : upd (cutH H D) D u = H := by
  funext b
  by_cases e : b = D
  · subst e; rw [upd_same, h]
  · rw [upd_ne e, cutH_ne e]
theorem cutH_step {D : Addr} {o : LO} (e : s D = some o) : Step s H (del s D) (cutH H D) := fun b u hb nb => by
  have ne : b ≠ D := by rintro rfl; rw [e] at nb; cases nb
  rw [cutH_ne ne]
  exact ⟨⟨u, hb, .refl u⟩, by unfold L3.del; rw [if_neg ne]; exact nb⟩
theorem cutH_rel {D : Addr} {o : LO} (hs : RelS K s H) (e : s D = some o) : RelS K (del s D) (cutH H D) := fun b v hb => by
  by_cases q : b = D
  · subst q; unfold L3.del at hb; rw [if_pos rfl] at hb; cases hb
  · unfold L3.del at hb
    rw [if_neg q] at hb
    exact (hs b v hb).mono (cutH_step e) fun u z => by rw [cutH_ne q]; exact z
theorem gNames_wipe {Q : St → Hp → Prop} {vs : List Nat} : ∀ {is : List Nat} {us : List V} {σ : St}, (∀ i ∈ is, i ∈ vs) → gNames is us σ H Q → gNames is us σ H (fun σ2 H2 => L2.wipe σ2 vs = L2.wipe σ vs ∧ Q σ2 H2)
  | [], _, _, _, ⟨e, q⟩ => ⟨e, rfl, q⟩
  | i :: is, _, σ, hm, ⟨v, r, e, q⟩ => by
    refine ⟨v, r, e, ?_⟩
    have z := gNames_wipe (is := is) (us := r) (σ := σ.set i (some v)) (vs := vs) (fun j hj => hm j (by simp [hj])) q
    rw [wipe_set (hm i (by simp))] at z
    exact z
theorem ctg_wipe {g : CTg} {v : V} {σ : St} {Q : St → Hp → Prop} {vs : List Nat} (hm : ∀ i ∈ g.slots, i ∈ vs) (h : g.real K v σ H Q) : g.real K v σ H (fun σ2 H2 => L2.wipe σ2 vs = L2.wipe σ vs ∧ Q σ2 H2) := by
  cases g with
  | one i => exact ⟨wipe_set (hm i (by simp [CTg.slots])), h⟩
  | many is =>
    obtain ⟨a, xs, e, h1, h2, h⟩ := h
    exact ⟨a, xs, e, h1, h2, gNames_wipe hm h⟩
/-- the target's reading -/
theorem ctg_up {g : CTg} {lv : LV} {v : V} {σl : LSt} {σ : St} {Q0 : LSt → LS → Prop} {Q : St → Hp → Prop} {E : LX} (hσ : RSt K s H σl σ) (hs : RelS K s H) (rv : RV K s H lv v) (h : g.lift lv σl s Q0 E) (k : ∀ σl' σ', Q0 σl' s → RSt K s H σl' σ' → Q σ' H) : g.real K v σ H Q := by
  cases g with
  | one i => exact k _ _ h (hσ.set i rv)
  | many is =>
    cases lv with
    | tup xs =>
      simp only [CTg.lift, lgTup] at h
      simp only [RV] at rv
      obtain ⟨a, us, rfl, n, hh, r⟩ := rv
      split at h
      · next σ' e => exact ⟨a, us, rfl, SqT.of hh, by rw [r.length, lSets_len e], gNames_ok hσ r e fun σ2 q => k _ _ h q⟩
      · exact h.elim
    | _ => exact False.elim h
def noX : LXS := fun _ _ _ => False
theorem takes_no {X : Cx} [GG X.K] {K : PySem.W.Frag} [GG K] {s0 : LS} {H0 : Hp} : Takes X (WL K s0 H0 noX) := fun u s' x => by
  obtain ⟨_, _, _, _, _, _, _, _, _, _, _, _, _, _, _, _, w⟩ := x
  obtain ⟨_, _, _, _, _, _, _, _, z⟩ := w
  exact z.elim
def lYes : LTT := fun _ s Q _ => Q true s
/-- the loop of a comprehension whose list stands at D -/
def lcLoop (D : Addr) (g : CTg) (tt : LTT) (te : LTE) (stb : LS → Prop) (σw : LSt) (Q : List LV → LS → Prop) : List LV → LS → Prop
  | [], s => stb s ∧ match s D with
    | some (.lst acc) => Q acc (del s D)
    | _ => False
  | x :: xs, s => stb s ∧ g.lift x σw s (fun σ2 s2 => tt σ2 s2 (fun b s3 => (b = true → te σ2 s3 (fun y s4 => match s4 D with
      | some (.lst acc) => acc.length < 16777216 ∧ lcLoop D g tt te stb σw Q xs (put s4 D (.lst (acc ++ [y])))
      | _ => False) fun _ _ => False) ∧ (b = false → lcLoop D g tt te stb σw Q xs s3)) fun _ _ => False) fun _ _ => False
def lLc (it : LTI) (g : CTg) (tt : LTT) (te : LTE) (vs : List Nat) : LTL := fun σ s Q E => it σ s (fun xs stb s1 => ∀ D, s1 D = none → lcLoop D g tt te stb (lwipe σ vs) Q xs (put s1 D (.lst []))) E
def LTs (X : Cx) [GG X.K] (ifs : List Expr) (t : LTT) : Prop := ∀ s0 H0 E, Takes X (WL X.K s0 H0 E) → PTs X ifs (upT X.K s0 H0 E t)
theorem lts_nil : LTs X [] lYes := fun s0 H0 E tk => ⟨fun pins si σ H Q I ⟨σl, s, Q0, E1, hσ, hs, st, hE, h, k⟩ => pts_nil.run pins si σ H Q I (k _ _ _ h (.refl _ _) hs)⟩
theorem lts_one {c : Expr} {t : LTT} (h : LT X c t) : LTs X [c] t := fun s0 H0 E tk => pts_one (h s0 H0 E tk)
theorem lcLoop_stb {D : Addr} {g : CTg} {tt : LTT} {te : LTE} {stb : LS → Prop} {σw : LSt} {Q : List LV → LS → Prop} : ∀ {xs : List LV} {s : LS}, lcLoop D g tt te stb σw Q xs s → stb s
  | [], _, h => h.1
  | _ :: _, _, h => h.1
theorem lc_imp {it : LTI} {g : CTg} {tt : LTT} {te : LTE} {own : List (Str × Nat)} {s0 : LS} {H0 : Hp} {E : LXS} (hm : ∀ i ∈ g.slots, i ∈ own.map (·.2)) : ∀ σ H Q, upL X.K s0 H0 E (lLc it g tt te (own.map (·.2))) σ H Q →
    tLc (upI X.K s0 H0 E it) (g.real X.K) (upT X.K s0 H0 noX tt) (up X.K s0 H0 noX te) (own.map (·.2)) σ H Q :=
  fun σ H Q ⟨σl, s, Q0, E1, hσ, hs, st, hE, h, k⟩ => by
    refine ⟨σl, s, _, E1, hσ, hs, st, hE, h, fun xs stb s1 H1 J h st1 hs1 itr => fun D nD => ?_⟩
    have hD := hs1.free nD
    have st2 : Step s1 H1 (put s1 D (.lst [])) (upd H1 D (.lst [])) := .put (.inr nD)
    have hs2 : RelS X.K (put s1 D (.lst [])) (upd H1 D (.lst [])) := hs1.put (.inr nD) ⟨[], upd_same, .nil⟩
    refine ⟨fun i m H' => ∃ s', RelS X.K s' H' ∧ Step s1 H1 s' H' ∧ m = xs.length - i ∧ i ≤ xs.length ∧ lcLoop D g tt te stb (lwipe σl (own.map (·.2))) Q0 (xs.drop i) s', ⟨xs.length, _, hs2, st2, by simp, Nat.zero_le _, h D hD⟩, ?_⟩
    rintro i m H3 ⟨s3, hs3, st3, rfl, hi, h3⟩
    have st13 := st1.trans st3
    by_cases hlt : i < xs.length
    · rw [List.drop_eq_getElem_cons hlt] at h3
      refine .inr ⟨itr.go i s3 H3 hlt st3 hs3 h3.1, fun H' => ∃ s', RelS X.K s' H' ∧ Step s1 H1 s' H' ∧ lcLoop D g tt te stb (lwipe σl (own.map (·.2))) Q0 (xs.drop (i + 1)) s', fun H' ⟨s', q1, q2, q3⟩ => ⟨xs.length - (i + 1), by omega, s', q1, q2, rfl, hlt, q3⟩, fun x H4 y => ?_⟩
      obtain ⟨lx, ex, rx, st4, hs4⟩ := itr.yld i s3 H3 x H4 hlt st3 hs3 h3.1 y
      rw [List.getElem?_eq_getElem hlt] at ex
      cases ex
      have st14 := st13.trans st4
      rw [← wipe_idem (σ := σ) (vs := own.map (·.2)) (ws := own.map (·.2)) fun i hi => hi]
      have wi : ∀ Q, g.real X.K x (L2.wipe σ (own.map (·.2))) H4 Q → g.real X.K x (L2.wipe (L2.wipe σ (own.map (·.2))) (own.map (·.2))) H4 Q := fun Q h => by rw [wipe_idem fun i hi => hi]; exact h
      refine wi _ (ctg_wipe hm (ctg_up ((hσ.mono st14).wipe _) hs4 rx h3.2 fun σl5 σ5 h5 hσ5 => ?_))
      refine ⟨σl5, s3, _, _, hσ5, hs4, (st.trans st14), fun C s' z => z, h5, fun b s6 H6 h6 st6 hs6 => ?_⟩
      have st46 := st4.trans st6
      cases b with
      | true =>
        refine iteT ⟨σl5, s6, _, _, hσ5.mono st6, hs6, (st.trans st14).trans st6, fun C s' z => z, h6.1 rfl, fun ly s7 y H7 h7 st7 hs7 ry => ?_⟩
        have st17 := (st3.trans st46).trans st7
        split at h7
        · next acc eD =>
          obtain ⟨us, hh, r⟩ := hs7.lst eD
          have nn : s7 D ≠ none ∨ H7 D = none := .inl (by rw [eD]; simp)
          exact ⟨us, hh, by rw [r.length, sizeLine_eq]; exact h7.1, put s7 D (.lst (acc ++ [ly])), hs7.put nn ⟨_, upd_same, (r.append (.cons ry .nil)).mono (.put nn)⟩, st17.trans (.put nn), h7.2⟩
        · exact h7.elim
      | false => exact iteF ⟨s6, hs6, st3.trans st46, h6.2 rfl⟩
    · have ei : i = xs.length := by omega
      subst ei
      rw [List.drop_length] at h3
      obtain ⟨b3, h3⟩ := h3
      refine .inl ⟨itr.stop s3 H3 st3 hs3 b3, ?_⟩
      split at h3
      · next acc eD =>
        obtain ⟨us, hh, r⟩ := hs3.lst eD
        have stc : Step s3 H3 (del s3 D) (cutH H3 D) := cutH_step eD
        have z := k acc (del s3 D) us (cutH H3 D) h3 (st13.trans stc) (cutH_rel hs3 eD) (r.mono stc) D cutH_same
        rw [cutH_upd hh] at z
        exact z
      · exact h3.elim
theorem ll_lc {elt iter : Expr} {ifs : List Expr} {scope : Scope} {own : List (Str × Nat)} {it : LTI} {g : CTg} {tt : LTT} {te : LTE} (hc : X.calm = true) (hN : X.N.Nodup) (hi : LI X tg iter it) (ok : BlkOk X.N X.env.scope scope own) (hm : ∀ i ∈ g.slots, i ∈ own.map (·.2))
    (hg : ∀ (s : Shared) (H : Hp) (C : Addr) (cl : List (Str × Addr)) (fp : List Addr), PG (X.blk s H scope (compEnvC scope cl C X.env) fp) tg (g.real X.K)) (ht : ∀ (s : Shared) (H : Hp) (C : Addr) (cl : List (Str × Addr)) (fp : List Addr), LTs (X.blk s H scope (compEnvC scope cl C X.env) fp) ifs tt)
    (he : ∀ (s : Shared) (H : Hp) (C : Addr) (cl : List (Str × Addr)) (fp : List Addr), LE (X.blk s H scope (compEnvC scope cl C X.env) fp) elt te) (hs : ∀ x, foldedSetIterable iter X.env x = pure x := by intro _; rfl) :
    LL X (.ListComp elt [⟨tg, iter, ifs, 0⟩] scope pos) (lLc it g tt te (own.map (·.2))) := fun s0 H0 E tk =>
  (pe_lc (g := g.real X.K) (tt := upT X.K s0 H0 noX tt) (te := up X.K s0 H0 noX te) hc hN (hi s0 H0 E tk) ok hg (fun s H C cl fp => ht s H C cl fp s0 H0 noX takes_no) (fun s H C cl fp => he s H C cl fp s0 H0 noX takes_no) hs).imp (lc_imp hm)
/-- name = [..] -/
theorem lp_setLcF {i : Nat} {y : Str} {py : Pos} {elt iter : Expr} {ifs : List Expr} {scope : Scope} {own : List (Str × Nat)} {spos : Pos} {it : LTI} {g : CTg} {tt : LTT} {te : LTE} (hc : X.calm = true) (hN : X.N.Nodup) (hy : X.N[i]? = some y) (hyl : X.env.scope.names.lookup y = some .local)
    (hi : LI X tg iter it) (ok : BlkOk X.N X.env.scope scope own) (hm : ∀ i ∈ g.slots, i ∈ own.map (·.2))
    (hg : ∀ (s : Shared) (H : Hp) (C : Addr) (cl : List (Str × Addr)) (fp : List Addr), PG (X.blk s H scope (compEnvC scope cl C X.env) fp) tg (g.real X.K)) (ht : ∀ (s : Shared) (H : Hp) (C : Addr) (cl : List (Str × Addr)) (fp : List Addr), LTs (X.blk s H scope (compEnvC scope cl C X.env) fp) ifs tt)
    (he : ∀ (s : Shared) (H : Hp) (C : Addr) (cl : List (Str × Addr)) (fp : List Addr), LE (X.blk s H scope (compEnvC scope cl C X.env) fp) elt te)
    (hsw : swapsWith (.ListComp elt [⟨tg, iter, ifs, 0⟩] scope pos) (some (.Name y py)) spos.line X.env = pure true) (hs : ∀ x, foldedSetIterable iter X.env x = pure x := by intro _; rfl) :
    LP X (.Assign [.Name y py] (.ListComp elt [⟨tg, iter, ifs, 0⟩] scope pos) spos) (lAsg (lFz (lLc it g tt te (own.map (·.2)))) (lgName i)) := fun s0 H0 E tk hp =>
  (ps_setLc (g := g.real X.K) (tt := upT X.K s0 H0 noX tt) (te := up X.K s0 H0 noX te) hc hN hy hyl hsw (hi s0 H0 E tk) ok hg (fun s H C cl fp => ht s H C cl fp s0 H0 noX takes_no) (fun s H C cl fp => he s H C cl fp s0 H0 noX takes_no) hs).imp fun D σ H ⟨σl, s, Dl, hσ, hs, st, h, d⟩ =>
    lc_imp hm σ H _ (fz_up ⟨σl, s, _, _, hσ, hs, st, fun C s' q => d.ex C σl s' q, h, fun lx s1 x H1 h st1 hs1 rx => d.nx _ _ _ _ h st1 hs1 ((hσ.mono st1).set i rx)⟩)
theorem lp_setLcN {i : Nat} {y : Str} {py : Pos} {elt iter : Expr} {ifs : List Expr} {scope : Scope} {own : List (Str × Nat)} {spos : Pos} {it : LTI} {g : CTg} {tt : LTT} {te : LTE} (hc : X.calm = true) (hN : X.N.Nodup) (hy : X.N[i]? = some y) (hyl : X.env.scope.names.lookup y = some .local)
    (hi : LI X tg iter it) (ok : BlkOk X.N X.env.scope scope own) (hm : ∀ i ∈ g.slots, i ∈ own.map (·.2))
    (hg : ∀ (s : Shared) (H : Hp) (C : Addr) (cl : List (Str × Addr)) (fp : List Addr), PG (X.blk s H scope (compEnvC scope cl C X.env) fp) tg (g.real X.K)) (ht : ∀ (s : Shared) (H : Hp) (C : Addr) (cl : List (Str × Addr)) (fp : List Addr), LTs (X.blk s H scope (compEnvC scope cl C X.env) fp) ifs tt)
    (he : ∀ (s : Shared) (H : Hp) (C : Addr) (cl : List (Str × Addr)) (fp : List Addr), LE (X.blk s H scope (compEnvC scope cl C X.env) fp) elt te)
    (hsw : swapsWith (.ListComp elt [⟨tg, iter, ifs, 0⟩] scope pos) (some (.Name y py)) spos.line X.env = pure true) (hs : ∀ x, foldedSetIterable iter X.env x = pure x := by intro _; rfl) :
    LP X (.Assign [.Name y py] (.ListComp elt [⟨tg, iter, ifs, 0⟩] scope pos) spos) (lAsg (lNew (lLc it g tt te (own.map (·.2)))) (lgName i)) := fun s0 H0 E tk hp =>
  (ps_setLc (g := g.real X.K) (tt := upT X.K s0 H0 noX tt) (te := up X.K s0 H0 noX te) hc hN hy hyl hsw (hi s0 H0 E tk) ok hg (fun s H C cl fp => ht s H C cl fp s0 H0 noX takes_no) (fun s H C cl fp => he s H C cl fp s0 H0 noX takes_no) hs).imp fun D σ H ⟨σl, s, Dl, hσ, hs, st, h, d⟩ =>
    lc_imp hm σ H _ (new_up ⟨σl, s, _, _, hσ, hs, st, fun C s' q => d.ex C σl s' q, h, fun lx s1 x H1 h st1 hs1 rx => d.nx _ _ _ _ h st1 hs1 ((hσ.mono st1).set i rx)⟩)
end
end L3

namespace L3
open PySem PySem.Spec L2
section
variable {X : Cx} [GG X.K] {K : PySem.W.Frag} [GG K] {s : LS} {H : Hp} {a b e o i : Expr} {es : List Expr} {pos : Pos} {ta tb te to ti : LTE} {tas : LTA} {tg : Expr}
variable {x m : Str} {p p2 pos2 : Pos} {j : Nat} {C : Addr}
/-- what is known of an own exception class -/
structure ExK (K : PySem.W.Frag) (mg : Str → Option Value) (x : Str) (C : Addr) : Prop where
  xP : PySem.W.excIn K C [.type "ValueError", .type "Exception", .type "BaseException", .type "object"] "ValueError.__new__" = true
  gP : mg x = some (.ref C)
  kP : PySem.W.keepIn K (.ref C) = true
  bP : PySem.W.subIn K (.ref C) (.type "BaseException") = some true
  tP : PySem.W.typeIn K (.ref C) = some (.type "type")
def lRaise (C : Addr) : LTS := fun D σ s => D.ex C σ s
theorem lp_raise (T : ExK X.K X.mg x C) (hc : X.calm = true) (hg : Gl X x) (hdb : (x == ("__debug__" : Str)) = false := by decide) : LP X (.Raise (some (.Call (.Name x p) [.Constant (.str m) j p2] [] pos)) none pos2) (lRaise C) := fun s0 H0 E tk hp =>
  (ps_raise hc tk (pmk_own PySem.F.excBase_ValueError T.xP T.gP T.kP (raises_own T.bP T.tP) hg hdb)).imp fun D σ H ⟨σl, s, Dl, hσ, hs, st, h, d⟩ => ⟨C, σl, s, rfl, rfl, hσ, hs, st, d.ex _ _ _ h⟩
def lTryX (K : PySem.W.Frag) (c : Value) (tb : LTS) (ts : Addr → LTS) : LTS := fun D σ s => tb (D.wex fun C σ' s' => ∃ b, PySem.W.exmOne K (.ref C) c = some b ∧ (b = true → ts C (D.wex noX) σ' s') ∧ (b = false → D.ex C σ' s')) σ s
theorem DnE.noX {E : LXS} {Dl : LEnds} {D : Ends} (d : DnE K E s H Dl D) : DnE K L3.noX s H (Dl.wex L3.noX) D := ⟨d.nx, d.rt, d.bk, d.ct, fun _ _ _ h => h⟩
variable {body suite : List Stmt} {b₀ : Stmt} {np pos' : Pos} {c : Value} {tbd : LTS} {ts : Addr → LTS}
theorem lp_try_only (hs' : X.stack = X.env :: X.outer) (hf : X.env.frame = some X.env.locals) (hc : Names X x c)
    (hb : ∀ (pn : List (Addr × Obj)) (xe : Value → Shared → Prop), LPs (X.tr pn xe) body tbd)
    (hsu : ∀ (a : Addr) (oe : Obj) (C : Addr) (pn : List (Addr × Obj)), Zc (.ref C) none oe → (∃ vs, oe.data = .fields vs) → LPs (X.suite a ((a, oe) :: pn)) (b₀ :: suite) (ts C)) :
    LP X (.Try body [.ExceptHandler (some (.Name x np)) none (b₀ :: suite) pos'] [] [] pos) (lTryX X.K c tbd ts) := fun s0 H0 E tk hp => by
  refine (ps_try_only (tb := fun W D σ H => ∃ s1 H1 E', (∀ cls d σ H, WL X.K s1 H1 E' cls d σ H → W cls d σ H) ∧ upS X.K s1 H1 E' tbd D σ H)
    (ts := fun a cls d D σ H => ∃ C s1 H1, cls = .ref C ∧ d = none ∧ upS X.K s1 H1 noX (ts C) D σ H) hs' hf hc tk (fun W pn xe tk' po => ⟨fun pins si σ H D I ⟨s1, H1, E', hw, h⟩ => ?_⟩) (fun a oe cls d pn hz hv => ⟨fun pins si σ H D I ⟨C, s1, H1, e1, e2, h⟩ => ?_⟩)).imp ?_
  · exact (hb pn xe s1 H1 E' (tk'.imp hw) po).run pins si σ H D I h
  · subst e1 e2
    exact (hsu a oe C pn hz hv s1 H1 noX takes_no PassesOwn.never).run pins si σ H D I h
  · intro D σ H ⟨σl, s, Dl, hσ, hs, st, h, d⟩
    refine ⟨s, H, fun C σ' s' => ∃ b, PySem.W.exmOne X.K (.ref C) c = some b ∧ (b = true → ts C (Dl.wex noX) σ' s') ∧ (b = false → Dl.ex C σ' s'), fun cls dd σ' H' ⟨C, σl', s', e1, e2, hσ', hs1, st1, b, eb, h1, h2⟩ => ?_, σl, s, _, hσ, hs, .refl _ _, h, ⟨d.nx, d.rt, d.bk, d.ct, fun _ _ _ q => q⟩⟩
    subst e1 e2
    refine ⟨b, eb, fun q a na => ⟨C, s', H', rfl, rfl, σl', s', _, hσ', hs1, .refl _ _, h1 q, (d.mono st1).noX⟩, fun q => ⟨C, σl', s', rfl, rfl, hσ', hs1, st.trans st1, d.ex _ _ _ (h2 q)⟩⟩
/-- except x as n: the exception lies at slot i meanwhile -/
def lTryAs (K : PySem.W.Frag) (c : Value) (i : Nat) (tb : LTS) (ts : Addr → Addr → LTS) : LTS := fun D σ s => tb (D.wex fun C σ' s' => ∃ b, PySem.W.exmOne K (.ref C) c = some b ∧
  (b = true → ∀ a, ts a C { nx := fun σ' s' => D.nx (σ'.set i none) s', rt := D.rt, bk := fun σ' s' => D.bk (σ'.set i none) s', ct := fun σ' s' => D.ct (σ'.set i none) s', ex := noX } (σ'.set i (some (.ref a))) s') ∧ (b = false → D.ex C σ' s')) σ s
theorem lp_try_as {n : Str} {i : Nat} {ts : Addr → Addr → LTS} (hs' : X.stack = X.env :: X.outer) (hf : X.env.frame = some X.env.locals) (hN : X.N.Nodup) (hi : X.N[i]? = some n) (hln : X.env.kindOf n = some .local) (hc : Names X x c)
    (hb : ∀ (pn : List (Addr × Obj)) (xe : Value → Shared → Prop), LPs (X.tr pn xe) body tbd)
    (hsu : ∀ (a : Addr) (oe : Obj) (C : Addr) (pn : List (Addr × Obj)), Zc (.ref C) none oe → (∃ vs, oe.data = .fields vs) → LPs (X.suite a ((a, oe) :: pn)) (b₀ :: suite) (ts a C)) :
    LP X (.Try body [.ExceptHandler (some (.Name x np)) (some n) (b₀ :: suite) pos'] [] [] pos) (lTryAs X.K c i tbd ts) := fun s0 H0 E tk hp => by
  refine (ps_try_as (tb := fun W D σ H => ∃ s1 H1 E', (∀ cls d σ H, WL X.K s1 H1 E' cls d σ H → W cls d σ H) ∧ upS X.K s1 H1 E' tbd D σ H)
    (ts := fun a cls d D σ H => ∃ C s1 H1, cls = .ref C ∧ d = none ∧ upS X.K s1 H1 noX (ts a C) D σ H) hs' hf hN hi hln hc tk (fun W pn xe tk' po => ⟨fun pins si σ H D I ⟨s1, H1, E', hw, h⟩ => ?_⟩) (fun a oe cls d pn hz hv => ⟨fun pins si σ H D I ⟨C, s1, H1, e1, e2, h⟩ => ?_⟩)).imp ?_
  · exact (hb pn xe s1 H1 E' (tk'.imp hw) po).run pins si σ H D I h
  · subst e1 e2
    exact (hsu a oe C pn hz hv s1 H1 noX takes_no PassesOwn.never).run pins si σ H D I h
  · intro D σ H ⟨σl, s, Dl, hσ, hs, st, h, d⟩
    refine ⟨s, H, fun C σ' s' => ∃ b, PySem.W.exmOne X.K (.ref C) c = some b ∧
      (b = true → ∀ a, ts a C { nx := fun σ' s' => Dl.nx (σ'.set i none) s', rt := Dl.rt, bk := fun σ' s' => Dl.bk (σ'.set i none) s', ct := fun σ' s' => Dl.ct (σ'.set i none) s', ex := noX } (σ'.set i (some (.ref a))) s') ∧ (b = false → Dl.ex C σ' s'), fun cls dd σ' H' ⟨C, σl', s', e1, e2, hσ', hs1, st1, b, eb, h1, h2⟩ => ?_, σl, s, _, hσ, hs, .refl _ _, h, ⟨d.nx, d.rt, d.bk, d.ct, fun _ _ _ q => q⟩⟩
    subst e1 e2
    have d1 := d.mono st1
    refine ⟨b, eb, fun q a na => ⟨C, s', H', rfl, rfl, _, s', _, hσ'.set i .ref, hs1, .refl _ _, h1 q a, ⟨?_, d1.rt, ?_, ?_, fun _ _ _ z => z⟩⟩, fun q => ⟨C, σl', s', rfl, rfl, hσ', hs1, st.trans st1, d.ex _ _ _ (h2 q)⟩⟩
    · exact fun σ2 s2 σr H2 z st2 hs2 r2 => d1.nx _ _ _ _ z st2 hs2 (r2.setN i none)
    · exact fun σ2 s2 σr H2 z st2 hs2 r2 => d1.bk _ _ _ _ z st2 hs2 (r2.setN i none)
    · exact fun σ2 s2 σr H2 z st2 hs2 r2 => d1.ct _ _ _ _ z st2 hs2 (r2.setN i none)
/-- isinstance(e, c) of the exception in hand -/
def rIsEL (K : PySem.W.Frag) (a C : Addr) : LRc := fun vs s Q => two2 vs fun x c => x = .ref a ∧ ExcC K C ∧ opt (clsVal c) fun u => ∃ b, PySem.W.kitOne K (.ref C) u = some b ∧ Q (.bl b) s
theorem le_isE {a C : Addr} {oe : Obj} {pn : List (Addr × Obj)} (hz : Zc (.ref C) none oe) (hf : ∃ vs, oe.data = .fields vs) (hg : Gl (X.suite a ((a, oe) :: pn)) "isinstance") (hm : X.mg "isinstance" = none) (ha : LA (X.suite a ((a, oe) :: pn)) (e :: es) tas)
    (he : starEach (e :: es) (X.suite a ((a, oe) :: pn)).env = (false, eval e (X.suite a ((a, oe) :: pn)).env) :: starEach es (X.suite a ((a, oe) :: pn)).env := by rfl) (hpl : (backTo pos (starEach es (X.suite a ((a, oe) :: pn)).env)).any (·.1) = false := by rfl) :
    LE (X.suite a ((a, oe) :: pn)) (.Call (.Name "isinstance" p) (e :: es) [] pos) (lCB (rIsEL X.K a C) tas) :=
  le_cb (r := fun vs H Q => ExcC X.K C ∧ rIsE X.K C a vs H Q) (fun pins si σ H xs us Q I r ⟨hC, q⟩ => call_isE hC hz hf pins si σ H xs us Q I r q) (fun vs s H lvs Q0 Q hs r h k => by
    obtain ⟨lx, lc, rfl, e0, hC, h1⟩ := two2_ok h
    obtain ⟨u, e1, b, e2, h2⟩ := opt_ok h1
    obtain ⟨v, w, rfl, r1, r2⟩ := r.two
    rw [e0] at r1
    exact ⟨hC, w, u, b, by rw [r1.ref'], fun u' ru => (clsVal_ok r2 e1).eq ru, e2, k _ _ _ _ h2 (.refl _ _) hs .bl⟩) hg hm (by decide +kernel) ha (by decide) (by decide) he hpl

def clsAt (x : LV) (s : LS) (k : Addr → List (Str × LV) → Prop) : Prop := match x with
  | .ref a => (match s a with
    | some (.ins B fs) => k B fs
    | _ => False)
  | .ins B fs => k B fs
  | _ => False
theorem clsAt_ok {x : LV} {v : V} {k : Addr → List (Str × LV) → Prop} (r : RelS K s H) (rx : RV K s H x v) (h : clsAt x s k) : ∃ a dx us B fs, v = .ref a ∧ H a = some (.ins B dx us) ∧ RVf K s H fs us ∧ k B fs := by
  cases x with
  | ref a =>
    simp only [clsAt] at h
    split at h
    · next B fs e =>
      obtain ⟨dx, us, hh, rf⟩ := r.ins e
      exact ⟨a, dx, us, B, fs, rx.ref', hh, rf, h⟩
    · exact h.elim
  | ins B fs =>
    simp only [RV] at rx
    obtain ⟨a, dx, us, rfl, _, hh, rf⟩ := rx
    exact ⟨a, dx, us, B, fs, rfl, hh, rf, h⟩
  | _ => exact h.elim
def lMethD (m : Str) (Tb : Addr → LSp → Prop) (ta : LTE) (t : LTA) : LTE := fun σ s Q E => ta σ s (fun x s1 => clsAt x s1 fun B fs => fs.lookup m = none ∧ ∃ sp, Tb B sp ∧ t σ s1 (fun vs s2 => sp (x :: vs) s2 Q E) E) E
/-- what the classes of the table have as m -/
def MethT (X : Cx) [GG X.K] (m : Str) (Tb : Addr → LSp → Prop) : Prop := ∀ C sp, Tb C sp → Cls X.K C ∧ ∃ f fd ps k, Meth X.K C m f ∧ LFn X.prog X.w X.K X.mg X.base k f fd ps sp ∧ Room k X.A ∧ Binds X.K fd ps []
variable {apos : Pos} {Tb : Addr → LSp → Prop}
theorem le_methD {pl : Sem Bool} (ha : LE X o ta) (hT : MethT X m Tb) (hes : LA X (e :: es) tas)
    (hst : starEach (e :: es) X.env = (false, eval e X.env) :: starEach es X.env := by rfl) (hpl : (backTo pos (starEach es X.env)).any (·.1) = false := by rfl)
    (ht : eval (.Call (.Attribute o m apos) (e :: es) [] pos) X.env = (do
      let ov ← eval o X.env
      standAt apos.atName
      let (f, first) ← holding [ov] (getMethod ov m pl)
      callWith pos f first (backTo pos (starEach (e :: es) X.env)) (backToKw pos (keywordEach [] X.env))) := by rfl) : LE X (.Call (.Attribute o m apos) (e :: es) [] pos) (lMethD m Tb ta tas) := fun s0 H0 E tk =>
  ⟨fun pins si σ H Q I ⟨σl, s, Q0, E1, hσ, hs, st, hE, h, kk⟩ => by
    refine PySem.W.methodCall_KW (pl := pl) (thn (ha.go tk I hσ hs st hE h) fun u si1 hx => ?_) ht
    obtain ⟨x, H1, I1, rv, lx, s1, st1, hs1, rx, h⟩ := hx
    obtain ⟨a, dx, us, B, fs, rfl, hh, rf, l, sp, tb, h⟩ := clsAt_ok hs1 rx h
    obtain ⟨c, f, fd, ps, k, hm, F, hr, hb⟩ := hT B sp tb
    obtain rfl : u = Value.ref a := rv
    refine getmeth_ok I1 hh c hm (rf.look0 l) ?_
    refine PySem.W.callWith_K (first := [.ref a]) (h₀ := X.base) I.ok.mod.kin hm.kp (thn (hes.go tk pos I1 (hσ.mono st1) hs1 (st.trans st1) hE h) fun us si2 hx2 => ?_) hst hpl
    obtain ⟨vs, H2, I2, rvs, lvs, s2, st2, hs2, r, h⟩ := hx2
    refine ⟨I2.kIn, ?_⟩
    have st12 := st1.trans st2
    exact run_fnS (E := fun _ => WE (WL X.K s0 H0 E) σ) (us := .ref a :: us) (vs := .ref a :: vs) F hr hb (passAt tk σ) I2 (.cons rfl rvs) (dn_call (hσ.mono st12) hs2 (st.trans st12) hE (.cons (rx.mono st2) r) h fun lv s3 v H3 q st3 => kk lv s3 v H3 q (st12.trans st3))⟩
theorem le_methD0 {pl : Sem Bool} (ha : LE X o ta) (hT : MethT X m Tb)
    (ht : eval (.Call (.Attribute o m apos) [] [] pos) X.env = (do
      let ov ← eval o X.env
      standAt apos.atName
      let (f, first) ← holding [ov] (getMethod ov m pl)
      callWith pos f first (backTo pos (starEach [] X.env)) (backToKw pos (keywordEach [] X.env))) := by rfl) : LE X (.Call (.Attribute o m apos) [] [] pos) (lMethD m Tb ta lNil) := fun s0 H0 E tk =>
  ⟨fun pins si σ H Q I ⟨σl, s, Q0, E1, hσ, hs, st, hE, h, kk⟩ => by
    refine PySem.W.methodCall_KW (pl := pl) (thn (ha.go tk I hσ hs st hE h) fun u si1 hx => ?_) ht
    obtain ⟨x, H1, I1, rv, lx, s1, st1, hs1, rx, h⟩ := hx
    obtain ⟨a, dx, us, B, fs, rfl, hh, rf, l, sp, tb, h⟩ := clsAt_ok hs1 rx h
    obtain ⟨c, f, fd, ps, k, hm, F, hr, hb⟩ := hT B sp tb
    obtain rfl : u = Value.ref a := rv
    refine getmeth_ok I1 hh c hm (rf.look0 l) ?_
    exact PySem.W.callWith_K0 (first := [.ref a]) I1.kIn hm.kp (run_fnS (E := fun _ => WE (WL X.K s0 H0 E) σ) (us := [.ref a]) (vs := [.ref a]) F hr hb (passAt tk σ) I1 (.cons rfl .nil)
      (dn_call (hσ.mono st1) hs1 (st.trans st1) hE (.cons rx .nil) h fun lv s3 v H3 q st3 => kk lv s3 v H3 q (st1.trans st3)))⟩
end

instance ggOf {CX : CXT} {P : Program} {w : World} {K : PySem.W.Frag} [g : GG K] {mg : Str → Option Value} {base : Heap} {N : List Str} {qual : Str} {scope : Scope} {f : Addr} {cd : Value} {A : Around} {outer : List Env} {s : Shared} {H : Hp} {E : XK} :
    GG (cxOf CX P w K mg base N qual scope f cd A outer s H E).K := g
def lstart (N : List Str) (vs : List LV) : LSt := vs.map some ++ List.replicate (N.length - vs.length) none
/-- a def's ends; what is handed back may be frozen, what the store holds forgotten -/
def lEnds (Q : LVK) (E : LX) : LEnds := ⟨fun _ s' => ∃ s2, Sub s2 s' ∧ Q .non s2, fun lv s' => ∃ y s2, Frz lv s' y s2 ∧ Q y s2, fun _ _ => False, fun _ _ => False, fun C _ s' => ∃ s2, Sub s2 s' ∧ E C s2⟩
theorem Sub.refl (s : LS) : Sub s s := fun _ => .inr rfl
section
variable {P : Program} {w : World} {K : PySem.W.Frag} [GG K] {mg : Str → Option Value} {base : Heap}
theorem _root_.L2.Fun.okL {x qual : Str} {st : Stmt} {f : Addr} {fd : FuncData} {N ps : List Str} {k : Nat} {sp : LSp} (F : Fun K x qual st f fd) (S : FnScope N ps (defScope st)) (len : ∀ vs s Q E, sp vs s Q E → vs.length = ps.length)
    (hbody : ∀ (cdv : Value) (A : Around) (outer : List Env) (si : Shared) (H : Hp) (E : XK), Room k (A.deeper (PyProof.Rows.envOfC qual (defScope st) si.heap.objs.size f cdv)) →
      ∃ t, LPs (cxOf (L2.CX P w) P w K mg base N qual (defScope st) f cdv A outer si H E) (defBody st) t ∧ ∀ vs s Q E, sp vs s Q E → t (lEnds Q E) (lstart N vs) s) : LFn P w K mg base (k + 1) f fd ps sp := by
  refine F.okX S (fun vs H Q E ⟨lvs, s, Q0, E0, r, _, h, _⟩ => by rw [r.length]; exact len _ _ _ _ h) fun cdv A outer si H vs Q E hr h => ?_
  obtain ⟨lvs, s, Q0, E0, r, hs, h, kq, ke⟩ := h
  obtain ⟨t, ht, hb⟩ := hbody cdv A outer si H E hr
  have tk := takes_of (X := cxOf (L2.CX P w) P w K mg base N qual (defScope st) f cdv A outer si H E) (E := E) rfl rfl rfl rfl
  refine ⟨upS K s H (fun C σl s' => ∃ s2, Sub s2 s' ∧ E0 C s2) t, ht s H _ (tk.imp fun cls d σ H' w => ?_) (passes_of rfl), ?_⟩
  · obtain ⟨C, σl, s', rfl, rfl, _, hs', st', s2, sb, q⟩ := w
    exact ke C s2 H' q (st'.trans sb.step) (sb.rel hs')
  · refine ⟨lstart N lvs, s, lEnds Q0 E0, ?_, hs, .refl _ _, hb lvs s Q0 E0 h, ⟨fun σl s' σ H' ⟨s2, sb, q⟩ st' hs' _ => kq .non s2 .non H' q (st'.trans sb.step) (sb.rel hs') .non, fun lv s' v H' ⟨y, s2, fz, q⟩ st' hs' rv => ?_, fun _ _ _ _ z => z.elim, fun _ _ _ _ z => z.elim, fun _ _ _ z => z⟩⟩
    · show RSt K s H (lstart N lvs) (start N vs)
      unfold lstart
      have e : start N vs = vs.map some ++ List.replicate (N.length - vs.length) none := rfl
      rw [e, r.length]
      exact (RSt.vals r).append (.nones _)
    · obtain ⟨a, b, c⟩ := fz K H' v hs' rv
      exact kq y s2 v H' q (st'.trans c) b a
end
end L3

namespace L3
open PySem PySem.Spec L2
structure MkN (K : PySem.W.Frag) (C : Addr) : Prop where
  makes : PySem.W.makesIn K C = true
  init : PySem.W.findIn K (.ref C) "__init__" = some (some (.builtin "object.__init__"))
  kp : PySem.W.keepIn K (.ref C) = true
def lMakeN (C : Addr) : LTE := fun σ s Q E => ∀ x, s x = none → Q (.ref x) (put s x (.ins C []))
section
variable {X : Cx} [GG X.K] {C : Addr} {x : Str} {p pos : Pos}
theorem le_makeN (M : MkN X.K C) (hg : Gl X x) (hm : X.mg x = some (.ref C)) (hdb : (x == ("__debug__" : Str)) = false := by decide) :
    LE X (.Call (.Name x p) [] [] pos) (lMakeN C) := fun s0 H0 E tk => ⟨fun pins si σ H Q I ⟨σl, s, Q0, E1, hσ, hs, st, hE, h, kk⟩ => by
  refine wpAny_Call_Name_kw (ld_glob I hg hm ?_ hdb)
  refine PySem.W.callWith_K0 I.kIn M.kp ?_
  have ny := I.hok.fresh (a := si.heap.objs.size + 1) (Nat.le_succ _)
  have nd := I.hok.fresh (a := si.heap.objs.size) (Nat.le_refl _)
  have J := Inv.made (C := C) I
  obtain ⟨stm, hsm⟩ := made_step (C := C) hs ny nd (Nat.ne_of_lt (Nat.lt_succ_self _))
  have q := kk _ _ _ _ (h _ (hs.free ny)) stm hsm .ref
  have Y := PySem.W.makes_of (M := model X.prog X.w) I.kIn M.makes
  refine wpAny_call (make_map0 I.kIn M.makes M.init (fun self => PySem.W.Looks.of_pure (PySem.W.oi_bind self)) ?_)
  have hobj : ((si.heap.push PySem.W.emptyDict).push (PySem.W.instObj C si.heap.objs.size)).get? (si.heap.objs.size + 1) = some (PySem.W.instObj C si.heap.objs.size) := by
    have := Heap.get?_push_size (si.heap.push PySem.W.emptyDict) (o := PySem.W.instObj C si.heap.objs.size) rfl
    rwa [Heap.size_push] at this
  have t1 : PySem.W.Looks (model X.prog X.w) ((si.heap.push PySem.W.emptyDict).push (PySem.W.instObj C si.heap.objs.size)) (typeOf (.ref (si.heap.objs.size + 1))) (.ref C) := (PySem.W.Looks.ld hobj).andThen .now
  have t2 : PySem.W.Looks (model X.prog X.w) ((si.heap.push PySem.W.emptyDict).push (PySem.W.instObj C si.heap.objs.size)) (isInstance (.ref (si.heap.objs.size + 1)) (.type "object")) true := t1.andThen (Y.top.keeps fun b o e => Heap.get?_push_of_some _ (Heap.get?_push_of_some _ e))
  refine PySem.codeAny_call_builtin PySem.W.oi_plain PySem.W.entry_oi (@PySem.W.check_slot (model X.prog X.w) _ _ _ "object.__init__" "object" "__init__" (.ref (si.heap.objs.size + 1)) [] [] _ PySem.W.oi_kind PySem.W.oi_split t2 (PySem.W.oi_args (.ref (si.heap.objs.size + 1))) ?_)
  rw [PySem.W.oi_run]
  exact wpAny_pure (And.intro rfl ⟨V.ref (si.heap.objs.size + 1), _, J, rfl, q⟩)⟩
end
end L3

namespace L3
open PySem PySem.Spec L2
@[simp] theorem lC_ap (v : LV) (σ_ : LSt) (s : LS) (Q : LVK) (E_ : LX) : lC v σ_ s Q E_ = (Q v s) := rfl
@[simp] theorem lOp_ap (r : LR2) (ta tb : LTE) (σ : LSt) (s : LS) (Q : LVK) (E : LX) : lOp r ta tb σ s Q E = (ta σ s (fun x s1 => tb σ s1 (fun y s2 => r x y s2 Q) E) E) := rfl
@[simp] theorem lUn_ap (r : LR1) (ta : LTE) (σ : LSt) (s : LS) (Q : LVK) (E : LX) : lUn r ta σ s Q E = (ta σ s (fun x s1 => r x s1 Q) E) := rfl
@[simp] theorem lB_ap (t : LTE) (σ : LSt) (s : LS) (Q : Bool → LS → Prop) (E : LX) : lB t σ s Q E = (t σ s (fun x s1 => isBl x fun c => Q c s1) E) := rfl
@[simp] theorem lAnd_ap (t u : LTT) (σ : LSt) (s : LS) (Q : Bool → LS → Prop) (E : LX) : lAnd t u σ s Q E = (t σ s (fun c s1 => (c = true → u σ s1 Q E) ∧ (c = false → Q false s1)) E) := rfl
@[simp] theorem lOr_ap (t u : LTT) (σ : LSt) (s : LS) (Q : Bool → LS → Prop) (E : LX) : lOr t u σ s Q E = (t σ s (fun c s1 => (c = true → Q true s1) ∧ (c = false → u σ s1 Q E)) E) := rfl
@[simp] theorem lNot_ap (t : LTT) (σ : LSt) (s : LS) (Q : Bool → LS → Prop) (E : LX) : lNot t σ s Q E = (t σ s (fun c s1 => Q (!c) s1) E) := rfl
@[simp] theorem lAndV_ap (ta tb : LTE) (σ : LSt) (s : LS) (Q : LVK) (E : LX) : lAndV ta tb σ s Q E = (lB ta σ s (fun c s1 => (c = true → tb σ s1 Q E) ∧ (c = false → Q (.bl false) s1)) E) := rfl
@[simp] theorem lOrV_ap (ta tb : LTE) (σ : LSt) (s : LS) (Q : LVK) (E : LX) : lOrV ta tb σ s Q E = (lB ta σ s (fun c s1 => (c = true → Q (.bl true) s1) ∧ (c = false → tb σ s1 Q E)) E) := rfl
@[simp] theorem lNotV_ap (ta : LTE) (σ : LSt) (s : LS) (Q : LVK) (E : LX) : lNotV ta σ s Q E = (lB ta σ s (fun c s1 => Q (.bl (!c)) s1) E) := rfl
@[simp] theorem lCutT_ap (t : LTT) (σ : LSt) (s : LS) (Q : Bool → LS → Prop) (E : LX) : lCutT t σ s Q E = (∃ b, t σ s (fun b' s' => b' = b ∧ s' = s) E ∧ Q b s) := rfl
@[simp] theorem lCutE_ap (t : LTE) (σ : LSt) (s : LS) (Q : LVK) (E : LX) : lCutE t σ s Q E = (∃ v, t σ s (fun v' s' => v' = v ∧ s' = s) E ∧ Q v s) := rfl
@[simp] theorem lNil_ap  (σ_ : LSt) (s : LS) (Q : List LV → LS → Prop) (E_ : LX) : lNil  σ_ s Q E_ = (Q [] s) := rfl
@[simp] theorem lCons_ap (t : LTE) (u : LTA) (σ : LSt) (s : LS) (Q : List LV → LS → Prop) (E : LX) : lCons t u σ s Q E = (t σ s (fun x s1 => u σ s1 (fun xs s2 => Q (x :: xs) s2) E) E) := rfl
@[simp] theorem lNext_ap  (D : LEnds) (σ : LSt) (s : LS) : lNext  D σ s = (D.nx σ s) := rfl
@[simp] theorem lSeq_ap (t u : LTS) (D : LEnds) (σ : LSt) (s : LS) : lSeq t u D σ s = (t (D.wnx (u D)) σ s) := rfl
@[simp] theorem lBreak_ap  (D : LEnds) (σ : LSt) (s : LS) : lBreak  D σ s = (D.bk σ s) := rfl
@[simp] theorem lCont_ap  (D : LEnds) (σ : LSt) (s : LS) : lCont  D σ s = (D.ct σ s) := rfl
@[simp] theorem lDrop_ap (te : LTE) (D : LEnds) (σ : LSt) (s : LS) : lDrop te D σ s = (te σ s (fun _ s1 => D.nx σ s1) (fun C s1 => D.ex C σ s1)) := rfl
@[simp] theorem lRet_ap (te : LTE) (D : LEnds) (σ : LSt) (s : LS) : lRet te D σ s = (te σ s D.rt (fun C s1 => D.ex C σ s1)) := rfl
@[simp] theorem lRetN_ap  (D : LEnds) (σ_ : LSt) (s : LS) : lRetN  D σ_ s = (D.rt .non s) := rfl
@[simp] theorem lIf_ap (c : LTT) (t u : LTS) (D : LEnds) (σ : LSt) (s : LS) : lIf c t u D σ s = (c σ s (fun b s1 => (b = true → t D σ s1) ∧ (b = false → u D σ s1)) (fun C s1 => D.ex C σ s1)) := rfl
@[simp] theorem lCut_ap (t : LTS) (D : LEnds) (σ : LSt) (s : LS) : lCut t D σ s = (∃ R : LSt → LS → Prop, t (D.wnx R) σ s ∧ ∀ σ' s', R σ' s' → D.nx σ' s') := rfl
@[simp] theorem lNever_ap  (D_ : LEnds) (σ_ : LSt) (s_ : LS) : lNever  D_ σ_ s_ = (False) := rfl
@[simp] theorem lgName_ap (i : Nat) (v : LV) (σ : LSt) (s : LS) (Q : LSt → LS → Prop) (E_ : LX) : lgName i v σ s Q E_ = (Q (σ.set i (some v)) s) := rfl
@[simp] theorem lAsg_ap (te : LTE) (g : LTG) (D : LEnds) (σ : LSt) (s : LS) : lAsg te g D σ s = (te σ s (fun x s1 => g x σ s1 D.nx (fun C s2 => D.ex C σ s2)) (fun C s1 => D.ex C σ s1)) := rfl
@[simp] theorem lFor_ap (it : LTI) (g : LTG) (tb : LTS) (D : LEnds) (σ : LSt) (s : LS) : lFor it g tb D σ s = (it σ s (fun xs stb s1 => lLoop g tb stb D xs σ s1) (fun C s1 => D.ex C σ s1)) := rfl
@[simp] theorem lFz_ap (t : LTL) (σ : LSt) (s : LS) (Q : LVK) (E : LX) : lFz t σ s Q E = (t σ s (fun xs s1 => Q (.lst xs) s1) E) := rfl
@[simp] theorem lNew_ap (t : LTL) (σ : LSt) (s : LS) (Q : LVK) (E : LX) : lNew t σ s Q E = (t σ s (fun xs s1 => ∀ p, s1 p = none → Q (.ref p) (put s1 p (.lst xs))) E) := rfl
@[simp] theorem lDisp_ap (t : LTA) (σ : LSt) (s : LS) (Q : List LV → LS → Prop) (E : LX) : lDisp t σ s Q E = (t σ s (fun xs s1 => xs.length ≤ 16777216 ∧ Q xs s1) E) := rfl
@[simp] theorem lTup_ap (t : LTA) (σ : LSt) (s : LS) (Q : LVK) (E : LX) : lTup t σ s Q E = (t σ s (fun xs s1 => xs.length ≤ 16777216 ∧ Q (.tup xs) s1) E) := rfl
@[simp] theorem lFld_ap (C : Addr) (f : Str) (ta : LTE) (σ : LSt) (s : LS) (Q : LVK) (E : LX) : lFld C f ta σ s Q E = (ta σ s (fun x s1 => fldAt C f x s1 fun v => Q v s1) E) := rfl
@[simp] theorem lSetF_ap (C : Addr) (f : Str) (ta tv : LTE) (D : LEnds) (σ : LSt) (s : LS) : lSetF C f ta tv D σ s = (tv σ s (fun y s1 => ta σ s1 (fun x s2 => match x with
  | .ref a => (match s2 a with
    | some (.ins B fs) => B = C ∧ fs.length < 1000 ∧ D.nx σ (put s2 a (.ins C (putL f y fs)))
    | _ => False)
  | _ => False) (fun C s3 => D.ex C σ s3)) (fun C s3 => D.ex C σ s3)) := rfl
@[simp] theorem lCall_ap (sp : LSp) (t : LTA) (σ : LSt) (s : LS) (Q : LVK) (E : LX) : lCall sp t σ s Q E = (t σ s (fun vs s1 => sp vs s1 Q E) E) := rfl
@[simp] theorem lMeth_ap (C : Addr) (m : Str) (sp : LSp) (ta : LTE) (t : LTA) (σ : LSt) (s : LS) (Q : LVK) (E : LX) : lMeth C m sp ta t σ s Q E = (ta σ s (fun x s1 => methAt C m x s1 ∧ t σ s1 (fun vs s2 => sp (x :: vs) s2 Q E) E) E) := rfl
@[simp] theorem lMake_ap (C : Addr) (sp : LSp) (t : LTA) (σ : LSt) (s : LS) (Q : LVK) (E : LX) : lMake C sp t σ s Q E = (t σ s (fun vs s1 => ∀ x, s1 x = none → sp (.ref x :: vs) (put s1 x (.ins C [])) (fun v s2 => v = .non ∧ Q (.ref x) s2) E) E) := rfl
@[simp] theorem lMakeF_ap (C : Addr) (sp : LSp) (t : LTA) (σ : LSt) (s : LS) (Q : LVK) (E : LX) : lMakeF C sp t σ s Q E = (t σ s (fun vs s1 => ∀ x, s1 x = none → sp (.ref x :: vs) (put s1 x (.ins C [])) (fun v s2 => v = .non ∧ ∃ fs, s2 x = some (.ins C fs) ∧ Q (.ins C fs) (del s2 x)) E) E) := rfl
@[simp] theorem lFrz_ap (t : LTE) (σ : LSt) (s : LS) (Q : LVK) (E : LX) : lFrz t σ s Q E = (t σ s (fun x s1 => ∃ y s2, Frz x s1 y s2 ∧ Q y s2) E) := rfl
@[simp] theorem lOpL_ap (r : LV → LV → LS → (List LV → LS → Prop) → Prop) (ta tb : LTE) (σ : LSt) (s : LS) (Q : List LV → LS → Prop) (E : LX) : lOpL r ta tb σ s Q E = (ta σ s (fun x s1 => tb σ s1 (fun y s2 => r x y s2 Q) E) E) := rfl
@[simp] theorem lNoP_ap  (σ_ : LSt) (s : LS) (Q : Option Int → LS → Prop) (E_ : LX) : lNoP  σ_ s Q E_ = (Q none s) := rfl
@[simp] theorem lPart_ap (t : LTE) (σ : LSt) (s : LS) (Q : Option Int → LS → Prop) (E : LX) : lPart t σ s Q E = (t σ s (fun x s1 => match x with
  | .int i => Q (some i) s1
  | _ => False) E) := rfl
@[simp] theorem lSl_ap (te : LTE) (tl th : LTO) (σ : LSt) (s : LS) (Q : List LV → LS → Prop) (E : LX) : lSl te tl th σ s Q E = (te σ s (fun x s1 => tl σ s1 (fun lo s2 => th σ s2 (fun hi s3 => opt (seqR x s3) fun xs => Q (cutL xs lo hi) s3) E) E) E) := rfl
@[simp] theorem lCB_ap (r : LRc) (t : LTA) (σ : LSt) (s : LS) (Q : LVK) (E : LX) : lCB r t σ s Q E = (t σ s (fun vs s1 => r vs s1 Q) E) := rfl
@[simp] theorem lCBL_ap (r : List LV → LS → (List LV → LS → Prop) → Prop) (t : LTA) (σ : LSt) (s : LS) (Q : List LV → LS → Prop) (E : LX) : lCBL r t σ s Q E = (t σ s (fun vs s1 => r vs s1 Q) E) := rfl
@[simp] theorem lLstRg2_ap (ta tb : LTE) (σ : LSt) (s : LS) (Q : List LV → LS → Prop) (E : LX) : lLstRg2 ta tb σ s Q E = (ta σ s (fun x s1 => tb σ s1 (fun y s2 => match x, y with
  | .int i, .int j => RgOk i j ∧ Q (rgL i j) s2
  | _, _ => False) E) E) := rfl
@[simp] theorem lLstRg1_ap (ta : LTE) (σ : LSt) (s : LS) (Q : List LV → LS → Prop) (E : LX) : lLstRg1 ta σ s Q E = (ta σ s (fun x s1 => match x with
  | .int j => RgOk 0 j ∧ Q (rgL 0 j) s1
  | _ => False) E) := rfl
@[simp] theorem rAllL_ap  (vs : List LV) (s : LS) (Q : LVK) : rAllL  vs s Q = (one1 vs fun x => opt (seqL x s) fun xs => opt (blsOf xs) fun bs => Q (.bl (bs.all id)) s) := rfl
@[simp] theorem rAnyL_ap  (vs : List LV) (s : LS) (Q : LVK) : rAnyL  vs s Q = (one1 vs fun x => opt (seqL x s) fun xs => opt (blsOf xs) fun bs => Q (.bl (bs.any id)) s) := rfl
@[simp] theorem rMaxL_ap  (vs : List LV) (s : LS) (Q : LVK) : rMaxL  vs s Q = (one1 vs fun x => opt (seqL x s) fun xs => opt (intsOf xs) fun ns => 0 < ns.length ∧ ∀ m, m ∈ ns → (∀ y, y ∈ ns → y ≤ m) → Q (.int m) s) := rfl
@[simp] theorem rMinL_ap  (vs : List LV) (s : LS) (Q : LVK) : rMinL  vs s Q = (one1 vs fun x => opt (seqL x s) fun xs => opt (intsOf xs) fun ns => 0 < ns.length ∧ ∀ m, m ∈ ns → (∀ y, y ∈ ns → m ≤ y) → Q (.int m) s) := rfl
@[simp] theorem lBML_ap (r : LRm) (to : LTE) (t : LTA) (σ : LSt) (s : LS) (Q : LVK) (E : LX) : lBML r to t σ s Q E = (to σ s (fun x s1 => (seqL x s1).isSome = true ∧ t σ s1 (fun vs s2 => r x vs s2 Q) E) E) := rfl
@[simp] theorem rAppL_ap  (x : LV) (vs : List LV) (s : LS) (Q : LVK) : rAppL  x vs s Q = (one1 vs fun y => atL x s fun a xs => xs.length < 16777216 ∧ Q .non (put s a (.lst (xs ++ [y])))) := rfl
@[simp] theorem rClrL_ap  (x : LV) (vs : List LV) (s : LS) (Q : LVK) : rClrL  x vs s Q = (vs = [] ∧ atL x s fun a xs => Q .non (put s a (.lst []))) := rfl
@[simp] theorem rPopL_ap  (x : LV) (vs : List LV) (s : LS) (Q : LVK) : rPopL  x vs s Q = (vs = [] ∧ atL x s fun a xs => opt (xs[xs.length - 1]?) fun y => Q y (put s a (.lst xs.dropLast))) := rfl
@[simp] theorem rExtL_ap  (x : LV) (vs : List LV) (s : LS) (Q : LVK) : rExtL  x vs s Q = (one1 vs fun y => opt (seqL y s) fun ys => atL x s fun a xs => xs.length + ys.length ≤ 16777216 ∧ Q .non (put s a (.lst (xs ++ ys)))) := rfl
@[simp] theorem lgSub_ap (to ti : LTE) (v : LV) (σ : LSt) (s : LS) (Q : LSt → LS → Prop) (E : LX) : lgSub to ti v σ s Q E = (to σ s (fun o s1 => ti σ s1 (fun i s2 => rSetL o i v s2 fun s3 => Q σ s3) E) E) := rfl
@[simp] theorem lDisK_ap (trs : List (Str × LTE)) (σ : LSt) (s : LS) (Q : LVK) (E : LX) : lDisK trs σ s Q E = (∀ p, s p = none → lPairs p trs σ (put s p (.dK [])) (fun kvs s2 => s2 p = some (.dK []) ∧ kvs.length ≤ 15 ∧ (kvs.map (·.1)).Nodup ∧ Q (.ref p) (put s2 p (.dK kvs))) E) := rfl
@[simp] theorem iSeq_ap (te : LTE) (σ : LSt) (s : LS) (Q : List LV → (LS → Prop) → LS → Prop) (E : LX) : iSeq te σ s Q E = (te σ s (fun x s1 => match x with
  | .ref a => (match s1 a with
    | some (.lst xs) => Q xs (fun s2 => s2 a = some (.lst xs)) s1
    | _ => False)
  | _ => opt (seqR x s1) fun xs => Q xs (fun _ => True) s1) E) := rfl
@[simp] theorem iTupl_ap (te : LTE) (σ : LSt) (s : LS) (Q : List LV → (LS → Prop) → LS → Prop) (E : LX) : iTupl te σ s Q E = (te σ s (fun x s1 => match x with
  | .tup xs => Q xs (fun _ => True) s1
  | _ => False) E) := rfl
@[simp] theorem iRg1_ap (ta : LTA) (σ : LSt) (s : LS) (Q : List LV → (LS → Prop) → LS → Prop) (E : LX) : iRg1 ta σ s Q E = (ta σ s (fun vs s1 => one1 vs fun x => isInt x fun j => -(2 ^ 62) ≤ j ∧ j < 2 ^ 62 ∧ Q (rgL 0 j) (fun _ => True) s1) E) := rfl
@[simp] theorem iRg2_ap (ta : LTA) (σ : LSt) (s : LS) (Q : List LV → (LS → Prop) → LS → Prop) (E : LX) : iRg2 ta σ s Q E = (ta σ s (fun vs s1 => two2 vs fun x y => isInt x fun i => isInt y fun j => (-(2 ^ 62) ≤ i ∧ i < 2 ^ 62 ∧ -(2 ^ 62) ≤ j ∧ j < 2 ^ 62) ∧ Q (rgL i j) (fun _ => True) s1) E) := rfl
@[simp] theorem iEnumL_ap (ta : LTA) (σ : LSt) (s : LS) (Q : List LV → (LS → Prop) → LS → Prop) (E : LX) : iEnumL ta σ s Q E = (ta σ s (fun vs s1 => one1 vs fun x => opt (seqR x s1) fun xs => Q ((rgL 0 xs.length).zip xs |>.map fun p => .tup [p.1, p.2]) (stbOf x xs) s1) E) := rfl
@[simp] theorem iZipL_ap (ta : LTA) (σ : LSt) (s : LS) (Q : List LV → (LS → Prop) → LS → Prop) (E : LX) : iZipL ta σ s Q E = (ta σ s (fun vs s1 => two2 vs fun x y => opt (seqR x s1) fun xs => opt (seqR y s1) fun ys => Q ((xs.zip ys).map fun p => .tup [p.1, p.2]) (fun s2 => stbOf x xs s2 ∧ stbOf y ys s2) s1) E) := rfl
@[simp] theorem lYes_ap  (σ_ : LSt) (s : LS) (Q : Bool → LS → Prop) (E_ : LX) : lYes  σ_ s Q E_ = (Q true s) := rfl
@[simp] theorem lLc_ap (it : LTI) (g : CTg) (tt : LTT) (te : LTE) (vs : List Nat) (σ : LSt) (s : LS) (Q : List LV → LS → Prop) (E : LX) : lLc it g tt te vs σ s Q E = (it σ s (fun xs stb s1 => ∀ D, s1 D = none → lcLoop D g tt te stb (lwipe σ vs) Q xs (put s1 D (.lst []))) E) := rfl
@[simp] theorem lRaise_ap (C : Addr) (D : LEnds) (σ : LSt) (s : LS) : lRaise C D σ s = (D.ex C σ s) := rfl
@[simp] theorem lTryX_ap (K : PySem.W.Frag) (c : Value) (tb : LTS) (ts : Addr → LTS) (D : LEnds) (σ : LSt) (s : LS) : lTryX K c tb ts D σ s = (tb (D.wex fun C σ' s' => ∃ b, PySem.W.exmOne K (.ref C) c = some b ∧ (b = true → ts C (D.wex noX) σ' s') ∧ (b = false → D.ex C σ' s')) σ s) := rfl
@[simp] theorem lTryAs_ap (K : PySem.W.Frag) (c : Value) (i : Nat) (tb : LTS) (ts : Addr → Addr → LTS) (D : LEnds) (σ : LSt) (s : LS) : lTryAs K c i tb ts D σ s = (tb (D.wex fun C σ' s' => ∃ b, PySem.W.exmOne K (.ref C) c = some b ∧
  (b = true → ∀ a, ts a C { nx := fun σ' s' => D.nx (σ'.set i none) s', rt := D.rt, bk := fun σ' s' => D.bk (σ'.set i none) s', ct := fun σ' s' => D.ct (σ'.set i none) s', ex := noX } (σ'.set i (some (.ref a))) s') ∧ (b = false → D.ex C σ' s')) σ s) := rfl
@[simp] theorem rIsEL_ap (K : PySem.W.Frag) (a C : Addr) (vs : List LV) (s : LS) (Q : LVK) : rIsEL K a C vs s Q = (two2 vs fun x c => x = .ref a ∧ ExcC K C ∧ opt (clsVal c) fun u => ∃ b, PySem.W.kitOne K (.ref C) u = some b ∧ Q (.bl b) s) := rfl
@[simp] theorem lMethD_ap (m : Str) (Tb : Addr → LSp → Prop) (ta : LTE) (t : LTA) (σ : LSt) (s : LS) (Q : LVK) (E : LX) : lMethD m Tb ta t σ s Q E = (ta σ s (fun x s1 => clsAt x s1 fun B fs => fs.lookup m = none ∧ ∃ sp, Tb B sp ∧ t σ s1 (fun vs s2 => sp (x :: vs) s2 Q E) E) E) := rfl
@[simp] theorem lMakeN_ap (C : Addr) (σ : LSt) (s : LS) (Q : LVK) (E : LX) : lMakeN C σ s Q E = (∀ x, s x = none → Q (.ref x) (put s x (.ins C []))) := rfl

@[simp] theorem lVar_ap (i : Nat) (σ : LSt) (s : LS) (Q : LVK) (E : LX) : lVar i σ s Q E = (match σ[i]? with
  | some (some v) => Q v s
  | _ => False) := rfl
@[simp] theorem isBl_bl (c : Bool) (k : Bool → Prop) : isBl (.bl c) k = k c := rfl
@[simp] theorem opt_some {α : Type} (v : α) (k : α → Prop) : opt (some v) k = k v := rfl
@[simp] theorem one1_ap (v : LV) (k : LV → Prop) : one1 [v] k = k v := rfl
@[simp] theorem two2_ap (v w : LV) (k : LV → LV → Prop) : two2 [v, w] k = k v w := rfl
@[simp] theorem isInt_ap (i : Int) (k : Int → Prop) : isInt (.int i) k = k i := rfl
@[simp] theorem rl2_ap (C : Int → Int → Prop) (g : Int → Int → LV) (i j : Int) (s : LS) (Q : LVK) : rl2 C g (.int i) (.int j) s Q = (C i j ∧ Q (g i j) s) := rfl
@[simp] theorem rl2'_ap (g : Int → Int → LV) (i j : Int) (s : LS) (Q : LVK) : rl2' g (.int i) (.int j) s Q = Q (g i j) s := rfl
@[simp] theorem rNegI_ap (i : Int) (s : LS) (Q : LVK) : rNegI (.int i) s Q = Q (.int (-i)) s := rfl
@[simp] theorem rAddL_int (i j : Int) (s : LS) (Q : LVK) : rAddL (.int i) (.int j) s Q = Q (.int (i + j)) s := rfl
@[simp] theorem rAddL_str (i j : Str) (s : LS) (Q : LVK) : rAddL (.str i) (.str j) s Q = (i.length + j.length ≤ 16777216 ∧ Q (.str (i ++ j)) s) := rfl
@[simp] theorem rCatL_ap (x y : LV) (s : LS) (Q : List LV → LS → Prop) : rCatL x y s Q = (opt (seqL x s) fun xs => opt (seqL y s) fun ys => xs.length + ys.length ≤ 16777216 ∧ Q (xs ++ ys) s) := rfl
@[simp] theorem rRepL_ap (x : LV) (k : Int) (s : LS) (Q : List LV → LS → Prop) : rRepL x (.int k) s Q = (opt (seqL x s) fun xs => -(2 ^ 63) ≤ k ∧ k < 2 ^ 63 ∧ xs.length * k.toNat ≤ 16777216 ∧ Q (List.replicate k.toNat xs).flatten s) := rfl
@[simp] theorem seqL_lst (xs : List LV) (s : LS) : seqL (.lst xs) s = some xs := rfl
@[simp] theorem seqL_ref (a : Addr) (s : LS) : seqL (.ref a) s = (match s a with
    | some (.lst xs) => some xs
    | _ => none) := rfl
@[simp] theorem seqR_lst (xs : List LV) (s : LS) : seqR (.lst xs) s = some xs := rfl
@[simp] theorem seqR_scr (ns : List Int) (s : LS) : seqR (.scr ns) s = some (ns.map .int) := rfl
@[simp] theorem seqR_ref (a : Addr) (s : LS) : seqR (.ref a) s = (match s a with
    | some (.lst xs) => some xs
    | _ => none) := rfl
@[simp] theorem lenL_lst (xs : List LV) (s : LS) : lenL (.lst xs) s = some xs.length := rfl
@[simp] theorem lenL_tup (xs : List LV) (s : LS) : lenL (.tup xs) s = some xs.length := rfl
@[simp] theorem lenL_scr (xs : List Int) (s : LS) : lenL (.scr xs) s = some xs.length := rfl
@[simp] theorem lenL_ref (a : Addr) (s : LS) : lenL (.ref a) s = (match s a with
    | some (.lst xs) => some xs.length
    | _ => none) := rfl
@[simp] theorem rLenL_str (z : Str) (s : LS) (Q : LVK) : rLenL [.str z] s Q = (z.length ≤ 16777216 ∧ Q (.int z.length) s) := rfl
@[simp] theorem rLenL_lst (xs : List LV) (s : LS) (Q : LVK) : rLenL [.lst xs] s Q = Q (.int (xs.length : Int)) s := rfl
@[simp] theorem rLenL_tup (xs : List LV) (s : LS) (Q : LVK) : rLenL [.tup xs] s Q = Q (.int (xs.length : Int)) s := rfl
@[simp] theorem rLenL_scr (xs : List Int) (s : LS) (Q : LVK) : rLenL [.scr xs] s Q = Q (.int (xs.length : Int)) s := rfl
@[simp] theorem rLenL_ref (a : Addr) (s : LS) (Q : LVK) : rLenL [.ref a] s Q = opt (lenL (.ref a) s) fun n => Q (.int (n : Int)) s := rfl
@[simp] theorem rEqS_int (i j : Int) (s : LS) (Q : LVK) : rEqS (.int i) (.int j) s Q = Q (.bl (decide (i = j))) s := rfl
@[simp] theorem rEqS_bl (i j : Bool) (s : LS) (Q : LVK) : rEqS (.bl i) (.bl j) s Q = Q (.bl (decide (i = j))) s := rfl
@[simp] theorem rEqS_str (i j : Str) (s : LS) (Q : LVK) : rEqS (.str i) (.str j) s Q = Q (.bl (decide (i = j))) s := rfl
@[simp] theorem rNeS_int (i j : Int) (s : LS) (Q : LVK) : rNeS (.int i) (.int j) s Q = Q (.bl (!decide (i = j))) s := rfl
@[simp] theorem rNeS_bl (i j : Bool) (s : LS) (Q : LVK) : rNeS (.bl i) (.bl j) s Q = Q (.bl (!decide (i = j))) s := rfl
@[simp] theorem rNeS_str (i j : Str) (s : LS) (Q : LVK) : rNeS (.str i) (.str j) s Q = Q (.bl (!decide (i = j))) s := rfl
section
variable (s : LS) (Q : LVK)
@[simp] theorem rIsN_non : rIsNonL .non .non s Q = Q (.bl true) s := rfl
@[simp] theorem rIsN_bl (b : Bool) : rIsNonL (.bl b) .non s Q = Q (.bl false) s := rfl
@[simp] theorem rIsN_int (b : Int) : rIsNonL (.int b) .non s Q = Q (.bl false) s := rfl
@[simp] theorem rIsN_str (b : Str) : rIsNonL (.str b) .non s Q = Q (.bl false) s := rfl
@[simp] theorem rIsN_ref (b : Addr) : rIsNonL (.ref b) .non s Q = Q (.bl false) s := rfl
@[simp] theorem rIsN_tup (b : List LV) : rIsNonL (.tup b) .non s Q = Q (.bl false) s := rfl
@[simp] theorem rIsN_lst (b : List LV) : rIsNonL (.lst b) .non s Q = Q (.bl false) s := rfl
@[simp] theorem rIsN_dT (b : List (List Key × LV)) : rIsNonL (.dT b) .non s Q = Q (.bl false) s := rfl
@[simp] theorem rNotN_ap (x y : LV) : rNotNonL x y s Q = rIsNonL x y s fun v s' => match v with
  | .bl c => Q (.bl (!c)) s'
  | _ => False := rfl
@[simp] theorem rIx_lst (xs : List LV) (i : Int) : rIxL (.lst xs) (.int i) s Q = opt (atI xs i) fun v => Q v s := rfl
@[simp] theorem rIx_tup (xs : List LV) (i : Int) : rIxL (.tup xs) (.int i) s Q = opt (atI xs i) fun v => Q v s := rfl
@[simp] theorem rIx_scr (xs : List Int) (i : Int) : rIxL (.scr xs) (.int i) s Q = opt (atI xs i) fun v => Q (.int v) s := rfl
@[simp] theorem rIx_str (z : Str) (i : Int) : rIxL (.str z) (.int i) s Q = (z.length ≤ 16777216 ∧ opt (atI z.cps.toList i) fun c => Q (.str ⟨#[c]⟩) s) := rfl
@[simp] theorem rIx_ref (a : Addr) (i : Int) : rIxL (.ref a) (.int i) s Q = (match s a with
      | some (.lst xs) => opt (atI xs i) fun v => Q v s
      | some (.dK kvs) => opt (valL kvs (.inl i)) fun v => Q v s
      | _ => False) := rfl
@[simp] theorem rIx_key (x : LV) (z : Str) : rIxL x (.str z) s Q = opt (dicK x s) fun kvs => opt (valL kvs (.inr z)) fun v => Q v s := rfl
@[simp] theorem rIx_dT (x : LV) (ks : List LV) : rIxL x (.tup ks) s Q = opt (dicT x s) fun kvs => opt (keysL ks) fun k => opt (valL kvs k) fun v => Q v s := rfl
@[simp] theorem dicK_ref (a : Addr) : dicK (.ref a) s = (match s a with
    | some (.dK kvs) => some kvs
    | _ => none) := rfl
@[simp] theorem dicT_ref (a : Addr) : dicT (.ref a) s = (match s a with
    | some (.dT kvs) => some kvs
    | _ => none) := rfl
@[simp] theorem dicT_dT (kvs : List (List Key × LV)) : dicT (.dT kvs) s = some kvs := rfl
@[simp] theorem atL_ref (a : Addr) (k : Addr → List LV → Prop) : atL (.ref a) s k = (match s a with
    | some (.lst xs) => k a xs
    | _ => False) := rfl
@[simp] theorem keyL_int (i : Int) : keyL (.int i) = some (.inl i) := rfl
@[simp] theorem keyL_str (i : Str) : keyL (.str i) = some (.inr i) := rfl
@[simp] theorem keysL_nil : keysL [] = some [] := rfl
@[simp] theorem keysL_cons (x : LV) (xs : List LV) : keysL (x :: xs) = (keyL x).bind fun k => (keysL xs).map (k :: ·) := rfl
@[simp] theorem fld_ref (C : Addr) (f : Str) (a : Addr) (k : LV → Prop) : fldAt C f (.ref a) s k = (match s a with
    | some (.ins D fs) => D = C ∧ (match fs.lookup f with
      | some v => k v
      | none => False)
    | _ => False) := rfl
@[simp] theorem fld_ins (C D : Addr) (f : Str) (fs : List (Str × LV)) (k : LV → Prop) : fldAt C f (.ins D fs) s k = (D = C ∧ (match fs.lookup f with
    | some v => k v
    | none => False)) := rfl
@[simp] theorem meth_ref (C : Addr) (f : Str) (a : Addr) : methAt C f (.ref a) s = (match s a with
    | some (.ins B fs) => B = C ∧ fs.lookup f = none
    | _ => False) := rfl
@[simp] theorem meth_ins (C D : Addr) (f : Str) (fs : List (Str × LV)) : methAt C f (.ins D fs) s = (D = C ∧ fs.lookup f = none) := rfl
@[simp] theorem clsAt_ref (a : Addr) (k : Addr → List (Str × LV) → Prop) : clsAt (.ref a) s k = (match s a with
    | some (.ins B fs) => k B fs
    | _ => False) := rfl
@[simp] theorem clsAt_ins (C : Addr) (fs : List (Str × LV)) (k : Addr → List (Str × LV) → Prop) : clsAt (.ins C fs) s k = k C fs := rfl
@[simp] theorem rLst_lst (xs : List LV) (Q : List LV → LS → Prop) : rLstOf [.lst xs] s Q = Q xs s := rfl
@[simp] theorem rLst_tup (xs : List LV) (Q : List LV → LS → Prop) : rLstOf [.tup xs] s Q = Q xs s := rfl
@[simp] theorem rLst_scr (xs : List Int) (Q : List LV → LS → Prop) : rLstOf [.scr xs] s Q = Q (xs.map .int) s := rfl
@[simp] theorem rLst_ref (a : Addr) (Q : List LV → LS → Prop) : rLstOf [.ref a] s Q = opt (seqL (.ref a) s) fun xs => Q xs s := rfl
@[simp] theorem rSrtI_ap (vs : List LV) (Q : List LV → LS → Prop) : rSrtI vs s Q = one1 vs fun x => opt (seqL x s) fun xs => opt (intsOf xs) fun ns => ∀ ns' : List Int, ns'.Perm ns → ns'.Pairwise (· ≤ ·) → Q (ns'.map .int) s := rfl
@[simp] theorem rMax2_ap (i j : Int) : rMax2L [.int i, .int j] s Q = Q (.int (if j > i then j else i)) s := rfl
@[simp] theorem rMin2_ap (i j : Int) : rMin2L [.int i, .int j] s Q = Q (.int (if j < i then j else i)) s := rfl
@[simp] theorem rInt_int (i : Int) : rIntL [.int i] s Q = Q (.int i) s := rfl
@[simp] theorem rInt_bl (k : Bool) : rIntL [.bl k] s Q = Q (.int (if k then 1 else 0)) s := rfl
@[simp] theorem rIsi_ap (K : PySem.W.Frag) (x c : LV) : rIsiL K [x, c] s Q = opt (tyAt (fun _ => True) x s) fun t => opt (clsVal c) fun u => (∀ C, t = .ref C → InsC K C) ∧ ∃ b, PySem.W.kitOne K t u = some b ∧ Q (.bl b) s := rfl
@[simp] theorem clsVal_ref (a : Addr) : clsVal (.ref a) = some (.ref a) := rfl
@[simp] theorem clsVal_ty (n : String) : clsVal (.ty n) = some (.type n) := rfl
@[simp] theorem tyAt_non (CT : Addr → Prop) : tyAt CT .non s = some (.type "NoneType") := rfl
@[simp] theorem tyAt_bl (CT : Addr → Prop) (b : Bool) : tyAt CT (.bl b) s = some (.type "bool") := rfl
@[simp] theorem tyAt_int (CT : Addr → Prop) (b : Int) : tyAt CT (.int b) s = some (.type "int") := rfl
@[simp] theorem tyAt_str (CT : Addr → Prop) (b : Str) : tyAt CT (.str b) s = some (.type "str") := rfl
@[simp] theorem tyAt_lst (CT : Addr → Prop) (b : List LV) : tyAt CT (.lst b) s = some (.type "list") := rfl
@[simp] theorem tyAt_tup (CT : Addr → Prop) (b : List LV) : tyAt CT (.tup b) s = some (.type "tuple") := rfl
@[simp] theorem tyAt_ins (CT : Addr → Prop) (C : Addr) (b : List (Str × LV)) : tyAt CT (.ins C b) s = some (.ref C) := rfl
@[simp] theorem tyAt_ref (CT : Addr → Prop) (a : Addr) : tyAt CT (.ref a) s = (match s a with
    | some (.lst _) => some (.type "list")
    | some (.dK _) => some (.type "dict")
    | some (.dT _) => some (.type "dict")
    | some (.ins C _) => some (.ref C)
    | _ => none) := rfl
@[simp] theorem stbOf_ref (a : Addr) (xs : List LV) : stbOf (.ref a) xs s = (s a = some (.lst xs)) := rfl
@[simp] theorem stbOf_lst (ys xs : List LV) : stbOf (.lst ys) xs s = True := rfl
@[simp] theorem stbOf_scr (ys : List Int) (xs : List LV) : stbOf (.scr ys) xs s = True := rfl
@[simp] theorem stbOf_tup (ys xs : List LV) : stbOf (.tup ys) xs s = True := rfl
@[simp] theorem rSet_ap (a : Addr) (y v : LV) (Q : LS → Prop) : rSetL (.ref a) y v s Q = (match s a, y with
    | some (.lst xs), .int k => opt (ixN xs.length k) fun j => Q (put s a (.lst (xs.set j v)))
    | some (.dK kvs), .int k => kvs.length < 16777216 ∧ Q (put s a (.dK (putD kvs (.inl k) v)))
    | some (.dK kvs), .str k => kvs.length < 16777216 ∧ Q (put s a (.dK (putD kvs (.inr k) v)))
    | some (.dT kvs), .tup ks => opt (keysL ks) fun k => kvs.length < 16777216 ∧ Q (put s a (.dT (putD kvs k v)))
    | _, _ => False) := rfl
@[simp] theorem put_same' (a : Addr) (o : LO) : put s a o a = some o := put_same
@[simp] theorem lift_one (i : Nat) : CTg.lift (.one i) = lgName i := rfl
@[simp] theorem lift_many (is : List Nat) : CTg.lift (.many is) = lgTup is := rfl
@[simp] theorem slots_one (i : Nat) : CTg.slots (.one i) = [i] := rfl
@[simp] theorem slots_many (is : List Nat) : CTg.slots (.many is) = is := rfl
@[simp] theorem lwipe_nil (σ : LSt) : lwipe σ [] = σ := rfl
@[simp] theorem lwipe_cons (σ : LSt) (v : Nat) (vs : List Nat) : lwipe σ (v :: vs) = (lwipe σ vs).set v none := rfl
@[simp] theorem lSets_nil (σ : LSt) : lSets [] [] σ = some σ := rfl
@[simp] theorem lSets_cons (i : Nat) (is : List Nat) (v : LV) (vs : List LV) (σ : LSt) : lSets (i :: is) (v :: vs) σ = lSets is vs (σ.set i (some v)) := rfl
@[simp] theorem lgTup_ap (is : List Nat) (xs : List LV) (σ : LSt) (Q : LSt → LS → Prop) (E : LX) : lgTup is (.tup xs) σ s Q E = opt (lSets is xs σ) fun σ' => Q σ' s := by
  simp only [lgTup, opt]
  cases lSets is xs σ <;> rfl
@[simp] theorem lPairs_nil (P : Addr) (σ : LSt) (Q : List (Key × LV) → LS → Prop) (E : LX) : lPairs P [] σ s Q E = Q [] s := rfl
@[simp] theorem lPairs_cons (P : Addr) (k : Str) (t : LTE) (r : List (Str × LTE)) (σ : LSt) (Q : List (Key × LV) → LS → Prop) (E : LX) : lPairs P ((k, t) :: r) σ s Q E = t σ s (fun v s1 => lPairs P r σ s1 (fun ps s2 => Q ((.inr k, v) :: ps) s2) E) E := rfl
end
@[simp] theorem cxOf_K {CX : CXT} {P : Program} {w : World} {K : PySem.W.Frag} {mg : Str → Option Value} {base : Heap} {N : List Str} {qual : Str} {sc : Scope} {f : Addr} {cdv : Value} {A : Around} {outer : List Env} {si : Shared} {H : Hp} {E : XK} : (cxOf CX P w K mg base N qual sc f cdv A outer si H E).K = K := rfl
@[simp] theorem lstart_ap (N : List Str) (vs : List LV) : lstart N vs = vs.map some ++ List.replicate (N.length - vs.length) none := rfl
end L3

namespace L3
open PySem PySem.Spec L2
section
variable {X : Cx} [GG X.K] {K : PySem.W.Frag} [GG K] {s : LS} {H : Hp} {a b e o i : Expr} {es : List Expr} {pos : Pos} {ta tb te to ti t t' : LTE} {tas : LTA}
variable {k : Nat} {f C : Addr} {fd : FuncData} {ps : List Str} {sp : LSp} {x m : Str} {p apos : Pos}
theorem LE.imp (h : LE X e t) (hi : ∀ σ s Q E, t' σ s Q E → t σ s Q E) : LE X e t' := fun s0 H0 E tk => (h s0 H0 E tk).imp fun σ H Q ⟨σl, s, Q0, E1, hσ, hs, st, hE, h, k⟩ => ⟨σl, s, Q0, E1, hσ, hs, st, hE, hi _ _ _ _ h, k⟩
theorem Sub.put {s s' : LS} {x : Addr} {o : LO} (h : Sub s s') (n : s x = none) : Sub s (put s' x o) := fun a => by
  unfold L3.put
  by_cases e : a = x
  · subst e; exact .inl n
  · rw [if_neg e]; exact h a
theorem Sub.trans {s s' s2 : LS} (h : Sub s s') (h' : Sub s' s2) : Sub s s2 := fun a => by
  rcases h a with q | q
  · exact .inl q
  · rcases h' a with r | r
    · exact .inl (by rw [q, r])
    · exact .inr (by rw [q, r])
theorem Sub.free {s s' : LS} {x : Addr} (h : Sub s s') (n : s' x = none) : s x = none := by
  rcases h x with q | q
  · exact q
  · rw [q, n]
theorem Sub.del {s s' : LS} {x : Addr} (h : Sub s s') : Sub (del s x) s' := fun a => by
  unfold L3.del
  by_cases e : a = x
  · exact .inl (if_pos e)
  · rw [if_neg e]; exact h a
theorem sub_put {s : LS} {x : Addr} {o : LO} (n : s x = none) : Sub s (put s x o) := (Sub.refl s).put n
theorem sub_del {s : LS} {x : Addr} : Sub (del s x) s := (Sub.refl s).del
theorem fin {Q : LVK} {x : LV} {s' s2 : LS} (h : Sub s2 s') (q : Q x s2) : ∃ y s2, Frz x s' y s2 ∧ Q y s2 := ⟨x, s2, .sub h, q⟩
theorem fin_lst {Q : LVK} {r : Addr} {xs : List LV} {s' s2 : LS} (e : s' r = some (.lst xs)) (n : s2 r = none) (h : Sub s2 s') (q : Q (.lst xs) s2) : ∃ y s2, Frz (.ref r) s' y s2 ∧ Q y s2 := ⟨_, s2, .lst e n h, q⟩
theorem fin_dT {Q : LVK} {r : Addr} {xs : List (List Key × LV)} {s' s2 : LS} (e : s' r = some (.dT xs)) (n : s2 r = none) (h : Sub s2 s') (q : Q (.dT xs) s2) : ∃ y s2, Frz (.ref r) s' y s2 ∧ Q y s2 := ⟨_, s2, .dT e n h, q⟩
theorem fin_ins {Q : LVK} {r C : Addr} {xs : List (Str × LV)} {s' s2 : LS} (e : s' r = some (.ins C xs)) (n : s2 r = none) (h : Sub s2 s') (q : Q (.ins C xs) s2) : ∃ y s2, Frz (.ref r) s' y s2 ∧ Q y s2 := ⟨_, s2, .ins e n h, q⟩
theorem put_inj {s : LS} {x : Addr} {o o' : LO} : put s x o = put s x o' ↔ o = o' := by
  constructor
  · intro h
    have := congrFun h x
    rw [put_same, put_same] at this
    exact Option.some.inj this
  · intro h; rw [h]
/-- C() frozen at once -/
def lMakeNF (C : Addr) : LTE := fun _ s Q _ => Q (.ins C []) s
theorem le_makeNF (M : MkN X.K C) (hg : Gl X x) (hm : X.mg x = some (.ref C)) (hdb : (x == ("__debug__" : Str)) = false := by decide) : LE X (.Call (.Name x p) [] [] pos) (lMakeNF C) :=
  (le_frz (le_makeN M hg hm hdb)).imp fun σ s Q E h y hy => ⟨_, s, .ins put_same hy (sub_put hy), h⟩
/-- C(..) frozen once its __init__ has ended -/
def lMakeZ (C : Addr) (sp : LSp) (t : LTA) : LTE := fun σ s Q E => t σ s (fun vs s1 => ∀ x, s1 x = none → sp (.ref x :: vs) (put s1 x (.ins C [])) (fun v s2 => v = .non ∧ ∃ fs, s2 = put s1 x (.ins C fs) ∧ Q (.ins C fs) s1) (fun c s2 => s2 = put s1 x (.ins C []) ∧ E c s1)) E
theorem dn_callS {s0 : LS} {H0 : Hp} {E : LXS} {σ : St} {H : Hp} {Q : VK} {sp : LSp} {K : PySem.W.Frag} [GG K] {σl : LSt} {s sR : LS} {HR : Hp} {lvs : List LV} {vs : List V} {Q0 : LVK} {E1 : LX} (hσ : RSt K sR HR σl σ) (hs : RelS K s H) (st : Step s0 H0 sR HR) (stR : Step sR HR s H)
    (hE : ∀ C s', E1 C s' → Sub sR s' ∧ E C σl sR) (r : RVs K s H lvs vs) (h : sp lvs s Q0 E1) (k : ∀ lv s' v H', Q0 lv s' → Step s H s' H' → RelS K s' H' → RV K s' H' lv v → Q v H') : dn K sp vs H Q (WE (WL K s0 H0 E) σ) :=
  ⟨lvs, s, Q0, E1, r, hs, h, k, fun C s' H' q st1 hs1 => by
    obtain ⟨sb, q'⟩ := hE C s' q
    have st2 := (stR.trans st1).trans sb.step
    exact ⟨C, σl, sR, rfl, rfl, hσ.mono st2, sb.rel hs1, st.trans st2, q'⟩⟩
theorem le_makeZ (M : Mk X.K C f) (F : LFn X.prog X.w X.K X.mg X.base k f fd ps sp) (hr : Room (k + 1) X.A) (hg : Gl X x) (hm : X.mg x = some (.ref C)) (hb : Binds X.K fd ps []) (ha : LA X (e :: es) tas)
    (hdb : (x == ("__debug__" : Str)) = false := by decide) (he : starEach (e :: es) X.env = (false, eval e X.env) :: starEach es X.env := by rfl) (hpl : (backTo pos (starEach es X.env)).any (·.1) = false := by rfl) :
    LE X (.Call (.Name x p) (e :: es) [] pos) (lMakeZ C sp tas) := fun s0 H0 E tk => ⟨fun pins si σ H Q I ⟨σl, s, Q0, E1, hσ, hs, st, hE, h, kk⟩ => by
  refine wpAny_Call_Name_kw (ld_glob I hg hm ?_ hdb)
  refine PySem.W.callWith_K (h₀ := X.base) I.ok.mod.kin M.kp (thn (ha.go tk pos I hσ hs st hE h) fun us si1 hx => ?_) he hpl
  obtain ⟨vs, H1, I1, rvs, lvs, s1, st1, hs1, r, h⟩ := hx
  refine ⟨I1.kIn, run_makeS M F hr hb (passAt tk σ) I1 rvs fun y dx ny nd ne => ?_⟩
  obtain ⟨stm, hsm⟩ := made_step (C := C) hs1 ny nd ne
  have n1 : upd H1 dx (.own y) y = none := by rw [upd_ne (Ne.symm ne)]; exact ny
  have st2 := st1.trans stm
  have sb : Sub s1 (put s1 y (.ins C [])) := sub_put (hs1.free ny)
  have r2 := r.mono stm
  refine dn_callS (sR := s1) (HR := H1) (s := put s1 y (.ins C [])) (hσ.mono st1) hsm (st.trans st1) stm (fun C' s' q => ⟨by rw [q.1]; exact sb, hE _ _ q.2⟩) (.cons .ref r2) (h y (hs1.free ny)) fun lv s3 v H3 q st3 hs3 rv => ?_
  · obtain ⟨rfl, fs, rfl, q⟩ := q
    refine ⟨rv.non', ?_⟩
    have z := Frz.ins (s1 := put s1 y (.ins C fs)) (s2 := s1) (a := y) put_same (hs1.free ny) (sub_put (hs1.free ny)) X.K H3 (.ref y) hs3 .ref
    exact kk _ s1 _ H3 q (st2.trans (st3.trans z.2.2)) z.2.1 z.1⟩
end
end L3

namespace L3
open PySem PySem.Spec L2
mutual
def datV : LV → Option PyData
  | .non => some .none
  | .bl b => some (.bool b)
  | .int i => some (.int i)
  | .str z => some (.str z)
  | .lst xs => (datVs xs).map .list
  | .tup xs => (datVs xs).map .tuple
  | _ => none
def datVs : List LV → Option (List PyData)
  | [] => some []
  | x :: xs => (datV x).bind fun d => (datVs xs).map (d :: ·)
end
mutual
theorem isd_of_dat {s : LS} : ∀ {x : LV} {d : PyData}, datV x = some d → Isd s d x
  | .non, d, h => by simp only [datV, Option.some.injEq] at h; subst h; simp only [Isd]
  | .bl b, d, h => by simp only [datV, Option.some.injEq] at h; subst h; simp only [Isd]
  | .int b, d, h => by simp only [datV, Option.some.injEq] at h; subst h; simp only [Isd]
  | .str b, d, h => by simp only [datV, Option.some.injEq] at h; subst h; simp only [Isd]
  | .lst xs, d, h => by
    simp only [datV, Option.map_eq_some_iff] at h
    obtain ⟨ds, h, rfl⟩ := h
    simp only [Isd]
    exact .inl ⟨xs, rfl, isds_of_dat h⟩
  | .tup xs, d, h => by
    simp only [datV, Option.map_eq_some_iff] at h
    obtain ⟨ds, h, rfl⟩ := h
    simp only [Isd]
    exact ⟨xs, rfl, isds_of_dat h⟩
  | .ty _, _, h => by simp only [datV] at h; cases h
  | .ref _, _, h => by simp only [datV] at h; cases h
  | .scr _, _, h => by simp only [datV] at h; cases h
  | .dT _, _, h => by simp only [datV] at h; cases h
  | .ins _ _, _, h => by simp only [datV] at h; cases h
theorem isds_of_dat {s : LS} : ∀ {xs : List LV} {ds : List PyData}, datVs xs = some ds → Isds s ds xs
  | [], ds, h => by simp only [datVs, Option.some.injEq] at h; subst h; simp only [Isds]
  | x :: xs, ds, h => by
    simp only [datVs, Option.bind_eq_some_iff, Option.map_eq_some_iff] at h
    obtain ⟨d, h1, ds', h2, rfl⟩ := h
    simp only [Isds]
    exact ⟨x, xs, rfl, isd_of_dat h1, isds_of_dat h2⟩
end
def dat (s : LS) (x : LV) : Option PyData := match x with
  | .ref a => (match s a with
    | some (.lst xs) => (datVs xs).map .list
    | _ => none)
  | x => datV x
theorem isd_dat {s : LS} {x : LV} {d : PyData} (h : dat s x = some d) : Isd s d x := by
  cases x with
  | ref a =>
    simp only [dat] at h
    split at h
    · next xs e =>
      simp only [Option.map_eq_some_iff] at h
      obtain ⟨ds, h, rfl⟩ := h
      simp only [Isd]
      exact .inr ⟨a, xs, rfl, e, isds_of_dat h⟩
    · cases h
  | _ => exact isd_of_dat h
@[simp] theorem dat_non (s : LS) : dat s .non = some .none := by simp only [dat, datV]
@[simp] theorem dat_bl (s : LS) (b : Bool) : dat s (.bl b) = some (.bool b) := by simp only [dat, datV]
@[simp] theorem dat_int (s : LS) (b : Int) : dat s (.int b) = some (.int b) := by simp only [dat, datV]
@[simp] theorem dat_str (s : LS) (b : Str) : dat s (.str b) = some (.str b) := by simp only [dat, datV]
@[simp] theorem dat_lst (s : LS) (xs : List LV) : dat s (.lst xs) = (datVs xs).map .list := by simp only [dat, datV]
@[simp] theorem dat_tup (s : LS) (xs : List LV) : dat s (.tup xs) = (datVs xs).map .tuple := by simp only [dat, datV]
@[simp] theorem dat_ref (s : LS) (a : Addr) : dat s (.ref a) = (match s a with
    | some (.lst xs) => (datVs xs).map .list
    | _ => none) := rfl
@[simp] theorem datV_non : datV .non = some .none := by simp only [datV]
@[simp] theorem datV_bl (b : Bool) : datV (.bl b) = some (.bool b) := by simp only [datV]
@[simp] theorem datV_int (b : Int) : datV (.int b) = some (.int b) := by simp only [datV]
@[simp] theorem datV_str (b : Str) : datV (.str b) = some (.str b) := by simp only [datV]
@[simp] theorem datV_lst (xs : List LV) : datV (.lst xs) = (datVs xs).map .list := by simp only [datV]
@[simp] theorem datV_tup (xs : List LV) : datV (.tup xs) = (datVs xs).map .tuple := by simp only [datV]
@[simp] theorem datVs_nil : datVs [] = some [] := by simp only [datVs]
@[simp] theorem datVs_cons (x : LV) (xs : List LV) : datVs (x :: xs) = (datV x).bind fun d => (datVs xs).map (d :: ·) := by simp only [datVs]
def rEqV (neg : Bool) : LR2 := fun x y s Q => opt (dat s x) fun d => opt (dat s y) fun e => (SeqAt.shaped d = true ∧ SeqAt.shaped e = true) ∧ Q (.bl (neg.xor (PyData.eqv d e))) s
@[simp] theorem rEqV_ap (neg : Bool) (x y : LV) (s : LS) (Q : LVK) : rEqV neg x y s Q = (opt (dat s x) fun d => opt (dat s y) fun e => (SeqAt.shaped d = true ∧ SeqAt.shaped e = true) ∧ Q (.bl (neg.xor (PyData.eqv d e))) s) := rfl
theorem eqV_L {x y : LV} {s : LS} {Q : LVK} (h : rEqV false x y s Q) : rEqL x y s Q := by
  obtain ⟨d, h1, h⟩ := opt_ok h
  obtain ⟨e, h2, ⟨h3, h4⟩, h⟩ := opt_ok h
  exact ⟨d, e, isd_dat h1, isd_dat h2, h3, h4, by simpa using h⟩
theorem neV_L {x y : LV} {s : LS} {Q : LVK} (h : rEqV true x y s Q) : rNeL x y s Q := by
  obtain ⟨d, h1, h⟩ := opt_ok h
  obtain ⟨e, h2, ⟨h3, h4⟩, h⟩ := opt_ok h
  exact ⟨d, e, isd_dat h1, isd_dat h2, h3, h4, by simpa using h⟩
def rInV (neg : Bool) : LR2 := fun x y s Q => opt (seqL y s) fun xs => opt (dat s x) fun d => opt (datVs xs) fun ds => (SeqAt.shaped d = true ∧ SeqAt.shaped (.list ds) = true) ∧ Q (.bl (neg.xor (ds.any fun z => PyData.eqv z d))) s
@[simp] theorem rInV_ap (neg : Bool) (x y : LV) (s : LS) (Q : LVK) : rInV neg x y s Q = (opt (seqL y s) fun xs => opt (dat s x) fun d => opt (datVs xs) fun ds => (SeqAt.shaped d = true ∧ SeqAt.shaped (.list ds) = true) ∧ Q (.bl (neg.xor (ds.any fun z => PyData.eqv z d))) s) := rfl
theorem inV_L {neg : Bool} {x y : LV} {s : LS} {Q : LVK} (h : rInV neg x y s Q) : rInL neg x y s Q := by
  obtain ⟨xs, e, h⟩ := opt_ok h
  obtain ⟨d, h1, h⟩ := opt_ok h
  obtain ⟨ds, h2, ⟨h3, h4⟩, h⟩ := opt_ok h
  show opt (seqL y s) _
  rw [e]
  exact ⟨d, ds, isd_dat h1, isds_of_dat h2, h3, h4, h⟩
section
variable {X : Cx} [GG X.K] {K : PySem.W.Frag} [GG K] {s : LS} {H : Hp} {a b : Expr} {pos : Pos} {ta tb : LTE}
theorem Up2.imp {K : PySem.W.Frag} [GG K] {r : R2} {rl rl' : LR2} (u : Up2 K r rl) (h : ∀ x y s Q, rl' x y s Q → rl x y s Q) : Up2 K r rl' := fun x y s H lx ly Q0 Q hs rx ry q k => u x y s H lx ly Q0 Q hs rx ry (h _ _ _ _ q) k
theorem le_eqV (hu : X.A.units + 64 < cLine) (ha : LE X a ta) (hb : LE X b tb) : LE X (.Compare a [.Eq] [b] pos) (lOp (rEqV false) ta tb) := le_cmp (op_eqD hu) (up_eqL.imp fun _ _ _ _ => eqV_L) ha hb (nomark _)
theorem le_neV (hu : X.A.units + 64 < cLine) (ha : LE X a ta) (hb : LE X b tb) : LE X (.Compare a [.NotEq] [b] pos) (lOp (rEqV true) ta tb) := le_cmp (op_neD hu) (up_neL.imp fun _ _ _ _ => neV_L) ha hb (nomark _)
theorem lt_eqV (hu : X.A.units + 64 < cLine) (ha : LE X a ta) (hb : LE X b tb) : LT X (.Compare a [.Eq] [b] pos) (lB (lOp (rEqV false) ta tb)) := lt_cmp (op_eqD hu) (up_eqL.imp fun _ _ _ _ => eqV_L) ha hb (nomark _)
theorem lt_neV (hu : X.A.units + 64 < cLine) (ha : LE X a ta) (hb : LE X b tb) : LT X (.Compare a [.NotEq] [b] pos) (lB (lOp (rEqV true) ta tb)) := lt_cmp (op_neD hu) (up_neL.imp fun _ _ _ _ => neV_L) ha hb (nomark _)
theorem le_inV (hu : X.A.units + 65 < cLine) (ha : LE X a ta) (hb : LE X b tb) (hm : behindInMarks .In b = false) : LE X (.Compare a [.In] [b] pos) (lOp (rInV false) ta tb) := le_cmp (op_inD hu) (up_inL.imp fun _ _ _ _ => inV_L) ha hb hm
theorem le_ninV (hu : X.A.units + 65 < cLine) (ha : LE X a ta) (hb : LE X b tb) (hm : behindInMarks .NotIn b = false) : LE X (.Compare a [.NotIn] [b] pos) (lOp (rInV true) ta tb) := le_cmp (op_notInD hu) (up_ninL.imp fun _ _ _ _ => inV_L) ha hb hm
theorem lt_inV (hu : X.A.units + 65 < cLine) (ha : LE X a ta) (hb : LE X b tb) (hm : behindInMarks .In b = false) : LT X (.Compare a [.In] [b] pos) (lB (lOp (rInV false) ta tb)) := lt_cmp (op_inD hu) (up_inL.imp fun _ _ _ _ => inV_L) ha hb hm
theorem lt_ninV (hu : X.A.units + 65 < cLine) (ha : LE X a ta) (hb : LE X b tb) (hm : behindInMarks .NotIn b = false) : LT X (.Compare a [.NotIn] [b] pos) (lB (lOp (rInV true) ta tb)) := lt_cmp (op_notInD hu) (up_ninL.imp fun _ _ _ _ => inV_L) ha hb hm
end
class Cod (α : Type) where
  enc : α → LV
  den : α → PyData
  datV : ∀ a, L3.datV (enc a) = some (den a)
  can : ∀ a, (den a).canLay0 = true
  dep : Nat
  hdep : ∀ a, (den a).depth ≤ dep
  eqv : ∀ a b, PyData.eqv (den a) (den b) = true ↔ a = b
variable {α β : Type}
def encs [Cod α] (xs : List α) : List LV := xs.map Cod.enc
theorem datVs_enc [Cod α] : ∀ xs : List α, datVs (xs.map Cod.enc) = some (xs.map Cod.den)
  | [] => by simp
  | x :: xs => by simp only [List.map_cons, datVs_cons, Cod.datV, datVs_enc xs, Option.bind_some, Option.map_some]
theorem can_all [Cod α] : ∀ xs : List α, PyData.canLayAll0 (xs.map Cod.den) = true
  | [] => by simp [PyData.canLayAll0]
  | x :: xs => by simp only [List.map_cons, PyData.canLayAll0, Cod.can, can_all xs, Bool.and_true]
theorem dep_all [Cod α] : ∀ xs : List α, PyData.depthAll (xs.map Cod.den) ≤ Cod.dep α
  | [] => by simp [PyData.depthAll]
  | x :: xs => by
    simp only [List.map_cons, PyData.depthAll]
    exact Nat.max_le.mpr ⟨Cod.hdep x, dep_all xs⟩
theorem eqv_all [Cod α] : ∀ xs ys : List α, PyData.eqvAll (xs.map Cod.den) (ys.map Cod.den) = true ↔ xs = ys
  | [], [] => by simp [PyData.eqvAll]
  | [], _ :: _ => by simp [PyData.eqvAll]
  | _ :: _, [] => by simp [PyData.eqvAll]
  | x :: xs, y :: ys => by simp only [List.map_cons, PyData.eqvAll, Bool.and_eq_true, Cod.eqv, eqv_all xs ys, List.cons.injEq]
instance : Cod Int := ⟨.int, .int, fun _ => by simp, fun _ => by simp [PyData.canLay0], 0, fun _ => by simp [PyData.depth], fun a b => by simp [PyData.eqv]⟩
instance : Cod Bool := ⟨.bl, .bool, fun _ => by simp, fun _ => by simp [PyData.canLay0], 0, fun _ => by simp [PyData.depth], fun a b => by simp [PyData.eqv]⟩
instance [Cod α] : Cod (List α) := ⟨fun xs => .lst (xs.map Cod.enc), fun xs => .list (xs.map Cod.den), fun xs => by simp [datVs_enc], fun xs => by simp only [PyData.canLay0]; exact can_all xs, Cod.dep α + 1, fun xs => by
  simp only [PyData.depth]; exact Nat.succ_le_succ (dep_all xs), fun a b => by simp only [PyData.eqv]; exact eqv_all a b⟩
instance [Cod α] [Cod β] : Cod (α × β) := ⟨fun p => .tup [Cod.enc p.1, Cod.enc p.2], fun p => .tuple [Cod.den p.1, Cod.den p.2], fun p => by simp [Cod.datV], fun p => by simp [PyData.canLay0, PyData.canLayAll0, Cod.can], max (Cod.dep α) (Cod.dep β) + 1, fun p => by
  simp only [PyData.depth, PyData.depthAll]
  have := Cod.hdep p.1
  have := Cod.hdep p.2
  omega, fun a b => by
  simp only [PyData.eqv, PyData.eqvAll, Bool.and_true, Bool.and_eq_true, Cod.eqv, Prod.ext_iff]⟩
/-- a letter's name -/
structure Nm where
  hand : Int
  place : Int
  k : Int
deriving DecidableEq, Repr
def nmL (n : Nm) : LV := .tup [.int n.hand, .int n.place, .int n.k]
def nmD (n : Nm) : PyData := .tuple [.int n.hand, .int n.place, .int n.k]
instance : Cod Nm := ⟨nmL, nmD, fun p => by simp [nmL, nmD], fun p => by simp [nmD, PyData.canLay0, PyData.canLayAll0], 1, fun p => by simp [nmD, PyData.depth, PyData.depthAll], fun a b => by
  cases a; cases b; simp [nmD, PyData.eqv, PyData.eqvAll]⟩
instance [Cod α] : Cod (Option α) where
  enc := fun o => match o with
    | none => .non
    | some a => .tup [Cod.enc a]
  den := fun o => match o with
    | none => .none
    | some a => .tuple [Cod.den a]
  datV := fun o => by cases o <;> simp [Cod.datV]
  can := fun o => by cases o <;> simp [PyData.canLay0, PyData.canLayAll0, Cod.can]
  dep := Cod.dep α + 1
  hdep := fun o => by
    cases o with
    | none => simp [PyData.depth]
    | some a =>
      simp only [PyData.depth, PyData.depthAll]
      have := Cod.hdep a
      omega
  eqv := fun a b => by cases a <;> cases b <;> simp [PyData.eqv, PyData.eqvAll, Cod.eqv]
theorem shaped_cod [Cod α] (h : Cod.dep α ≤ 64) (a : α) : SeqAt.shaped (Cod.den a) = true := by
  unfold SeqAt.shaped
  rw [Cod.can, Bool.true_and]
  exact decide_eq_true (Nat.le_trans (Cod.hdep a) h)
theorem eqv_cod [Cod α] [DecidableEq α] (a b : α) : PyData.eqv (Cod.den a) (Cod.den b) = decide (a = b) := by
  by_cases h : a = b
  · rw [decide_eq_true h]; exact (Cod.eqv a b).mpr h
  · rw [decide_eq_false h]
    cases e : PyData.eqv (Cod.den a) (Cod.den b) with
    | false => rfl
    | true => exact absurd ((Cod.eqv a b).mp e) h
/-- the value at hand is the coded a -/
def Den [Cod α] (s : LS) (x : LV) (a : α) : Prop := dat s x = some (Cod.den a)
theorem den_enc [Cod α] (s : LS) (a : α) : Den s (Cod.enc a) a := by
  have h := Cod.datV a
  unfold Den dat
  cases e : Cod.enc a with
  | ref p => rw [e] at h; simp only [L3.datV] at h; cases h
  | _ => rw [e] at h; exact h
theorem den_ref [Cod α] {s : LS} {r : Addr} {xs : List α} (h : s r = some (.lst (xs.map Cod.enc))) : Den s (.ref r) xs := by
  unfold Den
  rw [dat_ref, h]
  simp only [datVs_enc, Option.map_some]
  rfl
theorem rEqV_den [Cod α] [DecidableEq α] {neg : Bool} {x y : LV} {s : LS} {Q : LVK} {a b : α} (hd : Cod.dep α ≤ 64) (hx : Den s x a) (hy : Den s y b) : rEqV neg x y s Q = Q (.bl (neg.xor (decide (a = b)))) s := by
  rw [rEqV_ap, hx, hy, opt_some, opt_some, shaped_cod hd, shaped_cod hd, eqv_cod]
  simp
theorem any_cod [Cod α] [DecidableEq α] (xs : List α) (a : α) : ((xs.map Cod.den).any fun z => PyData.eqv z (Cod.den a)) = decide (a ∈ xs) := by
  induction xs with
  | nil => simp
  | cons x xs ih => rw [List.map_cons, List.any_cons, ih, eqv_cod]; simp [eq_comm]
theorem rInV_den [Cod α] [DecidableEq α] {neg : Bool} {x y : LV} {s : LS} {Q : LVK} {a : α} {b : List α} (hd : Cod.dep α < 64) (hx : Den s x a) (hy : seqL y s = some (b.map Cod.enc)) : rInV neg x y s Q = Q (.bl (neg.xor (decide (a ∈ b)))) s := by
  rw [rInV_ap, hx, hy, opt_some, opt_some, datVs_enc, opt_some, shaped_cod (Nat.le_of_lt hd), show SeqAt.shaped (.list (b.map Cod.den)) = true from shaped_cod (α := List α) hd b, any_cod]
  simp
end L3
namespace L3
theorem ifD {P A B : Prop} [Decidable P] (h1 : P → A) (h2 : ¬P → B) : (decide P = true → A) ∧ (decide P = false → B) := ⟨fun h => h1 (of_decide_eq_true h), fun h => h2 (of_decide_eq_false h)⟩
theorem ifN {P A B : Prop} [Decidable P] (h1 : ¬P → A) (h2 : P → B) : ((!decide P) = true → A) ∧ ((!decide P) = false → B) := ⟨fun h => h1 (by simpa using h), fun h => h2 (by simpa using h)⟩
theorem ifT {c : Bool} {A B : Prop} (e : c = true) (h : A) : (c = true → A) ∧ (c = false → B) := ⟨fun _ => h, fun q => by rw [e] at q; cases q⟩
theorem ifF {c : Bool} {A B : Prop} (e : c = false) (h : B) : (c = true → A) ∧ (c = false → B) := ⟨fun q => (by rw [e] at q; cases q), fun _ => h⟩
theorem ifB {c : Bool} {A B : Prop} (h1 : c = true → A) (h2 : c = false → B) : (c = true → A) ∧ (c = false → B) := ⟨h1, h2⟩
end L3

namespace L3
open PySem PySem.Spec L2
variable {α : Type} {g : LTG} {tb : LTS} {stb : LS → Prop} {D : LEnds}
theorem lLoop_map (enc : α → LV) (I : List α → List α → LSt → LS → Prop) {xs : List α} {σ : LSt} {s : LS} (h0 : I [] xs σ s) (hst : ∀ p r σ s, I p r σ s → stb s)
    (hs : ∀ p x r σ s N, xs = p ++ x :: r → I p (x :: r) σ s → (∀ σ' s', I (p ++ [x]) r σ' s' → N σ' s') → g (enc x) σ s (fun σ2 s2 => tb (D.wlp N) σ2 s2) (fun C s1 => D.ex C σ s1))
    (hn : ∀ σ s, I xs [] σ s → D.nx σ s) : lLoop g tb stb D (xs.map enc) σ s := by
  have go : ∀ (r p : List α) (σ : LSt) (s : LS), xs = p ++ r → I p r σ s → lLoop g tb stb D (r.map enc) σ s := by
    intro r
    induction r with
    | nil =>
      intro p σ s e i
      rw [List.append_nil] at e
      subst e
      exact ⟨hst _ _ _ _ i, hn _ _ i⟩
    | cons x r ih =>
      intro p σ s e i
      exact ⟨hst _ _ _ _ i, hs p x r σ s _ e i fun σ' s' q => ih (p ++ [x]) σ' s' (by simp [e]) q⟩
  exact go xs [] σ s rfl h0
/-- .. over a range: what holds ahead of the turn i -/
theorem lLoop_rg {a b : Int} (I : Nat → LSt → LS → Prop) {σ : LSt} {s : LS} (h0 : I 0 σ s) (hst : ∀ i σ s, I i σ s → stb s)
    (hs : ∀ i σ s N, i < (b - a).toNat → I i σ s → (∀ σ' s', I (i + 1) σ' s' → N σ' s') → g (.int (a + (i : Nat))) σ s (fun σ2 s2 => tb (D.wlp N) σ2 s2) (fun C s1 => D.ex C σ s1))
    (hn : ∀ σ s, I (b - a).toNat σ s → D.nx σ s) : lLoop g tb stb D (rgL a b) σ s := by
  refine lLoop_map (fun i : Nat => LV.int (a + (i : Nat))) (fun p r σ s => I p.length σ s) h0 (fun p r σ s => hst _ _ _) ?_ ?_
  · intro p x r σ s N e i k
    have hl : p.length + (r.length + 1) = (b - a).toNat := by
      have := congrArg List.length e
      simpa using this.symm
    have hx : x = p.length := by
      have := congrArg (fun l : List Nat => l[p.length]?) e
      simp at this
      rw [List.getElem?_range (by omega)] at this
      simpa using this.symm
    subst hx
    refine hs p.length σ s N (by omega) i fun σ' s' q => k σ' s' ?_
    simpa using q
  · intro σ s i
    refine hn σ s ?_
    simpa using i
/-- what was held is held still -/
def Ext (s s' : LS) : Prop := ∀ a o, s a = some o → s' a = some o
theorem Ext.refl (s : LS) : Ext s s := fun _ _ h => h
theorem Ext.trans {s s' s2 : LS} (h : Ext s s') (h' : Ext s' s2) : Ext s s2 := fun a o e => h' a o (h a o e)
theorem Ext.put {s s' : LS} {x : Addr} {o : LO} (h : Ext s s') (n : s x = none) : Ext s (put s' x o) := fun a o' e => by
  have ne : a ≠ x := by rintro rfl; rw [n] at e; cases e
  rw [put_ne ne]
  exact h a o' e
theorem Ext.sub {s s' : LS} (h : Ext s s') : Sub s s' := fun a => by
  cases e : s a with
  | none => exact .inl rfl
  | some o => exact .inr (h a o e).symm
theorem ext_put {s : LS} {x : Addr} {o : LO} (n : s x = none) : Ext s (put s x o) := (Ext.refl s).put n
theorem lc_pure {enc : α → LV} {Da : Addr} {gc : CTg} {tt : LTT} {te : LTE} {σw : LSt} {Q : List LV → LS → Prop} {s : LS} {xs : List α} (hD : s Da = none) (p : α → Bool) (f : α → LV) (hst : ∀ s', Ext s s' → stb s') (hlen : xs.length ≤ 16777216)
    (hs : ∀ x ∈ xs, ∀ s' (Y : LV → LS → Prop) (N : LS → Prop), Ext s s' → (p x = true → Y (f x) s') → (p x = false → N s') →
      gc.lift (enc x) σw s' (fun σ2 s2 => tt σ2 s2 (fun b s3 => (b = true → te σ2 s3 Y fun _ _ => False) ∧ (b = false → N s3)) fun _ _ => False) fun _ _ => False)
    (hQ : Q ((xs.filter p).map f) s) : lcLoop Da gc tt te stb σw Q (xs.map enc) (put s Da (.lst [])) := by
  have go : ∀ (r q : List α), xs = q ++ r → lcLoop Da gc tt te stb σw Q (r.map enc) (put s Da (.lst ((q.filter p).map f))) := by
    intro r
    induction r with
    | nil =>
      intro q e
      rw [List.append_nil] at e
      subst e
      refine ⟨hst _ (ext_put hD), ?_⟩
      rw [put_same]
      show Q _ (del (put s Da _) Da)
      have : del (put s Da (.lst ((xs.filter p).map f))) Da = s := by
        funext b
        unfold del put
        by_cases h : b = Da
        · rw [if_pos h, h, hD]
        · rw [if_neg h, if_neg h]
      rw [this]
      exact hQ
    | cons x r ih =>
      intro q e
      refine ⟨hst _ (ext_put hD), ?_⟩
      have hl : ((q.filter p).map f).length < 16777216 := by
        have h1 := List.length_filter_le p q
        have h2 := congrArg List.length e
        simp at h2
        rw [List.length_map]
        omega
      have z := ih (q ++ [x]) (by simp [e])
      refine hs x (by simp [e]) _ _ _ (ext_put hD) (fun hp => ?_) (fun hp => ?_)
      · show match put s Da _ Da with | some (.lst acc) => _ | _ => False
        rw [put_same]
        refine ⟨hl, ?_⟩
        rw [put_put]
        simpa [List.filter_append, hp] using z
      · simpa [List.filter_append, hp] using z
  exact go xs [] rfl
end L3

namespace L3
open PySem PySem.Spec L2
/-- the law's own promise; tabs: the tables of code objects that makers fill -/
def spLaw (tabs : List (Addr × Str)) : LSp := fun vs s Q E => ∃ ns : List Int, ns.length ≤ 63 ∧ vs = [.scr ns] ∧ (∀ p ∈ tabs, s p.1 = some (.tab p.2)) ∧ Q (.bl true) s
theorem law_starts {K : PySem.W.Frag} [GG K] (tabs : List (Addr × Str)) (nd : (tabs.map (·.1)).Nodup) (H : Hp) (a : Addr) (ns : List Int) (hl : ns.length ≤ 63) (hT : ∀ p ∈ tabs, H p.1 = some (.tbl #[])) (hS : SqL K H a (ns.map V.int)) :
    dn K (spLaw tabs) [.ref a] H (fun v _ => v = .bl true) fun _ _ _ => False := by
  have look : ∀ (l : List (Addr × Str)) (b : Addr) (q : Str), l.lookup b = some q → (b, q) ∈ l := fun l => by
    induction l with
    | nil => intro b q h; cases h
    | cons p r ih =>
      intro b q h
      obtain ⟨c, z⟩ := p
      rw [List.lookup_cons] at h
      by_cases e : b = c
      · subst e; rw [beq_self_eq_true] at h; cases h; simp
      · rw [beq_eq_false_iff_ne.mpr e] at h
        exact List.mem_cons_of_mem _ (ih b q h)
  have has : ∀ (l : List (Addr × Str)), (l.map (·.1)).Nodup → ∀ p ∈ l, l.lookup p.1 = some p.2 := fun l => by
    induction l with
    | nil => intro _ p h; cases h
    | cons p r ih =>
      intro nd x h
      rw [List.map_cons, List.nodup_cons] at nd
      obtain ⟨c, z⟩ := p
      rw [List.lookup_cons]
      rcases List.mem_cons.mp h with rfl | h
      · rw [beq_self_eq_true]
      · have : x.1 ≠ c := fun e => nd.1 (by rw [← e]; exact List.mem_map_of_mem (f := (·.1)) h)
        rw [beq_eq_false_iff_ne.mpr this]
        exact ih nd.2 x h
  refine ⟨[.scr ns], fun b => (tabs.lookup b).map .tab, fun v _ => v = .bl true, fun _ _ => False, ?_, fun b o e => ?_, ⟨ns, hl, rfl, fun p hp => by show (tabs.lookup p.1).map LO.tab = some (.tab p.2); rw [has tabs nd p hp]; rfl, rfl⟩, fun lv s' v H' q _ _ r => ?_, fun _ _ _ q => q.elim⟩
  · simp only [RVs]
    refine ⟨_, _, rfl, ?_, rfl⟩
    simp only [RV]
    refine ⟨a, rfl, ?_⟩
    rcases hS with h | h
    · refine .inl ⟨?_, h⟩
      show (tabs.lookup a).map LO.tab = none
      cases e : tabs.lookup a with
      | none => rfl
      | some q =>
        have := hT _ (look tabs a q e)
        rcases h with h | ⟨o, h⟩ <;> rw [this] at h <;> cases h
    · exact .inr h
  · have e : (tabs.lookup b).map LO.tab = some o := e
    cases z : tabs.lookup b with
    | none => rw [z] at e; cases e
    | some q =>
      rw [z] at e
      cases e
      exact ⟨#[], hT _ (look tabs b q z), True.intro, fun pos cv h => by cases h⟩
  · subst q
    simpa only [RV] using r
theorem law_ends {P : Program} {w : World} (H : Hp) (s : Shared) (e : Value) (s' : Shared) (h : L2.CX P w [] H s (fun _ _ _ => False) e s') : False := by
  obtain ⟨_, _, _, _, _, _, _, _, _, _, _, _, z⟩ := h
  exact z
theorem kit_ref {K : PySem.W.Frag} {C D : Addr} {b : Bool} (hd : PySem.W.hasDictIn K C = true) (ht : PySem.W.typeIn K (.ref C) = some (.type "type")) (h0 : PySem.W.subIn K (.ref C) (.ref C) = some true) (h : PySem.W.subIn K (.ref D) (.ref C) = some b) : PySem.W.kitOne K (.ref D) (.ref C) = some b := by
  obtain ⟨cd, hc, _⟩ := PySem.W.any_some hd
  have e2 : ((PySem.W.clsIn K C).isSome && PySem.W.typeIn K (.ref C) == some (.type "type")) = true := by rw [hc, ht] <;> rfl
  show (if (Value.ref D == Value.ref C) = true then some true else (if ((PySem.W.clsIn K C).isSome && PySem.W.typeIn K (.ref C) == some (.type "type")) = true then PySem.W.subIn K (.ref D) (.ref C) else none)) = some b
  rw [if_pos e2]
  by_cases e : D = C
  · subst e
    rw [h0] at h
    rw [if_pos (by simp), h]
  · rw [if_neg (by intro q; exact e (by simpa using q))]
    exact h
theorem kit_rty {K : PySem.W.Frag} {D : Addr} {T : String} {b : Bool} (hT : PySem.W.kitMeta T = true) (h : PySem.W.subIn K (.ref D) (.type T) = some b) : PySem.W.kitOne K (.ref D) (.type T) = some b := by
  show (if (Value.ref D == Value.type T) = true then some true else (if PySem.W.kitMeta T = true then PySem.W.subIn K (.ref D) (.type T) else none)) = some b
  rw [if_neg (by intro q; cases q), if_pos hT]
  exact h
theorem kit_tyr {K : PySem.W.Frag} {C : Addr} {T : String} {b : Bool} (hd : PySem.W.hasDictIn K C = true) (ht : PySem.W.typeIn K (.ref C) = some (.type "type")) (h : PySem.W.subIn K (.type T) (.ref C) = some b) : PySem.W.kitOne K (.type T) (.ref C) = some b := by
  obtain ⟨cd, hc, _⟩ := PySem.W.any_some hd
  have e2 : ((PySem.W.clsIn K C).isSome && PySem.W.typeIn K (.ref C) == some (.type "type")) = true := by rw [hc, ht] <;> rfl
  show (if (Value.type T == Value.ref C) = true then some true else (if ((PySem.W.clsIn K C).isSome && PySem.W.typeIn K (.ref C) == some (.type "type")) = true then PySem.W.subIn K (.type T) (.ref C) else none)) = some b
  rw [if_pos e2, if_neg (by intro q; cases q)]
  exact h
theorem cutL_to (xs : List LV) (k : Nat) : cutL xs none (some (k : Int)) = xs.take k := by
  unfold cutL
  rw [HT.sIx_none, HT.sIx_nat, List.drop_zero, Nat.sub_zero]
  by_cases h : k ≤ xs.length
  · rw [Nat.min_eq_left h]
  · rw [Nat.min_eq_right (by omega), List.take_of_length_le (Nat.le_refl _), List.take_of_length_le (by omega)]
theorem cutL_from (xs : List LV) (k : Nat) : cutL xs (some (k : Int)) none = xs.drop k := by
  unfold cutL
  rw [HT.sIx_none, HT.sIx_nat]
  by_cases h : k ≤ xs.length
  · rw [Nat.min_eq_left h, List.take_of_length_le (by simp)]
  · rw [Nat.min_eq_right (by omega), List.drop_length, List.take_nil, List.drop_of_length_le (by omega)]
end L3
namespace L3
open PySem PySem.Spec L2
theorem putL_nil {f : Str} {v : LV} : putL f v [] = [(f, v)] := rfl
theorem putL_cons {f g : Str} {v u : LV} {r : List (Str × LV)} : putL f v ((g, u) :: r) = if g = f then (g, v) :: r else (g, u) :: putL f v r := rfl
theorem seqL_cases {x : LV} {s : LS} {xs : List LV} (h : seqL x s = some xs) : x = .lst xs ∨ ∃ a, x = .ref a ∧ s a = some (.lst xs) := by
  cases x with
  | lst ys => exact .inl (by rw [seqL_lst] at h; rw [Option.some.inj h])
  | ref a =>
    rw [seqL_ref] at h
    split at h
    · next ys e => exact .inr ⟨a, rfl, by rw [e, Option.some.inj h]⟩
    · cases h
  | _ => exact absurd h (by simp [seqL])
theorem hu65 {k : Nat} {A : Around} (hr : Room k A) : A.units + 65 < cLine := by have := hr.un; omega
end L3

namespace L3
open PySem PySem.Spec L2
def pairL (p : Int × Int) : LV := .tup [.int p.1, .int p.2]
def pairD (p : Int × Int) : PyData := .tuple [.int p.1, .int p.2]
theorem dv_ints (xs : List Int) : datVs (xs.map LV.int) = some (xs.map PyData.int) := datVs_enc (α := Int) xs
theorem dv_bls (xs : List Bool) : datVs (xs.map LV.bl) = some (xs.map PyData.bool) := datVs_enc (α := Bool) xs
theorem dv_nms (xs : List Nm) : datVs (xs.map nmL) = some (xs.map nmD) := datVs_enc (α := Nm) xs
theorem dv_prs (xs : List (Int × Int)) : datVs (xs.map pairL) = some (xs.map pairD) := datVs_enc (α := Int × Int) xs
theorem dv_nm (n : Nm) : datV (nmL n) = some (nmD n) := by simp [nmL, nmD]
theorem dt_nm (s : LS) (n : Nm) : dat s (nmL n) = some (nmD n) := by simp [nmL, nmD]
theorem dt_pr (s : LS) (n : Int × Int) : dat s (pairL n) = some (pairD n) := by simp [pairL, pairD]
theorem dv_pr (n : Int × Int) : datV (pairL n) = some (pairD n) := by simp [pairL, pairD]
theorem sh_int (i : Int) : SeqAt.shaped (.int i) = true := shaped_cod (α := Int) (by decide) i
theorem sh_bl (i : Bool) : SeqAt.shaped (.bool i) = true := shaped_cod (α := Bool) (by decide) i
theorem sh_none : SeqAt.shaped .none = true := by decide
theorem sh_ints (xs : List Int) : SeqAt.shaped (.list (xs.map .int)) = true := shaped_cod (α := List Int) (by decide) xs
theorem sh_bls (xs : List Bool) : SeqAt.shaped (.list (xs.map .bool)) = true := shaped_cod (α := List Bool) (by decide) xs
theorem sh_nm (i : Nm) : SeqAt.shaped (nmD i) = true := shaped_cod (α := Nm) (by decide) i
theorem sh_nms (xs : List Nm) : SeqAt.shaped (.list (xs.map nmD)) = true := shaped_cod (α := List Nm) (by decide) xs
theorem sh_pr (i : Int × Int) : SeqAt.shaped (pairD i) = true := shaped_cod (α := Int × Int) (by decide) i
theorem sh_prs (xs : List (Int × Int)) : SeqAt.shaped (.list (xs.map pairD)) = true := shaped_cod (α := List (Int × Int)) (by decide) xs
theorem anyI (xs : List Int) (a : Int) : ((xs.map PyData.int).any fun z => PyData.eqv z (.int a)) = decide (a ∈ xs) := (any_cod xs a).trans (decide_eq_decide.mpr Iff.rfl)
theorem anyN (xs : List Nm) (a : Nm) : ((xs.map nmD).any fun z => PyData.eqv z (nmD a)) = decide (a ∈ xs) := (any_cod xs a).trans (decide_eq_decide.mpr Iff.rfl)
theorem anyP (xs : List (Int × Int)) (a : Int × Int) : ((xs.map pairD).any fun z => PyData.eqv z (pairD a)) = decide (a ∈ xs) := (any_cod xs a).trans (decide_eq_decide.mpr Iff.rfl)
theorem eqv_int (a b : Int) : PyData.eqv (.int a) (.int b) = decide (a = b) := eqv_cod a b
theorem eqv_bl (a b : Bool) : PyData.eqv (.bool a) (.bool b) = decide (a = b) := eqv_cod a b
theorem eqv_ints (a b : List Int) : PyData.eqv (.list (a.map .int)) (.list (b.map .int)) = decide (a = b) := eqv_cod a b
theorem eqv_bls (a b : List Bool) : PyData.eqv (.list (a.map .bool)) (.list (b.map .bool)) = decide (a = b) := eqv_cod a b
theorem eqv_nms (a b : List Nm) : PyData.eqv (.list (a.map nmD)) (.list (b.map nmD)) = decide (a = b) := eqv_cod a b
theorem eqv_prs (a b : List (Int × Int)) : PyData.eqv (.list (a.map pairD)) (.list (b.map pairD)) = decide (a = b) := eqv_cod a b
theorem eqv_nm (a b : Nm) : PyData.eqv (nmD a) (nmD b) = decide (a = b) := eqv_cod a b
theorem eqv_pr (a b : Int × Int) : PyData.eqv (pairD a) (pairD b) = decide (a = b) := eqv_cod a b
theorem ifNX {P A B : Prop} [Decidable P] (h1 : ¬P → A) (h2 : P → B) : ((true ^^ decide P) = true → A) ∧ ((true ^^ decide P) = false → B) := ⟨fun h => h1 (by simpa using h), fun h => h2 (by simpa using h)⟩
theorem ifDX {P A B : Prop} [Decidable P] (h1 : P → A) (h2 : ¬P → B) : ((false ^^ decide P) = true → A) ∧ ((false ^^ decide P) = false → B) := ⟨fun h => h1 (by simpa using h), fun h => h2 (by simpa using h)⟩
theorem iOr {P : Prop} [Decidable P] {A B : Prop} (h1 : P → A) (h2 : ¬P → B) : (decide P = true → A) ∧ (decide P = false → B) := ifD h1 h2
theorem atI_mem {α β : Type} {xs : List α} {i : Int} {v : α} (f : α → β) (h0 : 0 ≤ i) (h : xs[i.toNat]? = some v) : atI (xs.map f) i = some (f v) := by
  obtain ⟨k, rfl⟩ := Int.eq_ofNat_of_zero_le h0
  exact atI_nat (by rw [List.getElem?_map, show xs[k]? = some v from by simpa using h]; rfl)
theorem atI_memV {β : Type} {xs : List β} {i : Int} {v : β} (h0 : 0 ≤ i) (h : xs[i.toNat]? = some v) : atI xs i = some v := by
  obtain ⟨k, rfl⟩ := Int.eq_ofNat_of_zero_le h0
  exact atI_nat (by simpa using h)
theorem ifTT {A B : Prop} (h : A) : (true = true → A) ∧ (true = false → B) := ifT rfl h
theorem ifFF {A B : Prop} (h : B) : (false = true → A) ∧ (false = false → B) := ifF rfl h
theorem lc_map {α : Type} {stb : LS → Prop} {enc : α → LV} {Da : Addr} {gc : CTg} {te : LTE} {σw : LSt} {Q : List LV → LS → Prop} {s : LS} {xs : List α} (hD : s Da = none) (f : α → LV) (hst : ∀ s', Ext s s' → stb s') (hlen : xs.length ≤ 16777216)
    (hs : ∀ x ∈ xs, ∀ s' (Y : LV → LS → Prop), Ext s s' → Y (f x) s' → gc.lift (enc x) σw s' (fun σ2 s2 => te σ2 s2 Y fun _ _ => False) fun _ _ => False)
    (hm : ∀ x σ s' (Y Y' : LSt → LS → Prop), (∀ σ s, Y σ s → Y' σ s) → gc.lift (enc x) σ s' Y (fun _ _ => False) → gc.lift (enc x) σ s' Y' fun _ _ => False)
    (hQ : Q (xs.map f) s) : lcLoop Da gc lYes te stb σw Q (xs.map enc) (put s Da (.lst [])) := by
  refine lc_pure hD (fun _ => true) f hst hlen (fun x hx s' Y N e hY _ => ?_) ?_
  · exact hm x _ _ _ _ (fun σ s2 h => ⟨fun _ => h, fun q => by cases q⟩) (hs x hx s' Y e (hY rfl))
  · have e : xs.filter (fun _ => true) = xs := List.filter_eq_self.mpr fun _ _ => rfl
    rw [e]
    exact hQ
theorem lc_map1 {α : Type} {stb : LS → Prop} {enc : α → LV} {Da : Addr} {i : Nat} {te : LTE} {σw : LSt} {Q : List LV → LS → Prop} {s : LS} {xs : List α} (hD : s Da = none) (f : α → LV) (hst : ∀ s', Ext s s' → stb s') (hlen : xs.length ≤ 16777216)
    (hs : ∀ x ∈ xs, ∀ s' (Y : LV → LS → Prop), Ext s s' → Y (f x) s' → te (σw.set i (some (enc x))) s' Y fun _ _ => False)
    (hQ : Q (xs.map f) s) : lcLoop Da (.one i) lYes te stb σw Q (xs.map enc) (put s Da (.lst [])) :=
  lc_map hD f hst hlen (fun x hx s' Y e hY => hs x hx s' Y e hY) (fun x σ s' Y Y' h q => h _ _ q) hQ
theorem ifTr {A B : Prop} (h : A) : (True → A) ∧ (False → B) := ⟨fun _ => h, fun q => q.elim⟩
theorem ifFr {A B : Prop} (h : B) : (False → A) ∧ (True → B) := ⟨fun q => q.elim, fun _ => h⟩
theorem ifnT {A B : Prop} (h : B) : ((!true) = true → A) ∧ ((!true) = false → B) := ⟨fun q => (by cases q), fun _ => h⟩
theorem ifnF {A B : Prop} (h : A) : ((!false) = true → A) ∧ ((!false) = false → B) := ⟨fun _ => h, fun q => (by cases q)⟩
theorem decF {h : Decidable False} : @decide False h = false := decide_eq_false fun q => q
theorem decT {h : Decidable True} : @decide True h = true := decide_eq_true True.intro
theorem blsOf_const {α : Type} (xs : List α) (b : Bool) : blsOf (xs.map fun _ => LV.bl b) = some (xs.map fun _ => b) := by
  induction xs with
  | nil => rfl
  | cons x xs ih => show (blsOf (xs.map fun _ => LV.bl b)).map (b :: ·) = _; rw [ih]; rfl
theorem blsOf_fn {α : Type} (xs : List α) (f : α → Bool) : blsOf (xs.map fun x => LV.bl (f x)) = some (xs.map f) := by
  induction xs with
  | nil => rfl
  | cons x xs ih => show (blsOf (xs.map fun x => LV.bl (f x))).map (f x :: ·) = _; rw [ih]; rfl
theorem all_const {α : Type} (xs : List α) : ((xs.map fun _ => true).all id) = true := by simp
theorem sh_nil : SeqAt.shaped (.list []) = true := by decide
theorem eqv_nil {α : Type} (f : α → PyData) (xs : List α) : PyData.eqv (.list (xs.map f)) (.list []) = xs.isEmpty := by
  cases xs <;> simp [PyData.eqv, PyData.eqvAll]
end L3

namespace L3
open PySem PySem.Spec L2
def strV (x : LV) (k : Str → Prop) : Prop := match x with
  | .str a => k a
  | _ => False
theorem strV_ok {x : LV} {k : Str → Prop} (h : strV x k) : ∃ a, x = .str a ∧ k a := by
  cases x with
  | str a => exact ⟨a, rfl, h⟩
  | _ => exact h.elim
def strsOf : List LV → Option (List Str)
  | [] => some []
  | .str i :: xs => (strsOf xs).map (i :: ·)
  | _ :: _ => none
theorem strsOf_ok : ∀ {xs : List LV} {ns : List Str}, strsOf xs = some ns → xs = ns.map .str
  | [], ns, h => by simp only [strsOf, Option.some.injEq] at h; subst h; rfl
  | x :: xs, ns, h => by
    cases x with
    | str i =>
      obtain ⟨r, e, rfl⟩ := Option.map_eq_some_iff.mp (show (strsOf xs).map (i :: ·) = some ns from h)
      rw [strsOf_ok e]
      rfl
    | _ => simp [strsOf] at h
theorem strsOf_map (ns : List Str) : strsOf (ns.map .str) = some ns := by
  induction ns with
  | nil => rfl
  | cons n ns ih => simp [strsOf, ih]
theorem strsOf_fn {α : Type} (f : α → Str) (ns : List α) : strsOf (ns.map fun a => .str (f a)) = some (ns.map f) := by
  induction ns with
  | nil => rfl
  | cons n ns ih => simp [strsOf, ih]
section
variable {X : Cx} [GG X.K] {K : PySem.W.Frag} [GG K] {s : LS} {H : Hp} {a b e o i : Expr} {es : List Expr} {pos apos : Pos} {ta tb te to ti : LTE} {tas : LTA}
theorem RVs.strs {K : PySem.W.Frag} [GG K] {s : LS} {H : Hp} : ∀ ys : List Str, RVs K s H (ys.map .str) (ys.map V.str)
  | [] => by simp only [List.map_nil, RVs]
  | y :: ys => by simp only [List.map_cons, RVs]; exact ⟨_, _, rfl, .str, RVs.strs ys⟩
theorem RVs.strs_eq {K : PySem.W.Frag} [GG K] {s : LS} {H : Hp} : ∀ {ys : List Str} {us : List V}, RVs K s H (ys.map .str) us → us = ys.map V.str
  | [], us, h => by simpa only [List.map_nil, RVs] using h
  | y :: ys, us, h => by
    simp only [List.map_cons, RVs] at h
    obtain ⟨u, r, rfl, h1, h2⟩ := h
    rw [h1.str', RVs.strs_eq h2]
    rfl
def lJoin (to te : LTE) : LTE := fun σ s Q E => to σ s (fun x s1 => strV x fun a => te σ s1 (fun y s2 => opt (seqL y s2) fun xs => opt (strsOf xs) fun ys => (ys.map (·.length)).sum + ys.length * a.length ≤ 16777216 ∧ Q (.str (Txt.join a ys)) s2) E) E
theorem le_join (ho : LE X o to) (he : LE X e te) (hs : starEach [e] X.env = [(false, eval e X.env)] := by rfl) (hbase : attributeBase o "join" X.env (eval o X.env) = eval o X.env := by rfl) (hline : (apos.endLine == pos.line) = true := by rfl) :
    LE X (.Call (.Attribute o "join" apos) [e] [] pos) (lJoin to te) := fun s0 H0 E tk => (pe_join (ho s0 H0 E tk) (he s0 H0 E tk) hs hbase hline).imp fun σ H Q ⟨σl, s, Q0, E1, hσ, hs, st, hE, h, k⟩ =>
  ⟨σl, s, _, E1, hσ, hs, st, hE, h, fun lx s1 x H1 h st1 hs1 rx => by
    obtain ⟨a, rfl, h⟩ := strV_ok h
    rw [rx.str']
    refine ⟨⟨a, rfl⟩, σl, s1, _, E1, hσ.mono st1, hs1, st.trans st1, hE, h, fun ly s2 y H2 h st2 hs2 ry => ?_⟩
    obtain ⟨xs, e1, h⟩ := opt_ok h
    obtain ⟨ys, e2, hl, h⟩ := opt_ok h
    obtain ⟨p, us, rfl, hh, r⟩ := seqL_ok hs2 ry e1
    rw [strsOf_ok e2] at r
    rw [r.strs_eq] at hh
    exact ⟨a, p, ys, rfl, rfl, .inl (SqL.of hh), hl, k _ _ _ _ h (st1.trans st2) hs2 .str⟩⟩
def lSplit (to te : LTE) : LTL := fun σ s Q E => to σ s (fun x s1 => strV x fun a => te σ s1 (fun y s2 => strV y fun b => ((b.length == 0) = false ∧ a.length + 2 ≤ 16777216) ∧ Q ((Txt.split a b).map .str) s2) E) E
theorem ll_split (ho : LE X o to) (he : LE X e te) (hs : starEach [e] X.env = [(false, eval e X.env)] := by rfl) (hbase : attributeBase o "split" X.env (eval o X.env) = eval o X.env := by rfl) (hline : (apos.endLine == pos.line) = true := by rfl) :
    LL X (.Call (.Attribute o "split" apos) [e] [] pos) (lSplit to te) := fun s0 H0 E tk => (pe_split (ho s0 H0 E tk) (he s0 H0 E tk) hs hbase hline).imp fun σ H Q ⟨σl, s, Q0, E1, hσ, hs, st, hE, h, k⟩ =>
  ⟨σl, s, _, E1, hσ, hs, st, hE, h, fun lx s1 x H1 h st1 hs1 rx => by
    obtain ⟨a, rfl, h⟩ := strV_ok h
    rw [rx.str']
    refine ⟨⟨a, rfl⟩, σl, s1, _, E1, hσ.mono st1, hs1, st.trans st1, hE, h, fun ly s2 y H2 h st2 hs2 ry => ?_⟩
    obtain ⟨b, rfl, ⟨h1, h2⟩, h⟩ := strV_ok h
    rw [ry.str']
    exact ⟨a, b, rfl, rfl, h1, h2, k _ _ _ _ h (st1.trans st2) hs2 (RVs.strs _)⟩⟩
@[simp] theorem strV_ap (a : Str) (k : Str → Prop) : strV (.str a) k = k a := rfl
end
end L3

namespace L3
open PySem PySem.Spec PyProof.Rows
section
variable {M : Model} {A : Around} {E : Value → Shared → Prop} {s : Shared}
theorem newEnv_clo {scope : Scope} {globals : Addr} {closure : List (Str × Addr)} {binds : List (Str × Value)} {qual : Str} {func : Option Addr} {code : Value} {builtins : Addr} {Q : Env → Shared → Prop}
    (hk : scope.kind = .function) (hl : ∀ x ∈ binds, scope.names.lookup x.1 = some .local)
    (hQ : ∀ h' tk, h'.Ns s.heap.objs.size (fun x => binds.reverse.lookup x) → Heap.SameBut s.heap.objs.size (pushCells (s.heap.push { cls := .type "frame", data := .dict #[] }) scope.names) h' →
      Q (newEnv scope s.heap.objs.size globals (cellsFrom (s.heap.objs.size + 1) scope.names closure) qual func code none builtins) { s with heap := h', toks := tk }) :
    wpAny M A (newFunctionEnv scope globals closure binds qual func code none builtins) Q E s := by
  simp only [newFunctionEnv, Option.isSome_none, Bool.false_eq_true, if_false]
  refine wpAny_bind (wpAny_alloc ?_)
  refine wpAny_bind (wpAny_layCells _ (fun name kind cells => by cases hkc : kind == NameKind.cell <;> simp [hkc]) _ _ _ _ ?_)
  rw [show ({ s with heap := s.heap.push { cls := .type "frame", data := .dict #[] } } : Shared).heap.objs.size = s.heap.objs.size + 1 from Heap.size_push ..]
  refine wpAny_bind ?_
  refine wpAny_forIn_list _
    (fun rest _ s' => ∃ done h' tk, binds = done ++ rest ∧ s' = { s with heap := h', toks := tk } ∧ h'.Ns s.heap.objs.size (fun x => done.reverse.lookup x) ∧
      Heap.SameBut s.heap.objs.size (pushCells (s.heap.push { cls := .type "frame", data := .dict #[] }) scope.names) h') _ ?_ ?_ binds _
    ⟨[], _, _, rfl, rfl, (Heap.Ns.new s.heap (.type "frame")).keeps (pushCells_keeps _ _), Heap.SameBut.refl ..⟩
  · rintro ⟨name, v⟩ rest _ s' ⟨done, h', tk, hb, rfl, hns, hsb⟩
    have hk' : Env.kindOf { scope, locals := s.heap.objs.size, globals, cells := cellsFrom (s.heap.objs.size + 1) scope.names closure, qual, func, code, frame := some s.heap.objs.size, builtins } name = some .local :=
      hl (name, v) (by rw [hb]; simp)
    refine wpAny_bind (wpAny_storeName_local hk' hns (fun h'' hns' hsb' => wpAny_pure ⟨done ++ [(name, v)], h'', _, by simp [hb], rfl, ?_, hsb.trans hsb'⟩) (by show (scope.kind == .class || (scope.kind == .module && _)) = false; rw [hk]; rfl))
    rw [lookup_reverse_snoc]; exact hns'
  · rintro _ s' ⟨done, h', tk, hb, rfl, hns, hsb⟩
    rw [List.append_nil] at hb; subst hb
    exact wpAny_pure (hQ h' tk hns hsb)
end

open L2 LamX NdefX
/-- names: the parameters, the captured ones, then its locals (some of them cells of its own) -/
structure CScope (N ps fr : List Str) (sc : Scope) : Prop where
  kind : sc.kind = .function
  co : sc.isCoroutine = false
  gen : sc.isGenerator = false
  nd : N.Nodup
  pre : N.take (ps.length + fr.length) = ps ++ fr
  par : ∀ x ∈ ps, sc.names.lookup x = some .local
  free : ∀ y ∈ sc.names, y.2 = .free → y.1 ∈ fr
  frk : ∀ x ∈ fr, sc.names.lookup x = some .free
  ndn : (sc.names.map (·.1)).Nodup
def cscB (N ps fr : List Str) (sc : Scope) : Bool :=
  decide (sc.kind = .function) && !sc.isCoroutine && !sc.isGenerator && decide N.Nodup && decide (N.take (ps.length + fr.length) = ps ++ fr) && ps.all (fun x => decide (sc.names.lookup x = some .local)) && sc.names.all (fun y => !decide (y.2 = .free) || decide (y.1 ∈ fr)) && fr.all (fun x => decide (sc.names.lookup x = some .free)) && decide (sc.names.map (·.1)).Nodup
theorem cscope_by {N ps fr : List Str} {sc : Scope} (h : cscB N ps fr sc = true) : CScope N ps fr sc := by
  unfold cscB at h
  simp only [Bool.and_eq_true, Bool.not_eq_true', decide_eq_true_eq, List.all_eq_true, Bool.or_eq_true, decide_eq_false_iff_not] at h
  obtain ⟨⟨⟨⟨⟨⟨⟨⟨h1, h2⟩, h3⟩, h4⟩, h5⟩, h6⟩, h8⟩, h9⟩, h10⟩ := h
  exact ⟨h1, h2, h3, h4, h5, h6, fun y hy e => (h8 y hy).elim (fun z => absurd e z) id, h9, h10⟩
abbrev envC (F : NF) (f L : Addr) : Env := PySem.W.envX F.qual F.scope L f (.ref F.c) (cellsFrom (L + 1) F.scope.names F.cl)
/-- the context of its body, at its entry -/
def ccx (CX : CXT) (P : Program) (w : World) (K : PySem.W.Frag) (mg : Str → Option Value) (base : Heap) (N : List Str) (F : NF) (f : Addr) (A : Around) (outer : List Env) (s : Shared) (H : Hp) (E : XK) : Cx where
  prog := P
  w := w
  K := K
  mg := mg
  base := base
  A := A.deeper (envC F f s.heap.objs.size)
  N := N
  s_0 := s
  H_0 := H
  env := envC F f s.heap.objs.size
  outer := outer
  stack := envC F f s.heap.objs.size :: outer
  ex := []
  calm := true
  fn := fun x => decide (F.scope.names.lookup x = some .cell)
  pn := []
  xe := fun e s' => wpAny (model P w) (A.deeper (envC F f s.heap.objs.size)) (leaving (envC F f s.heap.objs.size) e) (fun _ s'' => CX outer H s E e s'') (fun e' s'' => CX outer H s E e' s'') s'
/-- its own cells lie ahead of the captured ones -/
theorem cells_app : ∀ (names : List (Str × NameKind)) (n : Nat) (acc : List (Str × Addr)), cellsFrom n names acc = cellsFrom n names [] ++ acc
  | [], n, acc => rfl
  | (x, k) :: r, n, acc => by
    unfold cellsFrom
    split
    · rw [cells_app r (n + 1) ((x, n) :: acc), cells_app r (n + 1) [(x, n)], List.append_assoc]; rfl
    · exact cells_app r n acc
theorem own_cells {h : Heap} (names : List (Str × NameKind)) : CellsOk (pushCells h names) h.objs.size (cellsFrom h.objs.size names []) := cellsFrom_ok names h h.objs.size [] ⟨fun _ _ hm => (nomatch hm), List.Pairwise.nil⟩ (Nat.le_refl _)
theorem own_kind : ∀ (names : List (Str × NameKind)) (n : Nat) (y : Str) (c : Addr), (y, c) ∈ cellsFrom n names [] → (y, NameKind.cell) ∈ names
  | [], n, y, c, h => (nomatch h)
  | (x, k) :: r, n, y, c, h => by
    unfold cellsFrom at h
    split at h
    · next hk =>
      rw [cells_app, List.mem_append] at h
      rcases h with h | h
      · exact List.mem_cons_of_mem _ (own_kind r _ y c h)
      · simp at h
        rw [h.1, eq_of_beq hk]; simp
    · exact List.mem_cons_of_mem _ (own_kind r n y c h)
theorem kind_one {names : List (Str × NameKind)} (nd : (names.map (·.1)).Nodup) {y : Str} {k : NameKind} (hm : (y, k) ∈ names) {k' : NameKind} (h : names.lookup y = some k') : k' = k := by
  induction names with
  | nil => cases hm
  | cons a r ih =>
    obtain ⟨x, j⟩ := a
    rw [List.map_cons, List.nodup_cons] at nd
    rw [List.lookup_cons] at h
    rw [List.mem_cons] at hm
    by_cases e : y = x
    · subst e
      rw [beq_self_eq_true] at h
      rcases hm with hm | hm
      · cases hm; exact (Option.some.inj h).symm
      · exact absurd (List.mem_map_of_mem (f := (·.1)) hm) nd.1
    · rw [beq_eq_false_iff_ne.mpr e] at h
      rcases hm with hm | hm
      · cases hm; exact absurd rfl e
      · exact ih nd.2 hm h
theorem look_own {own cl : List (Str × Addr)} {y : Str} {c : Addr} (h : (own ++ cl).lookup y = some c) : own.lookup y = some c ∨ (own.lookup y = none ∧ cl.lookup y = some c) := by
  rw [List.lookup_append] at h
  cases e : own.lookup y with
  | none => rw [e] at h; exact .inr ⟨rfl, by simpa using h⟩
  | some d => rw [e] at h; exact .inl (by simpa using h)
section
variable {CX : CXT} {P : Program} {w : World} {K : PySem.W.Frag} {mg : Str → Option Value} {base : Heap} {N ps fr : List Str} {F : NF} {f : Addr} {A : Around} {outer : List Env} {s : Shared} {H : Hp} {E : XK} {us : List Value} {vs : List V} {ws : List (Option V)}
theorem inv_startC {h₁ : Heap} {tk : Nat} (S : CScope N ps fr F.scope) (hd : A.handled = none) (e0 : Env0 P w K mg base A outer s H) (hl : vs.length = ps.length) (r : Vals vs us) (C : CellsAt F.cl fr ws s.heap H) (hns : h₁.Ns s.heap.objs.size fun y => (ps.zip us).reverse.lookup y)
    (kp : Heap.SameBut s.heap.objs.size (pushCells (s.heap.push { cls := .type "frame", data := .dict #[] }) F.scope.names) h₁) : Inv (ccx CX P w K mg base N F f A outer s H E) [] (startF N vs ws) H { s with heap := h₁, toks := tk } := by
  have hpl : ps.length + fr.length ≤ N.length := by
    have q := congrArg List.length S.pre
    rw [List.length_take, List.length_append] at q
    omega
  have keep0 : ∀ b o, s.heap.get? b = some o → h₁.get? b = some o := fun b o e => kp.extBut b o (Nat.ne_of_lt (Heap.lt_size e)) (pushCells_keeps _ _ b o (Heap.get?_push_of_some _ e))
  have noA : ∀ b : Addr, b ∉ (ccx CX P w K mg base N F f A outer s H E).ex := fun b z => absurd (show b ∈ ([] : List Addr) from z) (by simp)
  have cellK : ∀ {c : Addr} {v : Option Value}, s.heap.IsCell c v → h₁.IsCell c v := fun {c v} ⟨o, ho, hd⟩ => ⟨o, keep0 _ _ ho, hd⟩
  have ow := own_cells (h := s.heap.push { cls := .type "frame", data := .dict #[] }) F.scope.names
  rw [Heap.size_push] at ow
  -- the env's cells
  have ecl : (ccx CX P w K mg base N F f A outer s H E).env.cells = cellsFrom (s.heap.objs.size + 1) F.scope.names [] ++ F.cl := cells_app _ _ _
  have ownC : ∀ y c, (cellsFrom (s.heap.objs.size + 1) F.scope.names []).lookup y = some c → s.heap.objs.size < c ∧ h₁.IsCell c none ∧ (y, NameKind.cell) ∈ F.scope.names := fun y c e => by
    have hm := PySem.mem_of_lookup e
    obtain ⟨⟨o, ho, hc⟩, hlt⟩ := ow.empty y c hm
    exact ⟨hlt, ⟨o, kp.extBut c o (Nat.ne_of_gt hlt) ho, hc⟩, own_kind _ _ _ _ hm⟩
  have oldC : ∀ y c, F.cl.lookup y = some c → c < s.heap.objs.size := fun y c e => by
    obtain ⟨v, o, ho, _⟩ := (C.all y c e).2
    exact Heap.lt_size ho
  refine ⟨⟨e0.mod, S.kind, rfl, rfl, Nat.le_refl _, fun y z c h1 h2 => ?_, fun y hy => ?_, fun y c hf hc => ?_, fun _ => hd, Around.frames_deeper e0.frames, .inr ⟨rfl, rfl⟩, fun b z => absurd z (noA b), e0.bs, e0.bsz, fun b _ _ => noA b,
      fun b z => absurd z (noA b), e0.funs, e0.frf⟩,
    rfl, e0.bare, Un.kept keep0, ⟨_, hns, fun i y v e1 e2 e3 => ?_⟩, fun y c e => ?_, e0.hok.fresh (Nat.le_refl _), fun y c e => ?_, fun q hq => absurd (show q ∈ ([] : List (Addr × Obj)) ++ [] from hq) (by simp), e0.hok.kept keep0, ?_⟩
  · rw [ecl] at h1 h2
    rcases look_own h1 with a1 | ⟨_, a1⟩ <;> rcases look_own h2 with a2 | ⟨_, a2⟩
    · exact name_of_addr ow.apart (PySem.mem_of_lookup a1) (PySem.mem_of_lookup a2)
    · exact absurd (oldC _ _ a2) (Nat.not_lt.mpr (Nat.le_of_lt (ownC _ _ a1).1))
    · exact absurd (oldC _ _ a1) (Nat.not_lt.mpr (Nat.le_of_lt (ownC _ _ a2).1))
    · exact C.inj _ _ _ a1 a2
  · have hy : F.scope.names.lookup y = some .cell ∨ F.scope.names.lookup y = some .free := hy
    have key : ((cellsFrom (s.heap.objs.size + 1) F.scope.names F.cl).lookup y).isSome = true := by
      refine PySem.W.cellsFrom_some _ _ _ ?_
      rcases hy with hy | hy
      · exact .inl hy
      · obtain ⟨i, hi⟩ := List.mem_iff_getElem?.mp (S.free _ (PySem.mem_of_lookup hy) rfl)
        obtain ⟨c, hc, _⟩ := C.has i y hi
        exact .inr (by rw [hc]; rfl)
    exact Option.isSome_iff_exists.mp key
  · have hf : F.scope.names.lookup y = some .cell := of_decide_eq_true hf
    rw [ecl] at hc
    rcases look_own hc with a | ⟨a0, a⟩
    · exact Nat.le_of_lt (ownC _ _ a).1
    · exfalso
      have := PySem.W.cellsFrom_some F.scope.names (s.heap.objs.size + 1) [] (x := y) (.inl hf)
      rw [a0] at this
      cases this
  · have e1 : N[i]? = some y := e1
    have clen := C.len
    unfold startF at e2
    by_cases h1 : i < ps.length
    · have hq : (ps ++ fr)[i]? = some y := by
        rw [← S.pre, List.getElem?_take_of_lt (by omega)]
        exact e1
      rw [List.getElem?_append_left h1] at hq
      rw [List.getElem?_append_left (by rw [List.length_map]; omega), List.getElem?_map] at e2
      have ha : vs[i]? = some v := by
        cases e : vs[i]? with
        | none => rw [e] at e2; cases e2
        | some a => rw [e] at e2; cases e2; rfl
      obtain ⟨u, hu, rv⟩ := r.get ha
      have ndP : ps.Nodup := by
        have q := S.nd.sublist (List.take_sublist (ps.length + fr.length) N)
        rw [S.pre] at q
        exact (List.nodup_append.mp q).1
      exact ⟨u, rv, .inl ⟨S.par y (List.mem_of_getElem? hq), zip_look ndP hq hu⟩⟩
    · rw [List.getElem?_append_right (by rw [List.length_map]; omega), List.length_map] at e2
      by_cases h2 : i < ps.length + fr.length
      · have hq : (ps ++ fr)[i]? = some y := by
          rw [← S.pre, List.getElem?_take_of_lt (by omega)]
          exact e1
        rw [List.getElem?_append_right (by omega)] at hq
        rw [List.getElem?_append_left (by omega), hl] at e2
        obtain ⟨c, hc, hv⟩ := C.has (i - ps.length) y hq
        obtain ⟨u, ru, hu⟩ := hv v e2
        have hk := S.frk y (List.mem_of_getElem? hq)
        have hn : (cellsFrom (s.heap.objs.size + 1) F.scope.names []).lookup y = none := by
          cases e : (cellsFrom (s.heap.objs.size + 1) F.scope.names []).lookup y with
          | none => rfl
          | some d =>
            have := kind_one S.ndn (ownC y d e).2.2 hk
            cases this
        refine ⟨u, ru, .inr ⟨.inr hk, c, ?_, cellK hu⟩⟩
        rw [ecl, List.lookup_append, hn, hc]; rfl
      · rw [List.getElem?_append_right (by omega), List.getElem?_replicate] at e2
        split at e2 <;> cases e2
  · rw [ecl] at e
    rcases look_own e with a | ⟨_, a⟩
    · exact ⟨_, (ownC _ _ a).2.1⟩
    · obtain ⟨v, z⟩ := (C.all y c a).2
      exact ⟨v, cellK z⟩
  · rw [ecl] at e
    rcases look_own e with a | ⟨_, a⟩
    · exact e0.hok.fresh (Nat.le_of_lt (ownC _ _ a).1)
    · exact (C.all y c a).1
  · have clen := C.len
    unfold startF
    show _ = N.length
    rw [List.length_append, List.length_append, List.length_map, List.length_replicate]
    omega
end
instance ggC {CX : CXT} {P : Program} {w : World} {K : PySem.W.Frag} [g : GG K] {mg : Str → Option Value} {base : Heap} {N : List Str} {F : NF} {f : Addr} {A : Around} {outer : List Env} {s : Shared} {H : Hp} {E : XK} :
    GG (ccx CX P w K mg base N F f A outer s H E).K := g
section
variable {CX : CXT} {P : Program} {w : World} {K : PySem.W.Frag} {mg : Str → Option Value} {base : Heap} {N ps fr : List Str} {F : NF} {f : Addr} {k : Nat} {sp : List (Option V) → Sp}
/-- a function with captured cells, by its body -/
theorem nokC_of (S : CScope N ps fr F.scope) (hb : ∀ (doc pm ctv : Value) (us : List Value), us.length = ps.length → bindArgs (F.fd doc pm ctv) ⟨us, []⟩ = pure (ps.zip us)) (len : ∀ ws vs H Q E, sp ws vs H Q E → vs.length = ps.length)
    (body : ∀ (A : Around) (outer : List Env) (s : Shared) (H : Hp) (vs : List V) (ws : List (Option V)) (Q : VK) (E : XK), Room k (A.deeper (envC F f s.heap.objs.size)) → Env0 P w K mg base A outer s H → H f = some (FnO f F) → ws.length = fr.length → sp ws vs H Q E →
      ∃ t, PSs (ccx CX P w K mg base N F f A outer s H E) F.body t ∧ t { nx := fun _ H' => Q .non H', rt := Q } (startF N vs ws) H) : NOk P w K mg base CX (k + 1) f F ps fr sp := by
  refine ⟨len, fun A outer s H us vs ws Q E hr e0 hf hc C r hsp => ?_⟩
  have ha := len _ _ _ _ _ hsp
  have nl : s.heap.NoLimit := e0.mod.nolimit.keeps fun b o e => (e0.bs b o e).1
  obtain ⟨od, sl, doc, pm, ctv, ho⟩ := fnO_at e0.hok hf
  refine codeAny_call_function hr.depth ho rfl S.co S.gen rfl (codeO_at e0.hok hc) (?_)
  rw [hb doc pm ctv us (by rw [← r.length]; exact ha)]
  refine wpAny_pure (newEnv_clo S.kind (fun ⟨n, _⟩ hy => S.par n (List.of_mem_zip hy).1) (fun h₁ tk hns hsb => ?_))
  have kp : ∀ b o, s.heap.get? b = some o → h₁.get? b = some o := fun b o e => hsb.extBut b o (Nat.ne_of_lt (Heap.lt_size e)) (pushCells_keeps _ _ b o (Heap.get?_push_of_some _ e))
  refine ⟨nl.keeps kp, codeAny_func (show wpAny _ _ (execs F.body (envC F f s.heap.objs.size)) _ _ _ from ?_)⟩
  obtain ⟨t, ht, hq⟩ := body A outer s H vs ws Q E (hr.deeper _) e0 hf C.len hsp
  have J : Inv (ccx CX P w K mg base N F f A outer s H E) [] (startF N vs ws) H { s with heap := h₁, toks := tk } := inv_startC S hr.hd e0 ha r C hns hsb
  refine wpAny_mono (ht.run [] _ (startF N vs ws) H _ J hq) (fun fl s' hs => ?_) fun e s' hs => hs
  have ret : ∀ {σ' : L2.St} {H' : Hp} {v : V} {u : Value}, Inv (ccx CX P w K mg base N F f A outer s H E) [] σ' H' s' → L2.RelV v u → Q v H' → CE outer P w H s Q u s' :=
    fun {σ' H' v u} I rv q => ⟨v, H', I.os, I.bare, I.base, I.hok, rv, q⟩
  match fl, hs with
  | .ret u, hs =>
    obtain ⟨v, σ', H', I, rv, q⟩ := hs
    exact ret I rv q
  | .next, hs =>
    obtain ⟨σ', H', I, q⟩ := hs
    exact ret (v := V.non) (u := Value.none) I rfl q
  | .brk, hs => obtain ⟨_, _, _, q⟩ := hs; exact q.elim
  | .cont, hs => obtain ⟨_, _, _, q⟩ := hs; exact q.elim
end
end L3

namespace L3
open PySem PySem.Spec PyProof.Rows L2 LamX NdefX
theorem RelS.ext0 {K : PySem.W.Frag} [GG K] {s : LS} {H : Hp} {a : Addr} {φ : Heap → Prop} (r : RelS K s H) (h : H a = Option.some (HO.ext φ)) : s a = none := by
  cases e : s a with
  | none => rfl
  | some o =>
    exfalso
    have q := r a o e
    cases o with
    | lst xs => obtain ⟨us, q, _⟩ := q; rw [h] at q; cases q
    | dK xs => obtain ⟨us, q, _⟩ := q; rw [h] at q; cases q
    | dT xs => obtain ⟨us, q, _⟩ := q; rw [h] at q; cases q
    | ins C xs => obtain ⟨dx, us, q, _⟩ := q; rw [h] at q; cases q
    | tab z => obtain ⟨us, q, _⟩ := q; rw [h] at q; cases q
/-- the table at P tells codes of one name -/
def TabQ (H : Hp) (P : Addr) (q : Str) : Prop := ∃ ps, H P = some (.tbl ps) ∧ TriplesOk ps.toList ∧ ∀ (pos : Pos) (cv : Value), codeAmong pos ps.toList = some cv → ∃ c, cv = .ref c ∧ H c = some (CodeO c q)
/-- from H to H1: the function F was made at f, its code at c -/
structure Made (P : Addr) (q : Str) (f c : Addr) (F : NF) (H H1 : Hp) : Prop where
  nf : H f = none
  tab : TabQ H1 P q
  fn : H1 f = some (FnO f F)
  code : H1 c = some (CodeO c q)
  rest : ∀ b, b ≠ P → H b ≠ none → H1 b = H b
section
variable {X : Cx} {pins : List (Addr × Obj)} {σ : L2.St} {H : Hp} {s : Shared}
theorem ndefX {c P : Addr} {name q : Str} {params : Arguments} {body : List Stmt} {scope : Scope} {pos : Pos} {E Q : Value → Shared → Prop} (I : Inv X pins σ H s) (TB : TabB X.base X.mg c P) (hcode : X.env.code = .ref c) (hq : X.env.qual ++ name = q)
    (hT : TabQ H P q) (hfree : ∀ y ∈ scope.names, y.2 = .free → ∃ c, X.env.cells.lookup y.1 = some c)
    (h : ∀ (f c' : Addr) (H1 : Hp) (s' : Shared), Inv X pins σ H1 s' → Made P q f c' ⟨name, q, params, body, scope, cloFrom X.env.cells scope.names [], c'⟩ H H1 → Q (.ref f) s') :
    wpAny (model X.prog X.w) X.A (makeFunction name q params (.stmts body) scope X.env [] [] [] pos pos.line) Q E s := by
  subst hq
  obtain ⟨ps, hP, tr, cs⟩ := hT
  have hP' : s.heap.get? P = some { cls := .none, data := .fields ps } := (I.hok P _ hP : _)
  have bP : s.heap.BuiltinsAt X.mg P := (TB.bm.keeps I.bk : _)
  cases hc : codeAmong pos ps.toList with
  | some cv =>
    obtain ⟨c', rfl, ho⟩ := cs pos _ hc
    refine PySem.W.makeFunction_hit (mg := X.mg) (c := c) (P := P) (ps := ps) (closure_ok hfree) I.ok.glob (I.mod.glob.keeps I.bk) hcode (TB.code.keeps I.bk) hP' tr hc bP fun ctv doc h' tk hx _ => ?_
    have J : Inv X pins σ H { s with heap := h', toks := tk } := (I.kept hx : _)
    have nF : H h'.objs.size = none := J.hok.fresh (Nat.le_refl _)
    have J2 := inv_fn (F := ⟨name, X.env.qual ++ name, params, body, scope, cloFrom X.env.cells scope.names [], c'⟩) (t' := tk) (doc := doc) (pm := (X.mg "__name__").getD .none) (ctv := ctv) J rfl
    have st : ∀ b o, H b = some o → upd H h'.objs.size (FnO h'.objs.size ⟨name, X.env.qual ++ name, params, body, scope, cloFrom X.env.cells scope.names [], c'⟩) b = some o := fun b o e => by rw [upd_ne (ne_of_none e nF)]; exact e
    exact h _ c' _ _ J2 ⟨nF, ⟨ps, st _ _ hP, tr, fun p v e => by obtain ⟨d, e1, e2⟩ := cs p v e; exact ⟨d, e1, st _ _ e2⟩⟩, upd_same, st _ _ ho, fun b _ hb => upd_ne (by rintro rfl; exact hb nF)⟩
  | none =>
    refine PySem.W.makeFunction_K (mg := X.mg) (c := c) (P := P) (ps := ps) (closure_ok hfree) I.ok.glob (I.mod.glob.keeps I.bk) hcode (TB.code.keeps I.bk) hP' tr hc TB.gP bP fun c' ctv doc h' tk hx hge hlt hrec htb => ?_
    obtain ⟨c2, oc, vs, t, e2, hoc, hd, hv⟩ := hrec
    cases e2
    have nC : H c' = none := I.hok.fresh hge
    have J := inv_table (t' := tk) (more := #[rawInt pos.line, rawInt pos.col, .ref c']) (h' := h') I hP (fun b o hb e => hx b o hb e) htb hge ⟨oc, vs, t, hoc, hd, hv⟩
    have J2 := inv_fn (F := ⟨name, X.env.qual ++ name, params, body, scope, cloFrom X.env.cells scope.names [], c'⟩) (t' := tk) (doc := doc) (pm := (X.mg "__name__").getD .none) (ctv := ctv) J rfl
    have nF1 := (J.hok.fresh (Nat.le_refl _) : _)
    have nF : H h'.objs.size = none := I.hok.fresh (Nat.le_trans hge (Nat.le_of_lt hlt))
    have cf : c' ≠ h'.objs.size := Nat.ne_of_lt hlt
    have pc : P ≠ c' := ne_of_none hP nC
    have pf : P ≠ h'.objs.size := ne_of_none hP nF
    refine h _ c' _ _ J2 ⟨nF, ⟨_, by rw [upd_ne pf, upd_ne pc, upd_same], ?_, fun p v e => ?_⟩, upd_same, by rw [upd_ne cf, upd_same], fun b hb hn => ?_⟩
    · rw [show (ps ++ #[rawInt pos.line, rawInt pos.col, .ref c']).toList = ps.toList ++ [rawInt pos.line, rawInt pos.col, .ref c'] by simp]
      exact PySem.TriplesOk_snoc _ _ _ _ tr
    · rw [show (ps ++ #[rawInt pos.line, rawInt pos.col, .ref c']).toList = ps.toList ++ [rawInt pos.line, rawInt pos.col, .ref c'] by simp] at e
      rcases among_app2 _ tr e with z | ⟨z, _, _⟩
      · obtain ⟨d, e1, e2⟩ := cs p v z
        refine ⟨d, e1, ?_⟩
        have nd : d ≠ P := by
          rintro rfl
          rw [hP] at e2
          exact codeO_ne ps (Option.some.inj e2).symm
        rw [upd_ne (ne_of_none e2 nF), upd_ne (ne_of_none e2 nC), upd_ne nd]
        exact e2
      · exact ⟨c', z, by rw [upd_ne cf, upd_same]⟩
    · rw [upd_ne (by rintro rfl; exact hn nF), upd_ne (by rintro rfl; exact hn nC), upd_ne hb]
end
theorem Made.up {K : PySem.W.Frag} [GG K] {P : Addr} {q : Str} {f c : Addr} {F : NF} {s : LS} {H H1 : Hp} (m : Made P q f c F H H1) (hs : RelS K s H) (hP : s P = some (.tab q)) : Step s H s H1 ∧ RelS K s H1 ∧ s f = none ∧ s c = none := by
  have st : Step s H s H1 := fun a o e n => ⟨⟨o, by rw [m.rest a (by rintro rfl; rw [hP] at n; cases n) (by rw [e]; simp)]; exact e, .refl o⟩, n⟩
  have c0 : ∀ d, H1 d = some (CodeO d q) → s d = none := fun d e => by
    cases z : H d with
    | none => exact hs.free z
    | some o =>
      by_cases hd : d = P
      · subst hd
        obtain ⟨ps, e2, _⟩ := m.tab
        rw [e] at e2
        exact absurd (Option.some.inj e2) (codeO_ne ps)
      · have := m.rest d hd (by rw [z]; simp)
        rw [e] at this
        exact hs.ext0 this.symm
  refine ⟨st, fun a o e => ?_, hs.free m.nf, c0 c m.code⟩
  by_cases ha : a = P
  · subst ha
    rw [hP] at e
    cases e
    obtain ⟨ps, e1, e2, e3⟩ := m.tab
    refine ⟨ps, e1, e2, fun pos cv z => ?_⟩
    obtain ⟨d, z1, z2⟩ := e3 pos cv z
    exact ⟨d, z1, c0 d z2, z2⟩
  · exact (hs a o e).mono st fun u z => by rw [m.rest a ha (by rw [z]; simp)]; exact z
theorem tabQ_of {K : PySem.W.Frag} [GG K] {s : LS} {H : Hp} {P : Addr} {q : Str} (hs : RelS K s H) (h : s P = some (.tab q)) : TabQ H P q := by
  obtain ⟨ps, e1, e2, e3⟩ := hs P _ h
  exact ⟨ps, e1, e2, fun pos cv z => by obtain ⟨c, z1, _, z2⟩ := e3 pos cv z; exact ⟨c, z1, z2⟩⟩
/-- def name(..): within a def: its reading -/
def tDefX (P : Addr) (q : Str) (i : Nat) (mk : Addr → NF) : TS := fun D σ H => TabQ H P q ∧ ∀ (f c : Addr) (H1 : Hp), Made P q f c (mk c) H H1 → i < σ.length → D.nx (σ.set i (some (.ref f))) H1
theorem ps_defX {X : Cx} {st : Stmt} {c P : Addr} {name q : Str} {pos : Pos} {i : Nat} (hst : st = .FunctionDef name (C8.fnArgs st) (C8.fnBody st) [] none [] (C8.fnScope st) none name pos) (TB : TabB X.base X.mg c P) (hcode : X.env.code = .ref c) (hq : X.env.qual ++ name = q)
    (hfree : ∀ y ∈ (C8.fnScope st).names, y.2 = .free → X.env.scope.names.lookup y.1 = some .cell ∨ X.env.scope.names.lookup y.1 = some .free) (hd0 : (C8.fnArgs st).defaults = []) (hk0 : (C8.fnArgs st).kw_defaults = [])
    (ha : annTrees (C8.fnArgs st) none X.env = []) (hN : X.N.Nodup) (hi : X.N[i]? = some name) (hx : Loc X.env.scope name) (hf : X.fn name = true ∨ X.env.scope.names.lookup name = some .local) :
    PS X st (tDefX P q i (NF.of st name q (cloFrom X.env.cells (C8.fnScope st).names []))) := by
  rw [show PS X st = PS X (.FunctionDef name (C8.fnArgs st) (C8.fnBody st) [] none [] (C8.fnScope st) none name pos) from congrArg _ hst]
  refine ⟨fun pins s σ H D I ⟨hT, h⟩ => ?_⟩
  have e : qualnameIn X.env name name = q := by
    rw [← hq]
    have kd : X.env.kindOf name = some .local ∨ X.env.kindOf name = some .cell := hx
    unfold qualnameIn
    rcases kd with k | k <;> rw [k] <;> first | rfl | exact if_neg (by decide)
  refine PySem.W.nestDef_K hd0 hk0 ha ?_
  rw [e]
  exact ndefX I TB hcode hq hT (fun y hy z => (hfree y hy z).elim (fun z => I.ok.has _ (.inl z)) fun z => I.ok.has _ (.inr z)) fun f c' H1 s' J m =>
    store_ok J hN hi hx (v := .ref f) rfl (fun s'' J => ⟨_, _, J, h f c' H1 m (by rw [I.len]; exact (List.getElem?_eq_some_iff.mp hi).1)⟩) hf
structure PSM (X : Cx) (sts : List Stmt) (t : (L2.St → V → Hp → Prop) → L2.St → Hp → Prop) : Prop where
  run : ∀ (pins : List (Addr × Obj)) (s : Shared) (σ : L2.St) (H : Hp) (R : L2.St → V → Hp → Prop), Inv X pins σ H s → t R σ H →
    wpAny (model X.prog X.w) X.A (execs sts X.env) (fun fl s' => ∃ u, fl = .ret u ∧ ∃ v σ' H', Inv X pins σ' H' s' ∧ L2.RelV v u ∧ R σ' v H') X.xe s
section
variable {X : Cx} {st : Stmt} {rest : List Stmt} {t : TS} {e : Expr} {te : TE} {pos : Pos} {u u' : (L2.St → V → Hp → Prop) → L2.St → Hp → Prop}
theorem PSM.imp (h : PSM X rest u) (i : ∀ R σ H, u' R σ H → u R σ H) : PSM X rest u' := ⟨fun pins s σ H R I q => h.run pins s σ H R I (i _ _ _ q)⟩
theorem psm_cons (h1 : PS X st t) (h2 : PSM X rest u) : PSM X (st :: rest) fun R σ H => t { nx := u R, rt := fun _ _ => False } σ H := by
  refine ⟨fun pins s σ H R I h => ?_⟩
  refine wpAny_execs_cons (thn (h1.run pins s σ H _ I h) fun f s1 q => ?_)
  cases f with
  | next =>
    obtain ⟨σ', H', I', q⟩ := q
    exact h2.run pins s1 σ' H' R I' q
  | ret v => obtain ⟨_, _, _, _, _, q⟩ := q; exact q.elim
  | brk => obtain ⟨_, _, _, q⟩ := q; exact q.elim
  | cont => obtain ⟨_, _, _, q⟩ := q; exact q.elim
theorem psm_ret (he : PE X e te) : PSM X [.Return (some e) pos] fun R σ H => te σ H fun v H1 => R σ v H1 := by
  refine ⟨fun pins s σ H R I h => ?_⟩
  refine wpAny_execs_cons (wpAny_Return_some (thn (he.run pins s σ H _ I h) fun v s1 ⟨x, H1, I1, r1, q1⟩ => ?_))
  exact ⟨v, rfl, x, σ, H1, I1, r1, q1⟩
end
/-- what the maker's end asks: the function at f, its captured names' values -/
structure DnM (K : PySem.W.Frag) [GG K] (k : Ck) (js : List Nat) (cl : List (Str × Addr)) (E : LXS) (s : LS) (H : Hp) (Dl : LEnds) (R : L2.St → V → Hp → Prop) : Prop where
  rt : ∀ (xs : List LV) (s' : LS) (σ : L2.St) (H' : Hp) (f c : Addr) (vs : List V), Dl.rt (.clo k xs) s' → Step s H s' H' → RelS K s' H' → H' f = some (FnO f (k.nf cl c)) → H' c = some (CodeO c k.qual) →
    RVs K s' H' xs vs → js.map (fun j => σ[j]?) = vs.map (fun v => some (some v)) → R σ (.ref f) H'
  ex : ∀ C σl s', Dl.ex C σl s' → E C σl s'
theorem DnM.mono {K : PySem.W.Frag} [GG K] {k : Ck} {js : List Nat} {cl : List (Str × Addr)} {E : LXS} {s s1 : LS} {H H1 : Hp} {Dl : LEnds} {R : L2.St → V → Hp → Prop} (d : DnM K k js cl E s H Dl R) (st : Step s H s1 H1) : DnM K k js cl E s1 H1 Dl R :=
  ⟨fun xs s' σ H' f c vs q st' => d.rt xs s' σ H' f c vs q (st.trans st'), d.ex⟩
def upM (K : PySem.W.Frag) [GG K] (k : Ck) (js : List Nat) (cl : List (Str × Addr)) (s0 : LS) (H0 : Hp) (E : LXS) (t : LTS) : (L2.St → V → Hp → Prop) → L2.St → Hp → Prop := fun R σ H => ∃ σl s Dl, RSt K s H σl σ ∧ RelS K s H ∧ Step s0 H0 s H ∧ t Dl σl s ∧ DnM K k js cl E s H Dl R
def LPM (X : Cx) [GG X.K] (k : Ck) (js : List Nat) (cl : List (Str × Addr)) (sts : List Stmt) (t : LTS) : Prop := ∀ s0 H0 E, Takes X (WL X.K s0 H0 E) → PassesOwn (model X.prog X.w) X.A X.env X.xe → PSM X sts (upM X.K k js cl s0 H0 E t)
/-- within the maker: no other return -/
def lSeqM (t u : LTS) : LTS := fun D σ s => t ⟨u D, fun _ _ => False, fun _ _ => False, fun _ _ => False, D.ex⟩ σ s
section
variable {X : Cx} [GG X.K] {st : Stmt} {rest : List Stmt} {t u : LTS} {k : Ck} {js : List Nat} {cl : List (Str × Addr)}
theorem lpm_cons (h1 : LP X st t) (h2 : LPM X k js cl rest u) : LPM X k js cl (st :: rest) (lSeqM t u) := fun s0 H0 E tk hp =>
  (psm_cons (h1 s0 H0 E tk hp) (h2 s0 H0 E tk hp)).imp fun R σ H ⟨σl, s, Dl, hσ, hs, st, h, d⟩ =>
    ⟨σl, s, _, hσ, hs, st, h, ⟨fun σl1 s1 σ1 H1 h1 st1 hs1 r1 => ⟨σl1, s1, Dl, r1, hs1, st.trans st1, h1, d.mono st1⟩, fun _ _ _ _ z => z.elim, fun _ _ _ _ z => z.elim, fun _ _ _ _ z => z.elim, d.ex⟩⟩
/-- def g(..): .. ; return g -/
def lMade (P : Addr) (k : Ck) (js : List Nat) : LTS := fun D σ s => s P = some (.tab k.qual) ∧ ∃ xs : List LV, js.map (fun j => σ[j]?) = xs.map (fun x => some (some x)) ∧ D.rt (.clo k xs) s
theorem slots_of {K : PySem.W.Frag} [GG K] {s : LS} {H : Hp} {σl : LSt} {σ : L2.St} (hσ : RSt K s H σl σ) : ∀ {js : List Nat} {xs : List LV}, js.map (fun j => σl[j]?) = xs.map (fun x => some (some x)) → ∃ vs : List V, RVs K s H xs vs ∧ js.map (fun j => σ[j]?) = vs.map (fun v => some (some v))
  | [], [], _ => ⟨[], .nil, rfl⟩
  | [], _ :: _, h => by cases h
  | _ :: _, [], h => by cases h
  | j :: js, x :: xs, h => by
    rw [List.map_cons, List.map_cons, List.cons.injEq] at h
    obtain ⟨v, e, r⟩ := hσ.get h.1
    obtain ⟨vs, rs, es⟩ := slots_of hσ h.2
    exact ⟨v :: vs, .cons r rs, by rw [List.map_cons, List.map_cons, e, es]⟩
theorem lpm_made {c P : Addr} {name : Str} {pos p1 p2 : Pos} {i : Nat} (hst : k.st = .FunctionDef name (C8.fnArgs k.st) (C8.fnBody k.st) [] none [] (C8.fnScope k.st) none name pos) (TB : TabB X.base X.mg c P) (hcode : X.env.code = .ref c) (hn : k.name = name) (hq : X.env.qual ++ name = k.qual)
    (hcl : cl = cloFrom X.env.cells (C8.fnScope k.st).names [])
    (hfree : ∀ y ∈ (C8.fnScope k.st).names, y.2 = .free → X.env.scope.names.lookup y.1 = some .cell ∨ X.env.scope.names.lookup y.1 = some .free) (hd0 : (C8.fnArgs k.st).defaults = []) (hk0 : (C8.fnArgs k.st).kw_defaults = [])
    (ha : annTrees (C8.fnArgs k.st) none X.env = []) (hN : X.N.Nodup) (hi : X.N[i]? = some name) (hx : X.env.scope.names.lookup name = some .local) (hj : ∀ j ∈ js, j ≠ i) (hd : (name == ("__debug__" : Str)) = false := by decide) (hcd : (name == ("__classdict__" : Str)) = false := by decide) :
    LPM X k js cl [k.st, .Return (some (.Name name p1)) p2] (lMade P k js) := fun s0 H0 E tk hp =>
  (psm_cons (ps_defX hst TB hcode hq hfree hd0 hk0 ha hN hi (.inl hx) (.inr hx)) (psm_ret (pe_var (i := i) hN' hx' hd hcd))).imp fun R σ H ⟨σl, s, Dl, hσ, hs, st, ⟨hP, xs, e, h⟩, d⟩ => by
    refine ⟨tabQ_of hs hP, fun f c' H1 m hl => ?_⟩
    obtain ⟨st1, hs1, _, _⟩ := m.up hs hP
    obtain ⟨vs, r, es⟩ := slots_of hσ e
    refine ⟨.ref f, by rw [List.getElem?_set_self hl], ?_⟩
    refine d.rt xs s _ H1 f c' vs h st1 hs1 (by subst hn hcl; exact m.fn) m.code (r.mono st1) ?_
    rw [← es]
    exact List.map_congr_left fun j hj' => by rw [List.getElem?_set_ne (Ne.symm (hj j hj'))]
where
  hN' := hi
  hx' : Vis X.env.scope name := .inl hx
end
end L3

namespace L3
open PySem PySem.Spec PyProof.Rows L2 LamX NdefX
theorem hok_cel {P : Program} {w : World} {H : Hp} {h : Heap} {c : Addr} {v : V} {u : Value} (k : HOk P w H h) (n : H c = none) (r : RelV v u) (hc : h.IsCell c (some u)) : HOk P w (upd H c (CelO c v)) h := fun a o e => by
  by_cases ha : a = c
  · subst ha
    rw [upd_same] at e
    cases e
    obtain ⟨o, ho, hd⟩ := hc
    exact ⟨⟨u, r, o, ho, hd⟩, ⟨o, ho⟩, fun h1 h2 ⟨u', r', o', ho', hd'⟩ st => ⟨u', r', o', st _ ho', hd'⟩⟩
  · rw [upd_ne ha] at e
    exact (k a o e).stay (fun _ _ _ q => q) (fun b q => by rw [upd_ne (by rintro rfl; rw [n] at q; cases q)]; exact q) fun b xs q => by rw [upd_ne (by rintro rfl; rw [n] at q; cases q)]; exact q
theorem cells_add {P : Program} {w : World} {H : Hp} {h : Heap} : ∀ (l : List (Addr × V)), (l.map (·.1)).Nodup → HOk P w H h → (∀ p ∈ l, H p.1 = none ∧ ∃ u, RelV p.2 u ∧ h.IsCell p.1 (some u)) →
    ∃ H2, HOk P w H2 h ∧ (∀ p ∈ l, H2 p.1 = some (CelO p.1 p.2)) ∧ ∀ b, b ∉ l.map (·.1) → H2 b = H b
  | [], _, k, _ => ⟨H, k, fun _ h => (nomatch h), fun _ _ => rfl⟩
  | (c, v) :: l, nd, k, hl => by
    rw [List.map_cons, List.nodup_cons] at nd
    obtain ⟨H2, k2, h2, r2⟩ := cells_add l nd.2 k fun p hp => hl p (List.mem_cons_of_mem _ hp)
    obtain ⟨n, u, r, hc⟩ := hl (c, v) List.mem_cons_self
    have n2 : H2 c = none := by rw [r2 c nd.1]; exact n
    refine ⟨upd H2 c (CelO c v), hok_cel k2 n2 r hc, fun p hp => ?_, fun b hb => ?_⟩
    · rcases List.mem_cons.mp hp with rfl | hq
      · exact upd_same
      · rw [upd_ne (fun z => nd.1 (by rw [← z]; exact List.mem_map_of_mem (f := (·.1)) hq))]
        exact h2 p hq
    · rw [List.map_cons, List.mem_cons, not_or] at hb
      rw [upd_ne hb.1]
      exact r2 b hb.2
theorem un_add {fs ex : List Addr} {H H1 H2 : Hp} {h h1 : Heap} {cs : List Addr} (un : Un fs ex H H1 h h1) (r : ∀ b, b ∉ cs → H2 b = H1 b) (n : ∀ c ∈ cs, H1 c = none) (f : ∀ c ∈ cs, h.get? c = none) : Un fs ex H H2 h h1 := by
  have out : ∀ b o, H1 b = some o → b ∉ cs := fun b o e hb => by rw [n b hb] at e; cases e
  exact ⟨un.keep, un.slot, fun b o e n' hx => by rw [r b fun hb => by rw [f b hb] at e; cases e]; exact un.free b o e n' hx, un.there,
    fun b xs e => by have q := un.tups b xs e; rw [r b (out b _ q)]; exact q, fun b o u e => by have q := un.frzs b o u e; rw [r b (out b _ q)]; exact q,
    fun b ps e => by obtain ⟨m, q⟩ := un.tbls b ps e; exact ⟨m, by rw [r b (out b _ q)]; exact q⟩⟩
/-- the captured names, in the order in which they lie -/
def frOf (names : List (Str × NameKind)) : List Str := ((names.filter fun y => y.2 == .free).map (·.1)).reverse
theorem clo_keys (cells : List (Str × Addr)) : ∀ (names : List (Str × NameKind)) (acc : List (Str × Addr)), (cloFrom cells names acc).map (·.1) = frOf names ++ acc.map (·.1)
  | [], acc => rfl
  | (n, k) :: r, acc => by
    unfold cloFrom
    by_cases hk : k == .free
    · rw [if_pos hk, clo_keys cells r]
      simp [frOf, hk]
    · rw [if_neg hk, clo_keys cells r]
      simp [frOf, hk]
theorem RVc.of {K : PySem.W.Frag} [GG K] {s : LS} {H : Hp} : ∀ {xs : List LV} {vs : List V} {cs : List Addr}, RVs K s H xs vs → cs.length = vs.length → (∀ p ∈ cs.zip vs, CelH K s H p.1 p.2) → RVc K s H xs cs
  | [], vs, cs, r, e, _ => by
    simp only [RVs] at r
    subst r
    simp only [RVc]
    exact List.eq_nil_of_length_eq_zero e
  | x :: xs, vs, cs, r, e, hc => by
    simp only [RVs] at r
    obtain ⟨u, vs, rfl, r1, r2⟩ := r
    cases cs with
    | nil => cases e
    | cons c cs =>
      simp only [RVc]
      exact ⟨c, cs, u, rfl, hc (c, u) (by simp), r1, RVc.of r2 (by simpa using e) fun p hp => hc p (by simp [hp])⟩
/-- a def whose code object is known -/
structure FunC (K : PySem.W.Frag) (x qual : Str) (st : Stmt) (f : Addr) (fd : FuncData) (c : Addr) : Prop where
  ex : ∃ (oc : Value) (od : Option Addr) (kV doc pm : Value) (an : Option Addr) (ct : Value) (osl : Array (Option Value)),
    fd = PySem.W.fnOf x qual (defArgs st) (defBody st) (defScope st) .none kV doc pm an (.ref c) ct ∧ K.lookup f = some ⟨oc, od, .func fd, osl⟩ ∧ PySem.W.codeIn K (.ref c) qual = true
theorem funC_mk {K : PySem.W.Frag} {x qual : Str} {st : Stmt} {f c : Addr} {oc : Value} {od an : Option Addr} {osl : Array (Option Value)} {kV doc pm ct : Value} (l : K.lookup f = some ⟨oc, od, .func (PySem.W.fnOf x qual (defArgs st) (defBody st) (defScope st) .none kV doc pm an (.ref c) ct), osl⟩)
    (h : PySem.W.codeIn K (.ref c) qual = true) : FunC K x qual st f (PySem.W.fnOf x qual (defArgs st) (defBody st) (defScope st) .none kV doc pm an (.ref c) ct) c := ⟨⟨oc, od, kV, doc, pm, an, ct, osl, rfl, l, h⟩⟩
/-- the ends of a maker -/
def mEnds (Q : LVK) (E : LX) : LEnds := ⟨fun _ _ => False, fun lv s' => ∃ y s2, Frz lv s' y s2 ∧ Q y s2, fun _ _ => False, fun _ _ => False, fun C _ s' => ∃ s2, Sub s2 s' ∧ E C s2⟩
abbrev mCells (st : Stmt) (si : Shared) : List (Str × Addr) := cellsFrom (si.heap.objs.size + 1) (defScope st).names []
section
variable {P : Program} {w : World} {K : PySem.W.Frag} [GG K] {mg : Str → Option Value} {base : Heap}
theorem FunC.ok {x qual : Str} {st : Stmt} {f c : Addr} {fd : FuncData} {N ps : List Str} {k : Nat} {sp : LSp} {ck : Ck} {js : List Nat} (F : FunC K x qual st f fd c) (S : FnScope N ps (defScope st)) (len : ∀ vs s Q E, sp vs s Q E → vs.length = ps.length)
    (hfr : frOf (C8.fnScope ck.st).names = ck.fr) (nfr : ck.fr.Nodup) (kfr : ∀ y ∈ ck.fr, (defScope st).names.lookup y = some .cell) (hjs : js.map (fun j => N[j]?) = ck.fr.map some)
    (hbody : ∀ (A : Around) (outer : List Env) (si : Shared) (H : Hp) (E : XK), Room k (A.deeper (PyProof.Rows.envOfC qual (defScope st) si.heap.objs.size f (.ref c))) →
      ∃ t, LPM (cxOf (L2.CX P w) P w K mg base N qual (defScope st) f (.ref c) A outer si H E) ck js (cloFrom (mCells st si) (C8.fnScope ck.st).names []) (defBody st) t ∧ ∀ vs s Q E, sp vs s Q E → t (mEnds Q E) (lstart N vs) s) : LFn P w K mg base (k + 1) f fd ps sp := by
  obtain ⟨oc, od, kV, doc, pm, an, ct, osl, rfl, lk, hcd⟩ := F.ex
  have len' : ∀ vs H Q E, dn K sp vs H Q E → vs.length = ps.length := fun vs H Q E ⟨lvs, s, Q0, E0, r, _, h, _⟩ => by rw [r.length]; exact len _ _ _ _ h
  refine ⟨len', fun A outer s H args us vs Q E hr e0 hb r hsp => ?_⟩
  have hl := len' _ _ _ _ hsp
  have KX : K.In s.heap := e0.mod.kin.keeps fun b o e => (e0.bs b o e).1
  have nl : s.heap.NoLimit := e0.mod.nolimit.keeps fun b o e => (e0.bs b o e).1
  refine codeAny_call_function hr.depth (KX _ _ lk) rfl S.co S.gen rfl (PySem.W.codeRec_of KX hcd) (hb _ _ _ _ ?_)
  refine wpAny_newFunctionEnv_cells S.kind (fun ⟨n, v⟩ hy => ?_) fun env he s1 x => ?_
  · rcases S.par n (List.of_mem_zip hy).1 with q | q
    · exact .inl q
    · exact .inr ⟨q, PySem.W.cellsFrom_some _ _ _ (.inl q)⟩
  subst he
  refine ⟨nl.keeps x.toInCall.keep, codeAny_func (show wpAny _ _ (execs (defBody st) _) _ _ _ from ?_)⟩
  obtain ⟨lvs, ls, Q0, E0, rl, hs, h, kq, ke⟩ := hsp
  obtain ⟨t, ht, hbd⟩ := hbody A outer s H E (hr.deeper _)
  have tk := takes_of (X := cxOf (L2.CX P w) P w K mg base N qual (defScope st) f (.ref c) A outer s H E) (E := E) rfl rfl rfl rfl
  have I : Inv (cxOf (L2.CX P w) P w K mg base N qual (defScope st) f (.ref c) A outer s H E) [] (start N vs) H s1 := inv_start S hr.hd e0 hl r x
  have M := ht ls H (fun C σl s' => ∃ s2, Sub s2 s' ∧ E0 C s2) (tk.imp fun cls d σ H' w => by
    obtain ⟨C, σl, s', rfl, rfl, _, hs', st', s2, sb, q⟩ := w
    exact ke C s2 H' q (st'.trans sb.step) (sb.rel hs')) (passes_of rfl)
  let cl := cloFrom (mCells st s) (C8.fnScope ck.st).names []
  have hk : cl.map (·.1) = ck.fr := by rw [show cl.map (·.1) = frOf (C8.fnScope ck.st).names ++ [] from clo_keys _ _ _, List.append_nil, hfr]
  have start_ok : RSt K ls H (lstart N lvs) (start N vs) := by
    unfold lstart
    rw [show start N vs = vs.map some ++ List.replicate (N.length - vs.length) none from rfl, rl.length]
    exact (RSt.vals rl).append (.nones _)
  refine wpAny_mono (M.run [] s1 (start N vs) H (fun σ' v H' => ∃ vs' : List V, js.map (fun j => σ'[j]?) = vs'.map (fun v => some (some v)) ∧ ∀ H2, (cl.map (·.2)).Nodup → (∀ a ∈ cl.map (·.2), H' a = none) → (∀ p ∈ (cl.map (·.2)).zip vs', H2 p.1 = some (CelO p.1 p.2)) →
    (∀ b, b ∉ cl.map (·.2) → H2 b = H' b) → Q v H2) I ⟨lstart N lvs, ls, mEnds Q0 E0, start_ok, hs, .refl _ _, hbd lvs ls Q0 E0 h, fun xs s' σ' H' f' c' vs' hrt st' hs' hf hc' rx hj => ?_, fun _ _ _ z => z⟩) (fun fl s' hfl => ?_) fun e s' he => he
  · refine ⟨vs', hj, fun H2 nd h0 h2 r2 => ?_⟩
    have l1 : cl.length = vs'.length := by
      have e1 := congrArg List.length hj
      have e2 := congrArg List.length hjs
      have e3 := congrArg List.length hk
      simp only [List.length_map] at e1 e2 e3
      omega
    have st2 : Step s' H' s' H2 := fun a o e n => ⟨⟨o, by rw [r2 a fun ha => by rw [h0 a ha] at e; cases e]; exact e, .refl o⟩, n⟩
    have hs2 : RelS K s' H2 := fun a o e => (hs' a o e).mono st2 fun u z => by rw [r2 a fun ha => by rw [h0 a ha] at z; cases z]; exact z
    have rv : RV K s' H2 (.clo ck xs) (.ref f') := by
      simp only [RV]
      refine ⟨f', c', cl, rfl, hs'.ext0 hf, by rw [r2 f' fun ha => by rw [h0 _ ha] at hf; cases hf]; exact hf, hs'.ext0 hc', by rw [r2 c' fun ha => by rw [h0 _ ha] at hc'; cases hc']; exact hc', hk, nd, ?_⟩
      refine RVc.of (rx.mono st2) (by rw [List.length_map]; exact l1) fun p hp => .inl ⟨hs'.free (h0 _ (List.of_mem_zip hp).1), h2 p hp⟩
    obtain ⟨y, s2, fz, q⟩ := hrt
    obtain ⟨a1, a2, a3⟩ := fz K H2 (.ref f') hs2 rv
    exact kq y s2 _ H2 q ((st'.trans st2).trans a3) a2 a1
  · obtain ⟨u, rfl, v, σ', H', J, rv, vs', hj, q⟩ := hfl
    have ecl : ∀ y a, (y, a) ∈ cl → (mCells st s).lookup y = some a ∧ y ∈ ck.fr := fun y a hm => by
      have hy : y ∈ ck.fr := by rw [← hk]; exact List.mem_map_of_mem (f := (·.1)) hm
      refine ⟨?_, hy⟩
      rcases cloFrom_mem hm with z | ⟨_, z⟩
      · cases z
      · obtain ⟨b, hb⟩ := cell_has (n := s.heap.objs.size + 1) (kfr y hy)
        rw [show mCells st s = cellsFrom (s.heap.objs.size + 1) (defScope st).names [] from rfl] at z ⊢
        rw [hb] at z ⊢
        rw [z]; rfl
    have nd : (cl.map (·.2)).Nodup := by
      rw [List.Nodup, List.pairwise_iff_getElem]
      intro i j hi hj2 hij
      rw [List.getElem_map, List.getElem_map]
      rw [List.length_map] at hi hj2
      intro z
      obtain ⟨z1, _⟩ := ecl cl[i].1 cl[i].2 (List.getElem_mem hi)
      obtain ⟨z2, _⟩ := ecl cl[j].1 cl[j].2 (List.getElem_mem hj2)
      rw [z] at z1
      have e := J.ok.inj _ _ _ z1 z2
      have nf := nfr
      rw [← hk, List.Nodup, List.pairwise_iff_getElem] at nf
      have := nf i j (by rw [List.length_map]; exact hi) (by rw [List.length_map]; exact hj2) hij
      rw [List.getElem_map, List.getElem_map] at this
      exact this e
    have h0 : ∀ a ∈ cl.map (·.2), H' a = none := fun a ha => by
      obtain ⟨⟨y, b⟩, hm, rfl⟩ := List.mem_map.mp ha
      exact J.freeC y b (ecl y b hm).1
    have l1 : cl.length = vs'.length := by
      have e1 := congrArg List.length hj
      have e2 := congrArg List.length hjs
      have e3 := congrArg List.length hk
      simp only [List.length_map] at e1 e2 e3
      omega
    have cells : ∀ p ∈ (cl.map (·.2)).zip vs', H' p.1 = none ∧ ∃ u, RelV p.2 u ∧ s'.heap.IsCell p.1 (some u) := fun p hp => by
      refine ⟨h0 _ (List.of_mem_zip hp).1, ?_⟩
      obtain ⟨i, hi, rfl⟩ := List.mem_iff_getElem.mp hp
      rw [List.length_zip, List.length_map, l1, Nat.min_self] at hi
      rw [List.getElem_zip]
      simp only [List.getElem_map]
      have hi' : i < cl.length := by omega
      obtain ⟨z1, z2⟩ := ecl cl[i].1 cl[i].2 (List.getElem_mem hi')
      have ey : ck.fr[i]? = some cl[i].1 := by rw [← hk, List.getElem?_map, List.getElem?_eq_getElem hi']; rfl
      have e2 : (js.map fun j => N[j]?)[i]? = some (some cl[i].1) := by rw [hjs, List.getElem?_map, ey]; rfl
      rw [List.getElem?_map] at e2
      cases ej : js[i]? with
      | none => rw [ej] at e2; cases e2
      | some j =>
        rw [ej] at e2
        have hN : N[j]? = some cl[i].1 := Option.some.inj e2
        have e3 : (js.map fun j => σ'[j]?)[i]? = some (some (some vs'[i])) := by rw [hj, List.getElem?_map, List.getElem?_eq_getElem hi]; rfl
        rw [List.getElem?_map, ej] at e3
        obtain ⟨m, hn, hlk⟩ := J.loc
        obtain ⟨u, ru, l⟩ := hlk j cl[i].1 vs'[i] hN (Option.some.inj e3) (.inr (.inl (kfr _ z2)))
        refine ⟨u, ru, ?_⟩
        rcases l with ⟨z, _⟩ | ⟨_, b, hb, hc⟩
        · have z' : (defScope st).names.lookup cl[i].1 = some .local := z
          rw [kfr _ z2] at z'
          cases z'
        · have hb' : (mCells st s).lookup cl[i].1 = some b := hb
          rw [z1] at hb'
          cases hb'
          exact hc
    have zf : ((cl.map (·.2)).zip vs').map (·.1) = cl.map (·.2) := List.map_fst_zip (by rw [List.length_map]; omega)
    obtain ⟨H2, k2, h2, r2⟩ := cells_add _ (by rw [zf]; exact nd) J.hok cells
    rw [zf] at r2
    refine ⟨v, H2, J.os, J.bare, un_add J.base r2 h0 (fun a ha => ?_), k2, rv, q H2 nd h0 h2 r2⟩
    obtain ⟨⟨y, b⟩, hm, rfl⟩ := List.mem_map.mp ha
    exact Heap.get?_none_of_le (J.ok.cab y b rfl (ecl y b hm).1)
end
end L3

namespace L3
open PySem PySem.Spec PyProof.Rows L2 LamX NdefX
open Classical in
noncomputable def cutP (H : Hp) (C : Addr → Prop) : Hp := fun b => if C b then none else H b
open Classical in
noncomputable def addP (H2 H : Hp) (C : Addr → Prop) : Hp := fun b => if C b then H b else H2 b
theorem cut_in {H : Hp} {C : Addr → Prop} {b : Addr} (h : C b) : cutP H C b = none := by unfold cutP; rw [if_pos h]
theorem cut_out {H : Hp} {C : Addr → Prop} {b : Addr} (h : ¬ C b) : cutP H C b = H b := by unfold cutP; rw [if_neg h]
theorem add_in {H2 H : Hp} {C : Addr → Prop} {b : Addr} (h : C b) : addP H2 H C b = H b := by unfold addP; rw [if_pos h]
theorem add_out {H2 H : Hp} {C : Addr → Prop} {b : Addr} (h : ¬ C b) : addP H2 H C b = H2 b := by unfold addP; rw [if_neg h]
/-- what may be laid aside -/
structure Aside (H : Hp) (C : Addr → Prop) : Prop where
  there : ∀ b, C b → H b ≠ none
  own : ∀ a b, C a → H b = some (.own a) → (∀ y, H a ≠ some (.own y)) → (∀ φ, H a ≠ some (.ext φ)) → C b
  back : ∀ a b, H b = some (.own a) → C b → C a
  notup : ∀ b xs, C b → H b ≠ some (.tup xs)
  nofrz : ∀ b o u, C b → H b ≠ some (.frz o u)
theorem obj_of {P : Program} {w : World} {H : Hp} {h : Heap} {a : Addr} {o : HO} (x : ObjOk P w H h a o) : ∃ ob, h.get? a = some ob := by
  cases o with
  | lst xs => obtain ⟨_, _, _, _, z⟩ := x; exact ⟨_, z⟩
  | tup xs => obtain ⟨_, _, _, ob, z, _⟩ := x; exact ⟨_, z⟩
  | dK kvs => obtain ⟨_, _, _, _, o, _, _, z, _⟩ := x; exact ⟨_, z⟩
  | dT kvs => obtain ⟨_, _, _, _, o, _, _, z, _⟩ := x; exact ⟨_, z⟩
  | set S n => obtain ⟨o, _, _, _, z, _⟩ := x; exact ⟨_, z⟩
  | ins C dx fs => obtain ⟨_, _, _, z, _⟩ := x; exact ⟨_, z⟩
  | own y => exact x
  | xd fs => obtain ⟨_, ⟨_, _, _, z, _⟩, _⟩ := x; exact ⟨_, z⟩
  | rng lo hi => obtain ⟨_, _, _, z⟩ := x; exact ⟨_, z⟩
  | frz ob u => exact ⟨_, x.1⟩
  | tbl ps => exact ⟨_, x⟩
  | met f y => exact ⟨_, x⟩
  | ext φ => exact x.2.1
section
variable {P : Program} {w : World} {K : PySem.W.Frag} {mg : Str → Option Value} {base : Heap} {A : Around} {outer : List Env} {s s' : Shared} {H H2 : Hp} {C : Addr → Prop} {h h' : Heap}
theorem hok_cut (a : Aside H C) (k : HOk P w H h) : HOk P w (cutP H C) h := fun x o e => by
  by_cases hx : C x
  · rw [cut_in hx] at e; cases e
  · rw [cut_out hx] at e
    exact (k x o e).stay (fun _ _ _ q => q) (fun b q => by rw [cut_out fun hb => hx (a.back x b q hb)]; exact q) fun b xs q => by rw [cut_out fun hb => a.notup b xs hb q]; exact q
theorem env0_cut (a : Aside H C) (e : Env0 P w K mg base A outer s H) : Env0 P w K mg base A outer s (cutP H C) :=
  have no : ∀ b, H b = none → cutP H C b = none := fun b n => by
    by_cases hb : C b
    · exact cut_in hb
    · rw [cut_out hb]; exact n
  ⟨e.frames, e.mod, fun b o q => ⟨(e.bs b o q).1, no b (e.bs b o q).2⟩, e.bsz, e.funs, fun b hb => no b (e.frf b hb), hok_cut a e.hok, e.bare⟩
theorem ce_add {Q Q' : VK} {u : Value} (a : Aside H C) (e0 : Env0 P w K mg base A outer s H) (hc : CE outer P w (cutP H C) s Q' u s') (hq : ∀ v H2, Q' v H2 → (∀ c, C c → H2 c = none) → Q v (addP H2 H C)) : CE outer P w H s Q u s' := by
  obtain ⟨v, H2, os, bare, un, hok, r, q⟩ := hc
  have obj : ∀ b o, H b = some o → ∃ ob, s.heap.get? b = some ob := fun b o e => obj_of (e0.hok b o e)
  have ex : ∀ c, C c → ∀ ob, s.heap.get? c = some ob → s'.heap.get? c = some ob := fun c hb ob ho => un.keep c ob ho (cut_in hb) (fun hf => a.there c hb (e0.frf c hf)) (by simp)
  have n2 : ∀ c, C c → H2 c = none := fun c hb => by
    cases z : H c with
    | none => exact absurd z (a.there c hb)
    | some o =>
      obtain ⟨ob, ho⟩ := obj c o z
      exact un.free c ob ho (cut_in hb) (by simp)
  have out : ∀ b, H b = none → ¬ C b := fun b e hb => a.there b hb e
  have ownC : ∀ b y, H2 b = some (.own y) → ¬ C b := fun b y e hb => by rw [n2 b hb] at e; cases e
  refine ⟨v, addP H2 H C, os, bare, ⟨fun b o e n hf hx => ?_, fun b o e n hf hx => ?_, fun b o e n hx => ?_, un.there, fun b xs e => ?_, fun b o u' e => ?_, fun b ps e => ?_⟩, fun x o e => ?_, r, hq v H2 q n2⟩
  · exact un.keep b o e (by rw [cut_out (out b n)]; exact n) hf hx
  · exact un.slot b o e (by rw [cut_out (out b n)]; exact n) hf hx
  · rw [add_out (out b n)]
    exact un.free b o e (by rw [cut_out (out b n)]; exact n) hx
  · have z : ¬ C b := fun hb => a.notup b xs hb e
    rw [add_out z]
    exact un.tups b xs (by rw [cut_out z]; exact e)
  · have z : ¬ C b := fun hb => a.nofrz b o u' hb e
    rw [add_out z]
    exact un.frzs b o u' (by rw [cut_out z]; exact e)
  · by_cases z : C b
    · rw [add_in z]
      exact ⟨#[], by rw [e]; simp⟩
    · rw [add_out z]
      exact un.tbls b ps (by rw [cut_out z]; exact e)
  · by_cases hx : C x
    · rw [add_in hx] at e
      have k := e0.hok x o e
      have tup : ∀ b xs, H b = some (.tup xs) → addP H2 H C b = some (.tup xs) := fun b xs q => by
        have z : ¬ C b := fun hb => a.notup b xs hb q
        rw [add_out z]
        exact un.tups b xs (by rw [cut_out z]; exact q)
      cases o with
      | own y =>
        obtain ⟨ob, ho⟩ := k
        exact ⟨ob, ex x hx ob ho⟩
      | ext φ =>
        obtain ⟨z1, ⟨ob, ho⟩, z3⟩ := k
        exact ⟨z3 _ _ z1 fun o' ho' => ex x hx o' ho', ⟨ob, ex x hx ob ho⟩, z3⟩
      | _ =>
        refine k.stay (fun b u' hb ho => ?_) (fun b q => ?_) tup
        · rcases hb with rfl | hb
          · exact ex b hx u' ho
          · exact ex b (a.own x b hx hb (by rw [e]; simp) (by rw [e]; simp)) u' ho
        · rw [add_in (a.own x b hx q (by rw [e]; simp) (by rw [e]; simp))]; exact q
    · rw [add_out hx] at e
      exact (hok x o e).stay (fun _ _ _ q => q) (fun b q => by rw [add_out (ownC b x q)]; exact q) fun b xs q => by rw [add_out fun hb => by rw [n2 b hb] at q; cases q]; exact q
end
mutual
def ncl : LV → Bool
  | .clo _ _ => false
  | .tup xs => ncls xs
  | .lst xs => ncls xs
  | .dT kvs => nclk kvs
  | .ins _ fs => nclf fs
  | _ => true
def ncls : List LV → Bool
  | [] => true
  | x :: xs => ncl x && ncls xs
def nclk : List (List Key × LV) → Bool
  | [] => true
  | (_, x) :: xs => ncl x && nclk xs
def nclf : List (Str × LV) → Bool
  | [] => true
  | (_, x) :: xs => ncl x && nclf xs
end
def ncld : List (Key × LV) → Bool
  | [] => true
  | (_, x) :: xs => ncl x && ncld xs
def nclO : LO → Bool
  | .lst xs => ncls xs
  | .dK kvs => ncld kvs
  | .dT kvs => nclk kvs
  | .ins _ fs => nclf fs
  | .tab _ => false
/-- from one heap to another: all but cells and functions' codes -/
structure Cut (s : LS) (H : Hp) (s' : LS) (H' : Hp) : Prop where
  at_ : ∀ a o, H a = some o → s a = none → (∀ φ, o ≠ .ext φ) → (∀ y, o ≠ .own y) → H' a = some o ∧ s' a = none
section
variable {K : PySem.W.Frag} [GG K] {s s' : LS} {H H' : Hp}
theorem ScrAt.cut (c : Cut s H s' H') {a : Addr} {ns : List Int} (h : ScrAt K s H a ns) : ScrAt K s' H' a ns := by
  rcases h with ⟨n, h | ⟨o, h⟩⟩ | h
  · obtain ⟨h', n'⟩ := c.at_ a _ h n (fun φ z => by cases z) fun y z => by cases z
    exact .inl ⟨n', .inl h'⟩
  · obtain ⟨h', n'⟩ := c.at_ a _ h n (fun φ z => by cases z) fun y z => by cases z
    exact .inl ⟨n', .inr ⟨o, h'⟩⟩
  · exact .inr h
mutual
theorem RV.cut (c : Cut s H s' H') : ∀ {x : LV} {v : V}, ncl x = true → RV K s H x v → RV K s' H' x v
  | .non, _, _, h => by simpa only [RV] using h
  | .bl _, _, _, h => by simpa only [RV] using h
  | .int _, _, _, h => by simpa only [RV] using h
  | .str _, _, _, h => by simpa only [RV] using h
  | .ty _, _, _, h => by simpa only [RV] using h
  | .ref _, _, _, h => by simpa only [RV] using h
  | .scr _, _, _, h => by
    simp only [RV] at h ⊢
    obtain ⟨a, e, h⟩ := h
    exact ⟨a, e, h.cut c⟩
  | .tup xs, _, n0, h => by
    simp only [RV] at h ⊢
    obtain ⟨a, us, e, n, h, r⟩ := h
    obtain ⟨h', n'⟩ := c.at_ a _ h n (fun φ z => by cases z) fun y z => by cases z
    exact ⟨a, us, e, n', h', RVs.cut c (by simpa only [ncl] using n0) r⟩
  | .lst xs, _, n0, h => by
    simp only [RV] at h ⊢
    obtain ⟨a, us, e, n, h, r⟩ := h
    obtain ⟨h', n'⟩ := c.at_ a _ h n (fun φ z => by cases z) fun y z => by cases z
    exact ⟨a, us, e, n', h', RVs.cut c (by simpa only [ncl] using n0) r⟩
  | .dT kvs, _, n0, h => by
    simp only [RV] at h ⊢
    obtain ⟨a, us, o, e, n, h, d, r⟩ := h
    obtain ⟨h', n'⟩ := c.at_ a _ h n (fun φ z => by subst z; rcases d with d | ⟨_, d⟩ <;> cases d) fun y z => by subst z; rcases d with d | ⟨_, d⟩ <;> cases d
    exact ⟨a, us, o, e, n', h', d, RVk.cut c (by simpa only [ncl] using n0) r⟩
  | .ins C fs, _, n0, h => by
    simp only [RV] at h ⊢
    obtain ⟨a, dx, us, e, n, h, r⟩ := h
    obtain ⟨h', n'⟩ := c.at_ a _ h n (fun φ z => by cases z) fun y z => by cases z
    exact ⟨a, dx, us, e, n', h', RVf.cut c (by simpa only [ncl] using n0) r⟩
  | .clo k xs, _, n0, _ => by simp only [ncl] at n0; cases n0
theorem RVs.cut (c : Cut s H s' H') : ∀ {xs : List LV} {us : List V}, ncls xs = true → RVs K s H xs us → RVs K s' H' xs us
  | [], _, _, h => by simp only [RVs] at h ⊢; exact h
  | x :: xs, _, n0, h => by
    simp only [RVs] at h ⊢
    simp only [ncls, Bool.and_eq_true] at n0
    obtain ⟨u, r, e, h1, h2⟩ := h
    exact ⟨u, r, e, RV.cut c n0.1 h1, RVs.cut c n0.2 h2⟩
theorem RVk.cut (c : Cut s H s' H') : ∀ {xs : List (List Key × LV)} {us : List (List Key × V)}, nclk xs = true → RVk K s H xs us → RVk K s' H' xs us
  | [], _, _, h => by simp only [RVk] at h ⊢; exact h
  | (k, x) :: xs, _, n0, h => by
    simp only [RVk] at h ⊢
    simp only [nclk, Bool.and_eq_true] at n0
    obtain ⟨u, r, e, h1, h2⟩ := h
    exact ⟨u, r, e, RV.cut c n0.1 h1, RVk.cut c n0.2 h2⟩
theorem RVf.cut (c : Cut s H s' H') : ∀ {xs : List (Str × LV)} {us : List (Str × V)}, nclf xs = true → RVf K s H xs us → RVf K s' H' xs us
  | [], _, _, h => by simp only [RVf] at h ⊢; exact h
  | (k, x) :: xs, _, n0, h => by
    simp only [RVf] at h ⊢
    simp only [nclf, Bool.and_eq_true] at n0
    obtain ⟨u, r, e, h1, h2⟩ := h
    exact ⟨u, r, e, RV.cut c n0.1 h1, RVf.cut c n0.2 h2⟩
end
theorem RVd.cut (c : Cut s H s' H') : ∀ {xs : List (Key × LV)} {us : List (Key × V)}, ncld xs = true → RVd K s H xs us → RVd K s' H' xs us
  | [], _, _, h => by simp only [RVd] at h ⊢; exact h
  | (k, x) :: xs, _, n0, h => by
    simp only [RVd] at h ⊢
    simp only [ncld, Bool.and_eq_true] at n0
    obtain ⟨u, r, e, h1, h2⟩ := h
    exact ⟨u, r, e, RV.cut c n0.1 h1, RVd.cut c n0.2 h2⟩
end
theorem ObjR.cut {K : PySem.W.Frag} [GG K] {s s' : LS} {H H' : Hp} {a : Addr} {o : LO} (c : Cut s H s' H') (k : ∀ u, H a = some u → H' a = some u) (n : nclO o = true) (h : ObjR K s H a o) : ObjR K s' H' a o := by
  cases o with
  | lst xs => obtain ⟨us, h, r⟩ := h; exact ⟨us, k _ h, r.cut c n⟩
  | dK xs => obtain ⟨us, h, r⟩ := h; exact ⟨us, k _ h, r.cut c n⟩
  | dT xs => obtain ⟨us, h, r⟩ := h; exact ⟨us, k _ h, r.cut c n⟩
  | ins C xs => obtain ⟨dx, us, h, r⟩ := h; exact ⟨dx, us, k _ h, r.cut c n⟩
  | tab q => cases n
/-- what the callee sees of the store, and what stands behind the call -/
def mergeS (s1 sv s2 : LS) : LS := fun a => if sv a = none then (match s1 a with
  | some o => some o
  | none => s2 a) else s2 a
/-- the running functions' captured cells stand in the base -/
def GIn (K : PySem.W.Frag) [GG K] (base : Heap) : Prop := ∀ c v, GG.cell K c = some v → ∃ o u, base.get? c = some o ∧ o.data = .cell (some u) ∧ RelV v u
def dnC (K : PySem.W.Frag) [GG K] (sp : List LV → LSp) : List (Option V) → Sp := fun ws vs H Q E => ∃ lws wv lvs s Q0 E0, ws = wv.map some ∧ RVs K s H lws wv ∧ RVs K s H lvs vs ∧ RelS K s H ∧ sp lws lvs s Q0 E0 ∧
  (∀ lv s' v H', Q0 lv s' → Step s H s' H' → RelS K s' H' → RV K s' H' lv v → Q v H') ∧ (∀ C s' H', E0 C s' → Step s H s' H' → RelS K s' H' → E (.ref C) none H')
abbrev CloOk (P : Program) (w : World) (K : PySem.W.Frag) [GG K] (mg : Str → Option Value) (base : Heap) (k : Nat) (ck : Ck) (ps : List Str) (sp : List LV → LSp) : Prop := ∀ (f c : Addr) (cl : List (Str × Addr)), NOk P w K mg base (L2.CX P w) k f (ck.nf cl c) ps ck.fr (dnC K sp)
def cstart (N : List Str) (vs xs : List LV) : LSt := vs.map some ++ (xs.map some ++ List.replicate (N.length - vs.length - xs.length) none)
section
variable {P : Program} {w : World} {K : PySem.W.Frag} [GG K] {mg : Str → Option Value} {base : Heap}
theorem cloOk_of {ck : Ck} {N ps : List Str} {k : Nat} {sp : List LV → LSp} (S : CScope N ps ck.fr (C8.fnScope ck.st)) (hb : ∀ (cl : List (Str × Addr)) (c : Addr) (doc pm ctv : Value) (us : List Value), us.length = ps.length → bindArgs ((ck.nf cl c).fd doc pm ctv) ⟨us, []⟩ = pure (ps.zip us))
    (len : ∀ xs vs s Q E, sp xs vs s Q E → vs.length = ps.length)
    (hbody : ∀ (f c : Addr) (cl : List (Str × Addr)) (A : Around) (outer : List Env) (si : Shared) (H : Hp) (E : XK), Room k (A.deeper (envC (ck.nf cl c) f si.heap.objs.size)) →
      ∃ t, LPs (ccx (L2.CX P w) P w K mg base N (ck.nf cl c) f A outer si H E) (C8.fnBody ck.st) t ∧ ∀ xs vs s Q E, sp xs vs s Q E → t (lEnds Q E) (cstart N vs xs) s) : CloOk P w K mg base (k + 1) ck ps sp := fun f c cl => by
  refine nokC_of S (hb cl c) (fun ws vs H Q E ⟨_, _, lvs, s, Q0, E0, _, _, r, _, h, _⟩ => by rw [r.length]; exact len _ _ _ _ _ h) fun A outer si H vs ws Q E hr e0 hf hl h => ?_
  obtain ⟨lws, wv, lvs, s, Q0, E0, rfl, rw_, r, hs, h, kq, ke⟩ := h
  obtain ⟨t, ht, hb⟩ := hbody f c cl A outer si H E hr
  have tk := takes_of (X := ccx (L2.CX P w) P w K mg base N (ck.nf cl c) f A outer si H E) (E := E) rfl rfl rfl rfl
  refine ⟨upS K s H (fun C σl s' => ∃ s2, Sub s2 s' ∧ E0 C s2) t, ht s H _ (tk.imp fun cls d σ H' w => ?_) (passes_of rfl), ?_⟩
  · obtain ⟨C, σl, s', rfl, rfl, _, hs', st', s2, sb, q⟩ := w
    exact ke C s2 H' q (st'.trans sb.step) (sb.rel hs')
  · refine ⟨cstart N lvs lws, s, lEnds Q0 E0, ?_, hs, .refl _ _, hb lws lvs s Q0 E0 h, ⟨fun σl s' σ H' ⟨s2, sb, q⟩ st' hs' _ => kq .non s2 .non H' q (st'.trans sb.step) (sb.rel hs') .non, fun lv s' v H' ⟨y, s2, fz, q⟩ st' hs' rv => ?_, fun _ _ _ _ z => z.elim, fun _ _ _ _ z => z.elim, fun _ _ _ z => z⟩⟩
    · unfold cstart
      rw [show startF N vs (wv.map some) = vs.map some ++ (wv.map some ++ List.replicate (N.length - vs.length - (wv.map some).length) none) from rfl, List.length_map, r.length, rw_.length]
      exact (RSt.vals r).append ((RSt.vals rw_).append (.nones _))
    · obtain ⟨a, b, c⟩ := fz K H' v hs' rv
      exact kq y s2 v H' q (st'.trans c) b a
end
theorem RVc.vals {K : PySem.W.Frag} [GG K] {s : LS} {H : Hp} : ∀ {xs : List LV} {cs : List Addr}, RVc K s H xs cs → ∃ vs : List V, RVs K s H xs vs ∧ cs.length = vs.length ∧ ∀ p ∈ cs.zip vs, CelH K s H p.1 p.2
  | [], cs, h => by
    simp only [RVc] at h
    subst h
    exact ⟨[], .nil, rfl, fun _ h => (nomatch h)⟩
  | x :: xs, cs, h => by
    simp only [RVc] at h
    obtain ⟨c, r, u, rfl, h1, h2, h3⟩ := h
    obtain ⟨vs, a1, a2, a3⟩ := RVc.vals h3
    refine ⟨u :: vs, .cons h2 a1, by simp [a2], fun p hp => ?_⟩
    rcases List.mem_cons.mp hp with rfl | hq
    · exact h1
    · exact a3 p hq
theorem lookup_nd {cl : List (Str × Addr)} (nd : (cl.map (·.1)).Nodup) : ∀ {y : Str} {c : Addr}, (y, c) ∈ cl → cl.lookup y = some c := by
  induction cl with
  | nil => intro y c h; cases h
  | cons p r ih =>
    intro y c h
    obtain ⟨n, d⟩ := p
    rw [List.map_cons, List.nodup_cons] at nd
    rw [List.lookup_cons]
    rcases List.mem_cons.mp h with h | h
    · cases h; rw [beq_self_eq_true]
    · have : y ≠ n := fun z => nd.1 (by rw [← z]; exact List.mem_map_of_mem (f := (·.1)) h)
      rw [beq_eq_false_iff_ne.mpr this]
      exact ih nd.2 h
theorem addr_nd {cl : List (Str × Addr)} (nd : (cl.map (·.2)).Nodup) {x y : Str} {c : Addr} (h1 : (x, c) ∈ cl) (h2 : (y, c) ∈ cl) : x = y := by
  induction cl with
  | nil => cases h1
  | cons p r ih =>
    rw [List.map_cons, List.nodup_cons] at nd
    rcases List.mem_cons.mp h1 with h1 | h1 <;> rcases List.mem_cons.mp h2 with h2 | h2
    · rw [← h1] at h2; cases h2; rfl
    · exact absurd (by rw [← h1]; exact List.mem_map_of_mem (f := (·.2)) h2) nd.1
    · exact absurd (by rw [← h2]; exact List.mem_map_of_mem (f := (·.2)) h1) nd.1
    · exact ih nd.2 h1 h2
section
variable {X : Cx} [GG X.K] {pins : List (Addr × Obj)} {σ : L2.St} {H : Hp} {si : Shared}
theorem run_clo {f : Addr} {k : Nat} {ck : Ck} {ps : List Str} {sp : List LV → LSp} {us : List Value} {vs : List V} {xs lvs : List LV} {s sv : LS} {Q : VK} {Q0 : LVK} (F : CloOk X.prog X.w X.K X.mg X.base k ck ps sp) (hr : Room k X.A) (hG : GIn X.K X.base) (nfr : ck.fr.Nodup)
    (I : Inv X pins σ H si) (hs : RelS X.K s H) (rf : RV X.K s H (.clo ck xs) (.ref f)) (ra : RVs X.K s H lvs vs) (r : Vals vs us) (sub : Sub sv s) (n1 : ∀ a o, sv a = some o → nclO o = true) (n2 : ncls xs = true) (n3 : ncls lvs = true)
    (h : sp xs lvs sv Q0 fun _ _ => False) (kq : ∀ lv s2 v H2, Q0 lv s2 → (∀ a, sv a = none → s a ≠ none → s2 a = none) → Step s H (mergeS s sv s2) H2 → RelS X.K (mergeS s sv s2) H2 → RV X.K (mergeS s sv s2) H2 lv v → Q v H2) :
    wpAny (model X.prog X.w) X.A (call (.ref f) us) (EP X pins σ Q) X.xe si := by
  simp only [RV] at rf
  obtain ⟨_, c, cl, e, sf, hf, sc, hc, hk, nd, rc⟩ := rf
  cases e
  obtain ⟨wv, rw_, lw, cw⟩ := rc.vals
  let C2 : Addr → Prop := fun a => (a ∈ cl.map (·.2) ∧ H a ≠ none) ∨ (s a ≠ none ∧ sv a = none)
  let C : Addr → Prop := fun b => C2 b ∨ ∃ a, H b = some (.own a) ∧ C2 a
  have cellE : ∀ a, a ∈ cl.map (·.2) → H a ≠ none → ∃ v, H a = some (CelO a v) := fun a ha hn => by
    obtain ⟨i, hi, rfl⟩ := List.mem_iff_getElem.mp ha
    have hi' : i < ((cl.map (·.2)).zip wv).length := by rw [List.length_zip, ← lw, Nat.min_self]; exact hi
    have := cw _ (List.getElem_mem hi')
    rw [List.getElem_zip] at this
    rcases this with ⟨_, z⟩ | z
    · exact ⟨_, z⟩
    · obtain ⟨o, u, hb, _, _⟩ := hG _ _ z
      exact absurd (I.bs _ o hb).2 hn
  have storeE : ∀ a, s a ≠ none → (∃ xs, H a = some (.lst xs)) ∨ (∃ xs, H a = some (.dK xs)) ∨ (∃ xs, H a = some (.dT xs)) ∨ (∃ D dx xs, H a = some (.ins D dx xs)) ∨ ∃ ps, H a = some (.tbl ps) := fun a hn => by
    cases z : s a with
    | none => exact absurd z hn
    | some o =>
      have q := hs a o z
      cases o with
      | lst xs => obtain ⟨us, q, _⟩ := q; exact .inl ⟨_, q⟩
      | dK xs => obtain ⟨us, q, _⟩ := q; exact .inr (.inl ⟨_, q⟩)
      | dT xs => obtain ⟨us, q, _⟩ := q; exact .inr (.inr (.inl ⟨_, q⟩))
      | ins D xs => obtain ⟨dx, us, q, _⟩ := q; exact .inr (.inr (.inr (.inl ⟨_, _, _, q⟩)))
      | tab z => obtain ⟨us, q, _⟩ := q; exact .inr (.inr (.inr (.inr ⟨_, q⟩)))
  have c2E : ∀ a, C2 a → (∃ φ, H a = some (.ext φ)) ∨ (∃ xs, H a = some (.lst xs)) ∨ (∃ xs, H a = some (.dK xs)) ∨ (∃ xs, H a = some (.dT xs)) ∨ (∃ D dx xs, H a = some (.ins D dx xs)) ∨ ∃ ps, H a = some (.tbl ps) := fun a ha => by
    rcases ha with ⟨h1, h2⟩ | ⟨h1, h2⟩
    · obtain ⟨v, z⟩ := cellE a h1 h2
      exact .inl ⟨_, z⟩
    · exact .inr (storeE a h1)
  have cE : ∀ a, C a → (∃ φ, H a = some (.ext φ)) ∨ (∃ xs, H a = some (.lst xs)) ∨ (∃ xs, H a = some (.dK xs)) ∨ (∃ xs, H a = some (.dT xs)) ∨ (∃ D dx xs, H a = some (.ins D dx xs)) ∨ (∃ ps, H a = some (.tbl ps)) ∨ ∃ y, H a = some (.own y) := fun a ha => by
    rcases ha with ha | ⟨y, hy, _⟩
    · rcases c2E a ha with z | z | z | z | z | z
      · exact .inl z
      · exact .inr (.inl z)
      · exact .inr (.inr (.inl z))
      · exact .inr (.inr (.inr (.inl z)))
      · exact .inr (.inr (.inr (.inr (.inl z))))
      · exact .inr (.inr (.inr (.inr (.inr (.inl z)))))
    · exact .inr (.inr (.inr (.inr (.inr (.inr ⟨y, hy⟩)))))
  have asd : Aside H C := by
    refine ⟨fun b hb z => ?_, fun a b ha hb na ne => ?_, fun a b hb hC => ?_, fun b xs hb z => ?_, fun b o u hb z => ?_⟩
    · rcases cE b hb with ⟨_, q⟩ | ⟨_, q⟩ | ⟨_, q⟩ | ⟨_, q⟩ | ⟨_, _, _, q⟩ | ⟨_, q⟩ | ⟨_, q⟩ <;> rw [q] at z <;> cases z
    · rcases ha with ha | ⟨y, hy, _⟩
      · exact .inr ⟨a, hb, ha⟩
      · exact absurd hy (na y)
    · rcases hC with hC | ⟨y, hy, hC⟩
      · rcases c2E b hC with ⟨_, q⟩ | ⟨_, q⟩ | ⟨_, q⟩ | ⟨_, q⟩ | ⟨_, _, _, q⟩ | ⟨_, q⟩ <;> rw [hb] at q <;> cases q
      · rw [hb] at hy
        cases hy
        exact .inl hC
    · rcases cE b hb with ⟨_, q⟩ | ⟨_, q⟩ | ⟨_, q⟩ | ⟨_, q⟩ | ⟨_, _, _, q⟩ | ⟨_, q⟩ | ⟨_, q⟩ <;> rw [q] at z <;> cases z
    · rcases cE b hb with ⟨_, q⟩ | ⟨_, q⟩ | ⟨_, q⟩ | ⟨_, q⟩ | ⟨_, _, _, q⟩ | ⟨_, q⟩ | ⟨_, q⟩ <;> rw [q] at z <;> cases z
  -- what the store does not hold, and is no cell, is seen
  have seen : ∀ a o, H a = some o → s a = none → (∀ φ, o ≠ .ext φ) → (∀ y, o ≠ .own y) → ¬ C a := fun a o e n ne no hC => by
    rcases hC with (⟨h1, h2⟩ | ⟨h1, _⟩) | ⟨y, hy, _⟩
    · obtain ⟨v, z⟩ := cellE a h1 h2
      rw [e] at z
      exact ne _ (Option.some.inj z)
    · exact h1 n
    · rw [e] at hy
      exact no _ (Option.some.inj hy)
  have held : ∀ a o, sv a = some o → ¬ C a := fun a o e hC => by
    have es : s a = some o := by rcases sub a with z | z <;> rw [e] at z <;> first | cases z | exact z.symm
    rcases hC with (⟨h1, h2⟩ | ⟨_, h2⟩) | ⟨y, hy, _⟩
    · obtain ⟨v, z⟩ := cellE a h1 h2
      have := hs.ext0 z
      rw [es] at this; cases this
    · rw [e] at h2; cases h2
    · rcases storeE a (by rw [es]; simp) with ⟨_, q⟩ | ⟨_, q⟩ | ⟨_, q⟩ | ⟨_, _, _, q⟩ | ⟨_, q⟩ <;> rw [hy] at q <;> cases q
  have svn : ∀ a, s a = none → sv a = none := fun a n => by
    rcases sub a with z | z
    · exact z
    · rw [z]; exact n
  have cut : Cut s H sv (cutP H C) := ⟨fun a o e n ne no => ⟨by rw [cut_out (seen a o e n ne no)]; exact e, svn a n⟩⟩
  have relv : RelS X.K sv (cutP H C) := fun a o e => by
    have es : s a = some o := by rcases sub a with z | z <;> rw [e] at z <;> first | cases z | exact z.symm
    exact (hs a o es).cut cut (fun u z => by rw [cut_out (held a o e)]; exact z) (n1 a o e)
  have noCell : ∀ a, s a = none → (∀ v, ¬ si.heap.IsCell a v) → (∃ φ, H a = some (.ext φ)) → ¬ C a := fun a n nc ⟨φ, hφ⟩ hC => by
    rcases hC with (⟨h1, h2⟩ | ⟨h1, _⟩) | ⟨y, hy, _⟩
    · obtain ⟨v, z⟩ := cellE a h1 h2
      obtain ⟨⟨u, _, hc⟩, _⟩ := I.hok a _ z
      exact nc _ hc
    · exact h1 n
    · rw [hφ] at hy; cases hy
  have fC : ¬ C f := noCell f sf (fun v ⟨o, ho, hd⟩ => by
    obtain ⟨od, sl, doc, pm, ctv, hz⟩ := fnO_at I.hok hf
    rw [hz] at ho
    cases ho
    cases hd) ⟨_, hf⟩
  have cC : ¬ C c := noCell c sc (fun v ⟨o, ho, hd⟩ => by
    obtain ⟨⟨oc, us', t, hz, h2, _⟩, _⟩ := I.hok c _ hc
    rw [hz] at ho
    cases ho
    rw [h2] at hd
    cases hd) ⟨_, hc⟩
  have kn : (cl.map (·.1)).Nodup := by rw [hk]; exact nfr
  have cellI : ∀ (i : Nat) (hi : i < cl.length), ∃ (hw : i < wv.length), (∃ u, RelV wv[i] u ∧ si.heap.IsCell cl[i].2 (some u)) ∧ cutP H C cl[i].2 = none := fun i hi => by
    have hw : i < wv.length := by rw [List.length_map] at lw; omega
    have hi' : i < ((cl.map (·.2)).zip wv).length := by rw [List.length_zip, ← lw, Nat.min_self, List.length_map]; exact hi
    have q := cw _ (List.getElem_mem hi')
    rw [List.getElem_zip] at q
    simp only [List.getElem_map] at q
    have hm : cl[i].2 ∈ cl.map (·.2) := List.mem_map_of_mem (f := (·.2)) (List.getElem_mem hi)
    refine ⟨hw, ?_, ?_⟩
    · rcases q with ⟨_, z⟩ | z
      · obtain ⟨⟨u, r1, r2⟩, _⟩ := I.hok _ _ z
        exact ⟨u, r1, r2⟩
      · obtain ⟨o, u, b1, b2, b3⟩ := hG _ _ z
        exact ⟨u, b3, o, I.bk _ _ b1, b2⟩
    · by_cases hn : H cl[i].2 = none
      · by_cases hC : C cl[i].2
        · exact cut_in hC
        · rw [cut_out hC]; exact hn
      · exact cut_in (.inl (.inl ⟨hm, hn⟩))
  have CA : CellsAt cl ck.fr (wv.map some) si.heap (cutP H C) := by
    refine ⟨?_, fun y a e => ?_, fun x y a e1 e2 => addr_nd nd (PySem.mem_of_lookup e1) (PySem.mem_of_lookup e2), fun i y e => ?_⟩
    · rw [List.length_map, ← hk, List.length_map, ← lw, List.length_map]
    · obtain ⟨i, hi, z⟩ := List.mem_iff_getElem.mp (PySem.mem_of_lookup e)
      obtain ⟨hw, ⟨u, _, h2⟩, h3⟩ := cellI i hi
      rw [z] at h2 h3
      exact ⟨h3, _, h2⟩
    · rw [← hk, List.getElem?_map] at e
      cases ei : cl[i]? with
      | none => rw [ei] at e; cases e
      | some p =>
        rw [ei] at e
        obtain ⟨hi, rfl⟩ := List.getElem?_eq_some_iff.mp ei
        obtain rfl : cl[i].1 = y := Option.some.inj e
        obtain ⟨hw, ⟨u, h1, h2⟩, h3⟩ := cellI i hi
        refine ⟨cl[i].2, lookup_nd kn (List.getElem_mem hi), fun v ev => ?_⟩
        rw [List.getElem?_map, List.getElem?_eq_getElem hw] at ev
        cases ev
        exact ⟨u, h1, h2⟩
  refine wpAny_call (codeAny_mono ((F f c cl).run X.A X.stack si (cutP H C) us vs (wv.map some) (fun v H2 => ∃ lv s2, Q0 lv s2 ∧ Step sv (cutP H C) s2 H2 ∧ RelS X.K s2 H2 ∧ RV X.K s2 H2 lv v) (fun _ _ _ => False) hr (env0_cut asd I.env0) (by rw [cut_out fC]; exact hf) (by show cutP H C c = some (CodeO c ck.qual); rw [cut_out cC]; exact hc) CA r
    ⟨xs, wv, lvs, sv, Q0, fun _ _ => False, rfl, rw_.cut cut n2, ra.cut cut n3, relv, h, fun lv s' v H' q st hs rv => ⟨lv, s', q, st, hs, rv⟩, fun _ _ _ z => z.elim⟩) fun res s' hq => ?_)
  cases res with
  | error e =>
    obtain ⟨_, _, _, _, _, _, _, _, _, _, _, _, z⟩ := hq
    exact z.elim
  | ok fl =>
    cases fl with
    | ret u =>
      refine I.after (ce_add asd I.env0 hq fun v H2 ⟨lv, s2, q, st, hs2, rv⟩ nH => ?_)
      have sA : Step s2 H2 (mergeS s sv s2) (addP H2 H C) := fun a o e n => by
        have hC : ¬ C a := fun z => by rw [nH a z] at e; cases e
        refine ⟨⟨o, by rw [add_out hC]; exact e, .refl o⟩, ?_⟩
        unfold mergeS
        split
        · next hv =>
          cases es : s a with
          | none => exact n
          | some o' => exact absurd (.inl (.inr ⟨by rw [es]; simp, hv⟩)) hC
        · exact n
      have sB : Step s H (mergeS s sv s2) (addP H2 H C) := fun a o e n => by
        have m : mergeS s sv s2 a = s2 a := by unfold mergeS; rw [if_pos (svn a n), n]
        rw [m]
        by_cases hC : C a
        · exact ⟨⟨o, by rw [add_in hC]; exact e, .refl o⟩, hs2.free (nH a hC)⟩
        · rw [add_out hC]
          exact st a o (by rw [cut_out hC]; exact e) (svn a n)
      refine kq lv s2 v _ q (fun a h1 h2 => hs2.free (nH a (.inl (.inr ⟨h2, h1⟩)))) sB (fun a o e => ?_) (rv.mono sA)
      unfold mergeS at e
      have viaA : s2 a = some o → ObjR X.K (mergeS s sv s2) (addP H2 H C) a o := fun e => (hs2 a o e).mono sA fun u z => by rw [add_out fun hC => by rw [nH a hC] at z; cases z]; exact z
      split at e
      · next hv =>
        cases es : s a with
        | none => rw [es] at e; exact viaA e
        | some o' =>
          rw [es] at e
          cases e
          exact (hs a o es).mono sB fun u z => by rw [add_in (.inl (.inr ⟨by rw [es]; simp, hv⟩))]; exact z
      · exact viaA e
    | next => exact False.elim hq
    | brk => exact False.elim hq
    | cont => exact False.elim hq
end
/-- x(..), x a name that holds such a function: it sees the part sv of the store -/
def lClo (ck : Ck) (sp : List LV → LSp) (i : Nat) (t : LTA) : LTE := fun σ s Q E => match σ[i]? with
  | some (some (.clo k xs)) => k = ck ∧ ncls xs = true ∧ t σ s (fun vs s1 => ncls vs = true ∧ ∃ sv, Sub sv s1 ∧ (∀ a o, sv a = some o → nclO o = true) ∧
      sp xs vs sv (fun v s2 => (∀ a, sv a = none → s1 a ≠ none → s2 a = none) → Q v (mergeS s1 sv s2)) fun _ _ => False) E
  | _ => False
theorem le_clo {X : Cx} [GG X.K] {ck : Ck} {ps : List Str} {sp : List LV → LSp} {i k : Nat} {x : Str} {e : Expr} {es : List Expr} {p pos : Pos} {t : LTA} (F : CloOk X.prog X.w X.K X.mg X.base k ck ps sp) (hr : Room k X.A) (hG : GIn X.K X.base) (nfr : ck.fr.Nodup)
    (hN : X.N[i]? = some x) (hv : Vis X.env.scope x) (ha : LA X (e :: es) t) (hd : (x == ("__debug__" : Str)) = false := by decide) (hcd : (x == ("__classdict__" : Str)) = false := by decide)
    (he : starEach (e :: es) X.env = (false, eval e X.env) :: starEach es X.env := by rfl) (hpl : (backTo pos (starEach es X.env)).any (·.1) = false := by rfl) : LE X (.Call (.Name x p) (e :: es) [] pos) (lClo ck sp i t) := fun s0 H0 E tk => by
  refine ⟨fun pins si σ H Q I h => ?_⟩
  obtain ⟨σl, s, Q0, E1, hσ, hs, st, hE, h, kq⟩ := h
  unfold lClo at h
  split at h
  case h_2 => exact h.elim
  case h_1 k xs ei =>
    obtain ⟨rfl, n2, h⟩ := h
    obtain ⟨v, ev, rv⟩ := hσ.get ei
    have rv' := rv
    simp only [RV] at rv'
    obtain ⟨f, c, cl, rfl, sf, hf, _⟩ := rv'
    refine wpAny_Call_Name_kw (thn ((pe_var (pos := p) hN hv hd hcd).run pins si σ H (fun v H1 => v = .ref f ∧ H1 = H) I ⟨.ref f, ev, rfl, rfl⟩) fun u s1 ⟨v, H1, I1, r1, q1⟩ => ?_)
    obtain ⟨rfl, rfl⟩ := q1
    obtain rfl : u = Value.ref f := r1
    have at_ : ∀ s' H', Step s H1 s' H' → H' f = some (FnO f (k.nf cl c)) := fun s' H' st' => by
      obtain ⟨⟨o', h', e'⟩, _⟩ := st' f _ hf sf
      rw [e'.ext] at h'
      exact h'
    refine PySem.W.callWith_F (first := []) (fnAt_of I1 hf) (thn ((ha s0 H0 E tk).run pos pins s1 σ H1 (fun vs H' => ∃ lvs s', (ncls lvs = true ∧ ∃ sv, Sub sv s' ∧ (∀ a o, sv a = some o → nclO o = true) ∧
      sp xs lvs sv (fun v s2 => (∀ a, sv a = none → s' a ≠ none → s2 a = none) → Q0 v (mergeS s' sv s2)) fun _ _ => False) ∧ Step s H1 s' H' ∧ RelS X.K s' H' ∧ RVs X.K s' H' lvs vs) I1 ⟨σl, s, _, E1, hσ, hs, st, hE, h, fun lvs s' vs H' q st' hs' r => ⟨lvs, s', q, st', hs', r⟩⟩) fun us s2 ⟨vs, H2, I2, r, q⟩ => ?_) he hpl
    obtain ⟨lvs, s', ⟨n3, sv, sub, n1, hsp⟩, st', hs', ra⟩ := q
    refine ⟨fnAt_of I2 (at_ s' H2 st'), show wpAny _ _ (call (.ref f) us) _ _ _ from ?_⟩
    exact run_clo (xs := xs) (lvs := lvs) (s := s') (sv := sv) F hr hG nfr I2 hs' (rv.mono st') ra r sub n1 n2 n3 hsp fun lv s2 v H3 q fr stB hsB rvB => kq lv _ v H3 (q fr) (st'.trans stB) hsB rvB
end L3

namespace L3
open PySem PySem.Spec L2 LamX NdefX
@[reducible] def noGG (K : PySem.W.Frag) : GG K := ⟨fun _ => none⟩
theorem noGG_in {K : PySem.W.Frag} {base : Heap} : @GIn K (noGG K) base := fun _ _ h => by cases h
/-- the makers: code object, table, the made function's qualified name -/
theorem walk_tabs {l : PySem.W.OpenLaw} {q : Program} {loose : List Str} {XP : (Str → Option Value) → Heap → Prop} {YP : World → Heap → Prop} {d : DefRec} {K : Params → PySem.W.Frag} {k : Nat} {x : Str} (hn : l.most = some 63) (hdf : d.params.defaults = []) (hr : Room k callerA)
    (hY : ∀ (w : World) (h : Heap), YP w h → (K w.params).In h)
    (F : ∀ (w : World) (mg : Str → Option Value) (fa : Addr) (h : Heap), YP w h → (K w.params).In h → h.Ns mainGlobals mg → mg d.name = some (.ref fa) →
      ∃ (fd : FuncData) (ts : List (Addr × Addr × Str)), (ts.map (·.2.1)).Nodup ∧ (∀ p ∈ ts, h.get? p.2.1 = some { cls := .none, data := .fields #[] } ∧ (K w.params).lookup p.2.1 = none ∧ PySem.W.codeHdIn (K w.params) p.1 p.2.1 = true) ∧
        (∀ (s : Shared) (u : Value), BindsTo s fd ⟨[u], []⟩ [(x, u)]) ∧
        ∀ base : Heap, (K w.params).In base → base.Ns mainGlobals mg → (∀ p ∈ ts, TabB base mg p.1 p.2.1) → @LFn l.prog w (K w.params) (noGG _) mg base k fa fd [x] (spLaw (ts.map (·.2)))) :
    PySem.W.WalkO q loose XP YP l.row.toRowW d [] (fun f vs => PySem.call f vs) := by
  refine walk_ofTs (n := 63) (k := k) (x := x) (CX := fun w => L2.CX l.prog w) hn (by decide) hdf hr hY (fun w mg fa h Y KX G hmg => ?_) fun _ => law_ends
  obtain ⟨fd, ts, nd, hT, hb, hF⟩ := F w mg fa h Y KX G hmg
  letI := noGG (K w.params)
  have up : ∀ {Pr : Addr × Addr → Prop}, (∀ p ∈ ts, Pr (p.1, p.2.1)) → ∀ p ∈ ts.map (fun p => (p.1, p.2.1)), Pr p := fun h p hp => by
    obtain ⟨q, hq, rfl⟩ := List.mem_map.mp hp
    exact h q hq
  refine ⟨fd, ts.map fun p => (p.1, p.2.1), dn (K w.params) (spLaw (ts.map (·.2))), up fun p hp => (hT p hp).1, up fun p hp => (hT p hp).2.1, up fun p hp => PySem.W.codeHd_of_K KX (hT p hp).2.2, hb, fun H a ns hl _ hH hS => ?_, fun base KB GB TB => hF base KB GB fun p hp => TB (p.1, p.2.1) (List.mem_map_of_mem (f := fun p => (p.1, p.2.1)) hp)⟩
  refine law_starts (ts.map (·.2)) (by rw [List.map_map]; exact nd) H a ns hl (fun p hp => ?_) hS
  obtain ⟨q, hq, rfl⟩ := List.mem_map.mp hp
  exact hH (q.1, q.2.1) (List.mem_map_of_mem (f := fun p => (p.1, p.2.1)) hq)
end L3

namespace L3
open PySem PySem.Spec L2 LamX NdefX
def FrzS (σ : LSt) (s : LS) (σ' : LSt) (s' : LS) : Prop := ∀ (K : PySem.W.Frag) [GG K] H vs, RelS K s H → RSt K s H σ vs → RSt K s' H σ' vs ∧ RelS K s' H ∧ Step s H s' H
def lFrzS (t : LTS) : LTS := fun D σ s => ∃ σ' s', FrzS σ s σ' s' ∧ t D σ' s'
theorem lp_frzS {X : Cx} [GG X.K] {st : Stmt} {t : LTS} (h : LP X st t) : LP X st (lFrzS t) := fun s0 H0 E tk hp => (h s0 H0 E tk hp).imp fun D σ H ⟨σl, s, Dl, hσ, hs, st, ⟨σ', s', fz, h⟩, d⟩ => by
  obtain ⟨a, b, c⟩ := fz X.K H σ hs hσ
  exact ⟨σ', s', Dl, a, b, st.trans c, h, d.mono c⟩
theorem FrzS.refl (σ : LSt) (s : LS) : FrzS σ s σ s := fun K _ H vs hs r => ⟨r, hs, .refl s H⟩
/-- the slot i is frozen -/
theorem FrzS.at_ {σ : LSt} {s s' : LS} {i : Nat} {x y : LV} (e : σ[i]? = some (some x)) (f : Frz x s y s') : FrzS σ s (σ.set i (some y)) s' := fun K _ H vs hs r => by
  obtain ⟨v, ev, rv⟩ := r.get e
  obtain ⟨a, b, c⟩ := f K H v hs rv
  refine ⟨?_, b, c⟩
  have z := (r.mono c).set i a
  obtain ⟨hi, ev⟩ := List.getElem?_eq_some_iff.mp ev
  rw [← ev, List.set_getElem_self] at z
  exact z
theorem merge_put {s1 sv s2 : LS} {l : Addr} {o : LO} (h : sv l ≠ none ∨ s1 l = none) : mergeS s1 sv (put s2 l o) = put (mergeS s1 sv s2) l o := by
  funext a
  unfold mergeS put
  by_cases e : a = l
  · subst e
    rcases h with h | h
    · simp [h]
    · simp [h]
  · simp [e]
theorem merge_self {s1 sv : LS} (h : Sub sv s1) : mergeS s1 sv sv = s1 := by
  funext a
  unfold mergeS
  rcases h a with z | z
  · rw [if_pos z, z]
    cases s1 a <;> rfl
  · by_cases n : sv a = none
    · rw [if_pos n, n]
      cases s1 a <;> rfl
    · rw [if_neg n, z]
theorem put_none {s : LS} {x p : Addr} {o : LO} (h : put s x o p = none) : p ≠ x ∧ s p = none := by
  unfold put at h
  split at h
  · cases h
  · next n => exact ⟨n, h⟩
/-- nothing of the store is seen -/
def noS : LS := fun _ => none
theorem noS_sub {s : LS} : Sub noS s := fun _ => .inl rfl
theorem noS_cl : ∀ a o, noS a = some o → nclO o = true := fun _ _ h => by cases h
/-- one object alone is seen -/
def onlyS (s : LS) (l : Addr) : LS := fun a => if a = l then s a else none
theorem onlyS_sub {s : LS} {l : Addr} : Sub (onlyS s l) s := fun a => by
  unfold onlyS
  split
  · exact .inr rfl
  · exact .inl rfl
theorem onlyS_at {s : LS} {l : Addr} : onlyS s l l = s l := by unfold onlyS; rw [if_pos rfl]
theorem onlyS_cl {s : LS} {l : Addr} {o : LO} (e : s l = some o) (h : nclO o = true) : ∀ a o, onlyS s l a = some o → nclO o = true := fun a u q => by
  unfold onlyS at q
  split at q
  · next z => subst z; rw [e] at q; cases q; exact h
  · cases q
theorem ncls_append : ∀ (xs ys : List LV), ncls (xs ++ ys) = (ncls xs && ncls ys)
  | [], ys => by simp [ncls]
  | x :: xs, ys => by simp [ncls, ncls_append xs ys, Bool.and_assoc]
theorem ncls_map {α : Type} {f : α → LV} (h : ∀ a, ncl (f a) = true) : ∀ xs : List α, ncls (xs.map f) = true
  | [] => by simp [ncls]
  | x :: xs => by simp [ncls, h, ncls_map h xs]
structure T3 (α β γ : Type) where
  a : α
  b : β
  c : γ
deriving DecidableEq
structure T4 (α β γ δ : Type) where
  a : α
  b : β
  c : γ
  d : δ
deriving DecidableEq
section
variable {α β γ δ : Type} [Cod α] [Cod β] [Cod γ] [Cod δ]
instance : Cod (T3 α β γ) := ⟨fun p => .tup [Cod.enc p.a, Cod.enc p.b, Cod.enc p.c], fun p => .tuple [Cod.den p.a, Cod.den p.b, Cod.den p.c], fun p => by simp [Cod.datV], fun p => by simp [PyData.canLay0, PyData.canLayAll0, Cod.can], max (Cod.dep α) (max (Cod.dep β) (Cod.dep γ)) + 1, fun p => by
  simp only [PyData.depth, PyData.depthAll]
  have := Cod.hdep p.a
  have := Cod.hdep p.b
  have := Cod.hdep p.c
  omega, fun p q => by
  cases p; cases q
  simp only [PyData.eqv, PyData.eqvAll, Bool.and_true, Bool.and_eq_true, Cod.eqv, T3.mk.injEq]⟩
instance : Cod (T4 α β γ δ) := ⟨fun p => .tup [Cod.enc p.a, Cod.enc p.b, Cod.enc p.c, Cod.enc p.d], fun p => .tuple [Cod.den p.a, Cod.den p.b, Cod.den p.c, Cod.den p.d], fun p => by simp [Cod.datV], fun p => by simp [PyData.canLay0, PyData.canLayAll0, Cod.can], max (max (Cod.dep α) (Cod.dep β)) (max (Cod.dep γ) (Cod.dep δ)) + 1, fun p => by
  simp only [PyData.depth, PyData.depthAll]
  have := Cod.hdep p.a
  have := Cod.hdep p.b
  have := Cod.hdep p.c
  have := Cod.hdep p.d
  omega, fun p q => by
  cases p; cases q
  simp only [PyData.eqv, PyData.eqvAll, Bool.and_true, Bool.and_eq_true, Cod.eqv, T4.mk.injEq]⟩
theorem isd_enc (s : LS) (a : α) : Isd s (Cod.den a) (Cod.enc a) := isd_of_dat (Cod.datV a)
theorem isd_lst {s : LS} {r : Addr} {xs : List α} (h : s r = some (.lst (xs.map Cod.enc))) : Isd s (Cod.den xs) (.ref r) := by
  show Isd s (.list (xs.map Cod.den)) (.ref r)
  simp only [Isd]
  exact .inr ⟨r, _, rfl, h, isds_of_dat (datVs_enc xs)⟩
theorem isd_t3 {s : LS} {x y z : LV} {a : α} {b : β} {c : γ} (h1 : Isd s (Cod.den a) x) (h2 : Isd s (Cod.den b) y) (h3 : Isd s (Cod.den c) z) : Isd s (Cod.den (T3.mk a b c)) (.tup [x, y, z]) := by
  show Isd s (.tuple [Cod.den a, Cod.den b, Cod.den c]) (.tup [x, y, z])
  simp only [Isd, Isds]
  exact ⟨_, rfl, x, _, rfl, h1, y, _, rfl, h2, z, _, rfl, h3, rfl⟩
theorem isd_t4 {s : LS} {x y z u : LV} {a : α} {b : β} {c : γ} {d : δ} (h1 : Isd s (Cod.den a) x) (h2 : Isd s (Cod.den b) y) (h3 : Isd s (Cod.den c) z) (h4 : Isd s (Cod.den d) u) : Isd s (Cod.den (T4.mk a b c d)) (.tup [x, y, z, u]) := by
  show Isd s (.tuple [Cod.den a, Cod.den b, Cod.den c, Cod.den d]) (.tup [x, y, z, u])
  simp only [Isd, Isds]
  exact ⟨_, rfl, x, _, rfl, h1, y, _, rfl, h2, z, _, rfl, h3, u, _, rfl, h4, rfl⟩
theorem eqL_cod [DecidableEq α] {s : LS} {x y : LV} {a b : α} {Q : LVK} (hd : Cod.dep α ≤ 64) (hx : Isd s (Cod.den a) x) (hy : Isd s (Cod.den b) y) (q : Q (.bl (decide (a = b))) s) : rEqL x y s Q :=
  ⟨_, _, hx, hy, shaped_cod hd a, shaped_cod hd b, by rw [eqv_cod]; exact q⟩
theorem neL_cod [DecidableEq α] {s : LS} {x y : LV} {a b : α} {Q : LVK} (hd : Cod.dep α ≤ 64) (hx : Isd s (Cod.den a) x) (hy : Isd s (Cod.den b) y) (q : Q (.bl (!decide (a = b))) s) : rNeL x y s Q :=
  ⟨_, _, hx, hy, shaped_cod hd a, shaped_cod hd b, by rw [eqv_cod]; exact q⟩
end
end L3


namespace Law
open PySem PySem.Spec L2 L3
def topS (i : Nat) : Stmt := PySem.Challenge.pw_backline_k72_programs_of_numbers.main.body.getD i (.Pass ⟨0, 0, 0, 0⟩)
def inDef (st : Stmt) (j : Nat) : Stmt := (defBody st).getD j (.Pass ⟨0, 0, 0, 0⟩)
abbrev s_program_of : Stmt := topS 1
abbrev s_law_mixed : Stmt := topS 4
abbrev s_law_number : Stmt := topS 5
abbrev s_law_far : Stmt := topS 6
abbrev s_law_due : Stmt := topS 7
abbrev s_law_right : Stmt := topS 8
abbrev s_law : Stmt := topS 9
abbrev s_program_of_does : Stmt := inDef s_program_of 0
abbrev ck_program_of_does : Ck := ⟨s_program_of_does, "does", "program_of.<locals>.does", ["many", "m", "c", "b", "a"]⟩
theorem sc_program_of_does : CScope ["hand", "state", "word", "many", "m", "c", "b", "a", "heard", "number", "letters", "k", "words"] ["hand", "state", "word"] ck_program_of_does.fr (C8.fnScope ck_program_of_does.st) := cscope_by (by decide +kernel)
theorem fr_program_of_does : ∀ y ∈ (C8.fnScope ck_program_of_does.st).names, y.2 = .free → (defScope s_program_of).names.lookup y.1 = some .cell ∨ (defScope s_program_of).names.lookup y.1 = some .free := by decide +kernel
theorem sc_program_of : FnScope ["a", "b", "c", "m", "many", "does"] ["a", "b", "c", "m", "many"] (defScope s_program_of) := ⟨rfl, rfl, rfl, by decide +kernel, rfl, by decide +kernel, by decide +kernel⟩
theorem sc_law_mixed : FnScope ["_law_cell", "_law_k", "_law_number_here"] ["_law_cell", "_law_k"] (defScope s_law_mixed) := ⟨rfl, rfl, rfl, by decide +kernel, rfl, by decide +kernel, by decide +kernel⟩
theorem sc_law_number : FnScope ["_law_cell", "_law_k", "_law_number_here"] ["_law_cell", "_law_k"] (defScope s_law_number) := ⟨rfl, rfl, rfl, by decide +kernel, rfl, by decide +kernel, by decide +kernel⟩
theorem sc_law_far : FnScope ["_law_cell", "_law_k", "_law_number_here"] ["_law_cell", "_law_k"] (defScope s_law_far) := ⟨rfl, rfl, rfl, by decide +kernel, rfl, by decide +kernel, by decide +kernel⟩
theorem sc_law_due : FnScope ["_law_numbers", "_law_many", "_law_hand", "_law_state", "_law_word", "_law_heard", "_law_new", "_law_letters", "_law_k"] ["_law_numbers", "_law_many", "_law_hand", "_law_state", "_law_word"] (defScope s_law_due) := ⟨rfl, rfl, rfl, by decide +kernel, rfl, by decide +kernel, by decide +kernel⟩
theorem sc_law_right : FnScope ["_law_found", "_law_due_here"] ["_law_found", "_law_due_here"] (defScope s_law_right) := ⟨rfl, rfl, rfl, by decide +kernel, rfl, by decide +kernel, by decide +kernel⟩
theorem sc_law : FnScope ["_law_script", "_law_made", "_law_cell", "_law_numbers", "_law_k", "_law_many", "_law_hand", "_law_word", "_law_asked", "_law_turn", "_law_does", "_law_found", "_law_due_here"] ["_law_script"] (defScope s_law) := ⟨rfl, rfl, rfl, by decide +kernel, rfl, by decide +kernel, by decide +kernel⟩
structure Ad where
  f_program_of : Addr
  f_law_mixed : Addr
  f_law_number : Addr
  f_law_far : Addr
  f_law_due : Addr
  f_law_right : Addr
  f_law : Addr
  t_program_of : Addr
  p_program_of : Addr
structure Fd where
  d_program_of : FuncData
  d_law_mixed : FuncData
  d_law_number : FuncData
  d_law_far : FuncData
  d_law_due : FuncData
  d_law_right : FuncData
  d_law : FuncData
abbrev spTop (A : Ad) : LSp := spLaw [(A.p_program_of, "program_of.<locals>.does")]
structure Txt (K : PySem.W.Frag) (mg : Str → Option Value) (A : Ad) (D : Fd) : Prop where
  F_program_of : Fun K "program_of" "program_of" s_program_of A.f_program_of D.d_program_of
  q_program_of : Binds K D.d_program_of ["a", "b", "c", "m", "many"] []
  G_program_of : FunC K "program_of" "program_of" s_program_of A.f_program_of D.d_program_of A.t_program_of
  m_program_of : mg "program_of" = some (.ref A.f_program_of)
  k_program_of : PySem.W.keepIn K (.ref A.f_program_of) = true
  F_law_mixed : Fun K "_law_mixed" "_law_mixed" s_law_mixed A.f_law_mixed D.d_law_mixed
  q_law_mixed : Binds K D.d_law_mixed ["_law_cell", "_law_k"] []
  m_law_mixed : mg "_law_mixed" = some (.ref A.f_law_mixed)
  k_law_mixed : PySem.W.keepIn K (.ref A.f_law_mixed) = true
  F_law_number : Fun K "_law_number" "_law_number" s_law_number A.f_law_number D.d_law_number
  q_law_number : Binds K D.d_law_number ["_law_cell", "_law_k"] []
  m_law_number : mg "_law_number" = some (.ref A.f_law_number)
  k_law_number : PySem.W.keepIn K (.ref A.f_law_number) = true
  F_law_far : Fun K "_law_far" "_law_far" s_law_far A.f_law_far D.d_law_far
  q_law_far : Binds K D.d_law_far ["_law_cell", "_law_k"] []
  m_law_far : mg "_law_far" = some (.ref A.f_law_far)
  k_law_far : PySem.W.keepIn K (.ref A.f_law_far) = true
  F_law_due : Fun K "_law_due" "_law_due" s_law_due A.f_law_due D.d_law_due
  q_law_due : Binds K D.d_law_due ["_law_numbers", "_law_many", "_law_hand", "_law_state", "_law_word"] []
  m_law_due : mg "_law_due" = some (.ref A.f_law_due)
  k_law_due : PySem.W.keepIn K (.ref A.f_law_due) = true
  F_law_right : Fun K "_law_right" "_law_right" s_law_right A.f_law_right D.d_law_right
  q_law_right : Binds K D.d_law_right ["_law_found", "_law_due_here"] []
  m_law_right : mg "_law_right" = some (.ref A.f_law_right)
  k_law_right : PySem.W.keepIn K (.ref A.f_law_right) = true
  F_law : Fun K "law" "law" s_law A.f_law D.d_law
  q_law : Binds K D.d_law ["_law_script"] []
  m_law : mg "law" = some (.ref A.f_law)
  k_law : PySem.W.keepIn K (.ref A.f_law) = true
  b_bool : mg "bool" = none
  b_isinstance : mg "isinstance" = none
  b_len : mg "len" = none
  b_list : mg "list" = none
  b_max : mg "max" = none
  b_range : mg "range" = none
  b_tuple : mg "tuple" = none
  kt_tuple_tuple : PySem.W.kitOne K (.type "tuple") (.type "tuple") = some true
  kt_int_bool : PySem.W.kitOne K (.type "int") (.type "bool") = some false
  kt_list_list : PySem.W.kitOne K (.type "list") (.type "list") = some true
structure Bs (K : PySem.W.Frag) [GG K] (mg : Str → Option Value) (base : Heap) (A : Ad) : Prop where
  hG : GIn K base
  tb_program_of : LamX.TabB base mg A.t_program_of A.p_program_of
section
variable {P : Program} {w : World} {K : PySem.W.Frag} [GG K] {mg : Str → Option Value} {base : Heap} {A : Ad} {D : Fd}
def wordL : Option Int → LV
  | none => .non
  | some i => .int i
structure Pr where
  a : Int
  b : Int
  c : Int
  m : Int
  many : Int
structure Pr.Ok (p : Pr) : Prop where
  a0 : 0 ≤ p.a
  a1 : p.a ≤ 1000000000
  b0 : 0 ≤ p.b
  b1 : p.b ≤ 1000000000
  m0 : 1 ≤ p.m
  m1 : p.m ≤ 1000000000
  n0 : 2 ≤ p.many
  n1 : p.many ≤ 5
def Pr.num (p : Pr) (hand state : Int) (word : Option Int) : Int := (p.a * state + p.b * word.getD 0 + p.c + hand) % p.m
def lettersOf (n many : Int) : List (Int × Int) := (List.range (n % 3).toNat).map fun k => ((n / 3 + (k : Nat)) % many, n + (k : Nat))
def wordsOf (n : Int) : List Int := if n % 4 = 0 then [n] else []
def doesXs (p : Pr) : List LV := [.int p.many, .int p.m, .int p.c, .int p.b, .int p.a]
def spDoes : List LV → LSp := fun xs vs s Q E => ∃ (p : Pr) (hand state : Int) (word : Option Int), xs = doesXs p ∧ vs = [.int hand, .int state, wordL word] ∧ p.Ok ∧
  ∀ l r, s l = none → s r = none → l ≠ r → Q (.tup [.int (p.num hand state word), .ref l, .ref r]) (put (put s l (.lst ((lettersOf (p.num hand state word) p.many).map pairL))) r (.lst ((wordsOf (p.num hand state word)).map .int)))
theorem ok_program_of_does (T : Txt K mg A D) (B : Bs K mg base A) : CloOk P w K mg base 1 ck_program_of_does ["hand", "state", "word"] spDoes := by
  refine cloOk_of sc_program_of_does (fun _ _ _ _ _ us hl => match us, hl with | [_, _, _], _ => rfl) (fun xs vs s Q E ⟨_, _, _, _, _, h, _⟩ => by rw [h]; rfl) (fun f c cl A' outer si H E hr => ⟨_, (lps_cons (lp_set (i := 8) sc_program_of_does.nd rfl (by first | exact Or.inl rfl | exact Or.inr rfl) le_int)
    (lps_cons (lp_if (lt_notN (lv 2) le_non) (lps_one (lp_set (i := 8) sc_program_of_does.nd rfl (by first | exact Or.inl rfl | exact Or.inr rfl) (lv 2))) lps_nil)
    (lps_cons (lp_cut (lp_set (i := 9) sc_program_of_does.nd rfl (by first | exact Or.inl rfl | exact Or.inr rfl) (le_mod (le_add (le_add (le_add (le_mul (lv 7) (lv 1)) (le_mul (lv 6) (lv 8))) (lv 5)) (lv 0)) (lv 4))))
    (lps_cons (lp_setLcN (i := 10) rfl sc_program_of_does.nd rfl rfl (own := [("k", 11)]) (g := CTg.one 11) (li_range1 rfl T.b_range (la_cons (le_mod (lv 9) le_int) la_nil)) (blkOk_by (N := ["hand", "state", "word", "many", "m", "c", "b", "a", "heard", "number", "letters", "k", "words"]) (sc := C8.fnScope s_program_of_does) (by decide +kernel)) (by decide) (fun _ _ _ _ _ => pg_name (i := 11) sc_program_of_does.nd rfl (Or.inl rfl)) (fun _ _ _ _ _ => lts_nil) (fun _ _ _ _ _ => (le_tup (la_cons (le_mod (le_add (le_div (lv 9) le_int) (lv 11)) (lv 3)) (la_cons (le_add (lv 9) (lv 11)) la_nil)))) (sw_true rfl rfl rfl (by decide)))
    (lps_cons (lp_set (i := 12) sc_program_of_does.nd rfl (by first | exact Or.inl rfl | exact Or.inr rfl) (le_new (ll_disp la_nil)))
    (lps_cons (lp_if (lt_eq (le_mod (lv 9) le_int) le_int) (lps_one (lp_expr (le_append (lv 12) (la_cons (lv 9) la_nil)))) lps_nil)
    (lps_one (lp_ret (le_tup (la_cons (lv 9) (la_cons (lv 10) (la_cons (lv 12) la_nil)))))))))))), fun xs vs s Q E h => ?_⟩)
  obtain ⟨p, hand, state, word, rfl, rfl, hp, h⟩ := h
  have h1 := hp.a0
  have h2 := hp.a1
  have h3 := hp.b0
  have h4 := hp.b1
  have h5 := hp.m0
  have h6 := hp.n0
  have h7 := hp.n1
  have h8 := hp.m1
  have hn0 : ∀ z : Int, 0 ≤ z % p.m ∧ z % p.m < 1000000000 := fun z => ⟨Int.emod_nonneg _ (by omega), by have := Int.emod_lt_of_pos z (show 0 < p.m by omega); omega⟩
  have hn : 0 ≤ p.num hand state word ∧ p.num hand state word < 1000000000 := hn0 _
  obtain ⟨n, en⟩ : ∃ n, p.num hand state word = n := ⟨_, rfl⟩
  rw [en] at hn h
  rcases word with _ | wd
  all_goals
    ((conv => whnf); repeat ((first | with_reducible refine ifTT ?_ | with_reducible refine ifFF ?_ | with_reducible refine ifnT ?_ | with_reducible refine ifnF ?_ | with_reducible refine ifTr ?_ | with_reducible refine ifFr ?_ | refine And.intro (by first | with_reducible rfl | with_reducible exact ⟨rfl, rfl⟩ | decide | omega | (dsimp only; decide) | (dsimp only; omega) | (unfold CDiv; omega) | (unfold CPow; decide) | (unfold CMul; omega) | (simp only [List.length_cons, List.length_nil]; omega)) ?_); conv => whnf))
    refine ⟨fun σ' s' => ∃ v2 v8 v10 v11 v12, σ' = [some (.int hand), some (.int state), v2, some (.int p.many), some (.int p.m), some (.int p.c), some (.int p.b), some (.int p.a), v8, some (.int n), v10, v11, v12] ∧ s' = s, ?_, ?_⟩
    · ((conv => whnf); repeat ((first | with_reducible refine ifTT ?_ | with_reducible refine ifFF ?_ | with_reducible refine ifnT ?_ | with_reducible refine ifnF ?_ | with_reducible refine ifTr ?_ | with_reducible refine ifFr ?_ | refine And.intro (by first | with_reducible rfl | with_reducible exact ⟨rfl, rfl⟩ | decide | omega | (dsimp only; decide) | (dsimp only; omega) | (unfold CDiv; omega) | (unfold CPow; decide) | (unfold CMul; omega) | (simp only [List.length_cons, List.length_nil]; omega)) ?_); conv => whnf))
      exact ⟨_, _, _, _, _, by rw [← en]; rfl, rfl⟩
    rintro σ' s' ⟨v2, v8, v10, v11, v12, rfl, rfl⟩
    ((conv => whnf); repeat ((first | with_reducible refine ifTT ?_ | with_reducible refine ifFF ?_ | with_reducible refine ifnT ?_ | with_reducible refine ifnF ?_ | with_reducible refine ifTr ?_ | with_reducible refine ifFr ?_ | refine And.intro (by first | with_reducible rfl | with_reducible exact ⟨rfl, rfl⟩ | decide | omega | (dsimp only; decide) | (dsimp only; omega) | (unfold CDiv; omega) | (unfold CPow; decide) | (unfold CMul; omega) | (simp only [List.length_cons, List.length_nil]; omega)) ?_); conv => whnf))
    refine fun Da hD => lc_map1 (α := Nat) (enc := fun i => LV.int (0 + (i : Nat))) hD (fun j => pairL ((n / 3 + (j : Nat)) % p.many, n + (j : Nat))) (fun _ _ => trivial) (by rw [List.length_range]; omega) ?_ ?_
    · intro x _ s' Y _ hY
      ((conv => whnf); repeat ((first | with_reducible refine ifTT ?_ | with_reducible refine ifFF ?_ | with_reducible refine ifnT ?_ | with_reducible refine ifnF ?_ | with_reducible refine ifTr ?_ | with_reducible refine ifFr ?_ | refine And.intro (by first | with_reducible rfl | with_reducible exact ⟨rfl, rfl⟩ | decide | omega | (dsimp only; decide) | (dsimp only; omega) | (unfold CDiv; omega) | (unfold CPow; decide) | (unfold CMul; omega) | (simp only [List.length_cons, List.length_nil]; omega)) ?_); conv => whnf))
      simpa [pairL] using hY
    · ((conv => whnf); repeat ((first | with_reducible refine ifTT ?_ | with_reducible refine ifFF ?_ | with_reducible refine ifnT ?_ | with_reducible refine ifnF ?_ | with_reducible refine ifTr ?_ | with_reducible refine ifFr ?_ | refine And.intro (by first | with_reducible rfl | with_reducible exact ⟨rfl, rfl⟩ | decide | omega | (dsimp only; decide) | (dsimp only; omega) | (unfold CDiv; omega) | (unfold CPow; decide) | (unfold CMul; omega) | (simp only [List.length_cons, List.length_nil]; omega)) ?_); conv => whnf))
      intro l hl
      ((conv => whnf); repeat ((first | with_reducible refine ifTT ?_ | with_reducible refine ifFF ?_ | with_reducible refine ifnT ?_ | with_reducible refine ifnF ?_ | with_reducible refine ifTr ?_ | with_reducible refine ifFr ?_ | refine And.intro (by first | with_reducible rfl | with_reducible exact ⟨rfl, rfl⟩ | decide | omega | (dsimp only; decide) | (dsimp only; omega) | (unfold CDiv; omega) | (unfold CPow; decide) | (unfold CMul; omega) | (simp only [List.length_cons, List.length_nil]; omega)) ?_); conv => whnf))
      intro r hr
      obtain ⟨nrl, hr⟩ := put_none hr
      have e1 : List.map (fun j : Nat => pairL ((n / 3 + (j : Nat)) % p.many, n + (j : Nat))) (List.range (n % 3 - 0).toNat) = (lettersOf n p.many).map pairL := by
        unfold lettersOf
        rw [List.map_map, Int.sub_zero]
        rfl
      rw [e1]
      ((conv => whnf); repeat ((first | with_reducible refine ifTT ?_ | with_reducible refine ifFF ?_ | with_reducible refine ifnT ?_ | with_reducible refine ifnF ?_ | with_reducible refine ifTr ?_ | with_reducible refine ifFr ?_ | refine And.intro (by first | with_reducible rfl | with_reducible exact ⟨rfl, rfl⟩ | decide | omega | (dsimp only; decide) | (dsimp only; omega) | (unfold CDiv; omega) | (unfold CPow; decide) | (unfold CMul; omega) | (simp only [List.length_cons, List.length_nil]; omega)) ?_); conv => whnf))
      refine ifD (fun hw => ?_) (fun hw => ?_)
      · ((conv => whnf); repeat ((first | with_reducible refine ifTT ?_ | with_reducible refine ifFF ?_ | with_reducible refine ifnT ?_ | with_reducible refine ifnF ?_ | with_reducible refine ifTr ?_ | with_reducible refine ifFr ?_ | (refine And.intro (by first | with_reducible rfl | with_reducible exact ⟨rfl, rfl⟩ | decide | omega | (dsimp only; decide) | (dsimp only; omega) | (unfold CDiv; omega) | (unfold CPow; decide) | (unfold CMul; omega) | (simp only [List.length_cons, List.length_nil]; omega) | (simp only [Option.isSome_some]; done) | (simp only [meth_ref, put_same', seqL_ref, put_same]; first | done | exact ⟨rfl, rfl⟩ | exact ⟨trivial, rfl⟩ | rfl)) ?_) | (simp (decide := true) only [put_same', put_put, decF, decT, Bool.not_true, Bool.not_false, putL_nil, putL_cons, if_true, if_false, seqR_ref, seqL_ref, lenL_ref, dicK_ref, dicT_ref, dat_ref, dat_non, dat_bl, dat_int, dat_str, dat_lst, dat_tup, datV_non, datV_bl, datV_int, datV_str, datV_lst, datV_tup, datVs_nil, datVs_cons, tyAt_ref, opt_some, Option.map_some, Option.bind_some, dv_ints, dv_bls, dv_nms, dv_prs, dv_nm, dt_nm, dt_pr, dv_pr, sh_int, sh_bl, sh_none, sh_nil, eqv_nil, sh_ints, sh_bls, sh_nm, sh_nms, sh_pr, sh_prs, anyI, anyN, anyP, eqv_int, eqv_bl, eqv_ints, eqv_bls, eqv_nms, eqv_prs, eqv_nm, eqv_pr, put_same])); conv => whnf))
        refine fin (.refl _) ?_
        have := h l r hl hr (Ne.symm nrl)
        rw [wordsOf, if_pos hw] at this
        exact this
      · ((conv => whnf); repeat ((first | with_reducible refine ifTT ?_ | with_reducible refine ifFF ?_ | with_reducible refine ifnT ?_ | with_reducible refine ifnF ?_ | with_reducible refine ifTr ?_ | with_reducible refine ifFr ?_ | refine And.intro (by first | with_reducible rfl | with_reducible exact ⟨rfl, rfl⟩ | decide | omega | (dsimp only; decide) | (dsimp only; omega) | (unfold CDiv; omega) | (unfold CPow; decide) | (unfold CMul; omega) | (simp only [List.length_cons, List.length_nil]; omega)) ?_); conv => whnf))
        refine fin (.refl _) ?_
        have := h l r hl hr (Ne.symm nrl)
        rw [wordsOf, if_neg hw] at this
        exact this
def spProg (A : Ad) : LSp := fun vs s Q E => ∃ p : Pr, vs = [.int p.a, .int p.b, .int p.c, .int p.m, .int p.many] ∧ s A.p_program_of = some (.tab "program_of.<locals>.does") ∧ Q (.clo ck_program_of_does (doesXs p)) s
theorem ok_program_of (T : Txt K mg A D) (B : Bs K mg base A) : LFn P w K mg base 1 A.f_program_of D.d_program_of ["a", "b", "c", "m", "many"] (spProg A) := by
  refine T.G_program_of.ok (ck := ck_program_of_does) (js := [4, 3, 2, 1, 0]) sc_program_of (fun vs s Q E ⟨_, h, _⟩ => by rw [h]; rfl) (by decide +kernel) (by decide) (by decide +kernel) rfl (fun A' outer si H E hr => ⟨_, (lpm_made (k := ck_program_of_does) (js := [4, 3, 2, 1, 0]) (P := A.p_program_of) (i := 5) rfl B.tb_program_of rfl rfl rfl rfl fr_program_of_does rfl rfl rfl sc_program_of.nd rfl rfl (by decide)), fun vs s Q E h => ?_⟩)
  obtain ⟨p, rfl, hP, h⟩ := h
  refine ⟨hP, doesXs p, rfl, ?_⟩
  exact fin (.refl _) h

def cellAt (ns : List Int) (k : Nat) : Int := ns.getD k 0
def mix1 (n : Int) : Int := n * (n / 1009 + 69621) % 2147483647
def mix2 (n : Int) : Int := n * (n / 1013 + 40692) % 2147483647
def mixed (c : Int) (k : Nat) : Int := Builtin.bitXor (mix2 (mix1 ((Builtin.bitAnd c 2147483647 + 7919 * (k : Int) + 1) * 48271 % 2147483647))) (Builtin.bitAnd (c / 2 ^ ((31 : Int) * k + 31).toNat) 2147483647)
def spMix : LSp := fun vs s Q E => ∃ (c : Int) (k : Nat), vs = [.int c, .int k] ∧ Q (.int (mixed c k)) s
theorem ok_law_mixed (T : Txt K mg A D) (B : Bs K mg base A) : LFn P w K mg base 1 A.f_law_mixed D.d_law_mixed ["_law_cell", "_law_k"] spMix := by
  refine T.F_law_mixed.okL sc_law_mixed (fun vs s Q E ⟨_, _, h, _⟩ => by rw [h]; rfl) (fun cdv A' outer si H E hr => ⟨_, (lps_cons (lp_set (i := 2) sc_law_mixed.nd rfl (by first | exact Or.inl rfl | exact Or.inr rfl) (le_mod (le_mul (le_add (le_add (le_band (lv 0) le_int) (le_mul le_int (lv 1))) le_int) le_int) le_int))
    (lps_cons (lp_set (i := 2) sc_law_mixed.nd rfl (by first | exact Or.inl rfl | exact Or.inr rfl) (le_mod (le_mul (lv 2) (le_add (le_div (lv 2) le_int) le_int)) le_int))
    (lps_cons (lp_set (i := 2) sc_law_mixed.nd rfl (by first | exact Or.inl rfl | exact Or.inr rfl) (le_mod (le_mul (lv 2) (le_add (le_div (lv 2) le_int) le_int)) le_int))
    (lps_one (lp_ret (le_bxor (lv 2) (le_band (le_shr (lv 0) (le_add (le_mul le_int (lv 1)) le_int)) le_int))))))), fun vs s Q E h => ?_⟩)
  obtain ⟨c, k, rfl, h⟩ := h
  ((conv => whnf); repeat ((first | with_reducible refine ifTT ?_ | with_reducible refine ifFF ?_ | with_reducible refine ifnT ?_ | with_reducible refine ifnF ?_ | with_reducible refine ifTr ?_ | with_reducible refine ifFr ?_ | refine And.intro (by first | with_reducible rfl | with_reducible exact ⟨rfl, rfl⟩ | decide | omega | (dsimp only; decide) | (dsimp only; omega) | (unfold CDiv; omega) | (unfold CPow; decide) | (unfold CMul; omega) | (simp only [List.length_cons, List.length_nil]; omega)) ?_); conv => whnf))
  exact fin (.refl _) h

def numAt (c : Int) (k : Nat) : Int := ([mixed c (2 * k) % 8, mixed c (2 * k) % (10 ^ Int.toNat 9 + 1), 10 ^ Int.toNat 9 - mixed c (2 * k) % 3] : List Int).getD (mixed c (2 * k + 1) % 3).toNat 0
theorem numAt_ok (c : Int) (k : Nat) : 0 ≤ numAt c k ∧ numAt c k ≤ 1000000000 := by
  unfold numAt
  have : (mixed c (2 * k + 1) % 3).toNat = 0 ∨ (mixed c (2 * k + 1) % 3).toNat = 1 ∨ (mixed c (2 * k + 1) % 3).toNat = 2 := by omega
  have e9 : (10 : Int) ^ Int.toNat 9 = 1000000000 := by decide
  rw [e9]
  rcases this with e | e | e <;> rw [e] <;> simp only [List.getD_cons_zero, List.getD_cons_succ] <;> omega
def spNum : LSp := fun vs s Q E => ∃ (c : Int) (k : Nat), vs = [.int c, .int k] ∧ Q (.int (numAt c k)) s
theorem ok_law_number (T : Txt K mg A D) (B : Bs K mg base A) : LFn P w K mg base 2 A.f_law_number D.d_law_number ["_law_cell", "_law_k"] spNum := by
  refine T.F_law_number.okL sc_law_number (fun vs s Q E ⟨_, _, h, _⟩ => by rw [h]; rfl) (fun cdv A' outer si H E hr => ⟨_, (lps_cons (lp_set (i := 2) sc_law_number.nd rfl (by first | exact Or.inl rfl | exact Or.inr rfl) (le_call (ok_law_mixed T B) (hr.mono (by decide)) rfl T.m_law_mixed T.k_law_mixed T.q_law_mixed (la_cons (lv 0) (la_cons (le_mul le_int (lv 1)) la_nil))))
    (lps_one (lp_ret (le_item (hu_of hr) (le_fz (ll_disp (la_cons (le_mod (lv 2) le_int) (la_cons (le_mod (lv 2) (le_add (le_pow le_int le_int) le_int)) (la_cons (le_sub (le_pow le_int le_int) (le_mod (lv 2) le_int)) la_nil))))) (le_mod (le_call (ok_law_mixed T B) (hr.mono (by decide)) rfl T.m_law_mixed T.k_law_mixed T.q_law_mixed (la_cons (lv 0) (la_cons (le_add (le_mul le_int (lv 1)) le_int) la_nil))) le_int))))), fun vs s Q E h => ?_⟩)
  obtain ⟨c, k, rfl, h⟩ := h
  ((conv => whnf); repeat ((first | with_reducible refine ifTT ?_ | with_reducible refine ifFF ?_ | with_reducible refine ifnT ?_ | with_reducible refine ifnF ?_ | with_reducible refine ifTr ?_ | with_reducible refine ifFr ?_ | refine And.intro (by first | with_reducible rfl | with_reducible exact ⟨rfl, rfl⟩ | decide | omega | (dsimp only; decide) | (dsimp only; omega) | (unfold CDiv; omega) | (unfold CPow; decide) | (unfold CMul; omega) | (simp only [List.length_cons, List.length_nil]; omega)) ?_); conv => whnf))
  refine ⟨c, 2 * k, rfl, ?_⟩
  ((conv => whnf); repeat ((first | with_reducible refine ifTT ?_ | with_reducible refine ifFF ?_ | with_reducible refine ifnT ?_ | with_reducible refine ifnF ?_ | with_reducible refine ifTr ?_ | with_reducible refine ifFr ?_ | refine And.intro (by first | with_reducible rfl | with_reducible exact ⟨rfl, rfl⟩ | decide | omega | (dsimp only; decide) | (dsimp only; omega) | (unfold CDiv; omega) | (unfold CPow; decide) | (unfold CMul; omega) | (simp only [List.length_cons, List.length_nil]; omega)) ?_); conv => whnf))
  refine ⟨c, 2 * k + 1, rfl, ?_⟩
  ((conv => whnf); repeat ((first | with_reducible refine ifTT ?_ | with_reducible refine ifFF ?_ | with_reducible refine ifnT ?_ | with_reducible refine ifnF ?_ | with_reducible refine ifTr ?_ | with_reducible refine ifFr ?_ | refine And.intro (by first | with_reducible rfl | with_reducible exact ⟨rfl, rfl⟩ | decide | omega | (dsimp only; decide) | (dsimp only; omega) | (unfold CDiv; omega) | (unfold CPow; decide) | (unfold CMul; omega) | (simp only [List.length_cons, List.length_nil]; omega)) ?_); conv => whnf))
  unfold numAt at h
  have : mixed c (2 * k + 1) % 3 = 0 ∨ mixed c (2 * k + 1) % 3 = 1 ∨ mixed c (2 * k + 1) % 3 = 2 := by omega
  rcases this with e | e | e <;> rw [e] at h ⊢
  all_goals
    ((conv => whnf); repeat ((first | with_reducible refine ifTT ?_ | with_reducible refine ifFF ?_ | with_reducible refine ifnT ?_ | with_reducible refine ifnF ?_ | with_reducible refine ifTr ?_ | with_reducible refine ifFr ?_ | refine And.intro (by first | with_reducible rfl | with_reducible exact ⟨rfl, rfl⟩ | decide | omega | (dsimp only; decide) | (dsimp only; omega) | (unfold CDiv; omega) | (unfold CPow; decide) | (unfold CMul; omega) | (simp only [List.length_cons, List.length_nil]; omega)) ?_); conv => whnf))
    exact fin (.refl _) h
def spFar : LSp := fun vs s Q E => ∃ (c : Int) (k : Nat), vs = [.int c, .int k] ∧ ∀ z : Int, Q (.int z) s
theorem ok_law_far (T : Txt K mg A D) (B : Bs K mg base A) : LFn P w K mg base 2 A.f_law_far D.d_law_far ["_law_cell", "_law_k"] spFar := by
  refine T.F_law_far.okL sc_law_far (fun vs s Q E ⟨_, _, h, _⟩ => by rw [h]; rfl) (fun cdv A' outer si H E hr => ⟨_, (lps_cons (lp_set (i := 2) sc_law_far.nd rfl (by first | exact Or.inl rfl | exact Or.inr rfl) (le_shr (lv 0) (le_add le_int (le_mul le_int (lv 1)))))
    (lps_cons (lp_if (lt_eq (le_mod (le_call (ok_law_mixed T B) (hr.mono (by decide)) rfl T.m_law_mixed T.k_law_mixed T.q_law_mixed (la_cons (lv 0) (la_cons (le_add le_int (lv 1)) la_nil))) le_int) le_int) (lps_one (lp_ret (le_sub (le_mod (le_call (ok_law_mixed T B) (hr.mono (by decide)) rfl T.m_law_mixed T.k_law_mixed T.q_law_mixed (la_cons (lv 0) (la_cons (le_add le_int (lv 1)) la_nil))) le_int) le_int))) lps_nil)
    (lps_one (lp_ret (le_add (le_sub (le_mod (lv 2) (le_sub (le_mul le_int (le_pow le_int le_int)) le_int)) (le_pow le_int le_int)) le_int))))), fun vs s Q E h => ?_⟩)
  obtain ⟨c, k, rfl, h⟩ := h
  ((conv => whnf); repeat ((first | with_reducible refine ifTT ?_ | with_reducible refine ifFF ?_ | with_reducible refine ifnT ?_ | with_reducible refine ifnF ?_ | with_reducible refine ifTr ?_ | with_reducible refine ifFr ?_ | refine And.intro (by first | with_reducible rfl | with_reducible exact ⟨rfl, rfl⟩ | decide | omega | (dsimp only; decide) | (dsimp only; omega) | (unfold CDiv; omega) | (unfold CPow; decide) | (unfold CMul; omega) | (simp only [List.length_cons, List.length_nil]; omega)) ?_); conv => whnf))
  refine ⟨c, 20 + k, rfl, ?_⟩
  ((conv => whnf); repeat ((first | with_reducible refine ifTT ?_ | with_reducible refine ifFF ?_ | with_reducible refine ifnT ?_ | with_reducible refine ifnF ?_ | with_reducible refine ifTr ?_ | with_reducible refine ifFr ?_ | refine And.intro (by first | with_reducible rfl | with_reducible exact ⟨rfl, rfl⟩ | decide | omega | (dsimp only; decide) | (dsimp only; omega) | (unfold CDiv; omega) | (unfold CPow; decide) | (unfold CMul; omega) | (simp only [List.length_cons, List.length_nil]; omega)) ?_); conv => whnf))
  refine ifD (fun _ => ?_) (fun _ => ?_)
  · ((conv => whnf); repeat ((first | with_reducible refine ifTT ?_ | with_reducible refine ifFF ?_ | with_reducible refine ifnT ?_ | with_reducible refine ifnF ?_ | with_reducible refine ifTr ?_ | with_reducible refine ifFr ?_ | refine And.intro (by first | with_reducible rfl | with_reducible exact ⟨rfl, rfl⟩ | decide | omega | (dsimp only; decide) | (dsimp only; omega) | (unfold CDiv; omega) | (unfold CPow; decide) | (unfold CMul; omega) | (simp only [List.length_cons, List.length_nil]; omega)) ?_); conv => whnf))
    refine ⟨c, 30 + k, rfl, ?_⟩
    ((conv => whnf); repeat ((first | with_reducible refine ifTT ?_ | with_reducible refine ifFF ?_ | with_reducible refine ifnT ?_ | with_reducible refine ifnF ?_ | with_reducible refine ifTr ?_ | with_reducible refine ifFr ?_ | refine And.intro (by first | with_reducible rfl | with_reducible exact ⟨rfl, rfl⟩ | decide | omega | (dsimp only; decide) | (dsimp only; omega) | (unfold CDiv; omega) | (unfold CPow; decide) | (unfold CMul; omega) | (simp only [List.length_cons, List.length_nil]; omega)) ?_); conv => whnf))
    exact fin (.refl _) (h _)
  · ((conv => whnf); repeat ((first | with_reducible refine ifTT ?_ | with_reducible refine ifFF ?_ | with_reducible refine ifnT ?_ | with_reducible refine ifnF ?_ | with_reducible refine ifTr ?_ | with_reducible refine ifFr ?_ | refine And.intro (by first | with_reducible rfl | with_reducible exact ⟨rfl, rfl⟩ | decide | omega | (dsimp only; decide) | (dsimp only; omega) | (unfold CDiv; omega) | (unfold CPow; decide) | (unfold CMul; omega) | (simp only [List.length_cons, List.length_nil]; omega)) ?_); conv => whnf))
    exact fin (.refl _) (h _)
def spDue : LSp := fun vs s Q E => ∃ (p : Pr) (hand state : Int) (word : Option Int), vs = [.lst [.int p.a, .int p.b, .int p.c, .int p.m], .int p.many, .int hand, .int state, wordL word] ∧ p.Ok ∧
  Q (.tup [.int (p.num hand state word), .lst ((lettersOf (p.num hand state word) p.many).map pairL), .lst ((wordsOf (p.num hand state word)).map .int)]) s
theorem ok_law_due (T : Txt K mg A D) (B : Bs K mg base A) : LFn P w K mg base 1 A.f_law_due D.d_law_due ["_law_numbers", "_law_many", "_law_hand", "_law_state", "_law_word"] spDue := by
  refine T.F_law_due.okL sc_law_due (fun vs s Q E ⟨_, _, _, _, h, _⟩ => by rw [h]; rfl) (fun cdv A' outer si H E hr => ⟨_, (lps_cons (lp_set (i := 5) sc_law_due.nd rfl (by first | exact Or.inl rfl | exact Or.inr rfl) le_int)
    (lps_cons (lp_if (lt_notN (lv 4) le_non) (lps_one (lp_set (i := 5) sc_law_due.nd rfl (by first | exact Or.inl rfl | exact Or.inr rfl) (lv 4))) lps_nil)
    (lps_cons (lp_set (i := 6) sc_law_due.nd rfl (by first | exact Or.inl rfl | exact Or.inr rfl) (le_add (le_mul (le_item (hu_of hr) (lv 0) le_int) (lv 3)) (le_mul (le_item (hu_of hr) (lv 0) le_int) (lv 5))))
    (lps_cons (lp_cut (lp_set (i := 6) sc_law_due.nd rfl (by first | exact Or.inl rfl | exact Or.inr rfl) (le_mod (le_add (le_add (lv 6) (le_item (hu_of hr) (lv 0) le_int)) (lv 2)) (le_item (hu_of hr) (lv 0) le_int))))
    (lps_cons (lp_set (i := 7) sc_law_due.nd rfl (by first | exact Or.inl rfl | exact Or.inr rfl) (le_new (ll_disp la_nil)))
    (lps_cons (lp_for rfl (li_range1 rfl T.b_range (la_cons (le_mod (lv 6) le_int) la_nil)) (lg_name (i := 8) sc_law_due.nd rfl (by first | exact Or.inl rfl | exact Or.inr rfl)) (lps_one (lp_expr (le_append (lv 7) (la_cons (le_tup (la_cons (le_mod (le_add (le_div (lv 6) le_int) (lv 8)) (lv 1)) (la_cons (le_add (lv 6) (lv 8)) la_nil))) la_nil)))))
    (lps_cons (lp_frzS (lp_if (lt_eq (le_mod (lv 6) le_int) le_int) (lps_one (lp_ret (le_tup (la_cons (lv 6) (la_cons (lv 7) (la_cons (le_fz (ll_disp (la_cons (lv 6) la_nil))) la_nil)))))) lps_nil))
    (lps_one (lp_ret (le_tup (la_cons (lv 6) (la_cons (lv 7) (la_cons (le_fz (ll_disp la_nil)) la_nil))))))))))))), fun vs s Q E h => ?_⟩)
  obtain ⟨p, hand, state, word, rfl, hp, h⟩ := h
  have h1 := hp.a0
  have h2 := hp.a1
  have h3 := hp.b0
  have h4 := hp.b1
  have h5 := hp.m0
  have h6 := hp.n0
  have h7 := hp.n1
  have h8 := hp.m1
  have hn0 : ∀ z : Int, 0 ≤ z % p.m ∧ z % p.m < 1000000000 := fun z => ⟨Int.emod_nonneg _ (by omega), by have := Int.emod_lt_of_pos z (show 0 < p.m by omega); omega⟩
  have hn : 0 ≤ p.num hand state word ∧ p.num hand state word < 1000000000 := hn0 _
  obtain ⟨n, en⟩ : ∃ n, p.num hand state word = n := ⟨_, rfl⟩
  rw [en] at hn h
  rcases word with _ | wd
  all_goals
    ((conv => whnf); repeat ((first | with_reducible refine ifTT ?_ | with_reducible refine ifFF ?_ | with_reducible refine ifnT ?_ | with_reducible refine ifnF ?_ | with_reducible refine ifTr ?_ | with_reducible refine ifFr ?_ | refine And.intro (by first | with_reducible rfl | with_reducible exact ⟨rfl, rfl⟩ | decide | omega | (dsimp only; decide) | (dsimp only; omega) | (unfold CDiv; omega) | (unfold CPow; decide) | (unfold CMul; omega) | (simp only [List.length_cons, List.length_nil]; omega)) ?_); conv => whnf))
    refine ⟨fun σ' s' => ∃ v4 v5 v7 v8, σ' = [some (.lst [.int p.a, .int p.b, .int p.c, .int p.m]), some (.int p.many), some (.int hand), some (.int state), v4, v5, some (.int n), v7, v8] ∧ s' = s, ?_, ?_⟩
    · ((conv => whnf); repeat ((first | with_reducible refine ifTT ?_ | with_reducible refine ifFF ?_ | with_reducible refine ifnT ?_ | with_reducible refine ifnF ?_ | with_reducible refine ifTr ?_ | with_reducible refine ifFr ?_ | refine And.intro (by first | with_reducible rfl | with_reducible exact ⟨rfl, rfl⟩ | decide | omega | (dsimp only; decide) | (dsimp only; omega) | (unfold CDiv; omega) | (unfold CPow; decide) | (unfold CMul; omega) | (simp only [List.length_cons, List.length_nil]; omega)) ?_); conv => whnf))
      exact ⟨_, _, _, _, by rw [← en]; rfl, rfl⟩
    rintro σ' s' ⟨v4, v5, v7, v8, rfl, rfl⟩
    ((conv => whnf); repeat ((first | with_reducible refine ifTT ?_ | with_reducible refine ifFF ?_ | with_reducible refine ifnT ?_ | with_reducible refine ifnF ?_ | with_reducible refine ifTr ?_ | with_reducible refine ifFr ?_ | refine And.intro (by first | with_reducible rfl | with_reducible exact ⟨rfl, rfl⟩ | decide | omega | (dsimp only; decide) | (dsimp only; omega) | (unfold CDiv; omega) | (unfold CPow; decide) | (unfold CMul; omega) | (simp only [List.length_cons, List.length_nil]; omega)) ?_); conv => whnf))
    intro l hl
    ((conv => whnf); repeat ((first | with_reducible refine ifTT ?_ | with_reducible refine ifFF ?_ | with_reducible refine ifnT ?_ | with_reducible refine ifnF ?_ | with_reducible refine ifTr ?_ | with_reducible refine ifFr ?_ | refine And.intro (by first | with_reducible rfl | with_reducible exact ⟨rfl, rfl⟩ | decide | omega | (dsimp only; decide) | (dsimp only; omega) | (unfold CDiv; omega) | (unfold CPow; decide) | (unfold CMul; omega) | (simp only [List.length_cons, List.length_nil]; omega)) ?_); conv => whnf))
    refine lLoop_rg (fun i σ s2 => ∃ v8, σ = [some (.lst [.int p.a, .int p.b, .int p.c, .int p.m]), some (.int p.many), some (.int hand), some (.int state), v4, v5, some (.int n), some (.ref l), v8] ∧ s2 = put s' l (.lst (((List.range i).map fun k : Nat => ((n / 3 + (k : Nat)) % p.many, n + (k : Nat))).map pairL)))
      ⟨_, rfl, rfl⟩ (fun _ _ _ _ => trivial) ?_ ?_
    · rintro i σ s2 N hi ⟨v8, rfl, rfl⟩ hN
      have hl2 : (((List.range i).map fun k : Nat => ((n / 3 + (k : Nat)) % p.many, n + (k : Nat))).map pairL).length < 16777216 := by simp; omega
      ((conv => whnf); repeat ((first | with_reducible refine ifTT ?_ | with_reducible refine ifFF ?_ | with_reducible refine ifnT ?_ | with_reducible refine ifnF ?_ | with_reducible refine ifTr ?_ | with_reducible refine ifFr ?_ | (refine And.intro (by first | with_reducible rfl | with_reducible exact ⟨rfl, rfl⟩ | decide | omega | (dsimp only; decide) | (dsimp only; omega) | (unfold CDiv; omega) | (unfold CPow; decide) | (unfold CMul; omega) | (simp only [List.length_cons, List.length_nil]; omega) | (simp only [Option.isSome_some]; done) | (simp only [meth_ref, put_same', seqL_ref, put_same]; first | done | exact ⟨rfl, rfl⟩ | exact ⟨trivial, rfl⟩ | rfl)) ?_) | (simp (decide := true) only [put_same', put_put, decF, decT, Bool.not_true, Bool.not_false, putL_nil, putL_cons, if_true, if_false, seqR_ref, seqL_ref, lenL_ref, dicK_ref, dicT_ref, dat_ref, dat_non, dat_bl, dat_int, dat_str, dat_lst, dat_tup, datV_non, datV_bl, datV_int, datV_str, datV_lst, datV_tup, datVs_nil, datVs_cons, tyAt_ref, opt_some, Option.map_some, Option.bind_some, dv_ints, dv_bls, dv_nms, dv_prs, dv_nm, dt_nm, dt_pr, dv_pr, sh_int, sh_bl, sh_none, sh_nil, eqv_nil, sh_ints, sh_bls, sh_nm, sh_nms, sh_pr, sh_prs, anyI, anyN, anyP, eqv_int, eqv_bl, eqv_ints, eqv_bls, eqv_nms, eqv_prs, eqv_nm, eqv_pr, put_same])); conv => whnf))
      refine hN _ _ ⟨_, rfl, ?_⟩
      rw [List.range_succ, List.map_append, List.map_append, Int.zero_add]
      rfl
    · rintro σ s2 ⟨v8, rfl, rfl⟩
      have e1 : (((List.range (n % 3 - 0).toNat).map fun k : Nat => ((n / 3 + (k : Nat)) % p.many, n + (k : Nat))).map pairL) = (lettersOf n p.many).map pairL := by
        unfold lettersOf
        rw [Int.sub_zero]
      rw [e1]
      refine ⟨_, _, .at_ (i := 7) rfl (.lst put_same hl (sub_put hl)), ?_⟩
      ((conv => whnf); repeat ((first | with_reducible refine ifTT ?_ | with_reducible refine ifFF ?_ | with_reducible refine ifnT ?_ | with_reducible refine ifnF ?_ | with_reducible refine ifTr ?_ | with_reducible refine ifFr ?_ | refine And.intro (by first | with_reducible rfl | with_reducible exact ⟨rfl, rfl⟩ | decide | omega | (dsimp only; decide) | (dsimp only; omega) | (unfold CDiv; omega) | (unfold CPow; decide) | (unfold CMul; omega) | (simp only [List.length_cons, List.length_nil]; omega)) ?_); conv => whnf))
      refine ifD (fun hw => ?_) (fun hw => ?_)
      · ((conv => whnf); repeat ((first | with_reducible refine ifTT ?_ | with_reducible refine ifFF ?_ | with_reducible refine ifnT ?_ | with_reducible refine ifnF ?_ | with_reducible refine ifTr ?_ | with_reducible refine ifFr ?_ | refine And.intro (by first | with_reducible rfl | with_reducible exact ⟨rfl, rfl⟩ | decide | omega | (dsimp only; decide) | (dsimp only; omega) | (unfold CDiv; omega) | (unfold CPow; decide) | (unfold CMul; omega) | (simp only [List.length_cons, List.length_nil]; omega)) ?_); conv => whnf))
        refine fin (.refl _) ?_
        rw [wordsOf, if_pos hw] at h
        exact h
      · ((conv => whnf); repeat ((first | with_reducible refine ifTT ?_ | with_reducible refine ifFF ?_ | with_reducible refine ifnT ?_ | with_reducible refine ifnF ?_ | with_reducible refine ifTr ?_ | with_reducible refine ifFr ?_ | refine And.intro (by first | with_reducible rfl | with_reducible exact ⟨rfl, rfl⟩ | decide | omega | (dsimp only; decide) | (dsimp only; omega) | (unfold CDiv; omega) | (unfold CPow; decide) | (unfold CMul; omega) | (simp only [List.length_cons, List.length_nil]; omega)) ?_); conv => whnf))
        refine fin (.refl _) ?_
        rw [wordsOf, if_neg hw] at h
        exact h
def spLRight : LSp := fun vs s Q E => ∃ (n : Int) (ls : List (Int × Int)) (ws : List Int) (l r : Addr), vs = [.tup [.int n, .ref l, .ref r], .tup [.int n, .lst (ls.map pairL), .lst (ws.map .int)]] ∧ s l = some (.lst (ls.map pairL)) ∧ s r = some (.lst (ws.map .int)) ∧ Q (.bl true) s
theorem ok_law_right (T : Txt K mg A D) (B : Bs K mg base A) : LFn P w K mg base 1 A.f_law_right D.d_law_right ["_law_found", "_law_due_here"] spLRight := by
  refine T.F_law_right.okL sc_law_right (fun vs s Q E ⟨_, _, _, _, _, h, _⟩ => by rw [h]; rfl) (fun cdv A' outer si H E hr => ⟨_, (lps_cons (lp_if (LW.lt (lw_or (lt_not (lt_val (le_isi rfl T.b_isinstance (la_cons (lv 0) (la_cons (le_bty (n := "tuple") rfl T.b_tuple (by decide +kernel)) la_nil))))) (lw_or (lt_ne (le_len rfl T.b_len (la_cons (lv 0) la_nil)) le_int) (lw_or1 (lt_val (le_isi rfl T.b_isinstance (la_cons (le_item (hu_of hr) (lv 0) le_int) (la_cons (le_bty (n := "bool") rfl T.b_bool (by decide +kernel)) la_nil)))))))) (lps_one (lp_ret le_bl)) lps_nil)
    (lps_one (lp_ret (le_and (le_isi rfl T.b_isinstance (la_cons (le_item (hu_of hr) (lv 0) le_int) (la_cons (le_bty (n := "list") rfl T.b_list (by decide +kernel)) la_nil))) (le_and (le_isi rfl T.b_isinstance (la_cons (le_item (hu_of hr) (lv 0) le_int) (la_cons (le_bty (n := "list") rfl T.b_list (by decide +kernel)) la_nil))) (le_one (le_eqD hr.units (lv 0) (lv 1)))))))), fun vs s Q E h => ?_⟩)
  obtain ⟨n, ls, ws, l, r, rfl, hl, hr', h⟩ := h
  ((conv => whnf); repeat ((first | with_reducible refine ifTT ?_ | with_reducible refine ifFF ?_ | with_reducible refine ifnT ?_ | with_reducible refine ifnF ?_ | with_reducible refine ifTr ?_ | with_reducible refine ifFr ?_ | (refine And.intro (by first | with_reducible rfl | with_reducible exact ⟨rfl, rfl⟩ | decide | omega | (dsimp only; decide) | (dsimp only; omega) | (unfold CDiv; omega) | (unfold CPow; decide) | (unfold CMul; omega) | (simp only [List.length_cons, List.length_nil]; omega) | (simp only [Option.isSome_some]; done) | (simp only [meth_ref, put_same', seqL_ref, hl, hr']; first | done | exact ⟨rfl, rfl⟩ | exact ⟨trivial, rfl⟩ | rfl)) ?_) | (simp (decide := true) only [put_same', put_put, decF, decT, Bool.not_true, Bool.not_false, putL_nil, putL_cons, if_true, if_false, seqR_ref, seqL_ref, lenL_ref, dicK_ref, dicT_ref, dat_ref, dat_non, dat_bl, dat_int, dat_str, dat_lst, dat_tup, datV_non, datV_bl, datV_int, datV_str, datV_lst, datV_tup, datVs_nil, datVs_cons, tyAt_ref, opt_some, Option.map_some, Option.bind_some, dv_ints, dv_bls, dv_nms, dv_prs, dv_nm, dt_nm, dt_pr, dv_pr, sh_int, sh_bl, sh_none, sh_nil, eqv_nil, sh_ints, sh_bls, sh_nm, sh_nms, sh_pr, sh_prs, anyI, anyN, anyP, eqv_int, eqv_bl, eqv_ints, eqv_bls, eqv_nms, eqv_prs, eqv_nm, eqv_pr, hl, hr'])); conv => whnf))
  refine ⟨fun _ q => (by cases q), true, T.kt_tuple_tuple, ?_⟩
  ((conv => whnf); repeat ((first | with_reducible refine ifTT ?_ | with_reducible refine ifFF ?_ | with_reducible refine ifnT ?_ | with_reducible refine ifnF ?_ | with_reducible refine ifTr ?_ | with_reducible refine ifFr ?_ | (refine And.intro (by first | with_reducible rfl | with_reducible exact ⟨rfl, rfl⟩ | decide | omega | (dsimp only; decide) | (dsimp only; omega) | (unfold CDiv; omega) | (unfold CPow; decide) | (unfold CMul; omega) | (simp only [List.length_cons, List.length_nil]; omega) | (simp only [Option.isSome_some]; done) | (simp only [meth_ref, put_same', seqL_ref, hl, hr']; first | done | exact ⟨rfl, rfl⟩ | exact ⟨trivial, rfl⟩ | rfl)) ?_) | (simp (decide := true) only [put_same', put_put, decF, decT, Bool.not_true, Bool.not_false, putL_nil, putL_cons, if_true, if_false, seqR_ref, seqL_ref, lenL_ref, dicK_ref, dicT_ref, dat_ref, dat_non, dat_bl, dat_int, dat_str, dat_lst, dat_tup, datV_non, datV_bl, datV_int, datV_str, datV_lst, datV_tup, datVs_nil, datVs_cons, tyAt_ref, opt_some, Option.map_some, Option.bind_some, dv_ints, dv_bls, dv_nms, dv_prs, dv_nm, dt_nm, dt_pr, dv_pr, sh_int, sh_bl, sh_none, sh_nil, eqv_nil, sh_ints, sh_bls, sh_nm, sh_nms, sh_pr, sh_prs, anyI, anyN, anyP, eqv_int, eqv_bl, eqv_ints, eqv_bls, eqv_nms, eqv_prs, eqv_nm, eqv_pr, hl, hr'])); conv => whnf))
  refine ifN (fun q => absurd rfl q) (fun _ => ?_)
  ((conv => whnf); repeat ((first | with_reducible refine ifTT ?_ | with_reducible refine ifFF ?_ | with_reducible refine ifnT ?_ | with_reducible refine ifnF ?_ | with_reducible refine ifTr ?_ | with_reducible refine ifFr ?_ | (refine And.intro (by first | with_reducible rfl | with_reducible exact ⟨rfl, rfl⟩ | decide | omega | (dsimp only; decide) | (dsimp only; omega) | (unfold CDiv; omega) | (unfold CPow; decide) | (unfold CMul; omega) | (simp only [List.length_cons, List.length_nil]; omega) | (simp only [Option.isSome_some]; done) | (simp only [meth_ref, put_same', seqL_ref, hl, hr']; first | done | exact ⟨rfl, rfl⟩ | exact ⟨trivial, rfl⟩ | rfl)) ?_) | (simp (decide := true) only [put_same', put_put, decF, decT, Bool.not_true, Bool.not_false, putL_nil, putL_cons, if_true, if_false, seqR_ref, seqL_ref, lenL_ref, dicK_ref, dicT_ref, dat_ref, dat_non, dat_bl, dat_int, dat_str, dat_lst, dat_tup, datV_non, datV_bl, datV_int, datV_str, datV_lst, datV_tup, datVs_nil, datVs_cons, tyAt_ref, opt_some, Option.map_some, Option.bind_some, dv_ints, dv_bls, dv_nms, dv_prs, dv_nm, dt_nm, dt_pr, dv_pr, sh_int, sh_bl, sh_none, sh_nil, eqv_nil, sh_ints, sh_bls, sh_nm, sh_nms, sh_pr, sh_prs, anyI, anyN, anyP, eqv_int, eqv_bl, eqv_ints, eqv_bls, eqv_nms, eqv_prs, eqv_nm, eqv_pr, hl, hr'])); conv => whnf))
  refine ⟨fun _ q => (by cases q), false, T.kt_int_bool, ?_⟩
  ((conv => whnf); repeat ((first | with_reducible refine ifTT ?_ | with_reducible refine ifFF ?_ | with_reducible refine ifnT ?_ | with_reducible refine ifnF ?_ | with_reducible refine ifTr ?_ | with_reducible refine ifFr ?_ | (refine And.intro (by first | with_reducible rfl | with_reducible exact ⟨rfl, rfl⟩ | decide | omega | (dsimp only; decide) | (dsimp only; omega) | (unfold CDiv; omega) | (unfold CPow; decide) | (unfold CMul; omega) | (simp only [List.length_cons, List.length_nil]; omega) | (simp only [Option.isSome_some]; done) | (simp only [meth_ref, put_same', seqL_ref, hl, hr']; first | done | exact ⟨rfl, rfl⟩ | exact ⟨trivial, rfl⟩ | rfl)) ?_) | (simp (decide := true) only [put_same', put_put, decF, decT, Bool.not_true, Bool.not_false, putL_nil, putL_cons, if_true, if_false, seqR_ref, seqL_ref, lenL_ref, dicK_ref, dicT_ref, dat_ref, dat_non, dat_bl, dat_int, dat_str, dat_lst, dat_tup, datV_non, datV_bl, datV_int, datV_str, datV_lst, datV_tup, datVs_nil, datVs_cons, tyAt_ref, opt_some, Option.map_some, Option.bind_some, dv_ints, dv_bls, dv_nms, dv_prs, dv_nm, dt_nm, dt_pr, dv_pr, sh_int, sh_bl, sh_none, sh_nil, eqv_nil, sh_ints, sh_bls, sh_nm, sh_nms, sh_pr, sh_prs, anyI, anyN, anyP, eqv_int, eqv_bl, eqv_ints, eqv_bls, eqv_nms, eqv_prs, eqv_nm, eqv_pr, hl, hr'])); conv => whnf))
  refine ⟨fun _ q => (by cases q), true, T.kt_list_list, ?_⟩
  ((conv => whnf); repeat ((first | with_reducible refine ifTT ?_ | with_reducible refine ifFF ?_ | with_reducible refine ifnT ?_ | with_reducible refine ifnF ?_ | with_reducible refine ifTr ?_ | with_reducible refine ifFr ?_ | (refine And.intro (by first | with_reducible rfl | with_reducible exact ⟨rfl, rfl⟩ | decide | omega | (dsimp only; decide) | (dsimp only; omega) | (unfold CDiv; omega) | (unfold CPow; decide) | (unfold CMul; omega) | (simp only [List.length_cons, List.length_nil]; omega) | (simp only [Option.isSome_some]; done) | (simp only [meth_ref, put_same', seqL_ref, hl, hr']; first | done | exact ⟨rfl, rfl⟩ | exact ⟨trivial, rfl⟩ | rfl)) ?_) | (simp (decide := true) only [put_same', put_put, decF, decT, Bool.not_true, Bool.not_false, putL_nil, putL_cons, if_true, if_false, seqR_ref, seqL_ref, lenL_ref, dicK_ref, dicT_ref, dat_ref, dat_non, dat_bl, dat_int, dat_str, dat_lst, dat_tup, datV_non, datV_bl, datV_int, datV_str, datV_lst, datV_tup, datVs_nil, datVs_cons, tyAt_ref, opt_some, Option.map_some, Option.bind_some, dv_ints, dv_bls, dv_nms, dv_prs, dv_nm, dt_nm, dt_pr, dv_pr, sh_int, sh_bl, sh_none, sh_nil, eqv_nil, sh_ints, sh_bls, sh_nm, sh_nms, sh_pr, sh_prs, anyI, anyN, anyP, eqv_int, eqv_bl, eqv_ints, eqv_bls, eqv_nms, eqv_prs, eqv_nm, eqv_pr, hl, hr'])); conv => whnf))
  refine ⟨fun _ q => (by cases q), true, T.kt_list_list, ?_⟩
  ((conv => whnf); repeat ((first | with_reducible refine ifTT ?_ | with_reducible refine ifFF ?_ | with_reducible refine ifnT ?_ | with_reducible refine ifnF ?_ | with_reducible refine ifTr ?_ | with_reducible refine ifFr ?_ | (refine And.intro (by first | with_reducible rfl | with_reducible exact ⟨rfl, rfl⟩ | decide | omega | (dsimp only; decide) | (dsimp only; omega) | (unfold CDiv; omega) | (unfold CPow; decide) | (unfold CMul; omega) | (simp only [List.length_cons, List.length_nil]; omega) | (simp only [Option.isSome_some]; done) | (simp only [meth_ref, put_same', seqL_ref, hl, hr']; first | done | exact ⟨rfl, rfl⟩ | exact ⟨trivial, rfl⟩ | rfl)) ?_) | (simp (decide := true) only [put_same', put_put, decF, decT, Bool.not_true, Bool.not_false, putL_nil, putL_cons, if_true, if_false, seqR_ref, seqL_ref, lenL_ref, dicK_ref, dicT_ref, dat_ref, dat_non, dat_bl, dat_int, dat_str, dat_lst, dat_tup, datV_non, datV_bl, datV_int, datV_str, datV_lst, datV_tup, datVs_nil, datVs_cons, tyAt_ref, opt_some, Option.map_some, Option.bind_some, dv_ints, dv_bls, dv_nms, dv_prs, dv_nm, dt_nm, dt_pr, dv_pr, sh_int, sh_bl, sh_none, sh_nil, eqv_nil, sh_ints, sh_bls, sh_nm, sh_nms, sh_pr, sh_prs, anyI, anyN, anyP, eqv_int, eqv_bl, eqv_ints, eqv_bls, eqv_nms, eqv_prs, eqv_nm, eqv_pr, hl, hr'])); conv => whnf))
  refine eqL_cod (α := T3 Int (List (Int × Int)) (List Int)) (a := ⟨n, ls, ws⟩) (b := ⟨n, ls, ws⟩) (by decide) (isd_t3 (isd_enc s n) (isd_lst hl) (isd_lst hr')) (isd_enc s _) ?_
  conv => whnf
  rw [decide_eq_true rfl]
  exact fin (.refl _) h
structure Rc where
  p : Pr
  hand : Int
  state : Int
  word : Option Int
def askL (r : Rc) : LV := .tup [.lst [.int r.p.a, .int r.p.b, .int r.p.c, .int r.p.m], .int r.p.many, .int r.hand, .int r.state, wordL r.word]
def recL (r : Rc) : LV := .tup [.clo ck_program_of_does (doesXs r.p), askL r]
theorem ok_law (T : Txt K mg A D) (B : Bs K mg base A) : LFn P w K mg base 3 A.f_law D.d_law ["_law_script"] (spTop A) := by
  refine T.F_law.okL sc_law (fun vs s Q E ⟨_, _, h, _⟩ => by rw [h]; rfl) (fun cdv A' outer si H E hr => ⟨_, (lps_cons (lp_set (i := 1) sc_law.nd rfl (by first | exact Or.inl rfl | exact Or.inr rfl) (le_new (ll_disp la_nil)))
    (lps_cons (lp_for rfl (li_seq (le_fz (ll_slice (lv 0) lo_none (lo_some le_int)))) (lg_name (i := 2) sc_law.nd rfl (by first | exact Or.inl rfl | exact Or.inr rfl)) (lps_cons (lp_setLcN (i := 3) rfl sc_law.nd rfl rfl (own := [("_law_k", 4)]) (g := CTg.one 4) (li_range1 rfl T.b_range (la_cons le_int la_nil)) (blkOk_by (N := ["_law_script", "_law_made", "_law_cell", "_law_numbers", "_law_k", "_law_many", "_law_hand", "_law_word", "_law_asked", "_law_turn", "_law_does", "_law_found", "_law_due_here"]) (sc := defScope s_law) (by decide +kernel)) (by decide) (fun _ _ _ _ _ => pg_name (i := 4) sc_law.nd rfl (Or.inl rfl)) (fun _ _ _ _ _ => lts_nil) (fun _ _ _ _ _ => (le_call (ok_law_number T B) (hr.mono (by decide)) rfl T.m_law_number T.k_law_number T.q_law_number (la_cons (lv 2) (la_cons (lv 4) la_nil)))) (sw_true rfl rfl rfl (by decide)))
    (lps_cons (lp_asg (le_max2 rfl rfl T.b_max (la_cons le_int (la_cons (le_item (hu_of hr) (lv 3) le_int) la_nil))) (lg_sub (hu_of hr) (lv 3) le_int))
    (lps_cons (lp_frzS (lp_set (i := 5) sc_law.nd rfl (by first | exact Or.inl rfl | exact Or.inr rfl) (le_add le_int (le_mod (le_call (ok_law_mixed T B) (hr.mono (by decide)) rfl T.m_law_mixed T.k_law_mixed T.q_law_mixed (la_cons (lv 2) (la_cons le_int la_nil))) le_int))))
    (lps_cons (lp_set (i := 6) sc_law.nd rfl (by first | exact Or.inl rfl | exact Or.inr rfl) (le_mod (le_call (ok_law_mixed T B) (hr.mono (by decide)) rfl T.m_law_mixed T.k_law_mixed T.q_law_mixed (la_cons (lv 2) (la_cons le_int la_nil))) (lv 5)))
    (lps_cons (lp_set (i := 7) sc_law.nd rfl (by first | exact Or.inl rfl | exact Or.inr rfl) le_non)
    (lps_cons (lp_cut (lp_if (lt_gt (le_mod (le_call (ok_law_mixed T B) (hr.mono (by decide)) rfl T.m_law_mixed T.k_law_mixed T.q_law_mixed (la_cons (lv 2) (la_cons le_int la_nil))) le_int) le_int) (lps_one (lp_set (i := 7) sc_law.nd rfl (by first | exact Or.inl rfl | exact Or.inr rfl) (le_call (ok_law_far T B) (hr.mono (by decide)) rfl T.m_law_far T.k_law_far T.q_law_far (la_cons (lv 2) (la_cons le_int la_nil))))) lps_nil))
    (lps_cons (lp_set (i := 8) sc_law.nd rfl (by first | exact Or.inl rfl | exact Or.inr rfl) (le_tup (la_cons (lv 3) (la_cons (lv 5) (la_cons (lv 6) (la_cons (le_call (ok_law_far T B) (hr.mono (by decide)) rfl T.m_law_far T.k_law_far T.q_law_far (la_cons (lv 2) (la_cons le_int la_nil))) (la_cons (lv 7) la_nil)))))))
    (lps_one (lp_expr (le_append (lv 1) (la_cons (le_tup (la_cons (le_call (ok_program_of T B) (hr.mono (by decide)) rfl T.m_program_of T.k_program_of T.q_program_of (la_cons (le_item (hu_of hr) (lv 3) le_int) (la_cons (le_item (hu_of hr) (lv 3) le_int) (la_cons (le_item (hu_of hr) (lv 3) le_int) (la_cons (le_item (hu_of hr) (lv 3) le_int) (la_cons (lv 5) la_nil)))))) (la_cons (lv 8) la_nil))) la_nil))))))))))))
    (lps_cons (lp_for rfl (li_range1 rfl T.b_range (la_cons le_int la_nil)) (lg_name (i := 9) sc_law.nd rfl (by first | exact Or.inl rfl | exact Or.inr rfl)) (lps_one (lp_for rfl (li_seq (lv 1)) (lg_tup (is := [10, 8]) rfl (pgs_cons (pg_name (i := 10) sc_law.nd rfl (by first | exact Or.inl rfl | exact Or.inr rfl)) (pgs_cons (pg_name (i := 8) sc_law.nd rfl (by first | exact Or.inl rfl | exact Or.inr rfl)) pgs_nil))) (lps_cons (lp_set (i := 11) sc_law.nd rfl (by first | exact Or.inl rfl | exact Or.inr rfl) (le_clo (i := 10) (ok_program_of_does T B) (hr.mono (by decide)) B.hG (by decide) rfl (by first | exact Or.inl rfl | exact Or.inr (Or.inl rfl) | exact Or.inr (Or.inr rfl)) (la_cons (le_item (hu_of hr) (lv 8) le_int) (la_cons (le_item (hu_of hr) (lv 8) le_int) (la_cons (le_item (hu_of hr) (lv 8) le_int) la_nil)))))
    (lps_cons (lp_set (i := 12) sc_law.nd rfl (by first | exact Or.inl rfl | exact Or.inr rfl) (le_call (ok_law_due T B) (hr.mono (by decide)) rfl T.m_law_due T.k_law_due T.q_law_due (la_cons (le_item (hu_of hr) (lv 8) le_int) (la_cons (le_item (hu_of hr) (lv 8) le_int) (la_cons (le_item (hu_of hr) (lv 8) le_int) (la_cons (le_item (hu_of hr) (lv 8) le_int) (la_cons (le_item (hu_of hr) (lv 8) le_int) la_nil)))))))
    (lps_cons (lp_if (lt_not (lt_val (le_call (ok_law_right T B) (hr.mono (by decide)) rfl T.m_law_right T.k_law_right T.q_law_right (la_cons (lv 11) (la_cons (lv 12) la_nil))))) (lps_one (lp_ret le_bl)) lps_nil)
    (lps_cons (lp_expr (le_append (le_item (hu_of hr) (lv 11) le_int) (la_cons (le_tup (la_cons le_int (la_cons le_int la_nil))) la_nil)))
    (lps_one (lp_expr (le_append (le_item (hu_of hr) (lv 11) le_int) (la_cons le_int la_nil)))))))))))
    (lps_one (lp_ret le_bl))))), fun vs s Q E h => ?_⟩)
  obtain ⟨ns, hns, rfl, hT, h⟩ := h
  have hP := hT _ (List.mem_cons_self)
  ((conv => whnf); repeat ((first | with_reducible refine ifTT ?_ | with_reducible refine ifFF ?_ | with_reducible refine ifnT ?_ | with_reducible refine ifnF ?_ | with_reducible refine ifTr ?_ | with_reducible refine ifFr ?_ | refine And.intro (by first | with_reducible rfl | with_reducible exact ⟨rfl, rfl⟩ | decide | omega | (dsimp only; decide) | (dsimp only; omega) | (unfold CDiv; omega) | (unfold CPow; decide) | (unfold CMul; omega) | (simp only [List.length_cons, List.length_nil]; omega)) ?_); conv => whnf))
  intro md hmd
  ((conv => whnf); repeat ((first | with_reducible refine ifTT ?_ | with_reducible refine ifFF ?_ | with_reducible refine ifnT ?_ | with_reducible refine ifnF ?_ | with_reducible refine ifTr ?_ | with_reducible refine ifFr ?_ | refine And.intro (by first | with_reducible rfl | with_reducible exact ⟨rfl, rfl⟩ | decide | omega | (dsimp only; decide) | (dsimp only; omega) | (unfold CDiv; omega) | (unfold CPow; decide) | (unfold CMul; omega) | (simp only [List.length_cons, List.length_nil]; omega)) ?_); conv => whnf))
  rw [show ((12 : Int)) = ((12 : Nat) : Int) from rfl, cutL_to, ← List.map_take]
  refine lLoop_map LV.int (fun q _ σ s' => ∃ recs : List Rc, (∀ x ∈ recs, x.p.Ok) ∧ recs.length = q.length ∧ (∃ v2 v3 v4 v5 v6 v7 v8 v9 v10 v11 v12, σ = [some (.scr ns), some (.ref md), v2, v3, v4, v5, v6, v7, v8, v9, v10, v11, v12]) ∧ s' = put s md (.lst (recs.map recL)))
    ⟨[], by simp, rfl, ⟨_, _, _, _, _, _, _, _, _, _, _, rfl⟩, rfl⟩ (fun _ _ _ _ _ => trivial) ?_ ?_
  · rintro q c r σ s1 N eq ⟨recs, hok, hlen, ⟨v2, v3, v4, v5, v6, v7, v8, v9, v10, v11, v12, rfl⟩, rfl⟩ hN
    have hq : recs.length < 12 := by
      have := congrArg List.length eq
      simp at this
      omega
    have hP1 : put s md (.lst (recs.map recL)) A.p_program_of = some (.tab "program_of.<locals>.does") := by
      rw [put_ne (by rintro rfl; rw [hP] at hmd; cases hmd)]; exact hP
    have hl2 : (recs.map recL).length < 16777216 := by rw [List.length_map]; omega
    ((conv => whnf); repeat ((first | with_reducible refine ifTT ?_ | with_reducible refine ifFF ?_ | with_reducible refine ifnT ?_ | with_reducible refine ifnF ?_ | with_reducible refine ifTr ?_ | with_reducible refine ifFr ?_ | refine And.intro (by first | with_reducible rfl | with_reducible exact ⟨rfl, rfl⟩ | decide | omega | (dsimp only; decide) | (dsimp only; omega) | (unfold CDiv; omega) | (unfold CPow; decide) | (unfold CMul; omega) | (simp only [List.length_cons, List.length_nil]; omega)) ?_); conv => whnf))
    refine fun Da hD => lc_map1 (α := Nat) (enc := fun i => LV.int (0 + (i : Nat))) hD (fun k => LV.int (numAt c k)) (fun _ _ => trivial) (by rw [List.length_range]; decide) ?_ ?_
    · intro k _ s2 Y _ hY
      ((conv => whnf); repeat ((first | with_reducible refine ifTT ?_ | with_reducible refine ifFF ?_ | with_reducible refine ifnT ?_ | with_reducible refine ifnF ?_ | with_reducible refine ifTr ?_ | with_reducible refine ifFr ?_ | refine And.intro (by first | with_reducible rfl | with_reducible exact ⟨rfl, rfl⟩ | decide | omega | (dsimp only; decide) | (dsimp only; omega) | (unfold CDiv; omega) | (unfold CPow; decide) | (unfold CMul; omega) | (simp only [List.length_cons, List.length_nil]; omega)) ?_); conv => whnf))
      refine ⟨c, k, congrArg (fun z => [LV.int c, LV.int z]) (by omega), ?_⟩
      ((conv => whnf); repeat ((first | with_reducible refine ifTT ?_ | with_reducible refine ifFF ?_ | with_reducible refine ifnT ?_ | with_reducible refine ifnF ?_ | with_reducible refine ifTr ?_ | with_reducible refine ifFr ?_ | refine And.intro (by first | with_reducible rfl | with_reducible exact ⟨rfl, rfl⟩ | decide | omega | (dsimp only; decide) | (dsimp only; omega) | (unfold CDiv; omega) | (unfold CPow; decide) | (unfold CMul; omega) | (simp only [List.length_cons, List.length_nil]; omega)) ?_); conv => whnf))
      exact hY
    · rw [show (List.range ((4 : Int) - 0).toNat).map (fun k => LV.int (numAt c k)) = [.int (numAt c 0), .int (numAt c 1), .int (numAt c 2), .int (numAt c 3)] from rfl]
      intro l hl
      obtain ⟨nlm, hl0⟩ := put_none hl
      ((conv => whnf); repeat ((first | with_reducible refine ifTT ?_ | with_reducible refine ifFF ?_ | with_reducible refine ifnT ?_ | with_reducible refine ifnF ?_ | with_reducible refine ifTr ?_ | with_reducible refine ifFr ?_ | (refine And.intro (by first | with_reducible rfl | with_reducible exact ⟨rfl, rfl⟩ | decide | omega | (dsimp only; decide) | (dsimp only; omega) | (unfold CDiv; omega) | (unfold CPow; decide) | (unfold CMul; omega) | (simp only [List.length_cons, List.length_nil]; omega) | (simp only [Option.isSome_some]; done) | (simp only [meth_ref, put_same', seqL_ref, put_same]; first | done | exact ⟨rfl, rfl⟩ | exact ⟨trivial, rfl⟩ | rfl)) ?_) | (simp (decide := true) only [put_same', put_put, decF, decT, Bool.not_true, Bool.not_false, putL_nil, putL_cons, if_true, if_false, seqR_ref, seqL_ref, lenL_ref, dicK_ref, dicT_ref, dat_ref, dat_non, dat_bl, dat_int, dat_str, dat_lst, dat_tup, datV_non, datV_bl, datV_int, datV_str, datV_lst, datV_tup, datVs_nil, datVs_cons, tyAt_ref, opt_some, Option.map_some, Option.bind_some, dv_ints, dv_bls, dv_nms, dv_prs, dv_nm, dt_nm, dt_pr, dv_pr, sh_int, sh_bl, sh_none, sh_nil, eqv_nil, sh_ints, sh_bls, sh_nm, sh_nms, sh_pr, sh_prs, anyI, anyN, anyP, eqv_int, eqv_bl, eqv_ints, eqv_bls, eqv_nms, eqv_prs, eqv_nm, eqv_pr, put_same])); conv => whnf))
      refine ⟨_, _, .at_ (i := 3) rfl (.lst put_same hl ((sub_put hl).trans (Sub.refl _))), ?_⟩
      obtain ⟨p, ep⟩ : ∃ p : Pr, p = ⟨numAt c 0, numAt c 1, numAt c 2, (if numAt c 3 > 1 then numAt c 3 else 1), 2 + mixed c 10 % 4⟩ := ⟨_, rfl⟩
      have hp : p.Ok := by
        have q0 := numAt_ok c 0
        have q1 := numAt_ok c 1
        have q3 := numAt_ok c 3
        subst ep
        refine ⟨q0.1, q0.2, q1.1, q1.2, ?_, ?_, ?_, ?_⟩ <;> dsimp only <;> (try split) <;> omega
      ((conv => whnf); repeat ((first | with_reducible refine ifTT ?_ | with_reducible refine ifFF ?_ | with_reducible refine ifnT ?_ | with_reducible refine ifnF ?_ | with_reducible refine ifTr ?_ | with_reducible refine ifFr ?_ | refine And.intro (by first | with_reducible rfl | with_reducible exact ⟨rfl, rfl⟩ | decide | omega | (dsimp only; decide) | (dsimp only; omega) | (unfold CDiv; omega) | (unfold CPow; decide) | (unfold CMul; omega) | (simp only [List.length_cons, List.length_nil]; omega)) ?_); conv => whnf))
      refine ⟨c, 10, rfl, ?_⟩
      ((conv => whnf); repeat ((first | with_reducible refine ifTT ?_ | with_reducible refine ifFF ?_ | with_reducible refine ifnT ?_ | with_reducible refine ifnF ?_ | with_reducible refine ifTr ?_ | with_reducible refine ifFr ?_ | refine And.intro (by first | with_reducible rfl | with_reducible exact ⟨rfl, rfl⟩ | decide | omega | (dsimp only; decide) | (dsimp only; omega) | (unfold CDiv; omega) | (unfold CPow; decide) | (unfold CMul; omega) | (simp only [List.length_cons, List.length_nil]; omega)) ?_); conv => whnf))
      refine ⟨c, 11, rfl, ?_⟩
      ((conv => whnf); repeat ((first | with_reducible refine ifTT ?_ | with_reducible refine ifFF ?_ | with_reducible refine ifnT ?_ | with_reducible refine ifnF ?_ | with_reducible refine ifTr ?_ | with_reducible refine ifFr ?_ | refine And.intro (by first | with_reducible rfl | with_reducible exact ⟨rfl, rfl⟩ | decide | omega | (dsimp only; decide) | (dsimp only; omega) | (unfold CDiv; omega) | (unfold CPow; decide) | (unfold CMul; omega) | (simp only [List.length_cons, List.length_nil]; omega)) ?_); conv => whnf))
      refine ⟨fun σ' s' => ∃ (hand : Int) (wd : Option Int) (v4 v8 v9 v10 v11 v12 : Option LV), σ' = [some (.scr ns), some (.ref md), some (.int c), some (.lst [.int p.a, .int p.b, .int p.c, .int p.m]), v4, some (.int p.many), some (.int hand), some (wordL wd), v8, v9, v10, v11, v12] ∧ s' = put s md (.lst (recs.map recL)), ?_, ?_⟩
      · ((conv => whnf); repeat ((first | with_reducible refine ifTT ?_ | with_reducible refine ifFF ?_ | with_reducible refine ifnT ?_ | with_reducible refine ifnF ?_ | with_reducible refine ifTr ?_ | with_reducible refine ifFr ?_ | refine And.intro (by first | with_reducible rfl | with_reducible exact ⟨rfl, rfl⟩ | decide | omega | (dsimp only; decide) | (dsimp only; omega) | (unfold CDiv; omega) | (unfold CPow; decide) | (unfold CMul; omega) | (simp only [List.length_cons, List.length_nil]; omega)) ?_); conv => whnf))
        refine ⟨c, 12, rfl, ?_⟩
        ((conv => whnf); repeat ((first | with_reducible refine ifTT ?_ | with_reducible refine ifFF ?_ | with_reducible refine ifnT ?_ | with_reducible refine ifnF ?_ | with_reducible refine ifTr ?_ | with_reducible refine ifFr ?_ | refine And.intro (by first | with_reducible rfl | with_reducible exact ⟨rfl, rfl⟩ | decide | omega | (dsimp only; decide) | (dsimp only; omega) | (unfold CDiv; omega) | (unfold CPow; decide) | (unfold CMul; omega) | (simp only [List.length_cons, List.length_nil]; omega)) ?_); conv => whnf))
        refine ifD (fun _ => ?_) (fun _ => ?_)
        · ((conv => whnf); repeat ((first | with_reducible refine ifTT ?_ | with_reducible refine ifFF ?_ | with_reducible refine ifnT ?_ | with_reducible refine ifnF ?_ | with_reducible refine ifTr ?_ | with_reducible refine ifFr ?_ | refine And.intro (by first | with_reducible rfl | with_reducible exact ⟨rfl, rfl⟩ | decide | omega | (dsimp only; decide) | (dsimp only; omega) | (unfold CDiv; omega) | (unfold CPow; decide) | (unfold CMul; omega) | (simp only [List.length_cons, List.length_nil]; omega)) ?_); conv => whnf))
          refine ⟨c, 1, rfl, fun z => ?_⟩
          ((conv => whnf); repeat ((first | with_reducible refine ifTT ?_ | with_reducible refine ifFF ?_ | with_reducible refine ifnT ?_ | with_reducible refine ifnF ?_ | with_reducible refine ifTr ?_ | with_reducible refine ifFr ?_ | refine And.intro (by first | with_reducible rfl | with_reducible exact ⟨rfl, rfl⟩ | decide | omega | (dsimp only; decide) | (dsimp only; omega) | (unfold CDiv; omega) | (unfold CPow; decide) | (unfold CMul; omega) | (simp only [List.length_cons, List.length_nil]; omega)) ?_); conv => whnf))
          exact ⟨_, some z, _, _, _, _, _, _, by rw [ep]; rfl, rfl⟩
        · ((conv => whnf); repeat ((first | with_reducible refine ifTT ?_ | with_reducible refine ifFF ?_ | with_reducible refine ifnT ?_ | with_reducible refine ifnF ?_ | with_reducible refine ifTr ?_ | with_reducible refine ifFr ?_ | refine And.intro (by first | with_reducible rfl | with_reducible exact ⟨rfl, rfl⟩ | decide | omega | (dsimp only; decide) | (dsimp only; omega) | (unfold CDiv; omega) | (unfold CPow; decide) | (unfold CMul; omega) | (simp only [List.length_cons, List.length_nil]; omega)) ?_); conv => whnf))
          exact ⟨_, none, _, _, _, _, _, _, by rw [ep]; rfl, rfl⟩
      · rintro σ' s' ⟨hand, wd, v4, v8, v9, v10, v11, v12, rfl, rfl⟩
        ((conv => whnf); repeat ((first | with_reducible refine ifTT ?_ | with_reducible refine ifFF ?_ | with_reducible refine ifnT ?_ | with_reducible refine ifnF ?_ | with_reducible refine ifTr ?_ | with_reducible refine ifFr ?_ | refine And.intro (by first | with_reducible rfl | with_reducible exact ⟨rfl, rfl⟩ | decide | omega | (dsimp only; decide) | (dsimp only; omega) | (unfold CDiv; omega) | (unfold CPow; decide) | (unfold CMul; omega) | (simp only [List.length_cons, List.length_nil]; omega)) ?_); conv => whnf))
        refine ⟨c, 0, rfl, fun z => ?_⟩
        ((conv => whnf); repeat ((first | with_reducible refine ifTT ?_ | with_reducible refine ifFF ?_ | with_reducible refine ifnT ?_ | with_reducible refine ifnF ?_ | with_reducible refine ifTr ?_ | with_reducible refine ifFr ?_ | (refine And.intro (by first | with_reducible rfl | with_reducible exact ⟨rfl, rfl⟩ | decide | omega | (dsimp only; decide) | (dsimp only; omega) | (unfold CDiv; omega) | (unfold CPow; decide) | (unfold CMul; omega) | (simp only [List.length_cons, List.length_nil]; omega) | (simp only [Option.isSome_some]; done) | (simp only [meth_ref, put_same', seqL_ref, put_same]; first | done | exact ⟨rfl, rfl⟩ | exact ⟨trivial, rfl⟩ | rfl)) ?_) | (simp (decide := true) only [put_same', put_put, decF, decT, Bool.not_true, Bool.not_false, putL_nil, putL_cons, if_true, if_false, seqR_ref, seqL_ref, lenL_ref, dicK_ref, dicT_ref, dat_ref, dat_non, dat_bl, dat_int, dat_str, dat_lst, dat_tup, datV_non, datV_bl, datV_int, datV_str, datV_lst, datV_tup, datVs_nil, datVs_cons, tyAt_ref, opt_some, Option.map_some, Option.bind_some, dv_ints, dv_bls, dv_nms, dv_prs, dv_nm, dt_nm, dt_pr, dv_pr, sh_int, sh_bl, sh_none, sh_nil, eqv_nil, sh_ints, sh_bls, sh_nm, sh_nms, sh_pr, sh_prs, anyI, anyN, anyP, eqv_int, eqv_bl, eqv_ints, eqv_bls, eqv_nms, eqv_prs, eqv_nm, eqv_pr, put_same])); conv => whnf))
        refine ⟨p, rfl, hP1, ?_⟩
        ((conv => whnf); repeat ((first | with_reducible refine ifTT ?_ | with_reducible refine ifFF ?_ | with_reducible refine ifnT ?_ | with_reducible refine ifnF ?_ | with_reducible refine ifTr ?_ | with_reducible refine ifFr ?_ | (refine And.intro (by first | with_reducible rfl | with_reducible exact ⟨rfl, rfl⟩ | decide | omega | (dsimp only; decide) | (dsimp only; omega) | (unfold CDiv; omega) | (unfold CPow; decide) | (unfold CMul; omega) | (simp only [List.length_cons, List.length_nil]; omega) | (simp only [Option.isSome_some]; done) | (simp only [meth_ref, put_same', seqL_ref, put_same]; first | done | exact ⟨rfl, rfl⟩ | exact ⟨trivial, rfl⟩ | rfl)) ?_) | (simp (decide := true) only [put_same', put_put, decF, decT, Bool.not_true, Bool.not_false, putL_nil, putL_cons, if_true, if_false, seqR_ref, seqL_ref, lenL_ref, dicK_ref, dicT_ref, dat_ref, dat_non, dat_bl, dat_int, dat_str, dat_lst, dat_tup, datV_non, datV_bl, datV_int, datV_str, datV_lst, datV_tup, datVs_nil, datVs_cons, tyAt_ref, opt_some, Option.map_some, Option.bind_some, dv_ints, dv_bls, dv_nms, dv_prs, dv_nm, dt_nm, dt_pr, dv_pr, sh_int, sh_bl, sh_none, sh_nil, eqv_nil, sh_ints, sh_bls, sh_nm, sh_nms, sh_pr, sh_prs, anyI, anyN, anyP, eqv_int, eqv_bl, eqv_ints, eqv_bls, eqv_nms, eqv_prs, eqv_nm, eqv_pr, put_same])); conv => whnf))
        refine hN _ _ ⟨recs ++ [⟨p, hand, z, wd⟩], ?_, by simp [hlen], ⟨_, _, _, _, _, _, _, _, _, _, _, rfl⟩, ?_⟩
        · intro x hx
          rw [List.mem_append, List.mem_singleton] at hx
          rcases hx with hx | rfl
          · exact hok x hx
          · exact hp
        · rw [List.map_append]
          rfl
  · rintro σ s1 ⟨recs, hok, hlen, ⟨v2, v3, v4, v5, v6, v7, v8, v9, v10, v11, v12, rfl⟩, rfl⟩
    have hx : Ext s (put s md (.lst (recs.map recL))) := ext_put hmd
    show _ ∧ _ ∧ lLoop (lgName 9) _ _ _ (rgL 0 2) _ _
    refine ⟨by decide, by decide, ?_⟩
    refine lLoop_rg (fun _ σ s' => (∃ v2 v3 v4 v5 v6 v7 v8 v9 v10 v11 v12, σ = [some (.scr ns), some (.ref md), v2, v3, v4, v5, v6, v7, v8, v9, v10, v11, v12]) ∧ s' md = some (.lst (recs.map recL)) ∧ Ext s s')
      ⟨⟨_, _, _, _, _, _, _, _, _, _, _, rfl⟩, put_same, hx⟩ (fun _ _ _ _ => trivial) ?_ ?_
    · rintro i σ s2 N hi ⟨⟨v2, v3, v4, v5, v6, v7, v8, v9, v10, v11, v12, rfl⟩, hm, he⟩ hN
      ((conv => whnf); repeat ((first | with_reducible refine ifTT ?_ | with_reducible refine ifFF ?_ | with_reducible refine ifnT ?_ | with_reducible refine ifnF ?_ | with_reducible refine ifTr ?_ | with_reducible refine ifFr ?_ | (refine And.intro (by first | with_reducible rfl | with_reducible exact ⟨rfl, rfl⟩ | decide | omega | (dsimp only; decide) | (dsimp only; omega) | (unfold CDiv; omega) | (unfold CPow; decide) | (unfold CMul; omega) | (simp only [List.length_cons, List.length_nil]; omega) | (simp only [Option.isSome_some]; done) | (simp only [meth_ref, put_same', seqL_ref, hm]; first | done | exact ⟨rfl, rfl⟩ | exact ⟨trivial, rfl⟩ | rfl)) ?_) | (simp (decide := true) only [put_same', put_put, decF, decT, Bool.not_true, Bool.not_false, putL_nil, putL_cons, if_true, if_false, seqR_ref, seqL_ref, lenL_ref, dicK_ref, dicT_ref, dat_ref, dat_non, dat_bl, dat_int, dat_str, dat_lst, dat_tup, datV_non, datV_bl, datV_int, datV_str, datV_lst, datV_tup, datVs_nil, datVs_cons, tyAt_ref, opt_some, Option.map_some, Option.bind_some, dv_ints, dv_bls, dv_nms, dv_prs, dv_nm, dt_nm, dt_pr, dv_pr, sh_int, sh_bl, sh_none, sh_nil, eqv_nil, sh_ints, sh_bls, sh_nm, sh_nms, sh_pr, sh_prs, anyI, anyN, anyP, eqv_int, eqv_bl, eqv_ints, eqv_bls, eqv_nms, eqv_prs, eqv_nm, eqv_pr, hm])); conv => whnf))
      refine lLoop_map recL (fun _ _ σ s' => (∃ v2 v3 v4 v5 v6 v7 v8 v9 v10 v11 v12, σ = [some (.scr ns), some (.ref md), v2, v3, v4, v5, v6, v7, v8, v9, v10, v11, v12]) ∧ s' md = some (.lst (recs.map recL)) ∧ Ext s s')
        ⟨⟨_, _, _, _, _, _, _, _, _, _, _, rfl⟩, hm, he⟩ (fun _ _ _ _ h => h.2.1) ?_ ?_
      · rintro q x r σ s3 N eq ⟨⟨v2, v3, v4, v5, v6, v7, v8, v9, v10, v11, v12, rfl⟩, hm, he⟩ hN
        have hp := hok x (by rw [eq]; simp)
        ((conv => whnf); repeat ((first | with_reducible refine ifTT ?_ | with_reducible refine ifFF ?_ | with_reducible refine ifnT ?_ | with_reducible refine ifnF ?_ | with_reducible refine ifTr ?_ | with_reducible refine ifFr ?_ | refine And.intro (by first | with_reducible rfl | with_reducible exact ⟨rfl, rfl⟩ | decide | omega | (dsimp only; decide) | (dsimp only; omega) | (unfold CDiv; omega) | (unfold CPow; decide) | (unfold CMul; omega) | (simp only [List.length_cons, List.length_nil]; omega)) ?_); conv => whnf))
        refine ⟨by simp [doesXs, ncls, ncl], ?_⟩
        ((conv => whnf); repeat ((first | with_reducible refine ifTT ?_ | with_reducible refine ifFF ?_ | with_reducible refine ifnT ?_ | with_reducible refine ifnF ?_ | with_reducible refine ifTr ?_ | with_reducible refine ifFr ?_ | refine And.intro (by first | with_reducible rfl | with_reducible exact ⟨rfl, rfl⟩ | decide | omega | (dsimp only; decide) | (dsimp only; omega) | (unfold CDiv; omega) | (unfold CPow; decide) | (unfold CMul; omega) | (simp only [List.length_cons, List.length_nil]; omega)) ?_); conv => whnf))
        refine ⟨by cases x.word <;> simp [wordL, ncls, ncl], noS, noS_sub, noS_cl, x.p, x.hand, x.state, x.word, rfl, rfl, hp, fun l r hl hr hne hfr => ?_⟩
        have h3l : s3 l = none := Classical.byContradiction fun z => by have := hfr l rfl z; rw [put_ne hne, put_same] at this; cases this
        have h3r : s3 r = none := Classical.byContradiction fun z => by have := hfr r rfl z; rw [put_same] at this; cases this
        rw [merge_put (.inr h3r), merge_put (.inr h3l), merge_self noS_sub]
        ((conv => whnf); repeat ((first | with_reducible refine ifTT ?_ | with_reducible refine ifFF ?_ | with_reducible refine ifnT ?_ | with_reducible refine ifnF ?_ | with_reducible refine ifTr ?_ | with_reducible refine ifFr ?_ | refine And.intro (by first | with_reducible rfl | with_reducible exact ⟨rfl, rfl⟩ | decide | omega | (dsimp only; decide) | (dsimp only; omega) | (unfold CDiv; omega) | (unfold CPow; decide) | (unfold CMul; omega) | (simp only [List.length_cons, List.length_nil]; omega)) ?_); conv => whnf))
        refine ⟨x.p, x.hand, x.state, x.word, rfl, hp, ?_⟩
        ((conv => whnf); repeat ((first | with_reducible refine ifTT ?_ | with_reducible refine ifFF ?_ | with_reducible refine ifnT ?_ | with_reducible refine ifnF ?_ | with_reducible refine ifTr ?_ | with_reducible refine ifFr ?_ | refine And.intro (by first | with_reducible rfl | with_reducible exact ⟨rfl, rfl⟩ | decide | omega | (dsimp only; decide) | (dsimp only; omega) | (unfold CDiv; omega) | (unfold CPow; decide) | (unfold CMul; omega) | (simp only [List.length_cons, List.length_nil]; omega)) ?_); conv => whnf))
        have el : put (put s3 l (.lst ((lettersOf (x.p.num x.hand x.state x.word) x.p.many).map pairL))) r (.lst ((wordsOf (x.p.num x.hand x.state x.word)).map .int)) l = some (.lst ((lettersOf (x.p.num x.hand x.state x.word) x.p.many).map pairL)) := by rw [put_ne hne, put_same]
        have er : put (put s3 l (.lst ((lettersOf (x.p.num x.hand x.state x.word) x.p.many).map pairL))) r (.lst ((wordsOf (x.p.num x.hand x.state x.word)).map .int)) r = some (.lst ((wordsOf (x.p.num x.hand x.state x.word)).map .int)) := put_same
        have ex : Ext s3 (put (put s3 l (.lst ((lettersOf (x.p.num x.hand x.state x.word) x.p.many).map pairL))) r (.lst ((wordsOf (x.p.num x.hand x.state x.word)).map .int))) := ((Ext.refl s3).put h3l).put h3r
        refine ⟨_, _, _, l, r, rfl, el, er, ?_⟩
        have l1 : ((lettersOf (x.p.num x.hand x.state x.word) x.p.many).map pairL).length < 16777216 := by simp [lettersOf]; omega
        have l2 : ((wordsOf (x.p.num x.hand x.state x.word)).map LV.int).length < 16777216 := by unfold wordsOf; split <;> simp
        ((conv => whnf); repeat ((first | with_reducible refine ifTT ?_ | with_reducible refine ifFF ?_ | with_reducible refine ifnT ?_ | with_reducible refine ifnF ?_ | with_reducible refine ifTr ?_ | with_reducible refine ifFr ?_ | (refine And.intro (by first | with_reducible rfl | with_reducible exact ⟨rfl, rfl⟩ | decide | omega | (dsimp only; decide) | (dsimp only; omega) | (unfold CDiv; omega) | (unfold CPow; decide) | (unfold CMul; omega) | (simp only [List.length_cons, List.length_nil]; omega) | (simp only [Option.isSome_some]; done) | (simp only [meth_ref, put_same', seqL_ref, el, er, put_ne hne, put_ne (Ne.symm hne)]; first | done | exact ⟨rfl, rfl⟩ | exact ⟨trivial, rfl⟩ | rfl)) ?_) | (simp (decide := true) only [put_same', put_put, decF, decT, Bool.not_true, Bool.not_false, putL_nil, putL_cons, if_true, if_false, seqR_ref, seqL_ref, lenL_ref, dicK_ref, dicT_ref, dat_ref, dat_non, dat_bl, dat_int, dat_str, dat_lst, dat_tup, datV_non, datV_bl, datV_int, datV_str, datV_lst, datV_tup, datVs_nil, datVs_cons, tyAt_ref, opt_some, Option.map_some, Option.bind_some, dv_ints, dv_bls, dv_nms, dv_prs, dv_nm, dt_nm, dt_pr, dv_pr, sh_int, sh_bl, sh_none, sh_nil, eqv_nil, sh_ints, sh_bls, sh_nm, sh_nms, sh_pr, sh_prs, anyI, anyN, anyP, eqv_int, eqv_bl, eqv_ints, eqv_bls, eqv_nms, eqv_prs, eqv_nm, eqv_pr, el, er, put_ne hne, put_ne (Ne.symm hne)])); conv => whnf))
        refine hN _ _ ⟨⟨_, _, _, _, _, _, _, _, _, _, _, rfl⟩, ?_, ?_⟩
        · rw [put_ne (by rintro rfl; rw [h3r] at hm; cases hm), put_ne (by rintro rfl; rw [h3l] at hm; cases hm)]
          exact ex _ _ hm
        · exact ((he.trans ex).put (by cases z : s l with | none => rfl | some o => rw [he _ _ z] at h3l; cases h3l)).put (by cases z : s r with | none => rfl | some o => rw [he _ _ z] at h3r; cases h3r)
      · rintro σ s3 ⟨⟨v2, v3, v4, v5, v6, v7, v8, v9, v10, v11, v12, rfl⟩, hm, he⟩
        exact hN _ _ ⟨⟨_, _, _, _, _, _, _, _, _, _, _, rfl⟩, hm, he⟩
    · rintro σ s2 ⟨⟨v2, v3, v4, v5, v6, v7, v8, v9, v10, v11, v12, rfl⟩, hm, he⟩
      ((conv => whnf); repeat ((first | with_reducible refine ifTT ?_ | with_reducible refine ifFF ?_ | with_reducible refine ifnT ?_ | with_reducible refine ifnF ?_ | with_reducible refine ifTr ?_ | with_reducible refine ifFr ?_ | refine And.intro (by first | with_reducible rfl | with_reducible exact ⟨rfl, rfl⟩ | decide | omega | (dsimp only; decide) | (dsimp only; omega) | (unfold CDiv; omega) | (unfold CPow; decide) | (unfold CMul; omega) | (simp only [List.length_cons, List.length_nil]; omega)) ?_); conv => whnf))
      exact fin he.sub h
end
theorem all_mk {P : Program} {w : World} {K : PySem.W.Frag} {h : Heap} {mg : Str → Option Value} {fa : Addr} (X : K.In h) (G : h.Ns mainGlobals mg) (hfa : mg "law" = some (.ref fa))
    {f_program_of f_law_mixed f_law_number f_law_far f_law_due f_law_right f_law t_program_of p_program_of : Addr}
    {oV_program_of kV_program_of dV_program_of pV_program_of tV_program_of : Value}
    {oA_program_of aA_program_of : Option Addr}
    {sl_program_of : Array (Option Value)}
    {oV_law_mixed kV_law_mixed dV_law_mixed pV_law_mixed cV_law_mixed tV_law_mixed : Value}
    {oA_law_mixed aA_law_mixed : Option Addr}
    {sl_law_mixed : Array (Option Value)}
    {oV_law_number kV_law_number dV_law_number pV_law_number cV_law_number tV_law_number : Value}
    {oA_law_number aA_law_number : Option Addr}
    {sl_law_number : Array (Option Value)}
    {oV_law_far kV_law_far dV_law_far pV_law_far cV_law_far tV_law_far : Value}
    {oA_law_far aA_law_far : Option Addr}
    {sl_law_far : Array (Option Value)}
    {oV_law_due kV_law_due dV_law_due pV_law_due cV_law_due tV_law_due : Value}
    {oA_law_due aA_law_due : Option Addr}
    {sl_law_due : Array (Option Value)}
    {oV_law_right kV_law_right dV_law_right pV_law_right cV_law_right tV_law_right : Value}
    {oA_law_right aA_law_right : Option Addr}
    {sl_law_right : Array (Option Value)}
    {oV_law kV_law dV_law pV_law cV_law tV_law : Value}
    {oA_law aA_law : Option Addr}
    {sl_law : Array (Option Value)}
    (a_law : PySem.W.nsIn K mainGlobals "law" = some (some (.ref f_law)))
    (a_law_right : PySem.W.nsIn K mainGlobals "_law_right" = some (some (.ref f_law_right)))
    (a_law_due : PySem.W.nsIn K mainGlobals "_law_due" = some (some (.ref f_law_due)))
    (a_law_far : PySem.W.nsIn K mainGlobals "_law_far" = some (some (.ref f_law_far)))
    (a_law_number : PySem.W.nsIn K mainGlobals "_law_number" = some (some (.ref f_law_number)))
    (a_law_mixed : PySem.W.nsIn K mainGlobals "_law_mixed" = some (some (.ref f_law_mixed)))
    (a_program_of : PySem.W.nsIn K mainGlobals "program_of" = some (some (.ref f_program_of)))
    (l_program_of : K.lookup f_program_of = some ⟨oV_program_of, oA_program_of, .func (PySem.W.fnOf "program_of" "program_of" (defArgs s_program_of) (defBody s_program_of) (defScope s_program_of) .none kV_program_of dV_program_of pV_program_of aA_program_of (.ref t_program_of) tV_program_of), sl_program_of⟩)
    (c_program_of : PySem.W.codeIn K (.ref t_program_of) "program_of" = true)
    (k_program_of : PySem.W.keepIn K (.ref f_program_of) = true)
    (l_law_mixed : K.lookup f_law_mixed = some ⟨oV_law_mixed, oA_law_mixed, .func (PySem.W.fnOf "_law_mixed" "_law_mixed" (defArgs s_law_mixed) (defBody s_law_mixed) (defScope s_law_mixed) .none kV_law_mixed dV_law_mixed pV_law_mixed aA_law_mixed cV_law_mixed tV_law_mixed), sl_law_mixed⟩)
    (c_law_mixed : PySem.W.codeIn K cV_law_mixed "_law_mixed" = true)
    (k_law_mixed : PySem.W.keepIn K (.ref f_law_mixed) = true)
    (l_law_number : K.lookup f_law_number = some ⟨oV_law_number, oA_law_number, .func (PySem.W.fnOf "_law_number" "_law_number" (defArgs s_law_number) (defBody s_law_number) (defScope s_law_number) .none kV_law_number dV_law_number pV_law_number aA_law_number cV_law_number tV_law_number), sl_law_number⟩)
    (c_law_number : PySem.W.codeIn K cV_law_number "_law_number" = true)
    (k_law_number : PySem.W.keepIn K (.ref f_law_number) = true)
    (l_law_far : K.lookup f_law_far = some ⟨oV_law_far, oA_law_far, .func (PySem.W.fnOf "_law_far" "_law_far" (defArgs s_law_far) (defBody s_law_far) (defScope s_law_far) .none kV_law_far dV_law_far pV_law_far aA_law_far cV_law_far tV_law_far), sl_law_far⟩)
    (c_law_far : PySem.W.codeIn K cV_law_far "_law_far" = true)
    (k_law_far : PySem.W.keepIn K (.ref f_law_far) = true)
    (l_law_due : K.lookup f_law_due = some ⟨oV_law_due, oA_law_due, .func (PySem.W.fnOf "_law_due" "_law_due" (defArgs s_law_due) (defBody s_law_due) (defScope s_law_due) .none kV_law_due dV_law_due pV_law_due aA_law_due cV_law_due tV_law_due), sl_law_due⟩)
    (c_law_due : PySem.W.codeIn K cV_law_due "_law_due" = true)
    (k_law_due : PySem.W.keepIn K (.ref f_law_due) = true)
    (l_law_right : K.lookup f_law_right = some ⟨oV_law_right, oA_law_right, .func (PySem.W.fnOf "_law_right" "_law_right" (defArgs s_law_right) (defBody s_law_right) (defScope s_law_right) .none kV_law_right dV_law_right pV_law_right aA_law_right cV_law_right tV_law_right), sl_law_right⟩)
    (c_law_right : PySem.W.codeIn K cV_law_right "_law_right" = true)
    (k_law_right : PySem.W.keepIn K (.ref f_law_right) = true)
    (l_law : K.lookup f_law = some ⟨oV_law, oA_law, .func (PySem.W.fnOf "law" "law" (defArgs s_law) (defBody s_law) (defScope s_law) .none kV_law dV_law pV_law aA_law cV_law tV_law), sl_law⟩)
    (c_law : PySem.W.codeIn K cV_law "law" = true)
    (k_law : PySem.W.keepIn K (.ref f_law) = true)
    (e_program_of : h.get? p_program_of = some { cls := .none, data := .fields #[] })
    (o_program_of : K.lookup p_program_of = none)
    (hd_program_of : PySem.W.codeHdIn K t_program_of p_program_of = true)
    (gs : PySem.W.specialIn K (.builtin "object.__class__") "__get__" = some (some (.builtin "getset_descriptor.__get__")))
    (tk : PySem.W.takesIn K (.builtin "object.__class__") = some true)
    (b_bool : PySem.W.nsIn K mainGlobals "bool" = some none)
    (b_isinstance : PySem.W.nsIn K mainGlobals "isinstance" = some none)
    (b_len : PySem.W.nsIn K mainGlobals "len" = some none)
    (b_list : PySem.W.nsIn K mainGlobals "list" = some none)
    (b_max : PySem.W.nsIn K mainGlobals "max" = some none)
    (b_range : PySem.W.nsIn K mainGlobals "range" = some none)
    (b_tuple : PySem.W.nsIn K mainGlobals "tuple" = some none)
    : ∃ (fd : FuncData) (ts : List (Addr × Addr × Str)), (ts.map (·.2.1)).Nodup ∧ (∀ p ∈ ts, h.get? p.2.1 = some { cls := .none, data := .fields #[] } ∧ K.lookup p.2.1 = none ∧ PySem.W.codeHdIn K p.1 p.2.1 = true) ∧ (∀ (s : Shared) (v : Value), BindsTo s fd ⟨[v], []⟩ [("_law_script", v)]) ∧
      ∀ base : Heap, K.In base → base.Ns mainGlobals mg → (∀ p ∈ ts, LamX.TabB base mg p.1 p.2.1) → @LFn P w K (noGG K) mg base 3 fa fd ["_law_script"] (spLaw (ts.map (·.2))) := by
  obtain rfl : f_law = fa := by have e := hfa.symm.trans (PySem.W.mg_of X G a_law); exact (Value.ref.inj (Option.some.inj e)).symm
  have T : Txt K mg ⟨f_program_of, f_law_mixed, f_law_number, f_law_far, f_law_due, f_law_right, f_law, t_program_of, p_program_of⟩ ⟨PySem.W.fnOf "program_of" "program_of" (defArgs s_program_of) (defBody s_program_of) (defScope s_program_of) .none kV_program_of dV_program_of pV_program_of aA_program_of (.ref t_program_of) tV_program_of,
      PySem.W.fnOf "_law_mixed" "_law_mixed" (defArgs s_law_mixed) (defBody s_law_mixed) (defScope s_law_mixed) .none kV_law_mixed dV_law_mixed pV_law_mixed aA_law_mixed cV_law_mixed tV_law_mixed,
      PySem.W.fnOf "_law_number" "_law_number" (defArgs s_law_number) (defBody s_law_number) (defScope s_law_number) .none kV_law_number dV_law_number pV_law_number aA_law_number cV_law_number tV_law_number,
      PySem.W.fnOf "_law_far" "_law_far" (defArgs s_law_far) (defBody s_law_far) (defScope s_law_far) .none kV_law_far dV_law_far pV_law_far aA_law_far cV_law_far tV_law_far,
      PySem.W.fnOf "_law_due" "_law_due" (defArgs s_law_due) (defBody s_law_due) (defScope s_law_due) .none kV_law_due dV_law_due pV_law_due aA_law_due cV_law_due tV_law_due,
      PySem.W.fnOf "_law_right" "_law_right" (defArgs s_law_right) (defBody s_law_right) (defScope s_law_right) .none kV_law_right dV_law_right pV_law_right aA_law_right cV_law_right tV_law_right,
      PySem.W.fnOf "law" "law" (defArgs s_law) (defBody s_law) (defScope s_law) .none kV_law dV_law pV_law aA_law cV_law tV_law⟩ :=
    { G_program_of := funC_mk (st := s_program_of) l_program_of c_program_of,
      F_program_of := fun_mk (st := s_program_of) l_program_of c_program_of k_program_of,
      q_program_of := (fun_mk (st := s_program_of) l_program_of c_program_of k_program_of).binds (ps := ["a", "b", "c", "m", "many"]) fun _ _ _ _ _ _ us hl => match us, hl with | [_, _, _, _, _], _ => rfl,
      m_program_of := PySem.W.mg_of X G a_program_of,
      k_program_of := k_program_of,
      F_law_mixed := fun_mk (st := s_law_mixed) l_law_mixed c_law_mixed k_law_mixed,
      q_law_mixed := (fun_mk (st := s_law_mixed) l_law_mixed c_law_mixed k_law_mixed).binds (ps := ["_law_cell", "_law_k"]) fun _ _ _ _ _ _ us hl => match us, hl with | [_, _], _ => rfl,
      m_law_mixed := PySem.W.mg_of X G a_law_mixed,
      k_law_mixed := k_law_mixed,
      F_law_number := fun_mk (st := s_law_number) l_law_number c_law_number k_law_number,
      q_law_number := (fun_mk (st := s_law_number) l_law_number c_law_number k_law_number).binds (ps := ["_law_cell", "_law_k"]) fun _ _ _ _ _ _ us hl => match us, hl with | [_, _], _ => rfl,
      m_law_number := PySem.W.mg_of X G a_law_number,
      k_law_number := k_law_number,
      F_law_far := fun_mk (st := s_law_far) l_law_far c_law_far k_law_far,
      q_law_far := (fun_mk (st := s_law_far) l_law_far c_law_far k_law_far).binds (ps := ["_law_cell", "_law_k"]) fun _ _ _ _ _ _ us hl => match us, hl with | [_, _], _ => rfl,
      m_law_far := PySem.W.mg_of X G a_law_far,
      k_law_far := k_law_far,
      F_law_due := fun_mk (st := s_law_due) l_law_due c_law_due k_law_due,
      q_law_due := (fun_mk (st := s_law_due) l_law_due c_law_due k_law_due).binds (ps := ["_law_numbers", "_law_many", "_law_hand", "_law_state", "_law_word"]) fun _ _ _ _ _ _ us hl => match us, hl with | [_, _, _, _, _], _ => rfl,
      m_law_due := PySem.W.mg_of X G a_law_due,
      k_law_due := k_law_due,
      F_law_right := fun_mk (st := s_law_right) l_law_right c_law_right k_law_right,
      q_law_right := (fun_mk (st := s_law_right) l_law_right c_law_right k_law_right).binds (ps := ["_law_found", "_law_due_here"]) fun _ _ _ _ _ _ us hl => match us, hl with | [_, _], _ => rfl,
      m_law_right := PySem.W.mg_of X G a_law_right,
      k_law_right := k_law_right,
      F_law := fun_mk (st := s_law) l_law c_law k_law,
      q_law := (fun_mk (st := s_law) l_law c_law k_law).binds (ps := ["_law_script"]) fun _ _ _ _ _ _ us hl => match us, hl with | [_], _ => rfl,
      m_law := PySem.W.mg_of X G a_law,
      k_law := k_law,
      b_bool := PySem.W.mg_none_of X G b_bool,
      b_isinstance := PySem.W.mg_none_of X G b_isinstance,
      b_len := PySem.W.mg_none_of X G b_len,
      b_list := PySem.W.mg_none_of X G b_list,
      b_max := PySem.W.mg_none_of X G b_max,
      b_range := PySem.W.mg_none_of X G b_range,
      b_tuple := PySem.W.mg_none_of X G b_tuple,
      kt_tuple_tuple := kit_ty (by decide +kernel),
      kt_int_bool := kit_ty (by decide +kernel),
      kt_list_list := kit_ty (by decide +kernel) }
  refine ⟨PySem.W.fnOf "law" "law" (defArgs s_law) (defBody s_law) (defScope s_law) .none kV_law dV_law pV_law aA_law cV_law tV_law, [(t_program_of, p_program_of, "program_of.<locals>.does")], by simp, ?_, fun s v => .of_eq rfl, fun base KB _ TB => ?_⟩
  · intro p hp
    simp only [List.mem_cons, List.not_mem_nil, or_false] at hp
    rcases hp with rfl
    · exact ⟨e_program_of, o_program_of, hd_program_of⟩
  · letI := noGG K
    exact ok_law T ⟨noGG_in, TB (t_program_of, p_program_of, "program_of.<locals>.does") (by simp)⟩
end Law
open PySem PySem.W PyProof.Rows L3 in
set_option maxRecDepth 100000 in
set_option maxHeartbeats 0 in
theorem PySem.Challenge.cw_backline_k72_programs_of_numbers_holds : PySem.Challenge.rw_backline_k72_programs_of_numbers.Holds := by
  w_on; o_law; k_head; (case hw => w_witness2)
  k_fill
  refine walk_tabs (l := PySem.Challenge.rw_backline_k72_programs_of_numbers) (k := 3) (x := "_law_script") rfl rfl ⟨rfl, by decide, by decide⟩ (fun w h Y => PySem.W.km_in_of Y) ?F
  case F =>
    intro w mg fa h Y KX G hmg
    refine' Law.all_mk KX G hmg ?a_law ?a_law_right ?a_law_due ?a_law_far ?a_law_number ?a_law_mixed ?a_program_of ?l_program_of ?c_program_of ?k_program_of ?l_law_mixed ?c_law_mixed ?k_law_mixed ?l_law_number ?c_law_number ?k_law_number ?l_law_far ?c_law_far ?k_law_far ?l_law_due ?c_law_due ?k_law_due ?l_law_right ?c_law_right ?k_law_right ?l_law ?c_law ?k_law ?e_program_of ?o_program_of ?hd_program_of ?gs ?tk ?b_bool ?b_isinstance ?b_len ?b_list ?b_max ?b_range ?b_tuple
    (case a_law => k_is)
    (case a_law_right => k_is)
    (case a_law_due => k_is)
    (case a_law_far => k_is)
    (case a_law_number => k_is)
    (case a_law_mixed => k_is)
    (case a_program_of => k_is)
    (case l_program_of => k_is)
    (case c_program_of => k_is)
    (case k_program_of => k_is)
    (case l_law_mixed => k_is)
    (case c_law_mixed => k_is)
    (case k_law_mixed => k_is)
    (case l_law_number => k_is)
    (case c_law_number => k_is)
    (case k_law_number => k_is)
    (case l_law_far => k_is)
    (case c_law_far => k_is)
    (case k_law_far => k_is)
    (case l_law_due => k_is)
    (case c_law_due => k_is)
    (case k_law_due => k_is)
    (case l_law_right => k_is)
    (case c_law_right => k_is)
    (case k_law_right => k_is)
    (case l_law => k_is)
    (case c_law => k_is)
    (case k_law => k_is)
    (case e_program_of => exact PySem.W.km_tabs_of Y _ List.mem_cons_self)
    (case o_program_of => kernel_rfl)
    (case hd_program_of => kernel_rfl)
    (case gs => k_is)
    (case tk => k_is)
    (case b_bool => k_is)
    (case b_isinstance => k_is)
    (case b_len => k_is)
    (case b_list => k_is)
    (case b_max => k_is)
    (case b_range => k_is)
    (case b_tuple => k_is)
