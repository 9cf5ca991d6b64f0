import PyProof.Rows.All
import Wide.All
import OpenK.AllK
import Wide.FinOn
import HandS.ForMost
import HandS.ForExc
import HandS.TryMany
import HandS.NestedK
import HandS.Walk
import HandS.CallSlots
import HandS.Deep
import HandS.IsInst
import HandS.SortInts
import HandS.Conv
import HandS.ExcIs
import HandS.Text
import HandS.EndTab
import HandS.DictTup
import HandS.DictEq
import KE.SortData
import HandS.Finally
import KE.KDictKeyed
import HandS.Sort
import HandS.NoneIn
import HandS.TupLe
import KE.KDictSum
import KE.KDictCopyH
import KE.DataMinMax
import PySem.Challenge.RW_backline_k33_whole_falls_together
set_option Elab.async false
set_option linter.all false
set_option maxRecDepth 100000
set_option maxHeartbeats 4000000
namespace L3
open PySem PySem.Spec L2 NdefX LamX
/-- what the cells of the running frames that functions have captured hold -/
class GG (K : PySem.W.Frag) where
  cell : Addr → Option V

/-- the words of a function that is made within a def: its statement, name, qualified name, captured names -/
structure Ck where
  st : Stmt
  name : Str
  qual : Str
  fr : List Str
abbrev Ck.nf (k : Ck) (cl : List (Str × Addr)) (c : Addr) : NF := NF.of k.st k.name k.qual cl c
/-- a lambda's words: its parameters, its body, its scope -/
def lamOf : Stmt → Option (Arguments × Expr × Scope)
  | .Expr (.Lambda a b sc _) _ => some (a, b, sc)
  | _ => none
def LamP (f : Addr) (q : Str) (L : Arguments × Expr × Scope) (cl : List (Str × Addr)) (c : Addr) : Heap → Prop := fun h => ∃ (od : Option Addr) (sl : Array (Option Value)) (pm ctv : Value),
  h.get? f = some (⟨.type "function", od, .func (PySem.W.kla_fn "<lambda>" q L.1 L.2.1 L.2.2 cl pm (.ref c) ctv), sl⟩ : Obj)
def DefP (f : Addr) (F : NF) : Heap → Prop := fun h => ∃ (od : Option Addr) (sl : Array (Option Value)) (doc pm ctv : Value), h.get? f = some (⟨.type "function", od, .func (F.fd doc pm ctv), sl⟩ : Obj)
def Ck.foP (k : Ck) (f : Addr) (cl : List (Str × Addr)) (c : Addr) : Heap → Prop := match lamOf k.st with
  | some L => LamP f k.qual L cl c
  | none => DefP f (k.nf cl c)
/-- the function's object -/
abbrev Ck.fo (k : Ck) (f : Addr) (cl : List (Str × Addr)) (c : Addr) : HO := .ext (k.foP f cl c)
theorem Ck.fo_def {k : Ck} (h : lamOf k.st = none) (f : Addr) (cl : List (Str × Addr)) (c : Addr) : k.fo f cl c = FnO f (k.nf cl c) := by
  unfold Ck.fo Ck.foP
  rw [h]
  rfl
theorem Ck.fo_lam {k : Ck} {L : Arguments × Expr × Scope} (h : lamOf k.st = some L) (f : Addr) (cl : List (Str × Addr)) (c : Addr) : k.fo f cl c = .ext (LamP f k.qual L cl c) := by
  unfold Ck.fo Ck.foP
  rw [h]
theorem Ck.fo_at {k : Ck} {f : Addr} {cl : List (Str × Addr)} {c : Addr} {P : Program} {w : World} {H : Hp} {h : Heap} (hok : HOk P w H h) (e : H f = some (k.fo f cl c)) : ∃ (od : Option Addr) (fd : FuncData) (sl : Array (Option Value)), h.get? f = some (⟨.type "function", od, .func fd, sl⟩ : Obj) := by
  cases hl : lamOf k.st with
  | none =>
    rw [k.fo_def hl] at e
    obtain ⟨od, sl, doc, pm, ctv, z⟩ := fnO_at hok e
    exact ⟨od, _, sl, z⟩
  | some L =>
    rw [k.fo_lam hl] at e
    obtain ⟨⟨od, sl, pm, ctv, z⟩, _, _⟩ := hok f _ e
    exact ⟨od, _, sl, z⟩
inductive LV where
  | non | bl (b : Bool) | int (i : Int) | str (x : Str) | ty (n : String) | ref (a : Addr) | scr (ns : List Int)
  | tup (xs : List LV) | lst (xs : List LV) | dT (kvs : List (List Key × LV)) | ins (C : Addr) (fs : List (Str × LV))
  | clo (k : Ck) (xs : List LV)

/-- what stands in the store at an address: a thing that may change -/
inductive LO where
  | lst (xs : List LV) | dK (kvs : List (Key × LV)) | dT (kvs : List (List Key × LV)) | ins (C : Addr) (fs : List (Str × LV)) | tab (q : Str)

abbrev LS := Addr → Option LO
def put (s : LS) (a : Addr) (o : LO) : LS := fun b => if b = a then some o else s b
def del (s : LS) (a : Addr) : LS := fun b => if b = a then none else s b
theorem put_same {s : LS} {a : Addr} {o : LO} : put s a o a = some o := by unfold put; rw [if_pos rfl]
theorem put_ne {s : LS} {a b : Addr} {o : LO} (h : b ≠ a) : put s a o b = s b := by unfold put; rw [if_neg h]
theorem put_put {s : LS} {a : Addr} {o u : LO} : put (put s a o) a u = put s a u := by
  funext b; unfold put; split <;> rfl
theorem del_put {s : LS} {a : Addr} {o : LO} (h : s a = none) : del (put s a o) a = s := by
  funext b; unfold del put
  split
  · next e => rw [e, h]
  · rfl
theorem put_self {s : LS} {a : Addr} {o : LO} (h : s a = some o) : put s a o = s := by
  funext b; unfold put
  split
  · next e => rw [e, h]
  · rfl
theorem ne_put {s : LS} {a b : Addr} {o : LO} (h : put s a o b = none) : b ≠ a ∧ s b = none := by
  unfold put at h
  split at h
  · cases h
  · next e => exact ⟨e, h⟩

def isD (us : List (List Key × V)) (o : HO) : Prop := o = .dT us ∨ ∃ ob, o = .frz ob (.dT us)
theorem isD.inj {us vs : List (List Key × V)} {o : HO} (a : isD us o) (b : isD vs o) : us = vs := by
  rcases a with rfl | ⟨_, rfl⟩ <;> rcases b with e | ⟨_, e⟩ <;> cases e <;> rfl
/-- the same; a dict may be locked; a table of code objects may grow -/
def Eqo (o o' : HO) : Prop := o' = o ∨ (∃ us od, o = .dT us ∧ o' = .frz od (.dT us)) ∨ ∃ ps, o = .tbl ps
theorem Eqo.refl (o : HO) : Eqo o o := .inl rfl
theorem isD.notbl {us : List (List Key × V)} {ps : Array Value} (h : isD us (.tbl ps)) : False := by
  rcases h with h | ⟨_, h⟩ <;> cases h
theorem Eqo.trans {a b c : HO} (x : Eqo a b) (y : Eqo b c) : Eqo a c := by
  rcases x with rfl | ⟨us, od, h1, h2⟩ | ⟨ps, rfl⟩
  · exact y
  · rcases y with rfl | ⟨vs, od', h3, h4⟩ | ⟨ps, rfl⟩
    · exact .inr (.inl ⟨us, od, h1, h2⟩)
    · rw [h2] at h3; cases h3
    · cases h2
  · exact .inr (.inr ⟨ps, rfl⟩)
theorem Eqo.same {a o : HO} (h : Eqo a o) (n1 : ∀ us, a ≠ .dT us) (n2 : ∀ ps, a ≠ .tbl ps) : o = a := by
  rcases h with h | ⟨us, od, h1, _⟩ | ⟨ps, h⟩
  · exact h
  · exact (n1 us h1).elim
  · exact (n2 ps h).elim
theorem Eqo.tup {xs : List V} {o : HO} (h : Eqo (.tup xs) o) : o = .tup xs := h.same (fun us z => by cases z) fun ps z => by cases z
theorem Eqo.lst {xs : List V} {o : HO} (h : Eqo (.lst xs) o) : o = .lst xs := h.same (fun us z => by cases z) fun ps z => by cases z
theorem Eqo.ins {C dx : Addr} {xs : List (Str × V)} {o : HO} (h : Eqo (.ins C dx xs) o) : o = .ins C dx xs := h.same (fun us z => by cases z) fun ps z => by cases z
theorem Eqo.frzL {ob : Obj} {xs : List V} {o : HO} (h : Eqo (.frz ob (.lst xs)) o) : o = .frz ob (.lst xs) := h.same (fun us z => by cases z) fun ps z => by cases z
theorem Eqo.frz {ob : Obj} {u o : HO} (h : Eqo (.frz ob u) o) : o = .frz ob u := h.same (fun us z => by cases z) fun ps z => by cases z
theorem Eqo.ext {φ : Heap → Prop} {o : HO} (h : Eqo (.ext φ) o) : o = .ext φ := h.same (fun us z => by cases z) fun ps z => by cases z
theorem Eqo.isD {us : List (List Key × V)} {o o' : HO} (h : Eqo o o') (d : L3.isD us o) : L3.isD us o' := by
  rcases h with rfl | ⟨vs, od, rfl, rfl⟩ | ⟨ps, rfl⟩
  · exact d
  · rcases d with d | ⟨_, d⟩ <;> cases d
    exact .inr ⟨od, rfl⟩
  · exact d.notbl.elim

/-- from one state to a later one: what the store does not hold stands as it stood, and comes into no store again -/
def Step (s : LS) (H : Hp) (s' : LS) (H' : Hp) : Prop := ∀ a o, H a = some o → s a = none → (∃ o', H' a = some o' ∧ Eqo o o') ∧ s' a = none
theorem Step.refl (s : LS) (H : Hp) : Step s H s H := fun a o h n => ⟨⟨o, h, .refl o⟩, n⟩
theorem Step.trans {s s1 s2 : LS} {H H1 H2 : Hp} (a : Step s H s1 H1) (b : Step s1 H1 s2 H2) : Step s H s2 H2 := fun x o h n => by
  obtain ⟨⟨o1, h1, e1⟩, n1⟩ := a x o h n
  obtain ⟨⟨o2, h2, e2⟩, n2⟩ := b x o1 h1 n1
  exact ⟨⟨o2, h2, e1.trans e2⟩, n2⟩

/-- a captured cell that holds v -/
def CelO (c : Addr) (v : V) : HO := .ext fun h => ∃ u, RelV v u ∧ h.IsCell c (some u)
/-- the captured cell c holds v: its frame is gone, or it runs -/
def CelH (K : PySem.W.Frag) [GG K] (s : LS) (H : Hp) (c : Addr) (v : V) : Prop := (s c = none ∧ H c = some (CelO c v)) ∨ GG.cell K c = some v
section
variable (K : PySem.W.Frag) [GG K] (s : LS) (H : Hp)
def ScrAt (a : Addr) (ns : List Int) : Prop := (s a = none ∧ Rd H a (.lst (ns.map V.int))) ∨
    ∃ (o : Obj) (its : Array Value) (n : Nat), K.lookup a = some o ∧ o.cls = .type "list" ∧ o.dict = none ∧ o.data = .seq its n ∧ its.size ≤ sizeLine ∧ Vals (ns.map V.int) its.toList
mutual
def RV : LV → V → Prop
  | .non, v => v = .non
  | .bl b, v => v = .bl b
  | .int i, v => v = .int i
  | .str x, v => v = .str x
  | .ty n, v => v = .ty n
  | .ref a, v => v = .ref a
  | .scr ns, v => ∃ a, v = .ref a ∧ ScrAt K s H a ns
  | .tup xs, v => ∃ a us, v = .ref a ∧ s a = none ∧ H a = some (.tup us) ∧ RVs xs us
  | .lst xs, v => ∃ a us, v = .ref a ∧ s a = none ∧ H a = some (.lst us) ∧ RVs xs us
  | .dT kvs, v => ∃ a us o, v = .ref a ∧ s a = none ∧ H a = some o ∧ isD us o ∧ RVk kvs us
  | .ins C fs, v => ∃ a dx us, v = .ref a ∧ s a = none ∧ H a = some (.ins C dx us) ∧ RVf fs us
  | .clo k xs, v => ∃ f c cl, v = .ref f ∧ s f = none ∧ H f = some (k.fo f cl c) ∧ s c = none ∧ H c = some (CodeO c k.qual) ∧ cl.map (·.1) = k.fr ∧ (cl.map (·.2)).Nodup ∧ RVc xs (cl.map (·.2))
def RVc : List LV → List Addr → Prop
  | [], cs => cs = []
  | x :: xs, cs => ∃ c r u, cs = c :: r ∧ CelH K s H c u ∧ RV x u ∧ RVc xs r
def RVs : List LV → List V → Prop
  | [], us => us = []
  | x :: xs, us => ∃ u r, us = u :: r ∧ RV x u ∧ RVs xs r
def RVk : List (List Key × LV) → List (List Key × V) → Prop
  | [], us => us = []
  | (k, x) :: xs, us => ∃ u r, us = (k, u) :: r ∧ RV x u ∧ RVk xs r
def RVf : List (Str × LV) → List (Str × V) → Prop
  | [], us => us = []
  | (k, x) :: xs, us => ∃ u r, us = (k, u) :: r ∧ RV x u ∧ RVf xs r
end
end
/-- dicts with plain keys (in the store alone) -/
def RVd (K : PySem.W.Frag) [GG K] (s : LS) (H : Hp) : List (Key × LV) → List (Key × V) → Prop
  | [], us => us = []
  | (k, x) :: xs, us => ∃ u r, us = (k, u) :: r ∧ RV K s H x u ∧ RVd K s H xs r
def ObjR (K : PySem.W.Frag) [GG K] (s : LS) (H : Hp) (a : Addr) : LO → Prop
  | .lst xs => ∃ us, H a = some (.lst us) ∧ RVs K s H xs us
  | .dK kvs => ∃ us, H a = some (.dK us) ∧ RVd K s H kvs us
  | .dT kvs => ∃ us, H a = some (.dT us) ∧ RVk K s H kvs us
  | .ins C fs => ∃ dx us, H a = some (.ins C dx us) ∧ RVf K s H fs us
  | .tab q => ∃ ps, H a = some (.tbl ps) ∧ TriplesOk ps.toList ∧ ∀ (pos : Pos) (cv : Value), codeAmong pos ps.toList = some cv → ∃ c, cv = .ref c ∧ s c = none ∧ H c = some (CodeO c q)
def RelS (K : PySem.W.Frag) [GG K] (s : LS) (H : Hp) : Prop := ∀ a o, s a = some o → ObjR K s H a o

section
variable {K : PySem.W.Frag} [GG K] {s s' : LS} {H H' : Hp}
theorem ScrAt.mono (st : Step s H s' H') {a : Addr} {ns : List Int} (h : ScrAt K s H a ns) : ScrAt K s' H' a ns := by
  rcases h with ⟨n, h | ⟨o, h⟩⟩ | h
  · obtain ⟨⟨o', h', e⟩, n'⟩ := st a _ h n
    rw [e.lst] at h'
    exact .inl ⟨n', .inl h'⟩
  · obtain ⟨⟨o', h', e⟩, n'⟩ := st a _ h n
    rw [e.frzL] at h'
    exact .inl ⟨n', .inr ⟨o, h'⟩⟩
  · exact .inr h
theorem CelH.mono (st : Step s H s' H') {c : Addr} {v : V} (h : CelH K s H c v) : CelH K s' H' c v := by
  rcases h with ⟨n, h⟩ | h
  · obtain ⟨⟨o', h', e⟩, n'⟩ := st c _ h n
    rw [e.ext] at h'
    exact .inl ⟨n', h'⟩
  · exact .inr h
mutual
theorem RV.mono (st : Step s H s' H') : ∀ {x : LV} {v : V}, RV K s H x v → RV K s' H' x v
  | .non, _, h => h
  | .bl _, _, h => h
  | .int _, _, h => h
  | .str _, _, h => h
  | .ty _, _, h => h
  | .ref _, _, h => h
  | .scr _, _, h => by
    simp only [RV] at h ⊢
    obtain ⟨a, e, h⟩ := h
    exact ⟨a, e, h.mono st⟩
  | .tup xs, _, h => by
    simp only [RV] at h ⊢
    obtain ⟨a, us, e, n, h, r⟩ := h
    obtain ⟨⟨o', h', q⟩, n'⟩ := st a _ h n
    rw [q.tup] at h'
    exact ⟨a, us, e, n', h', RVs.mono st r⟩
  | .lst xs, _, h => by
    simp only [RV] at h ⊢
    obtain ⟨a, us, e, n, h, r⟩ := h
    obtain ⟨⟨o', h', q⟩, n'⟩ := st a _ h n
    rw [q.lst] at h'
    exact ⟨a, us, e, n', h', RVs.mono st r⟩
  | .dT kvs, _, h => by
    simp only [RV] at h ⊢
    obtain ⟨a, us, o, e, n, h, d, r⟩ := h
    obtain ⟨⟨o', h', q⟩, n'⟩ := st a _ h n
    exact ⟨a, us, o', e, n', h', q.isD d, RVk.mono st r⟩
  | .ins C fs, _, h => by
    simp only [RV] at h ⊢
    obtain ⟨a, dx, us, e, n, h, r⟩ := h
    obtain ⟨⟨o', h', q⟩, n'⟩ := st a _ h n
    rw [q.ins] at h'
    exact ⟨a, dx, us, e, n', h', RVf.mono st r⟩
  | .clo k xs, _, h => by
    simp only [RV] at h ⊢
    obtain ⟨f, c, cl, e, n, h, n2, h2, k, nd, r⟩ := h
    obtain ⟨⟨o', h', q⟩, n'⟩ := st f _ h n
    obtain ⟨⟨o2, h2', q2⟩, n2'⟩ := st c _ h2 n2
    rw [q.ext] at h'
    rw [q2.ext] at h2'
    exact ⟨f, c, cl, e, n', h', n2', h2', k, nd, RVc.mono st r⟩
theorem RVc.mono (st : Step s H s' H') : ∀ {xs : List LV} {us : List Addr}, RVc K s H xs us → RVc K s' H' xs us
  | [], _, h => by simp only [RVc] at h ⊢; exact h
  | x :: xs, _, h => by
    simp only [RVc] at h ⊢
    obtain ⟨c, r, u, e, h1, h2, h3⟩ := h
    exact ⟨c, r, u, e, h1.mono st, RV.mono st h2, RVc.mono st h3⟩
theorem RVs.mono (st : Step s H s' H') : ∀ {xs : List LV} {us : List V}, RVs K s H xs us → RVs K s' H' xs us
  | [], _, h => by simp only [RVs] at h ⊢; exact h
  | x :: xs, _, h => by
    simp only [RVs] at h ⊢
    obtain ⟨u, r, e, h1, h2⟩ := h
    exact ⟨u, r, e, RV.mono st h1, RVs.mono st h2⟩
theorem RVk.mono (st : Step s H s' H') : ∀ {xs : List (List Key × LV)} {us : List (List Key × V)}, RVk K s H xs us → RVk K s' H' xs us
  | [], _, h => by simp only [RVk] at h ⊢; exact h
  | (k, x) :: xs, _, h => by
    simp only [RVk] at h ⊢
    obtain ⟨u, r, e, h1, h2⟩ := h
    exact ⟨u, r, e, RV.mono st h1, RVk.mono st h2⟩
theorem RVf.mono (st : Step s H s' H') : ∀ {xs : List (Str × LV)} {us : List (Str × V)}, RVf K s H xs us → RVf K s' H' xs us
  | [], _, h => by simp only [RVf] at h ⊢; exact h
  | (k, x) :: xs, _, h => by
    simp only [RVf] at h ⊢
    obtain ⟨u, r, e, h1, h2⟩ := h
    exact ⟨u, r, e, RV.mono st h1, RVf.mono st h2⟩
end
theorem RVd.mono (st : Step s H s' H') : ∀ {xs : List (Key × LV)} {us : List (Key × V)}, RVd K s H xs us → RVd K s' H' xs us
  | [], _, h => by simp only [RVd] at h ⊢; exact h
  | (k, x) :: xs, _, h => by
    simp only [RVd] at h ⊢
    obtain ⟨u, r, e, h1, h2⟩ := h
    exact ⟨u, r, e, RV.mono st h1, RVd.mono st h2⟩
end

section
variable {K : PySem.W.Frag} [GG K] {s : LS} {H : Hp}
theorem RVs.nil : RVs K s H [] [] := by simp only [RVs]
theorem RVs.cons {x : LV} {u : V} {xs : List LV} {us : List V} (a : RV K s H x u) (b : RVs K s H xs us) : RVs K s H (x :: xs) (u :: us) := by
  simp only [RVs]; exact ⟨u, us, rfl, a, b⟩
theorem RVs.length : ∀ {xs : List LV} {us : List V}, RVs K s H xs us → us.length = xs.length
  | [], _, h => by simp only [RVs] at h; rw [h]; rfl
  | x :: xs, _, h => by
    simp only [RVs] at h
    obtain ⟨u, r, rfl, _, h2⟩ := h
    simp [RVs.length h2]
theorem RVs.get : ∀ {xs : List LV} {us : List V} {i : Nat} {x : LV}, RVs K s H xs us → xs[i]? = some x → ∃ u, us[i]? = some u ∧ RV K s H x u
  | [], _, _, _, _, e => by simp at e
  | y :: xs, _, 0, x, h, e => by
    simp only [RVs] at h
    obtain ⟨u, r, rfl, h1, _⟩ := h
    simp at e; subst e
    exact ⟨u, rfl, h1⟩
  | y :: xs, _, i + 1, x, h, e => by
    simp only [RVs] at h
    obtain ⟨u, r, rfl, _, h2⟩ := h
    obtain ⟨v, a, b⟩ := RVs.get (i := i) (x := x) h2 (by simpa using e)
    exact ⟨v, by simpa using a, b⟩
theorem RVs.get' : ∀ {xs : List LV} {us : List V} {i : Nat} {u : V}, RVs K s H xs us → us[i]? = some u → ∃ x, xs[i]? = some x ∧ RV K s H x u
  | [], _, _, _, h, e => by simp only [RVs] at h; subst h; simp at e
  | y :: xs, _, 0, u, h, e => by
    simp only [RVs] at h
    obtain ⟨v, r, rfl, h1, _⟩ := h
    simp at e; subst e
    exact ⟨y, rfl, h1⟩
  | y :: xs, _, i + 1, u, h, e => by
    simp only [RVs] at h
    obtain ⟨v, r, rfl, _, h2⟩ := h
    obtain ⟨w, a, b⟩ := RVs.get' (i := i) (u := u) h2 (by simpa using e)
    exact ⟨w, by simpa using a, b⟩
theorem RVs.append : ∀ {xs ys : List LV} {us vs : List V}, RVs K s H xs us → RVs K s H ys vs → RVs K s H (xs ++ ys) (us ++ vs)
  | [], _, _, _, h, g => by simp only [RVs] at h; subst h; exact g
  | x :: xs, _, _, _, h, g => by
    simp only [RVs] at h
    obtain ⟨u, r, rfl, h1, h2⟩ := h
    exact .cons h1 (RVs.append h2 g)
theorem RVs.take : ∀ {xs : List LV} {us : List V} (n : Nat), RVs K s H xs us → RVs K s H (xs.take n) (us.take n)
  | [], _, n, h => by simp only [RVs] at h; subst h; simp; exact .nil
  | x :: xs, _, 0, h => .nil
  | x :: xs, _, n + 1, h => by
    simp only [RVs] at h
    obtain ⟨u, r, rfl, h1, h2⟩ := h
    exact .cons h1 (RVs.take n h2)
theorem RVs.drop : ∀ {xs : List LV} {us : List V} (n : Nat), RVs K s H xs us → RVs K s H (xs.drop n) (us.drop n)
  | _, _, 0, h => h
  | [], _, n + 1, h => by simp only [RVs] at h; subst h; simp; exact .nil
  | x :: xs, _, n + 1, h => by
    simp only [RVs] at h
    obtain ⟨u, r, rfl, h1, h2⟩ := h
    exact RVs.drop n h2
theorem RVs.set : ∀ {xs : List LV} {us : List V} (i : Nat) {x : LV} {u : V}, RVs K s H xs us → RV K s H x u → RVs K s H (xs.set i x) (us.set i u)
  | [], _, _, _, _, h, _ => by simp only [RVs] at h; subst h; exact .nil
  | y :: xs, _, 0, _, _, h, g => by
    simp only [RVs] at h
    obtain ⟨u, r, rfl, h1, h2⟩ := h
    exact .cons g h2
  | y :: xs, _, i + 1, _, _, h, g => by
    simp only [RVs] at h
    obtain ⟨u, r, rfl, h1, h2⟩ := h
    exact .cons h1 (RVs.set i h2 g)
theorem RVs.ints : ∀ (ns : List Int), RVs K s H (ns.map LV.int) (ns.map V.int)
  | [] => .nil
  | n :: ns => .cons (by simp only [RV]) (RVs.ints ns)
theorem RVs.of_ints : ∀ {ns : List Int} {us : List V}, RVs K s H (ns.map LV.int) us → us = ns.map V.int
  | [], _, h => by simpa only [List.map_nil, RVs] using h
  | n :: ns, _, h => by
    simp only [List.map_cons, RVs, RV] at h
    obtain ⟨u, r, rfl, rfl, h2⟩ := h
    rw [RVs.of_ints h2]; rfl
theorem RVs.reverse : ∀ {xs : List LV} {us : List V}, RVs K s H xs us → RVs K s H xs.reverse us.reverse
  | [], _, h => by simp only [RVs] at h; subst h; exact .nil
  | x :: xs, _, h => by
    simp only [RVs] at h
    obtain ⟨u, r, rfl, h1, h2⟩ := h
    rw [List.reverse_cons, List.reverse_cons]
    exact (RVs.reverse h2).append (.cons h1 .nil)
def putL (f : Str) (v : LV) : List (Str × LV) → List (Str × LV)
  | [] => [(f, v)]
  | (g, u) :: r => if g = f then (g, v) :: r else (g, u) :: putL f v r
theorem RVf.look : ∀ {fs : List (Str × LV)} {us : List (Str × V)} {f : Str} {x : LV}, RVf K s H fs us → fs.lookup f = some x → ∃ v, us.lookup f = some v ∧ RV K s H x v
  | [], _, _, _, _, e => by simp at e
  | (g, y) :: fs, _, f, x, h, e => by
    simp only [RVf] at h
    obtain ⟨u, r, rfl, h1, h2⟩ := h
    rw [List.lookup_cons] at e ⊢
    cases q : f == g with
    | true => rw [q] at e; cases e; exact ⟨u, rfl, h1⟩
    | false => rw [q] at e; exact RVf.look h2 e
theorem RVf.look0 : ∀ {fs : List (Str × LV)} {us : List (Str × V)} {f : Str}, RVf K s H fs us → fs.lookup f = none → us.lookup f = none
  | [], _, _, h, e => by simp only [RVf] at h; subst h; rfl
  | (g, y) :: fs, _, f, h, e => by
    simp only [RVf] at h
    obtain ⟨u, r, rfl, h1, h2⟩ := h
    rw [List.lookup_cons] at e ⊢
    cases q : f == g with
    | true => rw [q] at e; cases e
    | false => rw [q] at e; exact RVf.look0 h2 e
theorem RVf.put : ∀ {fs : List (Str × LV)} {us : List (Str × V)} (f : Str) {x : LV} {v : V}, RVf K s H fs us → RV K s H x v → RVf K s H (putL f x fs) (putF f v us)
  | [], _, f, x, v, h, g => by
    simp only [RVf] at h; subst h
    show RVf K s H [(f, x)] [(f, v)]
    simp only [RVf]
    exact ⟨v, [], rfl, g, rfl⟩
  | (k, y) :: fs, _, f, x, v, h, g => by
    simp only [RVf] at h
    obtain ⟨u, r, rfl, h1, h2⟩ := h
    show RVf K s H (if k = f then (k, x) :: fs else (k, y) :: putL f x fs) (if k = f then (k, v) :: r else (k, u) :: putF f v r)
    split
    · simp only [RVf]; exact ⟨v, r, rfl, g, h2⟩
    · simp only [RVf]; exact ⟨u, _, rfl, h1, RVf.put f h2 g⟩
theorem RVf.length : ∀ {xs : List (Str × LV)} {us : List (Str × V)}, RVf K s H xs us → us.length = xs.length
  | [], _, h => by simp only [RVf] at h; rw [h]; rfl
  | (k, x) :: xs, _, h => by
    simp only [RVf] at h
    obtain ⟨u, r, rfl, _, h2⟩ := h
    simp [RVf.length h2]
theorem RVk.length : ∀ {xs : List (List Key × LV)} {us : List (List Key × V)}, RVk K s H xs us → us.length = xs.length
  | [], _, h => by simp only [RVk] at h; rw [h]; rfl
  | (k, x) :: xs, _, h => by
    simp only [RVk] at h
    obtain ⟨u, r, rfl, _, h2⟩ := h
    simp [RVk.length h2]
/-- the value at a key -/
def valL {κ : Type} [DecidableEq κ] : List (κ × LV) → κ → Option LV
  | [], _ => none
  | (j, x) :: r, k => if j = k then some x else valL r k
def putD {κ : Type} [DecidableEq κ] (kvs : List (κ × LV)) (k : κ) (v : LV) : List (κ × LV) :=
  if (kvs.any fun p => decide (p.1 = k)) = true then kvs.map (fun p => if p.1 = k then (p.1, v) else p) else kvs ++ [(k, v)]
end
end L3

namespace L3
open PySem PySem.Spec L2

abbrev LSt := List (Option LV)
abbrev LVK := LV → LS → Prop
/-- an exception that leaves: its class, the store -/
abbrev LX := Addr → LS → Prop
/-- .. with the slots -/
abbrev LXS := Addr → LSt → LS → Prop
abbrev LTE := LSt → LS → LVK → LX → Prop
abbrev LTT := LSt → LS → (Bool → LS → Prop) → LX → Prop
abbrev LTA := LSt → LS → (List LV → LS → Prop) → LX → Prop
structure LEnds where
  nx : LSt → LS → Prop
  rt : LVK
  bk : LSt → LS → Prop
  ct : LSt → LS → Prop
  ex : LXS
@[reducible] def LEnds.wnx (D : LEnds) (u : LSt → LS → Prop) : LEnds := { D with nx := u }
@[reducible] def LEnds.wex (D : LEnds) (u : LXS) : LEnds := { D with ex := u }
/-- within a loop: the next turn -/
@[reducible] def LEnds.wlp (D : LEnds) (u : LSt → LS → Prop) : LEnds := { D with nx := u, ct := u, bk := D.nx }
abbrev LTS := LEnds → LSt → LS → Prop
abbrev LTG := LV → LSt → LS → (LSt → LS → Prop) → LX → Prop

section
variable (K : PySem.W.Frag) [GG K] (s : LS) (H : Hp)
def RSt : LSt → St → Prop
  | [], vs => vs = []
  | none :: xs, vs => ∃ v r, vs = v :: r ∧ RSt xs r
  | some x :: xs, vs => ∃ v r, vs = some v :: r ∧ RV K s H x v ∧ RSt xs r
end
section
variable {K : PySem.W.Frag} [GG K] {s s' : LS} {H H' : Hp}
theorem RSt.mono (st : Step s H s' H') : ∀ {xs : LSt} {vs : St}, RSt K s H xs vs → RSt K s' H' xs vs
  | [], _, h => h
  | none :: xs, _, h => let ⟨v, r, e, h⟩ := h; ⟨v, r, e, RSt.mono st h⟩
  | some x :: xs, _, h => let ⟨v, r, e, g, h⟩ := h; ⟨v, r, e, g.mono st, RSt.mono st h⟩
theorem RSt.get : ∀ {xs : LSt} {vs : St} {i : Nat} {x : LV}, RSt K s H xs vs → xs[i]? = some (some x) → ∃ v, vs[i]? = some (some v) ∧ RV K s H x v
  | [], _, _, _, _, e => by simp at e
  | none :: xs, _, 0, _, _, e => by simp at e
  | some y :: xs, _, 0, x, h, e => by
    obtain ⟨v, r, rfl, g, h⟩ := h
    simp at e; subst e
    exact ⟨v, rfl, g⟩
  | none :: xs, _, i + 1, x, h, e => by
    obtain ⟨v, r, rfl, h⟩ := h
    obtain ⟨w, a, b⟩ := RSt.get (i := i) (x := x) h (by simpa using e)
    exact ⟨w, by simpa using a, b⟩
  | some y :: xs, _, i + 1, x, h, e => by
    obtain ⟨v, r, rfl, g, h⟩ := h
    obtain ⟨w, a, b⟩ := RSt.get (i := i) (x := x) h (by simpa using e)
    exact ⟨w, by simpa using a, b⟩
theorem RSt.set : ∀ {xs : LSt} {vs : St} (i : Nat) {x : LV} {v : V}, RSt K s H xs vs → RV K s H x v → RSt K s H (xs.set i (some x)) (vs.set i (some v))
  | [], _, _, _, _, h, _ => by cases h; rfl
  | none :: xs, _, 0, _, _, h, g => by obtain ⟨v, r, rfl, h⟩ := h; exact ⟨_, r, rfl, g, h⟩
  | some y :: xs, _, 0, _, _, h, g => by obtain ⟨v, r, rfl, _, h⟩ := h; exact ⟨_, r, rfl, g, h⟩
  | none :: xs, _, i + 1, _, _, h, g => by obtain ⟨v, r, rfl, h⟩ := h; exact ⟨v, _, rfl, RSt.set i h g⟩
  | some y :: xs, _, i + 1, _, _, h, g => by obtain ⟨v, r, rfl, g', h⟩ := h; exact ⟨v, _, rfl, g', RSt.set i h g⟩
theorem RSt.setN : ∀ {xs : LSt} {vs : St} (i : Nat) (v : Option V), RSt K s H xs vs → RSt K s H (xs.set i none) (vs.set i v)
  | [], _, _, _, h => by cases h; rfl
  | none :: xs, _, 0, v, h => by obtain ⟨_, r, rfl, h⟩ := h; exact ⟨v, r, rfl, h⟩
  | some y :: xs, _, 0, v, h => by obtain ⟨_, r, rfl, _, h⟩ := h; exact ⟨v, r, rfl, h⟩
  | none :: xs, _, i + 1, v, h => by obtain ⟨_, r, rfl, h⟩ := h; exact ⟨_, _, rfl, RSt.setN i v h⟩
  | some y :: xs, _, i + 1, v, h => by obtain ⟨_, r, rfl, g, h⟩ := h; exact ⟨_, _, rfl, g, RSt.setN i v h⟩
theorem RSt.nones : ∀ (n : Nat), RSt K s H (List.replicate n none) (List.replicate n none)
  | 0 => rfl
  | n + 1 => ⟨none, _, rfl, RSt.nones n⟩
theorem RSt.append : ∀ {xs ys : LSt} {us vs : St}, RSt K s H xs us → RSt K s H ys vs → RSt K s H (xs ++ ys) (us ++ vs)
  | [], _, _, _, h, g => by cases h; exact g
  | none :: xs, _, _, _, h, g => by obtain ⟨v, r, rfl, h⟩ := h; exact ⟨v, _, rfl, RSt.append h g⟩
  | some x :: xs, _, _, _, h, g => by obtain ⟨v, r, rfl, g', h⟩ := h; exact ⟨v, _, rfl, g', RSt.append h g⟩
theorem RSt.vals : ∀ {xs : List LV} {us : List V}, RVs K s H xs us → RSt K s H (xs.map some) (us.map some)
  | [], _, h => by simp only [RVs] at h; subst h; rfl
  | x :: xs, _, h => by
    simp only [RVs] at h
    obtain ⟨u, r, rfl, h1, h2⟩ := h
    exact ⟨u, _, rfl, h1, RSt.vals h2⟩
end

/-- the wish about exceptions, lifted -/
def WL (K : PySem.W.Frag) [GG K] (s0 : LS) (H0 : Hp) (E : LXS) : WX := fun cls d σ H => ∃ C σl s, cls = .ref C ∧ d = none ∧ RSt K s H σl σ ∧ RelS K s H ∧ Step s0 H0 s H ∧ E C σl s
def up (K : PySem.W.Frag) [GG K] (s0 : LS) (H0 : Hp) (E : LXS) (t : LTE) : TE := fun σ H Q => ∃ σl s Q0 E1, RSt K s H σl σ ∧ RelS K s H ∧ Step s0 H0 s H ∧ (∀ C s', E1 C s' → E C σl s') ∧ t σl s Q0 E1 ∧
  ∀ lv s' v H', Q0 lv s' → Step s H s' H' → RelS K s' H' → RV K s' H' lv v → Q v H'
def upT (K : PySem.W.Frag) [GG K] (s0 : LS) (H0 : Hp) (E : LXS) (t : LTT) : TT := fun σ H Q => ∃ σl s Q0 E1, RSt K s H σl σ ∧ RelS K s H ∧ Step s0 H0 s H ∧ (∀ C s', E1 C s' → E C σl s') ∧ t σl s Q0 E1 ∧
  ∀ b s' H', Q0 b s' → Step s H s' H' → RelS K s' H' → Q b H'
def upA (K : PySem.W.Frag) [GG K] (s0 : LS) (H0 : Hp) (E : LXS) (t : LTA) : TA := fun σ H Q => ∃ σl s Q0 E1, RSt K s H σl σ ∧ RelS K s H ∧ Step s0 H0 s H ∧ (∀ C s', E1 C s' → E C σl s') ∧ t σl s Q0 E1 ∧
  ∀ lvs s' vs H', Q0 lvs s' → Step s H s' H' → RelS K s' H' → RVs K s' H' lvs vs → Q vs H'
/-- the ends, lifted, from the state s, H -/
structure DnE (K : PySem.W.Frag) [GG K] (E : LXS) (s : LS) (H : Hp) (Dl : LEnds) (D : Ends) : Prop where
  nx : ∀ σl s' σ H', Dl.nx σl s' → Step s H s' H' → RelS K s' H' → RSt K s' H' σl σ → D.nx σ H'
  rt : ∀ lv s' v H', Dl.rt lv s' → Step s H s' H' → RelS K s' H' → RV K s' H' lv v → D.rt v H'
  bk : ∀ σl s' σ H', Dl.bk σl s' → Step s H s' H' → RelS K s' H' → RSt K s' H' σl σ → D.bk σ H'
  ct : ∀ σl s' σ H', Dl.ct σl s' → Step s H s' H' → RelS K s' H' → RSt K s' H' σl σ → D.ct σ H'
  ex : ∀ C σl s', Dl.ex C σl s' → E C σl s'
theorem DnE.mono {K : PySem.W.Frag} [GG K] {E : LXS} {s s1 : LS} {H H1 : Hp} {Dl : LEnds} {D : Ends} (d : DnE K E s H Dl D) (st : Step s H s1 H1) : DnE K E s1 H1 Dl D :=
  ⟨fun a b c e h t => d.nx a b c e h (st.trans t), fun a b c e h t => d.rt a b c e h (st.trans t), fun a b c e h t => d.bk a b c e h (st.trans t), fun a b c e h t => d.ct a b c e h (st.trans t), d.ex⟩
def upS (K : PySem.W.Frag) [GG K] (s0 : LS) (H0 : Hp) (E : LXS) (t : LTS) : TS := fun D σ H => ∃ σl s Dl, RSt K s H σl σ ∧ RelS K s H ∧ Step s0 H0 s H ∧ t Dl σl s ∧ DnE K E s H Dl D
def upG (K : PySem.W.Frag) [GG K] (s0 : LS) (H0 : Hp) (E : LXS) (t : LTG) : TG := fun v σ H Q => ∃ lv σl s Q0 E1, RSt K s H σl σ ∧ RelS K s H ∧ Step s0 H0 s H ∧ RV K s H lv v ∧ (∀ C s', E1 C s' → E C σl s') ∧ t lv σl s Q0 E1 ∧
  ∀ σl' s' σ' H', Q0 σl' s' → Step s H s' H' → RelS K s' H' → RSt K s' H' σl' σ' → Q σ' H'

def LE (X : Cx) [GG X.K] (e : Expr) (t : LTE) : Prop := ∀ s0 H0 E, Takes X (WL X.K s0 H0 E) → PE X e (up X.K s0 H0 E t)
def LT (X : Cx) [GG X.K] (e : Expr) (t : LTT) : Prop := ∀ s0 H0 E, Takes X (WL X.K s0 H0 E) → PT X e (upT X.K s0 H0 E t)
def LW (X : Cx) [GG X.K] (e : Expr) (t : LTT) : Prop := ∀ s0 H0 E, Takes X (WL X.K s0 H0 E) → PW X e (upT X.K s0 H0 E t)
def LA (X : Cx) [GG X.K] (es : List Expr) (t : LTA) : Prop := ∀ s0 H0 E, Takes X (WL X.K s0 H0 E) → PA X es (upA X.K s0 H0 E t)
def LP (X : Cx) [GG X.K] (st : Stmt) (t : LTS) : Prop := ∀ s0 H0 E, Takes X (WL X.K s0 H0 E) → PassesOwn (model X.prog X.w) X.A X.env X.xe → PS X st (upS X.K s0 H0 E t)
def LPs (X : Cx) [GG X.K] (st : List Stmt) (t : LTS) : Prop := ∀ s0 H0 E, Takes X (WL X.K s0 H0 E) → PassesOwn (model X.prog X.w) X.A X.env X.xe → PSs X st (upS X.K s0 H0 E t)
def LG (X : Cx) [GG X.K] (e : Expr) (t : LTG) : Prop := ∀ s0 H0 E, Takes X (WL X.K s0 H0 E) → PG X e (upG X.K s0 H0 E t)

theorem _root_.L2.PE.imp {X : Cx} [GG X.K] {e : Expr} {t t' : TE} (h : PE X e t) (i : ∀ σ H Q, t' σ H Q → t σ H Q) : PE X e t' := ⟨fun pins s σ H Q I q => h.run pins s σ H Q I (i _ _ _ q)⟩
theorem _root_.L2.PT.imp {X : Cx} [GG X.K] {e : Expr} {t t' : TT} (h : PT X e t) (i : ∀ σ H Q, t' σ H Q → t σ H Q) : PT X e t' := ⟨fun pins s σ H Q I q => h.run pins s σ H Q I (i _ _ _ q)⟩
theorem _root_.L2.PW.imp {X : Cx} [GG X.K] {e : Expr} {t t' : TT} (h : PW X e t) (i : ∀ σ H Q, t' σ H Q → t σ H Q) : PW X e t' := ⟨fun wh pins s σ H Q I q => h.run wh pins s σ H Q I (i _ _ _ q)⟩
theorem _root_.L2.PA.imp {X : Cx} [GG X.K] {e : List Expr} {t t' : TA} (h : PA X e t) (i : ∀ σ H Q, t' σ H Q → t σ H Q) : PA X e t' := ⟨fun pos pins s σ H Q I q => h.run pos pins s σ H Q I (i _ _ _ q)⟩
theorem _root_.L2.PS.imp {X : Cx} [GG X.K] {e : Stmt} {t t' : TS} (h : PS X e t) (i : ∀ D σ H, t' D σ H → t D σ H) : PS X e t' := ⟨fun pins s σ H D I q => h.run pins s σ H D I (i _ _ _ q)⟩
theorem _root_.L2.PSs.imp {X : Cx} [GG X.K] {e : List Stmt} {t t' : TS} (h : PSs X e t) (i : ∀ D σ H, t' D σ H → t D σ H) : PSs X e t' := ⟨fun pins s σ H D I q => h.run pins s σ H D I (i _ _ _ q)⟩
theorem _root_.L2.PG.imp {X : Cx} [GG X.K] {e : Expr} {t t' : TG} (h : PG X e t) (i : ∀ v σ H Q, t' v σ H Q → t v σ H Q) : PG X e t' := ⟨fun pins s σ H v u Q I r q => h.run pins s σ H v u Q I r (i _ _ _ _ q)⟩

def lVar (i : Nat) : LTE := fun σ s Q _ => match σ[i]? with
  | some (some v) => Q v s
  | _ => False
def lC (v : LV) : LTE := fun _ s Q _ => Q v s
section
variable {X : Cx} [GG X.K] {e a b : Expr} {pos : Pos}
theorem le_of_pe_var {i : Nat} (h : PE X e (tVar i)) : LE X e (lVar i) := fun s0 H0 E tk => h.imp fun σ H Q ⟨σl, s, Q0, E1, hσ, hs, st, hE, h, k⟩ => by
  unfold lVar at h
  split at h
  · next v e =>
    obtain ⟨u, hu, r⟩ := hσ.get e
    exact ⟨u, hu, k _ _ _ _ h (.refl _ _) hs r⟩
  · exact h.elim
theorem lv (i : Nat) {x : Str} {pos : Pos} (hN : X.N[i]? = some x := by rfl) (hv : Vis X.env.scope x := by first | exact Or.inl rfl | exact Or.inr (Or.inl rfl) | exact Or.inr (Or.inr rfl)) (hd : (x == ("__debug__" : Str)) = false := by decide)
    (hcd : (x == ("__classdict__" : Str)) = false := by decide) : LE X (.Name x pos) (lVar i) := le_of_pe_var (pe_var hN hv hd hcd)
theorem le_of_pe_c {v : V} {x : LV} (h : PE X e (tC v)) (r : ∀ s H, RV X.K s H x v) : LE X e (lC x) := fun s0 H0 E tk => h.imp fun σ H Q ⟨σl, s, Q0, E1, hσ, hs, st, hE, h, k⟩ =>
  k _ _ _ _ h (.refl _ _) hs (r _ _)
theorem le_int {i j} : LE X (.Constant (.int i) j pos) (lC (.int i)) := le_of_pe_c pe_int fun _ _ => by simp only [RV]
theorem le_bl {i j} : LE X (.Constant (.bool i) j pos) (lC (.bl i)) := le_of_pe_c pe_bl fun _ _ => by simp only [RV]
theorem le_non {j} : LE X (.Constant .none j pos) (lC .non) := le_of_pe_c pe_non fun _ _ => by simp only [RV]
theorem le_str {x j} : LE X (.Constant (.str x) j pos) (lC (.str x)) := le_of_pe_c pe_str fun _ _ => by simp only [RV]
/-- a class or a def of the module as a value -/
theorem le_glob {x : Str} {c : Addr} (hg : Gl X x) (hm : X.mg x = some (.ref c)) (hd : (x == ("__debug__" : Str)) = false := by decide) : LE X (.Name x pos) (lC (.ref c)) :=
  le_of_pe_c (v := .ref c) (pe_glob hg hm rfl hd) fun _ _ => by simp only [RV]
theorem le_bty {x : Str} {n : String} (hg : Gl X x) (hm : X.mg x = none) (hv : bootBuiltins x = some (.type n)) (hn : x ≠ "__name__" := by decide) (hd : (x == ("__debug__" : Str)) = false := by decide) : LE X (.Name x pos) (lC (.ty n)) :=
  le_of_pe_c (v := .ty n) (pe_bltn hg hm hv rfl hn hd) fun _ _ => by simp only [RV]

abbrev LR2 := LV → LV → LS → LVK → Prop
abbrev LR1 := LV → LS → LVK → Prop
def lOp (r : LR2) (ta tb : LTE) : LTE := fun σ s Q E => ta σ s (fun x s1 => tb σ s1 (fun y s2 => r x y s2 Q) E) E
def lUn (r : LR1) (ta : LTE) : LTE := fun σ s Q E => ta σ s (fun x s1 => r x s1 Q) E
/-- what lies between: a rule on values -/
def Up2 (K : PySem.W.Frag) [GG K] (r : R2) (rl : LR2) : Prop := ∀ x y s H lx ly Q0 Q, RelS K s H → RV K s H lx x → RV K s H ly y → rl lx ly s Q0 →
  (∀ lv s' v H', Q0 lv s' → Step s H s' H' → RelS K s' H' → RV K s' H' lv v → Q v H') → r x y H Q
def Up1 (K : PySem.W.Frag) [GG K] (r : V → Hp → VK → Prop) (rl : LR1) : Prop := ∀ x s H lx Q0 Q, RelS K s H → RV K s H lx x → rl lx s Q0 →
  (∀ lv s' v H', Q0 lv s' → Step s H s' H' → RelS K s' H' → RV K s' H' lv v → Q v H') → r x H Q
variable {ta tb tc te : LTE}
theorem up_op {K : PySem.W.Frag} [GG K] {s0 : LS} {H0 : Hp} {E : LXS} {r : R2} {rl : LR2} (u : Up2 K r rl) {σ : St} {H : Hp} {Q : VK} (h : up K s0 H0 E (lOp rl ta tb) σ H Q) : tOp r (up K s0 H0 E ta) (up K s0 H0 E tb) σ H Q := by
  obtain ⟨σl, s, Q0, E1, hσ, hs, st, hE, h, k⟩ := h
  refine ⟨σl, s, _, E1, hσ, hs, st, hE, h, fun lx s1 x H1 h st1 hs1 rx => ?_⟩
  refine ⟨σl, s1, _, E1, hσ.mono st1, hs1, st.trans st1, hE, h, fun ly s2 y H2 h st2 hs2 ry => ?_⟩
  exact u x y s2 H2 lx ly Q0 Q hs2 (rx.mono st2) ry h fun lv s3 v H3 q st3 => k lv s3 v H3 q ((st1.trans st2).trans st3)
theorem le_op {op : Operator} {r : R2} {rl : LR2} (ho : OpR X (binaryOp op) r) (u : Up2 X.K r rl) (ha : LE X a ta) (hb : LE X b tb) : LE X (.BinOp a op b pos) (lOp rl ta tb) := fun s0 H0 E tk =>
  (pe_op ho (ha s0 H0 E tk) (hb s0 H0 E tk)).imp fun σ H Q h => up_op u h
theorem le_cmp {op : CmpOp} {r : R2} {rl : LR2} (ho : OpR X (compareOp op) r) (u : Up2 X.K r rl) (ha : LE X a ta) (hb : LE X b tb) (hm : behindInMarks op b = false) : LE X (.Compare a [op] [b] pos) (lOp rl ta tb) := fun s0 H0 E tk =>
  (pe_cmpR ho (ha s0 H0 E tk) (hb s0 H0 E tk) hm).imp fun σ H Q h => up_op u h
theorem le_ix {r : R2} {rl : LR2} (ho : IxR X r) (u : Up2 X.K r rl) (ha : LE X a ta) (hb : LE X b tb) (hs : PlainIx b) : LE X (.Subscript a b pos) (lOp rl ta tb) := fun s0 H0 E tk =>
  (pe_ix ho (ha s0 H0 E tk) (hb s0 H0 E tk) hs).imp fun σ H Q h => up_op u h
theorem le_un {op : UnaryOp} {r : V → Hp → VK → Prop} {rl : LR1} (ho : UnR X (unaryOp op) r) (u : Up1 X.K r rl) (ha : LE X a ta) : LE X (.UnaryOp op a pos) (lUn rl ta) := fun s0 H0 E tk =>
  (pe_un ho (ha s0 H0 E tk)).imp fun σ H Q ⟨σl, s, Q0, E1, hσ, hs, st, hE, h, k⟩ => ⟨σl, s, _, E1, hσ, hs, st, hE, h, fun lx s1 x H1 h st1 hs1 rx => u x s1 H1 lx Q0 Q hs1 rx h fun lv s3 v H3 q st3 => k lv s3 v H3 q (st1.trans st3)⟩

/-- a value that is a bool, as a test -/
def isBl (x : LV) (k : Bool → Prop) : Prop := match x with
  | .bl c => k c
  | _ => False
def lB (t : LTE) : LTT := fun σ s Q E => t σ s (fun x s1 => isBl x fun c => Q c s1) E
theorem lb_ok {x : LV} {k : Bool → Prop} (h : isBl x k) : ∃ c, x = .bl c ∧ k c := by
  cases x <;> first | exact ⟨_, rfl, h⟩ | exact h.elim
theorem RV.bl' {K : PySem.W.Frag} [GG K] {s : LS} {H : Hp} {b : Bool} {v : V} (h : RV K s H (.bl b) v) : v = .bl b := by simpa only [RV] using h
theorem RV.int' {K : PySem.W.Frag} [GG K] {s : LS} {H : Hp} {b : Int} {v : V} (h : RV K s H (.int b) v) : v = .int b := by simpa only [RV] using h
theorem RV.str' {K : PySem.W.Frag} [GG K] {s : LS} {H : Hp} {b : Str} {v : V} (h : RV K s H (.str b) v) : v = .str b := by simpa only [RV] using h
theorem RV.ref' {K : PySem.W.Frag} [GG K] {s : LS} {H : Hp} {b : Addr} {v : V} (h : RV K s H (.ref b) v) : v = .ref b := by simpa only [RV] using h
theorem RV.non' {K : PySem.W.Frag} [GG K] {s : LS} {H : Hp} {v : V} (h : RV K s H .non v) : v = .non := by simpa only [RV] using h
theorem RV.bl {K : PySem.W.Frag} [GG K] {s : LS} {H : Hp} {b : Bool} : RV K s H (.bl b) (.bl b) := by simp only [RV]
theorem RV.int {K : PySem.W.Frag} [GG K] {s : LS} {H : Hp} {b : Int} : RV K s H (.int b) (.int b) := by simp only [RV]
theorem RV.str {K : PySem.W.Frag} [GG K] {s : LS} {H : Hp} {b : Str} : RV K s H (.str b) (.str b) := by simp only [RV]
theorem RV.ref {K : PySem.W.Frag} [GG K] {s : LS} {H : Hp} {b : Addr} : RV K s H (.ref b) (.ref b) := by simp only [RV]
theorem RV.non {K : PySem.W.Frag} [GG K] {s : LS} {H : Hp} : RV K s H .non .non := by simp only [RV]
theorem lt_val (ha : LE X a ta) (he : ∀ whole, isTrue a X.env whole = (do let v ← whole; standAt a.pos; holding [v] (truthy v)) := by intro _; rfl) : LT X a (lB ta) := fun s0 H0 E tk =>
  (pt_val (ha s0 H0 E tk) he).imp fun σ H Q ⟨σl, s, Q0, E1, hσ, hs, st, hE, h, k⟩ => ⟨σl, s, _, E1, hσ, hs, st, hE, h, fun lx s1 x H1 h st1 hs1 rx => by
    obtain ⟨c, rfl, h⟩ := lb_ok h
    exact ⟨c, rx.bl', k _ _ _ h st1 hs1⟩⟩
theorem lt_cmp {op : CmpOp} {r : R2} {rl : LR2} (ho : OpR X (compareOp op) r) (u : Up2 X.K r rl) (ha : LE X a ta) (hb : LE X b tb) (hm : behindInMarks op b = false) : LT X (.Compare a [op] [b] pos) (lB (lOp rl ta tb)) := fun s0 H0 E tk =>
  (pt_cmpR ho (ha s0 H0 E tk) (hb s0 H0 E tk) hm).imp fun σ H Q ⟨σl, s, Q0, E1, hσ, hs, st, hE, h, k⟩ => by
    refine up_op u (Q := fun x H' => ∃ k, x = .bl k ∧ Q k H') ⟨σl, s, _, E1, hσ, hs, st, hE, h, fun lx s1 x H1 h st1 hs1 rx => ?_⟩
    obtain ⟨c, rfl, h⟩ := lb_ok h
    exact ⟨c, rx.bl', k _ _ _ h st1 hs1⟩
variable {tA tB : LTT} {rest : List Expr}
def lAnd (t u : LTT) : LTT := fun σ s Q E => t σ s (fun c s1 => (c = true → u σ s1 Q E) ∧ (c = false → Q false s1)) E
def lOr (t u : LTT) : LTT := fun σ s Q E => t σ s (fun c s1 => (c = true → Q true s1) ∧ (c = false → u σ s1 Q E)) E
def lNot (t : LTT) : LTT := fun σ s Q E => t σ s (fun c s1 => Q (!c) s1) E
theorem LW.lt (h : LW X e tA) : LT X e tA := fun s0 H0 E tk => (h s0 H0 E tk).pt
theorem lw_and1 (ha : LT X a tA) : LW X (.BoolOp .And [a] pos) tA := fun s0 H0 E tk => pw_and1 (ha s0 H0 E tk)
theorem lw_or1 (ha : LT X a tA) : LW X (.BoolOp .Or [a] pos) tA := fun s0 H0 E tk => pw_or1 (ha s0 H0 E tk)
theorem lw_and (ha : LT X a tA) (hb : LW X (.BoolOp .And (b :: rest) pos) tB) : LW X (.BoolOp .And (a :: b :: rest) pos) (lAnd tA tB) := fun s0 H0 E tk =>
  (pw_and (ha s0 H0 E tk) (hb s0 H0 E tk)).imp fun σ H Q ⟨σl, s, Q0, E1, hσ, hs, st, hE, h, k⟩ => ⟨σl, s, _, E1, hσ, hs, st, hE, h, fun c s1 H1 h st1 hs1 => by
    cases c with
    | true => exact ⟨σl, s1, _, E1, hσ.mono st1, hs1, st.trans st1, hE, h.1 rfl, fun b s2 H2 q st2 => k b s2 H2 q (st1.trans st2)⟩
    | false => exact k _ _ _ (h.2 rfl) st1 hs1⟩
theorem lw_or (ha : LT X a tA) (hb : LW X (.BoolOp .Or (b :: rest) pos) tB) : LW X (.BoolOp .Or (a :: b :: rest) pos) (lOr tA tB) := fun s0 H0 E tk =>
  (pw_or (ha s0 H0 E tk) (hb s0 H0 E tk)).imp fun σ H Q ⟨σl, s, Q0, E1, hσ, hs, st, hE, h, k⟩ => ⟨σl, s, _, E1, hσ, hs, st, hE, h, fun c s1 H1 h st1 hs1 => by
    cases c with
    | true => exact k _ _ _ (h.1 rfl) st1 hs1
    | false => exact ⟨σl, s1, _, E1, hσ.mono st1, hs1, st.trans st1, hE, h.2 rfl, fun b s2 H2 q st2 => k b s2 H2 q (st1.trans st2)⟩⟩
theorem lt_not (ha : LT X a tA) : LT X (.UnaryOp .Not a pos) (lNot tA) := fun s0 H0 E tk =>
  (pt_not (ha s0 H0 E tk)).imp fun σ H Q ⟨σl, s, Q0, E1, hσ, hs, st, hE, h, k⟩ => ⟨σl, s, _, E1, hσ, hs, st, hE, h, fun c s1 H1 h st1 hs1 => k _ _ _ h st1 hs1⟩
/-- .. as values -/
def lAndV (ta tb : LTE) : LTE := fun σ s Q E => lB ta σ s (fun c s1 => (c = true → tb σ s1 Q E) ∧ (c = false → Q (.bl false) s1)) E
def lOrV (ta tb : LTE) : LTE := fun σ s Q E => lB ta σ s (fun c s1 => (c = true → Q (.bl true) s1) ∧ (c = false → tb σ s1 Q E)) E
def lNotV (ta : LTE) : LTE := fun σ s Q E => lB ta σ s (fun c s1 => Q (.bl (!c)) s1) E
theorem le_one {op} (h : LE X a ta) : LE X (.BoolOp op [a] pos) ta := fun s0 H0 E tk => pe_one (h s0 H0 E tk)
theorem le_and (ha : LE X a ta) (hb : LE X (.BoolOp .And (b :: rest) pos) tb) : LE X (.BoolOp .And (a :: b :: rest) pos) (lAndV ta tb) := fun s0 H0 E tk =>
  (pe_and (ha s0 H0 E tk) (hb s0 H0 E tk)).imp fun σ H Q ⟨σl, s, Q0, E1, hσ, hs, st, hE, h, k⟩ => ⟨σl, s, _, E1, hσ, hs, st, hE, h, fun lx s1 x H1 h st1 hs1 rx => by
    obtain ⟨c, rfl, h⟩ := lb_ok h
    refine ⟨c, rx.bl', ?_⟩
    cases c with
    | true => exact ⟨σl, s1, _, E1, hσ.mono st1, hs1, st.trans st1, hE, h.1 rfl, fun b s2 v H2 q st2 => k b s2 v H2 q (st1.trans st2)⟩
    | false => exact k _ _ _ _ (h.2 rfl) st1 hs1 .bl⟩
theorem le_or (ha : LE X a ta) (hb : LE X (.BoolOp .Or (b :: rest) pos) tb) : LE X (.BoolOp .Or (a :: b :: rest) pos) (lOrV ta tb) := fun s0 H0 E tk =>
  (pe_or (ha s0 H0 E tk) (hb s0 H0 E tk)).imp fun σ H Q ⟨σl, s, Q0, E1, hσ, hs, st, hE, h, k⟩ => ⟨σl, s, _, E1, hσ, hs, st, hE, h, fun lx s1 x H1 h st1 hs1 rx => by
    obtain ⟨c, rfl, h⟩ := lb_ok h
    refine ⟨c, rx.bl', ?_⟩
    cases c with
    | true => exact k _ _ _ _ (h.1 rfl) st1 hs1 .bl
    | false => exact ⟨σl, s1, _, E1, hσ.mono st1, hs1, st.trans st1, hE, h.2 rfl, fun b s2 v H2 q st2 => k b s2 v H2 q (st1.trans st2)⟩⟩
theorem le_not (ha : LE X a ta) : LE X (.UnaryOp .Not a pos) (lNotV ta) := fun s0 H0 E tk =>
  (pe_not (ha s0 H0 E tk)).imp fun σ H Q ⟨σl, s, Q0, E1, hσ, hs, st, hE, h, k⟩ => ⟨σl, s, _, E1, hσ, hs, st, hE, h, fun lx s1 x H1 h st1 hs1 rx => by
    obtain ⟨c, rfl, h⟩ := lb_ok h
    exact ⟨c, rx.bl', k _ _ _ _ h st1 hs1 .bl⟩⟩
def lCutT (t : LTT) : LTT := fun σ s Q E => ∃ b, t σ s (fun b' s' => b' = b ∧ s' = s) E ∧ Q b s
theorem lt_cut (h : LT X e tA) : LT X e (lCutT tA) := fun s0 H0 E tk => (h s0 H0 E tk).imp fun σ H Q ⟨σl, s, Q0, E1, hσ, hs, st, hE, ⟨b, h, q⟩, k⟩ =>
  ⟨σl, s, _, E1, hσ, hs, st, hE, h, fun b' s' H' ⟨e1, e2⟩ st1 hs1 => by subst e1 e2; exact k _ _ _ q st1 hs1⟩
def lCutE (t : LTE) : LTE := fun σ s Q E => ∃ v, t σ s (fun v' s' => v' = v ∧ s' = s) E ∧ Q v s
theorem le_cut (h : LE X e ta) : LE X e (lCutE ta) := fun s0 H0 E tk => (h s0 H0 E tk).imp fun σ H Q ⟨σl, s, Q0, E1, hσ, hs, st, hE, ⟨b, h, q⟩, k⟩ =>
  ⟨σl, s, _, E1, hσ, hs, st, hE, h, fun b' s' v H' ⟨e1, e2⟩ st1 hs1 r => by subst e1 e2; exact k _ _ _ _ q st1 hs1 r⟩

def lNil : LTA := fun _ s Q _ => Q [] s
def lCons (t : LTE) (u : LTA) : LTA := fun σ s Q E => t σ s (fun x s1 => u σ s1 (fun xs s2 => Q (x :: xs) s2) E) E
variable {tas : LTA} {es : List Expr}
theorem la_nil : LA X [] lNil := fun s0 H0 E tk => pa_nil.imp fun σ H Q ⟨σl, s, Q0, E1, hσ, hs, st, hE, h, k⟩ => k _ _ _ _ h (.refl _ _) hs .nil
theorem la_cons (h : LE X e te) (t : LA X es tas) (hs : starEach (e :: es) X.env = (false, eval e X.env) :: starEach es X.env := by rfl) : LA X (e :: es) (lCons te tas) := fun s0 H0 E tk =>
  (pa_cons (h s0 H0 E tk) (t s0 H0 E tk) hs).imp fun σ H Q ⟨σl, s, Q0, E1, hσ, hs, st, hE, h, k⟩ => ⟨σl, s, _, E1, hσ, hs, st, hE, h, fun lx s1 x H1 h st1 hs1 rx =>
    ⟨σl, s1, _, E1, hσ.mono st1, hs1, st.trans st1, hE, h, fun ly s2 y H2 h st2 hs2 ry => k _ _ _ _ h (st1.trans st2) hs2 (.cons (rx.mono st2) ry)⟩⟩

variable {st : Stmt} {sts : List Stmt} {t u : LTS}
def lNext : LTS := fun D σ s => D.nx σ s
def lSeq (t u : LTS) : LTS := fun D σ s => t (D.wnx (u D)) σ s
theorem lps_nil : LPs X [] lNext := fun s0 H0 E tk hp => pss_nil.imp fun D σ H ⟨σl, s, Dl, hσ, hs, st, h, d⟩ => d.nx _ _ _ _ h (.refl _ _) hs hσ
theorem lps_cons (h1 : LP X st t) (h2 : LPs X sts u) : LPs X (st :: sts) (lSeq t u) := fun s0 H0 E tk hp => (pss_cons (h1 s0 H0 E tk hp) (h2 s0 H0 E tk hp)).imp fun D σ H ⟨σl, s, Dl, hσ, hs, st, h, d⟩ =>
  ⟨σl, s, _, hσ, hs, st, h, ⟨fun σl1 s1 σ1 H1 h1 st1 hs1 r1 => ⟨σl1, s1, Dl, r1, hs1, st.trans st1, h1, d.mono st1⟩, d.rt, d.bk, d.ct, d.ex⟩⟩
theorem lps_one (h1 : LP X st t) : LPs X [st] t := fun s0 H0 E tk hp => pss_one (h1 s0 H0 E tk hp)
theorem lp_pass : LP X (.Pass pos) lNext := fun s0 H0 E tk hp => ps_pass.imp fun D σ H ⟨σl, s, Dl, hσ, hs, st, h, d⟩ => d.nx _ _ _ _ h (.refl _ _) hs hσ
def lBreak : LTS := fun D σ s => D.bk σ s
def lCont : LTS := fun D σ s => D.ct σ s
theorem lp_break : LP X (.Break pos) lBreak := fun s0 H0 E tk hp => ps_break.imp fun D σ H ⟨σl, s, Dl, hσ, hs, st, h, d⟩ => d.bk _ _ _ _ h (.refl _ _) hs hσ
theorem lp_continue : LP X (.Continue pos) lCont := fun s0 H0 E tk hp => ps_continue.imp fun D σ H ⟨σl, s, Dl, hσ, hs, st, h, d⟩ => d.ct _ _ _ _ h (.refl _ _) hs hσ
theorem lp_doc {x j pos pos'} : LP X (.Expr (.Constant (.str x) j pos) pos') lNext := fun s0 H0 E tk hp => ps_doc.imp fun D σ H ⟨σl, s, Dl, hσ, hs, st, h, d⟩ => d.nx _ _ _ _ h (.refl _ _) hs hσ
def lDrop (te : LTE) : LTS := fun D σ s => te σ s (fun _ s1 => D.nx σ s1) (fun C s1 => D.ex C σ s1)
theorem lp_expr (he : LE X e te) (hs : swapsWith e none pos.line X.env = pure false := by rfl) : LP X (.Expr e pos) (lDrop te) := fun s0 H0 E tk hp =>
  (ps_expr (he s0 H0 E tk) hs).imp fun D σ H ⟨σl, s, Dl, hσ, hs, st, h, d⟩ =>
    ⟨σl, s, _, _, hσ, hs, st, fun C s' q => d.ex C σl s' q, h, fun lv s1 v H1 h1 st1 hs1 r1 => d.nx _ _ _ _ h1 st1 hs1 (hσ.mono st1)⟩
end
end L3

namespace L3
open PySem PySem.Spec L2
section
variable {X : Cx} [GG X.K] {e a b c : Expr} {pos : Pos} {ta tb tc te : LTE} {tt : LTT} {t u : LTS} {st : Stmt} {sts sts2 : List Stmt}
def lRet (te : LTE) : LTS := fun D σ s => te σ s D.rt (fun C s1 => D.ex C σ s1)
theorem lp_ret (he : LE X e te) : LP X (.Return (some e) pos) (lRet te) := fun s0 H0 E tk hp => (ps_ret (he s0 H0 E tk)).imp fun D σ H ⟨σl, s, Dl, hσ, hs, st, h, d⟩ =>
  ⟨σl, s, _, _, hσ, hs, st, fun C s' q => d.ex C σl s' q, h, d.rt⟩
def lRetN : LTS := fun D _ s => D.rt .non s
theorem lp_retN : LP X (.Return none pos) lRetN := fun s0 H0 E tk hp => ps_retN.imp fun D σ H ⟨σl, s, Dl, hσ, hs, st, h, d⟩ => d.rt _ _ _ _ h (.refl _ _) hs .non
def lIf (c : LTT) (t u : LTS) : LTS := fun D σ s => c σ s (fun b s1 => (b = true → t D σ s1) ∧ (b = false → u D σ s1)) (fun C s1 => D.ex C σ s1)
theorem lp_if (hc : LT X c tt) (ha : LPs X sts t) (hb : LPs X sts2 u) : LP X (.If c sts sts2 pos) (lIf tt t u) := fun s0 H0 E tk hp =>
  (ps_if (hc s0 H0 E tk) (ha s0 H0 E tk hp) (hb s0 H0 E tk hp)).imp fun D σ H ⟨σl, s, Dl, hσ, hs, st, h, d⟩ =>
    ⟨σl, s, _, _, hσ, hs, st, fun C s' q => d.ex C σl s' q, h, fun b s1 H1 h st1 hs1 => by
      cases b with
      | true => exact ⟨σl, s1, Dl, hσ.mono st1, hs1, st.trans st1, h.1 rfl, d.mono st1⟩
      | false => exact ⟨σl, s1, Dl, hσ.mono st1, hs1, st.trans st1, h.2 rfl, d.mono st1⟩⟩
/-- a cut behind a statement, a block: what holds there is said -/
def lCut (t : LTS) : LTS := fun D σ s => ∃ R : LSt → LS → Prop, t (D.wnx R) σ s ∧ ∀ σ' s', R σ' s' → D.nx σ' s'
theorem lp_cut (h : LP X st t) : LP X st (lCut t) := fun s0 H0 E tk hp => (h s0 H0 E tk hp).imp fun D σ H ⟨σl, s, Dl, hσ, hs, st, ⟨R, h, r⟩, d⟩ =>
  ⟨σl, s, _, hσ, hs, st, h, ⟨fun σl1 s1 σ1 H1 h1 => d.nx σl1 s1 σ1 H1 (r _ _ h1), d.rt, d.bk, d.ct, d.ex⟩⟩
def lNever : LTS := fun _ _ _ => False
theorem lp_never : LP X st lNever := fun s0 H0 E tk hp => ps_never.imp fun D σ H ⟨_, _, _, _, _, _, h, _⟩ => h
theorem lps_never : LPs X sts lNever := fun s0 H0 E tk hp => pss_never.imp fun D σ H ⟨_, _, _, _, _, _, h, _⟩ => h

def lgName (i : Nat) : LTG := fun v σ s Q _ => Q (σ.set i (some v)) s
theorem lg_name {i : Nat} {x : Str} (hN : X.N.Nodup) (hi : X.N[i]? = some x) (hx : Loc X.env.scope x) (hf : X.fn x = true ∨ X.env.scope.names.lookup x = some .local := by first | exact .inl rfl | exact .inr rfl | assumption) : LG X (.Name x pos) (lgName i) := fun s0 H0 E tk =>
  (pg_name hN hi hx hf).imp fun v σ H Q ⟨lv, σl, s, Q0, E1, hσ, hs, st, rv, hE, h, k⟩ => k _ _ _ _ h (.refl _ _) hs (hσ.set i rv)
/-- several names, from the left -/
def lSets : List Nat → List LV → LSt → Option LSt
  | [], [], σ => some σ
  | i :: is, v :: vs, σ => lSets is vs (σ.set i (some v))
  | _, _, _ => none
def lgTup (is : List Nat) : LTG := fun v σ s Q _ => match v with
  | .tup xs => (match lSets is xs σ with
    | some σ' => Q σ' s
    | none => False)
  | _ => False
/-- the real targets of names -/
def gNames : List Nat → TGs
  | [] => gNil
  | i :: is => gCons (gName i) (gNames is)
theorem gNames_ok {K : PySem.W.Frag} [GG K] {s : LS} {H : Hp} {Q : St → Hp → Prop} : ∀ {is : List Nat} {xs : List LV} {vs : List V} {σl σl' : LSt} {σ : St}, RSt K s H σl σ → RVs K s H xs vs → lSets is xs σl = some σl' →
    (∀ σ', RSt K s H σl' σ' → Q σ' H) → gNames is vs σ H Q
  | [], [], _, _, _, σ, hσ, rv, e, k => by
    simp only [RVs] at rv
    subst rv
    cases e
    exact ⟨rfl, k _ hσ⟩
  | i :: is, x :: xs, _, _, _, σ, hσ, rv, e, k => by
    simp only [RVs] at rv
    obtain ⟨u, r, rfl, r1, r2⟩ := rv
    exact ⟨u, r, rfl, gNames_ok (is := is) (hσ.set i r1) r2 e k⟩
  | [], _ :: _, _, _, _, _, _, _, e, _ => by cases e
  | _ :: _, [], _, _, _, _, _, _, e, _ => by cases e
theorem lSets_len : ∀ {is : List Nat} {xs : List LV} {σ σ' : LSt}, lSets is xs σ = some σ' → xs.length = is.length
  | [], [], _, _, _ => rfl
  | i :: is, x :: xs, _, _, e => by simp [lSets_len (is := is) e]
  | [], _ :: _, _, _, e => by cases e
  | _ :: _, [], _, _, e => by cases e
theorem lg_tup {es : List Expr} {k : Nat} {is : List Nat} (hc : X.calm = true) (h : PGs X es (gNames is)) (hn : (assignEach es X.env).length = is.length := by rfl) (hst : (assignEach es X.env).findIdx? (·.1) = none := by rfl) :
    LG X (.Tuple es k pos) (lgTup is) := fun s0 H0 E tk => (pg_tup hc h hn hst).imp fun v σ H Q ⟨lv, σl, s, Q0, E1, hσ, hs, st, rv, hE, h, k⟩ => by
  cases lv with
  | tup xs =>
    simp only [RV] at rv
    obtain ⟨a, us, rfl, n, hh, r⟩ := rv
    simp only [lgTup] at h
    split at h
    · next σ' e => exact ⟨a, us, rfl, SqT.of hh, by rw [r.length, lSets_len e], gNames_ok hσ r e fun σ2 q => k _ _ _ _ h (.refl _ _) hs q⟩
    · exact h.elim
  | _ => exact h.elim
/-- target = value -/
def lAsg (te : LTE) (g : LTG) : LTS := fun D σ s => te σ s (fun x s1 => g x σ s1 D.nx (fun C s2 => D.ex C σ s2)) (fun C s1 => D.ex C σ s1)
theorem lp_asg {tg : Expr} {g : LTG} (he : LE X e te) (hg : LG X tg g) (hs : swapsWithSole [tg] e pos.line X.env = pure false := by rfl) (hw : swappedStores [tg] e X.env = pure none := by rfl)
    (h1 : (assignEach [tg] X.env).map (·.2) = [assign tg X.env] := by rfl) : LP X (.Assign [tg] e pos) (lAsg te g) := fun s0 H0 E tk hp =>
  (ps_asg (he s0 H0 E tk) (hg s0 H0 E tk) hs hw h1).imp fun D σ H ⟨σl, s, Dl, hσ, hs, st, h, d⟩ =>
    ⟨σl, s, _, _, hσ, hs, st, fun C s' q => d.ex C σl s' q, h, fun lx s1 x H1 h st1 hs1 rx => ⟨lx, σl, s1, _, _, hσ.mono st1, hs1, st.trans st1, rx, fun C s' q => d.ex C σl s' q, h, (d.mono st1).nx⟩⟩
theorem lp_set {i : Nat} {x : Str} {pos' : Pos} (hN : X.N.Nodup) (hi : X.N[i]? = some x) (hx : Loc X.env.scope x) (he : LE X e te) (hs : swapsWith e (some (.Name x pos')) pos.line X.env = pure false := by rfl)
    (hf : X.fn x = true ∨ X.env.scope.names.lookup x = some .local := by first | exact .inl rfl | exact .inr rfl | assumption) : LP X (.Assign [.Name x pos'] e pos) (lAsg te (lgName i)) := fun s0 H0 E tk hp =>
  (ps_set hN hi hx (he s0 H0 E tk) hs hf).imp fun D σ H ⟨σl, s, Dl, hσ, hs, st, h, d⟩ =>
    ⟨σl, s, _, _, hσ, hs, st, fun C s' q => d.ex C σl s' q, h, fun lx s1 x H1 h st1 hs1 rx => d.nx _ _ _ _ h st1 hs1 ((hσ.mono st1).set i rx)⟩

def lWhile (c : LTT) (tb : LTS) : LTS := fun D σ s => ∃ W : Nat → LSt → LS → Prop, (∃ m, W m σ s) ∧ ∀ m σ s, W m σ s →
  c σ s (fun b s1 => (b = true → tb (D.wlp fun σ' s' => ∃ m', m' < m ∧ W m' σ' s') σ s1) ∧ (b = false → D.nx σ s1)) (fun C s1 => D.ex C σ s1)
theorem lp_while (hc : LT X c tt) (hb : LPs X sts t) : LP X (.While c sts [] pos) (lWhile tt t) := fun s0 H0 E tk hp =>
  (ps_while hp (hc s0 H0 E tk) (hb s0 H0 E tk hp)).imp fun D σ H ⟨σl, s, Dl, hσ, hs, st, ⟨W, ⟨m0, w0⟩, turn⟩, d⟩ => by
    refine ⟨fun m σ' H' => ∃ σl' s', RSt X.K s' H' σl' σ' ∧ RelS X.K s' H' ∧ Step s H s' H' ∧ W m σl' s', ⟨m0, σl, s, hσ, hs, .refl _ _, w0⟩, ?_⟩
    rintro m σ1 H1 ⟨σl1, s1, hσ1, hs1, st1, w1⟩
    refine ⟨σl1, s1, _, _, hσ1, hs1, st.trans st1, fun C s' q => d.ex C σl1 s' q, turn m σl1 s1 w1, fun b s2 H2 h st2 hs2 => ?_⟩
    have st12 := st1.trans st2
    cases b with
    | true =>
      refine iteT ?_
      refine ⟨fun σ' H' => ∃ m', m' < m ∧ ∃ σl' s', RSt X.K s' H' σl' σ' ∧ RelS X.K s' H' ∧ Step s H s' H' ∧ W m' σl' s', fun σ' H' q => q, σl1, s2, _, hσ1.mono st2, hs2, st.trans st12, h.1 rfl, ?_⟩
      exact ⟨fun σl3 s3 σ3 H3 ⟨m', lt, w⟩ st3 hs3 r3 => ⟨m', lt, σl3, s3, r3, hs3, st12.trans st3, w⟩, (d.mono st12).rt, (d.mono st12).nx, fun σl3 s3 σ3 H3 ⟨m', lt, w⟩ st3 hs3 r3 => ⟨m', lt, σl3, s3, r3, hs3, st12.trans st3, w⟩, d.ex⟩
    | false =>
      refine iteF ?_
      exact d.nx _ _ _ _ (h.2 rfl) st12 hs2 (hσ1.mono st2)

abbrev LTI := LSt → LS → (List LV → (LS → Prop) → LS → Prop) → LX → Prop
structure ItR (K : PySem.W.Frag) [GG K] (J : It) (xs : List LV) (stb : LS → Prop) (s1 : LS) (H1 : Hp) : Prop where
  go : ∀ i s H, i < xs.length → Step s1 H1 s H → RelS K s H → stb s → J.go i H
  stop : ∀ s H, Step s1 H1 s H → RelS K s H → stb s → J.stop xs.length H
  yld : ∀ i s H x H', i < xs.length → Step s1 H1 s H → RelS K s H → stb s → J.yld i H x H' → ∃ lx, xs[i]? = some lx ∧ RV K s H' lx x ∧ Step s H s H' ∧ RelS K s H'
def upI (K : PySem.W.Frag) [GG K] (s0 : LS) (H0 : Hp) (E : LXS) (t : LTI) : TI := fun σ H R => ∃ σl s Q0 E1, RSt K s H σl σ ∧ RelS K s H ∧ Step s0 H0 s H ∧ (∀ C s', E1 C s' → E C σl s') ∧ t σl s Q0 E1 ∧
  ∀ xs stb s' H' J, Q0 xs stb s' → Step s H s' H' → RelS K s' H' → ItR K J xs stb s' H' → R J H'
def LI (X : Cx) [GG X.K] (tg iter : Expr) (t : LTI) : Prop := ∀ s0 H0 E, Takes X (WL X.K s0 H0 E) → PI X tg iter (upI X.K s0 H0 E t)
theorem _root_.L2.PI.imp {X : Cx} [GG X.K] {tg e : Expr} {t t' : TI} (h : PI X tg e t) (i : ∀ σ H R, t' σ H R → t σ H R) : PI X tg e t' := ⟨fun pins s σ H R I q => h.run pins s σ H R I (i _ _ _ q)⟩

def lLoop (g : LTG) (tb : LTS) (stb : LS → Prop) (D : LEnds) : List LV → LSt → LS → Prop
  | [], σ, s => stb s ∧ D.nx σ s
  | x :: xs, σ, s => stb s ∧ g x σ s (fun σ2 s2 => tb (D.wlp (lLoop g tb stb D xs)) σ2 s2) (fun C s1 => D.ex C σ s1)
def lFor (it : LTI) (g : LTG) (tb : LTS) : LTS := fun D σ s => it σ s (fun xs stb s1 => lLoop g tb stb D xs σ s1) (fun C s1 => D.ex C σ s1)
theorem lLoop_stb {g : LTG} {tb : LTS} {stb : LS → Prop} {D : LEnds} : ∀ {xs : List LV} {σ : LSt} {s : LS}, lLoop g tb stb D xs σ s → stb s
  | [], _, _, h => h.1
  | _ :: _, _, _, h => h.1
theorem lp_for {tg iter : Expr} {it : LTI} {g : LTG} (hc : X.calm = true) (hi : LI X tg iter it) (hg : LG X tg g) (hb : LPs X sts t) (hs : ∀ x, foldedSetIterable iter X.env x = pure x := by intro _; rfl) :
    LP X (.For tg iter sts [] pos) (lFor it g t) := fun s0 H0 E tk hp =>
  (ps_for hp hc (hi s0 H0 E tk) (hg s0 H0 E tk) (hb s0 H0 E tk hp) hs).imp fun D σ H ⟨σl, s, Dl, hσ, hs, st, h, d⟩ => by
    refine ⟨σl, s, _, _, hσ, hs, st, fun C s' q => d.ex C σl s' q, h, fun xs stb s1 H1 J h st1 hs1 it => ?_⟩
    have d1 := d.mono st1
    refine ⟨fun i m σ' H' => ∃ σl' s', RSt X.K s' H' σl' σ' ∧ RelS X.K s' H' ∧ Step s1 H1 s' H' ∧ m = xs.length - i ∧ i ≤ xs.length ∧ lLoop g t stb Dl (xs.drop i) σl' s', ⟨xs.length, σl, s1, hσ.mono st1, hs1, .refl _ _, by simp, Nat.zero_le _, h⟩, ?_⟩
    rintro i m σ2 H2 ⟨σl2, s2, hσ2, hs2, st2, rfl, hi, h2⟩
    by_cases hlt : i < xs.length
    · rw [List.drop_eq_getElem_cons hlt] at h2
      refine .inr ⟨it.go i s2 H2 hlt st2 hs2 h2.1, fun σ' H' => ∃ σl' s', RSt X.K s' H' σl' σ' ∧ RelS X.K s' H' ∧ Step s1 H1 s' H' ∧ lLoop g t stb Dl (xs.drop (i + 1)) σl' s', fun σ' H' ⟨σl', s', q1, q2, q3, q4⟩ => ⟨xs.length - (i + 1), by omega, σl', s', q1, q2, q3, rfl, hlt, q4⟩, fun x H' y => ?_⟩
      obtain ⟨lx, ex, rx, st3, hs3⟩ := it.yld i s2 H2 x H' hlt st2 hs2 h2.1 y
      rw [List.getElem?_eq_getElem hlt] at ex
      cases ex
      have st23 := st2.trans st3
      refine ⟨_, σl2, s2, _, _, hσ2.mono st3, hs3, (st.trans st1).trans st23, rx, fun C s' q => d.ex C σl2 s' q, h2.2, fun σl4 s4 σ4 H4 q st4 hs4 hσ4 => ?_⟩
      have st24 := st23.trans st4
      refine ⟨σl4, s4, _, hσ4, hs4, (st.trans st1).trans st24, q, ?_⟩
      exact ⟨fun σl5 s5 σ5 H5 w st5 hs5 r5 => ⟨σl5, s5, r5, hs5, st24.trans st5, w⟩, (d1.mono st24).rt, (d1.mono st24).nx, fun σl5 s5 σ5 H5 w st5 hs5 r5 => ⟨σl5, s5, r5, hs5, st24.trans st5, w⟩, d.ex⟩
    · have ei : i = xs.length := by omega
      subst ei
      rw [List.drop_length] at h2
      exact .inl ⟨it.stop s2 H2 st2 hs2 h2.1, (d1.mono st2).nx _ _ _ _ h2.2 (.refl _ _) hs2 hσ2⟩
/-- a loop by a fold: its state after the items -/
theorem lLoop_fold {α : Type} {g : LTG} {tb : LTS} {stb : LS → Prop} {D : LEnds} {mkσ : α → LSt} {mks : α → LS} {f : α → LV → α} {P : α → Prop} : ∀ (xs : List LV) (z : α), P z → (∀ z, P z → stb (mks z)) →
    (∀ z x, P z → x ∈ xs → ∀ N : LSt → LS → Prop, (P (f z x) → N (mkσ (f z x)) (mks (f z x))) → g x (mkσ z) (mks z) (fun σ2 s2 => tb (D.wlp (N)) σ2 s2) (fun C s1 => D.ex C (mkσ z) s1)) →
    (∀ z x, P z → x ∈ xs → P (f z x)) → D.nx (mkσ (xs.foldl f z)) (mks (xs.foldl f z)) → lLoop g tb stb D xs (mkσ z) (mks z)
  | [], z, pz, hst, _, _, hn => ⟨hst z pz, hn⟩
  | x :: xs, z, pz, hst, hs, hp, hn => ⟨hst z pz, hs z x pz (by simp) _ fun p' =>
      lLoop_fold xs (f z x) p' hst (fun z y pz hy => hs z y pz (by simp [hy])) (fun z y pz hy => hp z y pz (by simp [hy])) hn⟩
/-- a loop by an invariant over what is done and what is left -/
theorem lLoop_inv {g : LTG} {tb : LTS} {stb : LS → Prop} {D : LEnds} (I : List LV → List LV → LSt → LS → Prop) {σ : LSt} {s : LS} {xs : List LV} (h0 : I [] xs σ s) (hst : ∀ p r σ s, I p r σ s → stb s)
    (hs : ∀ p x r σ s, p ++ x :: r = xs → I p (x :: r) σ s → g x σ s (fun σ2 s2 => tb (D.wlp (I (p ++ [x]) r)) σ2 s2) (fun C s1 => D.ex C σ s1))
    (mono : ∀ x σ s (N N' : LSt → LS → Prop), (∀ σ s, N σ s → N' σ s) → g x σ s (fun σ2 s2 => tb (D.wlp (N)) σ2 s2) (fun C s1 => D.ex C σ s1) → g x σ s (fun σ2 s2 => tb (D.wlp (N')) σ2 s2) (fun C s1 => D.ex C σ s1))
    (hn : ∀ σ s, I xs [] σ s → D.nx σ s) : lLoop g tb stb D xs σ s := by
  have go : ∀ (r p : List LV) (σ : LSt) (s : LS), p ++ r = xs → I p r σ s → lLoop g tb stb D r σ s := by
    intro r
    induction r with
    | nil =>
      intro p σ s e i
      rw [List.append_nil] at e
      subst e
      exact ⟨hst _ _ _ _ i, hn _ _ i⟩
    | cons x r ih =>
      intro p σ s e i
      exact ⟨hst _ _ _ _ i, mono x σ s _ _ (fun σ' s' q => ih (p ++ [x]) σ' s' (by simp [e]) q) (hs p x r σ s e i)⟩
  exact go xs [] σ s rfl h0
end
end L3

namespace L3
open PySem PySem.Spec L2
section
variable {K : PySem.W.Frag} [GG K] {s s' : LS} {H H' : Hp}
theorem RelS.ins {a : Addr} {C : Addr} {fs : List (Str × LV)} (r : RelS K s H) (h : s a = some (.ins C fs)) : ∃ dx us, H a = some (.ins C dx us) ∧ RVf K s H fs us := r a _ h
theorem RelS.lst {a : Addr} {xs : List LV} (r : RelS K s H) (h : s a = some (.lst xs)) : ∃ us, H a = some (.lst us) ∧ RVs K s H xs us := r a _ h
theorem RelS.some {a : Addr} {o : LO} (r : RelS K s H) (h : s a = some o) : ∃ u, H a = some u := by
  cases o with
  | lst xs => obtain ⟨us, h, _⟩ := r a _ h; exact ⟨_, h⟩
  | dK xs => obtain ⟨us, h, _⟩ := r a _ h; exact ⟨_, h⟩
  | dT xs => obtain ⟨us, h, _⟩ := r a _ h; exact ⟨_, h⟩
  | ins C xs => obtain ⟨dx, us, h, _⟩ := r a _ h; exact ⟨_, h⟩
  | tab q => obtain ⟨ps, h, _⟩ := r a _ h; exact ⟨_, h⟩
theorem RelS.free {a : Addr} (r : RelS K s H) (h : H a = none) : s a = none := by
  cases e : s a with
  | none => rfl
  | some o =>
    obtain ⟨u, q⟩ := r.some e
    rw [h] at q
    cases q
/-- a write at an address of the store, or a new one -/
theorem Step.put {a : Addr} {o : LO} {u : HO} (h : s a ≠ none ∨ H a = none) : Step s H (put s a o) (upd H a u) := fun b v hb nb => by
  have ne : b ≠ a := by
    rintro rfl
    rcases h with h | h
    · exact h nb
    · rw [h] at hb; cases hb
  rw [upd_ne ne, put_ne ne]
  exact ⟨⟨v, hb, .refl v⟩, nb⟩
theorem ObjR.mono {a : Addr} {o : LO} (st : Step s H s' H') (k : ∀ u, H a = some u → H' a = some u) (h : ObjR K s H a o) : ObjR K s' H' a o := by
  cases o with
  | lst xs => obtain ⟨us, h, r⟩ := h; exact ⟨us, k _ h, r.mono st⟩
  | dK xs => obtain ⟨us, h, r⟩ := h; exact ⟨us, k _ h, r.mono st⟩
  | dT xs => obtain ⟨us, h, r⟩ := h; exact ⟨us, k _ h, r.mono st⟩
  | ins C xs => obtain ⟨dx, us, h, r⟩ := h; exact ⟨dx, us, k _ h, r.mono st⟩
  | tab q =>
    obtain ⟨ps, h, t, r⟩ := h
    refine ⟨ps, k _ h, t, fun pos cv e => ?_⟩
    obtain ⟨c, e1, e2, e3⟩ := r pos cv e
    obtain ⟨⟨o', h', q⟩, n'⟩ := st c _ e3 e2
    rw [q.ext] at h'
    exact ⟨c, e1, n', h'⟩
theorem RelS.put {a : Addr} {o : LO} {u : HO} (r : RelS K s H) (h : s a ≠ none ∨ H a = none) (n : ObjR K (put s a o) (upd H a u) a o) : RelS K (put s a o) (upd H a u) := fun b v hb => by
  by_cases e : b = a
  · subst e
    rw [put_same] at hb
    cases hb
    exact n
  · rw [put_ne e] at hb
    exact (r b v hb).mono (.put h) fun w q => by rw [upd_ne e]; exact q
/-- forgetting what the store holds at an address -/
theorem Step.del (r : RelS K s H) (a : Addr) : Step s H (del s a) H := fun b v hb nb => ⟨⟨v, hb, .refl v⟩, by unfold L3.del; split <;> first | rfl | exact nb⟩
theorem RelS.del (r : RelS K s H) (a : Addr) : RelS K (del s a) H := fun b v hb => by
  unfold L3.del at hb
  split at hb
  · cases hb
  · exact (r b v hb).mono (.del r a) fun _ q => q
/-- a new frozen object -/
theorem Step.new {a : Addr} {u : HO} (r : RelS K s H) (h : H a = none) : Step s H s (upd H a u) := fun b v hb nb => by
  rw [upd_ne (ne_of_none hb h)]
  exact ⟨⟨v, hb, .refl v⟩, nb⟩
theorem RelS.new {a : Addr} {u : HO} (r : RelS K s H) (h : H a = none) : RelS K s (upd H a u) := fun b v hb =>
  (r b v hb).mono (.new r h) fun w q => by rw [upd_ne (ne_of_none q h)]; exact q
theorem RVs.tupAt {a : Addr} {xs : List LV} {us : List V} (r : RelS K s H) (h : H a = none) (q : RVs K s H xs us) : RV K s (upd H a (.tup us)) (.tup xs) (.ref a) := by
  simp only [RV]
  exact ⟨a, us, rfl, r.free h, upd_same, q.mono (.new r h)⟩
theorem RVs.lstAt {a : Addr} {xs : List LV} {us : List V} (r : RelS K s H) (h : H a = none) (q : RVs K s H xs us) : RV K s (upd H a (.lst us)) (.lst xs) (.ref a) := by
  simp only [RV]
  exact ⟨a, us, rfl, r.free h, upd_same, q.mono (.new r h)⟩
end

section
variable {X : Cx} [GG X.K] {e a b c o : Expr} {es : List Expr} {pos : Pos} {ta tb tc te : LTE} {tas : LTA} {tt : LTT} {t u : LTS} {st : Stmt} {sts sts2 : List Stmt}
/-- an expression that makes a new list; what it holds -/
abbrev LTL := LTA
def upL (K : PySem.W.Frag) [GG K] (s0 : LS) (H0 : Hp) (E : LXS) (t : LTL) : TE := fun σ H Q => ∃ σl s Q0 E1, RSt K s H σl σ ∧ RelS K s H ∧ Step s0 H0 s H ∧ (∀ C s', E1 C s' → E C σl s') ∧ t σl s Q0 E1 ∧
  ∀ xs s' us H', Q0 xs s' → Step s H s' H' → RelS K s' H' → RVs K s' H' xs us → ∀ p, H' p = none → Q (.ref p) (upd H' p (.lst us))
def LL (X : Cx) [GG X.K] (e : Expr) (t : LTL) : Prop := ∀ s0 H0 E, Takes X (WL X.K s0 H0 E) → PE X e (upL X.K s0 H0 E t)
def lFz (t : LTL) : LTE := fun σ s Q E => t σ s (fun xs s1 => Q (.lst xs) s1) E
def lNew (t : LTL) : LTE := fun σ s Q E => t σ s (fun xs s1 => ∀ p, s1 p = none → Q (.ref p) (put s1 p (.lst xs))) E
theorem fz_up {K : PySem.W.Frag} [GG K] {s0 : LS} {H0 : Hp} {E : LXS} {tl : LTL} {σ : St} {H : Hp} {Q : VK} (h : up K s0 H0 E (lFz tl) σ H Q) : upL K s0 H0 E tl σ H Q := by
  obtain ⟨σl, s, Q0, E1, hσ, hs, st, hE, h, k⟩ := h
  exact ⟨σl, s, _, E1, hσ, hs, st, hE, h, fun xs s1 us H1 h st1 hs1 r p np => k _ _ _ _ h (st1.trans (.new hs1 np)) (hs1.new np) (r.lstAt hs1 np)⟩
theorem new_up {K : PySem.W.Frag} [GG K] {s0 : LS} {H0 : Hp} {E : LXS} {tl : LTL} {σ : St} {H : Hp} {Q : VK} (h : up K s0 H0 E (lNew tl) σ H Q) : upL K s0 H0 E tl σ H Q := by
  obtain ⟨σl, s, Q0, E1, hσ, hs, st, hE, h, k⟩ := h
  exact ⟨σl, s, _, E1, hσ, hs, st, hE, h, fun xs s1 us H1 h st1 hs1 r p np => k _ _ _ _ (h p (hs1.free np)) (st1.trans (.put (.inr np))) (hs1.put (.inr np) ⟨us, upd_same, r.mono (.put (.inr np))⟩) .ref⟩
theorem le_fz {tl : LTL} (h : LL X e tl) : LE X e (lFz tl) := fun s0 H0 E tk => (h s0 H0 E tk).imp fun σ H Q q => fz_up q
theorem le_new {tl : LTL} (h : LL X e tl) : LE X e (lNew tl) := fun s0 H0 E tk => (h s0 H0 E tk).imp fun σ H Q q => new_up q
def lDisp (t : LTA) : LTL := fun σ s Q E => t σ s (fun xs s1 => xs.length ≤ 16777216 ∧ Q xs s1) E
theorem ll_disp (h : LA X es tas) : LL X (.List es pos) (lDisp tas) := fun s0 H0 E tk => (pe_lst (h s0 H0 E tk)).imp fun σ H Q ⟨σl, s, Q0, E1, hσ, hs, st, hE, h, k⟩ =>
  ⟨σl, s, _, E1, hσ, hs, st, hE, h, fun xs s1 us H1 h st1 hs1 r => ⟨by rw [r.length, sizeLine_eq]; exact h.1, fun p np => k _ _ _ _ h.2 st1 hs1 r p np⟩⟩
def lTup (t : LTA) : LTE := fun σ s Q E => t σ s (fun xs s1 => xs.length ≤ 16777216 ∧ Q (.tup xs) s1) E
theorem le_tup {k : Nat} (h : LA X es tas) : LE X (.Tuple es k pos) (lTup tas) := fun s0 H0 E tk => (pe_tup (h s0 H0 E tk)).imp fun σ H Q ⟨σl, s, Q0, E1, hσ, hs, st, hE, h, k⟩ =>
  ⟨σl, s, _, E1, hσ, hs, st, hE, h, fun xs s1 us H1 h st1 hs1 r => ⟨by rw [r.length, sizeLine_eq]; exact h.1, fun p np => k _ _ _ _ h.2 (st1.trans (.new hs1 np)) (hs1.new np) (r.tupAt hs1 np)⟩⟩

/-- the field f of the instance x of the class C -/
def fldAt (C : Addr) (f : Str) (x : LV) (s : LS) (k : LV → Prop) : Prop := match x with
  | .ref a => (match s a with
    | some (.ins D fs) => D = C ∧ (match fs.lookup f with
      | some v => k v
      | none => False)
    | _ => False)
  | .ins D fs => D = C ∧ (match fs.lookup f with
    | some v => k v
    | none => False)
  | _ => False
theorem fldAt_ok {K : PySem.W.Frag} [GG K] {s : LS} {H : Hp} {C : Addr} {f : Str} {x : LV} {v : V} {k : LV → Prop} (r : RelS K s H) (rx : RV K s H x v) (h : fldAt C f x s k) :
    ∃ a dx us lv w, v = .ref a ∧ H a = some (.ins C dx us) ∧ us.lookup f = some w ∧ RV K s H lv w ∧ k lv := by
  cases x with
  | ref a =>
    simp only [fldAt] at h
    split at h
    · next D fs e =>
      obtain ⟨rfl, h⟩ := h
      split at h
      · next lv el =>
        obtain ⟨dx, us, hh, rf⟩ := r.ins e
        obtain ⟨w, e1, e2⟩ := rf.look el
        exact ⟨a, dx, us, lv, w, rx.ref', hh, e1, e2, h⟩
      · exact h.elim
    · exact h.elim
  | ins D fs =>
    simp only [fldAt] at h
    obtain ⟨rfl, h⟩ := h
    split at h
    · next lv el =>
      simp only [RV] at rx
      obtain ⟨a, dx, us, rfl, _, hh, rf⟩ := rx
      obtain ⟨w, e1, e2⟩ := rf.look el
      exact ⟨a, dx, us, lv, w, rfl, hh, e1, e2, h⟩
    · exact h.elim
  | _ => exact h.elim
def lFld (C : Addr) (f : Str) (ta : LTE) : LTE := fun σ s Q E => ta σ s (fun x s1 => fldAt C f x s1 fun v => Q v s1) E
theorem le_fld {C : Addr} {f : Str} (hc : Cls X.K C) (hn : NoAttr X.K C f) (ha : LE X a ta) (hb : attributeBase a f X.env (eval a X.env) = eval a X.env := by rfl) : LE X (.Attribute a f pos) (lFld C f ta) := fun s0 H0 E tk =>
  (pe_fld (ha s0 H0 E tk) hb).imp fun σ H Q ⟨σl, s, Q0, E1, hσ, hs, st, hE, h, k⟩ => ⟨σl, s, _, E1, hσ, hs, st, hE, h, fun lx s1 x H1 h st1 hs1 rx => by
    obtain ⟨p, dx, us, lv, w, rfl, hh, e1, e2, h⟩ := fldAt_ok hs1 rx h
    exact ⟨p, C, dx, us, w, rfl, hh, hc, hn, e1, k _ _ _ _ h st1 hs1 e2⟩⟩
/-- o.f = e -/
def lSetF (C : Addr) (f : Str) (ta tv : LTE) : LTS := fun D σ s => tv σ s (fun y s1 => ta σ s1 (fun x s2 => match x with
  | .ref a => (match s2 a with
    | some (.ins B fs) => B = C ∧ fs.length < 1000 ∧ D.nx σ (put s2 a (.ins C (putL f y fs)))
    | _ => False)
  | _ => False) (fun C s3 => D.ex C σ s3)) (fun C s3 => D.ex C σ s3)
theorem lp_fld {C : Addr} {f : Str} {pos' : Pos} (hc : Cls X.K C) (hn : NoAttr X.K C f) (ha : LE X a ta) (hv : LE X e te) (hs : swapsWith e (some (.Attribute a f pos')) pos.line X.env = pure false := by rfl) :
    LP X (.Assign [.Attribute a f pos'] e pos) (lSetF C f ta te) := fun s0 H0 E tk hp => (ps_fld (ha s0 H0 E tk) (hv s0 H0 E tk) hs).imp fun D σ H ⟨σl, s, Dl, hσ, hs, st, h, d⟩ =>
  ⟨σl, s, _, _, hσ, hs, st, fun C s' q => d.ex C σl s' q, h, fun ly s1 y H1 h st1 hs1 ry => ⟨σl, s1, _, _, hσ.mono st1, hs1, st.trans st1, fun C s' q => d.ex C σl s' q, h, fun lx s2 x H2 h st2 hs2 rx => by
    cases lx with
    | ref p =>
      have h : (match s2 p with
        | some (.ins B fs) => B = C ∧ fs.length < 1000 ∧ Dl.nx σl (put s2 p (.ins C (putL f ly fs)))
        | _ => False) := h
      split at h
      · next B fs e =>
        obtain ⟨rfl, hl, h⟩ := h
        obtain ⟨dx, us, hh, rf⟩ := hs2.ins e
        have nn : s2 p ≠ none ∨ H2 p = none := .inl (by rw [e]; simp)
        have st3 : Step s2 H2 (put s2 p (.ins B (putL f ly fs))) (upd H2 p (.ins B dx (putF f y us))) := .put nn
        refine ⟨p, B, dx, us, rx.ref', hh, hc, hn, by rw [rf.length]; exact hl, ?_⟩
        refine d.nx _ _ _ _ h ((st1.trans st2).trans st3) (hs2.put nn ⟨dx, _, upd_same, (rf.put f (ry.mono st2)).mono st3⟩) (hσ.mono ((st1.trans st2).trans st3))
      · exact h.elim
    | _ => exact False.elim h⟩⟩

abbrev LSp := List LV → LS → LVK → LX → Prop
def dn (K : PySem.W.Frag) [GG K] (sp : LSp) : Sp := fun vs H Q E => ∃ lvs s Q0 E0, RVs K s H lvs vs ∧ RelS K s H ∧ sp lvs s Q0 E0 ∧ (∀ lv s' v H', Q0 lv s' → Step s H s' H' → RelS K s' H' → RV K s' H' lv v → Q v H') ∧
  ∀ C s' H', E0 C s' → Step s H s' H' → RelS K s' H' → E (.ref C) none H'
abbrev LFn (P : Program) (w : World) (K : PySem.W.Frag) [GG K] (mg : Str → Option Value) (base : Heap) (k : Nat) (f : Addr) (fd : FuncData) (ps : List Str) (sp : LSp) : Prop := FnOk P w K mg base (L2.CX P w) k f fd ps (dn K sp)
theorem LFn.imp {P : Program} {w : World} {K : PySem.W.Frag} [GG K] {mg : Str → Option Value} {base : Heap} {k : Nat} {f : Addr} {fd : FuncData} {ps : List Str} {sp sp' : LSp} (F : LFn P w K mg base k f fd ps sp)
    (h : ∀ vs s Q E, sp' vs s Q E → sp vs s Q E) : LFn P w K mg base k f fd ps sp' := FnOk.imp F fun vs H Q E ⟨lvs, s, Q0, E0, a, b, c, d, e⟩ => ⟨lvs, s, Q0, E0, a, b, h _ _ _ _ c, d, e⟩
/-- what a callee lets out, at our slots -/
theorem dn_call {s0 : LS} {H0 : Hp} {E : LXS} {σ : St} {H : Hp} {Q : VK} {sp : LSp} {K : PySem.W.Frag} [GG K] {σl : LSt} {s : LS} {lvs : List LV} {vs : List V} {Q0 : LVK} {E1 : LX} (hσ : RSt K s H σl σ) (hs : RelS K s H) (st : Step s0 H0 s H)
    (hE : ∀ C s', E1 C s' → E C σl s') (r : RVs K s H lvs vs) (h : sp lvs s Q0 E1) (k : ∀ lv s' v H', Q0 lv s' → Step s H s' H' → RelS K s' H' → RV K s' H' lv v → Q v H') : dn K sp vs H Q (WE (WL K s0 H0 E) σ) :=
  ⟨lvs, s, Q0, E1, r, hs, h, k, fun C s' H' q st1 hs1 => ⟨C, σl, s', rfl, rfl, hσ.mono st1, hs1, st.trans st1, hE _ _ q⟩⟩
theorem LE.go {s0 : LS} {H0 : Hp} {E : LXS} {σ : St} {H : Hp} {σl : LSt} {s : LS} {Q0 : LVK} {E1 : LX} {pins : List (Addr × Obj)} {si : Shared} (ha : LE X o ta) (tk : Takes X (WL X.K s0 H0 E)) (I : Inv X pins σ H si) (hσ : RSt X.K s H σl σ) (hs : RelS X.K s H)
    (st : Step s0 H0 s H) (hE : ∀ C s', E1 C s' → E C σl s') (h : ta σl s Q0 E1) :
    wpAny (model X.prog X.w) X.A (eval o X.env) (fun u si1 => ∃ x H1, Inv X pins σ H1 si1 ∧ RelV x u ∧ ∃ lx s1, Step s H s1 H1 ∧ RelS X.K s1 H1 ∧ RV X.K s1 H1 lx x ∧ Q0 lx s1) X.xe si :=
  (ha s0 H0 E tk).run pins si σ H (fun x H1 => ∃ lx s1, Step s H s1 H1 ∧ RelS X.K s1 H1 ∧ RV X.K s1 H1 lx x ∧ Q0 lx s1) I ⟨σl, s, Q0, E1, hσ, hs, st, hE, h, fun lx s1 x H1 h st1 hs1 rx => ⟨lx, s1, st1, hs1, rx, h⟩⟩
theorem LA.go {s0 : LS} {H0 : Hp} {E : LXS} {σ : St} {H : Hp} {σl : LSt} {s : LS} {Q0 : List LV → LS → Prop} {E1 : LX} {pins : List (Addr × Obj)} {si : Shared} (ha : LA X es tas) (tk : Takes X (WL X.K s0 H0 E)) (pos : Pos) (I : Inv X pins σ H si) (hσ : RSt X.K s H σl σ) (hs : RelS X.K s H)
    (st : Step s0 H0 s H) (hE : ∀ C s', E1 C s' → E C σl s') (h : tas σl s Q0 E1) :
    wpAny (model X.prog X.w) X.A (spliced (backTo pos (starEach es X.env))) (fun us si1 => ∃ vs H1, Inv X pins σ H1 si1 ∧ Vals vs us ∧ ∃ lvs s1, Step s H s1 H1 ∧ RelS X.K s1 H1 ∧ RVs X.K s1 H1 lvs vs ∧ Q0 lvs s1) X.xe si :=
  (ha s0 H0 E tk).run pos pins si σ H (fun vs H1 => ∃ lvs s1, Step s H s1 H1 ∧ RelS X.K s1 H1 ∧ RVs X.K s1 H1 lvs vs ∧ Q0 lvs s1) I ⟨σl, s, Q0, E1, hσ, hs, st, hE, h, fun lx s1 x H1 h st1 hs1 rx => ⟨lx, s1, st1, hs1, rx, h⟩⟩
def lCall (sp : LSp) (t : LTA) : LTE := fun σ s Q E => t σ s (fun vs s1 => sp vs s1 Q E) E
variable {k : Nat} {f C : Addr} {fd : FuncData} {ps : List Str} {sp : LSp} {x m : Str} {p apos : Pos}
theorem le_call (F : LFn X.prog X.w X.K X.mg X.base k f fd ps sp) (hr : Room k X.A) (hg : Gl X x) (hm : X.mg x = some (.ref f)) (hk : PySem.W.keepIn X.K (.ref f) = true) (hb : Binds X.K fd ps []) (ha : LA X (e :: es) tas)
    (hdb : (x == ("__debug__" : Str)) = false := by decide) (he : starEach (e :: es) X.env = (false, eval e X.env) :: starEach es X.env := by rfl) (hpl : (backTo pos (starEach es X.env)).any (·.1) = false := by rfl) :
    LE X (.Call (.Name x p) (e :: es) [] pos) (lCall sp tas) := fun s0 H0 E tk => (pe_callS F hr hg hm hk hb (fun σ => passAt tk σ) (ha s0 H0 E tk) hdb he hpl).imp fun σ H Q ⟨σl, s, Q0, E1, hσ, hs, st, hE, h, kk⟩ =>
  ⟨σl, s, _, E1, hσ, hs, st, hE, h, fun lvs s1 vs H1 h st1 hs1 r => dn_call (hσ.mono st1) hs1 (st.trans st1) hE r h fun lv s2 v H2 q st2 => kk lv s2 v H2 q (st1.trans st2)⟩
theorem le_call0 (F : LFn X.prog X.w X.K X.mg X.base k f fd ps sp) (hr : Room k X.A) (hg : Gl X x) (hm : X.mg x = some (.ref f)) (hk : PySem.W.keepIn X.K (.ref f) = true) (hb : Binds X.K fd ps [])
    (hdb : (x == ("__debug__" : Str)) = false := by decide) : LE X (.Call (.Name x p) [] [] pos) (lCall sp lNil) := fun s0 H0 E tk => ⟨fun pins s1 σ H Q I ⟨σl, s, Q0, E1, hσ, hs, st, hE, h, kk⟩ =>
  wpAny_Call_Name_kw (ld_glob I hg hm (PySem.W.callWith_K0 I.kIn hk (run_fnS (E := fun _ => WE (WL X.K s0 H0 E) σ) (us := []) F hr hb (passAt tk σ) I .nil (dn_call hσ hs st hE .nil h kk))) hdb)⟩
def methAt (C : Addr) (m : Str) (x : LV) (s : LS) : Prop := match x with
  | .ref a => (match s a with
    | some (.ins B fs) => B = C ∧ fs.lookup m = none
    | _ => False)
  | .ins B fs => B = C ∧ fs.lookup m = none
  | _ => False
def lMeth (C : Addr) (m : Str) (sp : LSp) (ta : LTE) (t : LTA) : LTE := fun σ s Q E => ta σ s (fun x s1 => methAt C m x s1 ∧ t σ s1 (fun vs s2 => sp (x :: vs) s2 Q E) E) E
theorem meth_ok {K : PySem.W.Frag} [GG K] {s : LS} {H : Hp} {x : LV} {v : V} (r : RelS K s H) (rx : RV K s H x v) (h : methAt C m x s) : ∃ a dx us, v = .ref a ∧ H a = some (.ins C dx us) ∧ us.lookup m = none := by
  cases x with
  | ref a =>
    simp only [methAt] at h
    split at h
    · next B fs e =>
      obtain ⟨rfl, h⟩ := h
      obtain ⟨dx, us, hh, rf⟩ := r.ins e
      exact ⟨a, dx, us, rx.ref', hh, rf.look0 h⟩
    · exact h.elim
  | ins B fs =>
    simp only [methAt] at h
    obtain ⟨rfl, h⟩ := h
    simp only [RV] at rx
    obtain ⟨a, dx, us, rfl, _, hh, rf⟩ := rx
    exact ⟨a, dx, us, rfl, hh, rf.look0 h⟩
  | _ => exact h.elim
theorem le_meth {pl : Sem Bool} (ha : LE X o ta) (c : Cls X.K C) (hm : Meth X.K C m f) (F : LFn X.prog X.w X.K X.mg X.base k f fd ps sp) (hr : Room k X.A) (hb : Binds X.K fd ps []) (hes : LA X (e :: es) tas)
    (hst : starEach (e :: es) X.env = (false, eval e X.env) :: starEach es X.env := by rfl) (hpl : (backTo pos (starEach es X.env)).any (·.1) = false := by rfl)
    (ht : eval (.Call (.Attribute o m apos) (e :: es) [] pos) X.env = (do
      let ov ← eval o X.env
      standAt apos.atName
      let (f, first) ← holding [ov] (getMethod ov m pl)
      callWith pos f first (backTo pos (starEach (e :: es) X.env)) (backToKw pos (keywordEach [] X.env))) := by rfl) : LE X (.Call (.Attribute o m apos) (e :: es) [] pos) (lMeth C m sp ta tas) := fun s0 H0 E tk =>
  ⟨fun pins si σ H Q I ⟨σl, s, Q0, E1, hσ, hs, st, hE, h, kk⟩ => by
    refine PySem.W.methodCall_KW (pl := pl) (thn (ha.go tk I hσ hs st hE h) fun u si1 hx => ?_) ht
    obtain ⟨x, H1, I1, rv, lx, s1, st1, hs1, rx, h⟩ := hx
    obtain ⟨a, dx, us, rfl, hh, l⟩ := meth_ok hs1 rx h.1
    obtain rfl : u = Value.ref a := rv
    refine getmeth_ok I1 hh c hm l ?_
    refine PySem.W.callWith_K (first := [.ref a]) (h₀ := X.base) I.ok.mod.kin hm.kp (thn (hes.go tk pos I1 (hσ.mono st1) hs1 (st.trans st1) hE h.2) fun us si2 hx2 => ?_) hst hpl
    obtain ⟨vs, H2, I2, rvs, lvs, s2, st2, hs2, r, h⟩ := hx2
    refine ⟨I2.kIn, ?_⟩
    have st12 := st1.trans st2
    exact run_fnS (E := fun _ => WE (WL X.K s0 H0 E) σ) (us := .ref a :: us) (vs := .ref a :: vs) F hr hb (passAt tk σ) I2 (.cons rfl rvs) (dn_call (hσ.mono st12) hs2 (st.trans st12) hE (.cons (rx.mono st2) r) h fun lv s3 v H3 q st3 => kk lv s3 v H3 q (st12.trans st3))⟩
theorem le_meth0 {pl : Sem Bool} (ha : LE X o ta) (c : Cls X.K C) (hm : Meth X.K C m f) (F : LFn X.prog X.w X.K X.mg X.base k f fd ps sp) (hr : Room k X.A) (hb : Binds X.K fd ps [])
    (ht : eval (.Call (.Attribute o m apos) [] [] pos) X.env = (do
      let ov ← eval o X.env
      standAt apos.atName
      let (f, first) ← holding [ov] (getMethod ov m pl)
      callWith pos f first (backTo pos (starEach [] X.env)) (backToKw pos (keywordEach [] X.env))) := by rfl) : LE X (.Call (.Attribute o m apos) [] [] pos) (lMeth C m sp ta lNil) := fun s0 H0 E tk =>
  ⟨fun pins si σ H Q I ⟨σl, s, Q0, E1, hσ, hs, st, hE, h, kk⟩ => by
    refine PySem.W.methodCall_KW (pl := pl) (thn (ha.go tk I hσ hs st hE h) fun u si1 hx => ?_) ht
    obtain ⟨x, H1, I1, rv, lx, s1, st1, hs1, rx, h⟩ := hx
    obtain ⟨a, dx, us, rfl, hh, l⟩ := meth_ok hs1 rx h.1
    obtain rfl : u = Value.ref a := rv
    refine getmeth_ok I1 hh c hm l ?_
    exact PySem.W.callWith_K0 (first := [.ref a]) I1.kIn hm.kp (run_fnS (E := fun _ => WE (WL X.K s0 H0 E) σ) (us := [.ref a]) (vs := [.ref a]) F hr hb (passAt tk σ) I1 (.cons rfl .nil)
      (dn_call (hσ.mono st1) hs1 (st.trans st1) hE (.cons rx .nil) h.2 fun lv s3 v H3 q st3 => kk lv s3 v H3 q (st1.trans st3)))⟩
/-- C(..): a new instance in the store, then its __init__ -/
def lMake (C : Addr) (sp : LSp) (t : LTA) : LTE := fun σ s Q E => t σ s (fun vs s1 => ∀ x, s1 x = none → sp (.ref x :: vs) (put s1 x (.ins C [])) (fun v s2 => v = .non ∧ Q (.ref x) s2) E) E
/-- .. frozen behind it -/
def lMakeF (C : Addr) (sp : LSp) (t : LTA) : LTE := fun σ s Q E => t σ s (fun vs s1 => ∀ x, s1 x = none → sp (.ref x :: vs) (put s1 x (.ins C [])) (fun v s2 => v = .non ∧ ∃ fs, s2 x = some (.ins C fs) ∧ Q (.ins C fs) (del s2 x)) E) E
theorem run_makeS {pins : List (Addr × Obj)} {σ : St} {H : Hp} {s : Shared} {Q : VK} {us : List Value} {vs : List V} {spr : Sp} {E : XK} (M : Mk X.K C f) (F : FnOk X.prog X.w X.K X.mg X.base (L2.CX X.prog X.w) k f fd ps spr) (hr : Room (k + 1) X.A) (hb : Binds X.K fd ps [])
    (hx : PassesAt (L2.CX X.prog X.w) X σ E) (I : Inv X pins σ H s) (r : Vals vs us) (h : ∀ x dx, H x = none → H dx = none → dx ≠ x → spr (.ref x :: vs) (upd (upd H dx (.own x)) x (.ins C dx [])) (fun v H2 => v = .non ∧ Q (.ref x) H2) E) :
    wpAny (model X.prog X.w) X.A (call (.ref C) us) (EP X pins σ Q) X.xe s := by
  have q0 := h (s.heap.objs.size + 1) s.heap.objs.size (I.hok.fresh (Nat.le_succ _)) (I.hok.fresh (Nat.le_refl _)) (Nat.ne_of_lt (Nat.lt_succ_self _))
  have J := Inv.made (C := C) I
  have r1 : Vals (V.ref (s.heap.objs.size + 1) :: vs) (Value.ref (s.heap.objs.size + 1) :: us) := .cons rfl r
  have hl : (Value.ref (s.heap.objs.size + 1) :: us).length = ps.length := r1.length.symm.trans (F.len _ _ _ _ q0)
  have bb := hb { s with heap := _ } (Value.ref (s.heap.objs.size + 1) :: us) J.kIn (by rw [List.append_nil]; exact hl)
  rw [List.append_nil] at bb
  refine wpAny_call (make_map (f := f) I.kIn M.makes M.init (beq_iff_eq.mp M.fn) (codeAny_mono (F.run _ X.stack _ _ ⟨Value.ref (s.heap.objs.size + 1) :: us, []⟩ _ _ _ E (hr.make C us []) (J.env0.make C us []) bb r1 q0) fun r s' hq => ?_))
  cases r with
  | error e => exact hx pins _ _ e s' J hq
  | ok fl =>
    cases fl with
    | ret u =>
      obtain ⟨v, H', I3, rv, ev, q3⟩ := J.after hq
      subst ev
      exact ⟨rv, ⟨V.ref (s.heap.objs.size + 1), H', I3, rfl, q3⟩⟩
    | next => exact hq.elim
    | brk => exact hq.elim
    | cont => exact hq.elim
theorem made_step {K : PySem.W.Frag} [GG K] {s : LS} {H : Hp} {x dx : Addr} (hs : RelS K s H) (nx : H x = none) (nd : H dx = none) (ne : dx ≠ x) : Step s H (put s x (.ins C [])) (upd (upd H dx (.own x)) x (.ins C dx [])) ∧ RelS K (put s x (.ins C [])) (upd (upd H dx (.own x)) x (.ins C dx [])) := by
  have s1 := hs.new (u := .own x) nd
  have n1 : upd H dx (.own x) x = none := by rw [upd_ne (Ne.symm ne)]; exact nx
  exact ⟨(Step.new hs nd).trans (.put (.inr n1)), s1.put (.inr n1) ⟨dx, [], upd_same, by simp only [RVf]⟩⟩
theorem le_make (M : Mk X.K C f) (F : LFn X.prog X.w X.K X.mg X.base k f fd ps sp) (hr : Room (k + 1) X.A) (hg : Gl X x) (hm : X.mg x = some (.ref C)) (hb : Binds X.K fd ps []) (ha : LA X (e :: es) tas)
    (hdb : (x == ("__debug__" : Str)) = false := by decide) (he : starEach (e :: es) X.env = (false, eval e X.env) :: starEach es X.env := by rfl) (hpl : (backTo pos (starEach es X.env)).any (·.1) = false := by rfl) :
    LE X (.Call (.Name x p) (e :: es) [] pos) (lMake C sp tas) := fun s0 H0 E tk => ⟨fun pins si σ H Q I ⟨σl, s, Q0, E1, hσ, hs, st, hE, h, kk⟩ => by
  refine wpAny_Call_Name_kw (ld_glob I hg hm ?_ hdb)
  refine PySem.W.callWith_K (h₀ := X.base) I.ok.mod.kin M.kp (thn (ha.go tk pos I hσ hs st hE h) fun us si1 hx => ?_) he hpl
  obtain ⟨vs, H1, I1, rvs, lvs, s1, st1, hs1, r, h⟩ := hx
  refine ⟨I1.kIn, run_makeS M F hr hb (passAt tk σ) I1 rvs fun y dx ny nd ne => ?_⟩
  obtain ⟨stm, hsm⟩ := made_step (C := C) hs1 ny nd ne
  have st2 := st1.trans stm
  exact dn_call (hσ.mono st2) hsm (st.trans st2) hE (.cons .ref (r.mono stm)) (h y (hs1.free ny)) fun lv s3 v H3 q st3 hs3 rv => ⟨by rw [q.1] at rv; exact rv.non', kk _ s3 _ H3 q.2 (st2.trans st3) hs3 .ref⟩⟩
theorem le_make0 (M : Mk X.K C f) (F : LFn X.prog X.w X.K X.mg X.base k f fd ps sp) (hr : Room (k + 1) X.A) (hg : Gl X x) (hm : X.mg x = some (.ref C)) (hb : Binds X.K fd ps [])
    (hdb : (x == ("__debug__" : Str)) = false := by decide) : LE X (.Call (.Name x p) [] [] pos) (lMake C sp lNil) := fun s0 H0 E tk => ⟨fun pins si σ H Q I ⟨σl, s, Q0, E1, hσ, hs, st, hE, h, kk⟩ => by
  refine wpAny_Call_Name_kw (ld_glob I hg hm ?_ hdb)
  refine PySem.W.callWith_K0 I.kIn M.kp (run_makeS (us := []) M F hr hb (passAt tk σ) I .nil fun y dx ny nd ne => ?_)
  obtain ⟨stm, hsm⟩ := made_step (C := C) hs ny nd ne
  exact dn_call (hσ.mono stm) hsm (st.trans stm) hE (.cons .ref .nil) (h y (hs.free ny)) fun lv s3 v H3 q st3 hs3 rv => ⟨by rw [q.1] at rv; exact rv.non', kk _ s3 _ H3 q.2 (stm.trans st3) hs3 .ref⟩⟩
/-- a value frozen: what it is to the store s1, it is, by value, to the store s2, that holds less -/
def Frz (x : LV) (s1 : LS) (y : LV) (s2 : LS) : Prop := ∀ (K : PySem.W.Frag) [GG K] H v, RelS K s1 H → RV K s1 H x v → RV K s2 H y v ∧ RelS K s2 H ∧ Step s1 H s2 H
def lFrz (t : LTE) : LTE := fun σ s Q E => t σ s (fun x s1 => ∃ y s2, Frz x s1 y s2 ∧ Q y s2) E
theorem le_frz (h : LE X e te) : LE X e (lFrz te) := fun s0 H0 E tk => (h s0 H0 E tk).imp fun σ H Q ⟨σl, s, Q0, E1, hσ, hs, st, hE, h, k⟩ => ⟨σl, s, _, E1, hσ, hs, st, hE, h, fun lx s1 x H1 ⟨y, s2, fz, h⟩ st1 hs1 rx => by
  obtain ⟨a, b, c⟩ := fz _ _ _ hs1 rx
  exact k _ _ _ _ h (st1.trans c) b a⟩
theorem Frz.refl (x : LV) (s : LS) : Frz x s x s := fun _ _ H _ hs r => ⟨r, hs, .refl s H⟩
/-- less is held -/
def Sub (s2 s1 : LS) : Prop := ∀ a, s2 a = none ∨ s2 a = s1 a
theorem Sub.step {s1 s2 : LS} {H : Hp} (h : Sub s2 s1) : Step s1 H s2 H := fun a o e n => ⟨⟨o, e, .refl o⟩, by
  rcases h a with h | h
  · exact h
  · rw [h]; exact n⟩
theorem Sub.rel {K : PySem.W.Frag} [GG K] {s1 s2 : LS} {H : Hp} (h : Sub s2 s1) (r : RelS K s1 H) : RelS K s2 H := fun a o e => by
  rcases h a with q | q
  · rw [q] at e; cases e
  · rw [q] at e
    exact (r a o e).mono h.step fun _ z => z
theorem Frz.sub {x : LV} {s1 s2 : LS} (h : Sub s2 s1) : Frz x s1 x s2 := fun _ _ H _ hs r => ⟨r.mono h.step, h.rel hs, h.step⟩
theorem Frz.lst {a : Addr} {xs : List LV} {s1 s2 : LS} (e : s1 a = some (.lst xs)) (n : s2 a = none) (h : Sub s2 s1) : Frz (.ref a) s1 (.lst xs) s2 := fun K _ H v hs r => by
  obtain ⟨us, hh, q⟩ := hs.lst e
  refine ⟨?_, h.rel hs, h.step⟩
  simp only [RV]
  exact ⟨a, us, r.ref', n, hh, q.mono h.step⟩
theorem Frz.ins {a C : Addr} {fs : List (Str × LV)} {s1 s2 : LS} (e : s1 a = some (.ins C fs)) (n : s2 a = none) (h : Sub s2 s1) : Frz (.ref a) s1 (.ins C fs) s2 := fun K _ H v hs r => by
  obtain ⟨dx, us, hh, q⟩ := hs.ins e
  refine ⟨?_, h.rel hs, h.step⟩
  simp only [RV]
  exact ⟨a, dx, us, r.ref', n, hh, q.mono h.step⟩
theorem Frz.dT {a : Addr} {kvs : List (List Key × LV)} {s1 s2 : LS} (e : s1 a = some (.dT kvs)) (n : s2 a = none) (h : Sub s2 s1) : Frz (.ref a) s1 (.dT kvs) s2 := fun K _ H v hs r => by
  obtain ⟨us, hh, q⟩ := hs a _ e
  refine ⟨?_, h.rel hs, h.step⟩
  simp only [RV]
  exact ⟨a, us, _, r.ref', n, hh, .inl rfl, q.mono h.step⟩
end
end L3

namespace L3
open PySem PySem.Spec L2
/-- some value: then k of it -/
def opt {α : Type} (o : Option α) (k : α → Prop) : Prop := match o with
  | some v => k v
  | none => False
theorem opt_ok {α : Type} {o : Option α} {k : α → Prop} (h : opt o k) : ∃ v, o = some v ∧ k v := by
  cases o with
  | none => exact h.elim
  | some v => exact ⟨v, rfl, h⟩
section
variable {X : Cx} [GG X.K] {K : PySem.W.Frag} [GG K] {s : LS} {H : Hp}
def rl2 (C : Int → Int → Prop) (g : Int → Int → LV) : LR2 := fun x y s Q => match x, y with
  | .int i, .int j => C i j ∧ Q (g i j) s
  | _, _ => False
def rl2' (g : Int → Int → LV) : LR2 := fun x y s Q => match x, y with
  | .int i, .int j => Q (g i j) s
  | _, _ => False
theorem up2_I {C : Int → Int → Prop} {g : Int → Int → V} {gl : Int → Int → LV} (hg : ∀ s H i j, RV K s H (gl i j) (g i j)) : Up2 K (rI C g) (rl2 C gl) := fun x y s H lx ly Q0 Q hs rx ry h k => by
  cases lx <;> try exact False.elim h
  cases ly <;> try exact False.elim h
  exact ⟨_, _, rx.int', ry.int', h.1, k _ _ _ _ h.2 (.refl _ _) hs (hg _ _ _ _)⟩
theorem up2_I0 {g : Int → Int → V} {gl : Int → Int → LV} (hg : ∀ s H i j, RV K s H (gl i j) (g i j)) : Up2 K (rI0 g) (rl2' gl) := fun x y s H lx ly Q0 Q hs rx ry h k => by
  cases lx <;> try exact False.elim h
  cases ly <;> try exact False.elim h
  exact ⟨_, _, rx.int', ry.int', k _ _ _ _ h (.refl _ _) hs (hg _ _ _ _)⟩
variable {a b e : Expr} {pos : Pos} {ta tb : LTE}
abbrev rSubI : LR2 := rl2' fun i j => .int (i - j)
abbrev rMulI : LR2 := rl2 CMul fun i j => .int (i * j)
abbrev rDivI : LR2 := rl2 CDiv fun i j => .int (i / j)
abbrev rModI : LR2 := rl2 (fun _ j => 0 < j) fun i j => .int (i % j)
abbrev rPowI : LR2 := rl2 CPow fun i j => .int (i ^ j.toNat)
abbrev rShrI : LR2 := rl2 (fun _ j => 0 ≤ j) fun i j => .int (i / 2 ^ j.toNat)
abbrev rAndI : LR2 := rl2' fun i j => .int (Builtin.bitAnd i j)
abbrev rXorI : LR2 := rl2' fun i j => .int (Builtin.bitXor i j)
theorem le_sub (ha : LE X a ta) (hb : LE X b tb) : LE X (.BinOp a .Sub b pos) (lOp rSubI ta tb) := le_op op_sub (up2_I0 fun _ _ _ _ => .int) ha hb
theorem le_mul (ha : LE X a ta) (hb : LE X b tb) : LE X (.BinOp a .Mult b pos) (lOp rMulI ta tb) := le_op op_mul (up2_I fun _ _ _ _ => .int) ha hb
theorem le_div (ha : LE X a ta) (hb : LE X b tb) : LE X (.BinOp a .FloorDiv b pos) (lOp rDivI ta tb) := le_op op_fdiv (up2_I fun _ _ _ _ => .int) ha hb
theorem le_mod (ha : LE X a ta) (hb : LE X b tb) : LE X (.BinOp a .Mod b pos) (lOp rModI ta tb) := le_op op_mod (up2_I fun _ _ _ _ => .int) ha hb
theorem le_pow (ha : LE X a ta) (hb : LE X b tb) : LE X (.BinOp a .Pow b pos) (lOp rPowI ta tb) := le_op op_pow (up2_I fun _ _ _ _ => .int) ha hb
theorem le_shr (ha : LE X a ta) (hb : LE X b tb) : LE X (.BinOp a .RShift b pos) (lOp rShrI ta tb) := le_op op_shr (up2_I fun _ _ _ _ => .int) ha hb
theorem le_band (ha : LE X a ta) (hb : LE X b tb) : LE X (.BinOp a .BitAnd b pos) (lOp rAndI ta tb) := le_op op_and (up2_I0 fun _ _ _ _ => .int) ha hb
theorem le_bxor (ha : LE X a ta) (hb : LE X b tb) : LE X (.BinOp a .BitXor b pos) (lOp rXorI ta tb) := le_op op_xor (up2_I0 fun _ _ _ _ => .int) ha hb
def rNegI : LR1 := fun x s Q => match x with
  | .int i => Q (.int (-i)) s
  | _ => False
theorem le_neg (ha : LE X a ta) : LE X (.UnaryOp .USub a pos) (lUn rNegI ta) := le_un un_neg (fun x s H lx Q0 Q hs rx h k => by
  cases lx <;> try exact False.elim h
  exact ⟨_, rx.int', k _ _ _ _ h (.refl _ _) hs .int⟩) ha
def rAddL : LR2 := fun x y s Q => match x, y with
  | .int i, .int j => Q (.int (i + j)) s
  | .str i, .str j => i.length + j.length ≤ 16777216 ∧ Q (.str (i ++ j)) s
  | _, _ => False
theorem OpR.or2 {f : Value → Value → Sem Value} {r r' : R2} (h : OpR X f r) (h' : OpR X f r') : OpR X f (fun x y H Q => r x y H Q ∨ r' x y H Q) := h.or h'
theorem le_add (ha : LE X a ta) (hb : LE X b tb) : LE X (.BinOp a .Add b pos) (lOp rAddL ta tb) := le_op (op_add.or op_add_str) (fun x y s H lx ly Q0 Q hs rx ry h k => by
  cases lx <;> try exact False.elim h
  · cases ly <;> try exact False.elim h
    exact .inl ⟨_, _, rx.int', ry.int', k _ _ _ _ h (.refl _ _) hs .int⟩
  · cases ly <;> try exact False.elim h
    exact .inr ⟨_, _, rx.str', ry.str', by rw [sizeLine_eq]; exact h.1, k _ _ _ _ h.2 (.refl _ _) hs .str⟩) ha hb
/-- the list that a value is, frozen or in the store -/
def seqL (x : LV) (s : LS) : Option (List LV) := match x with
  | .lst xs => some xs
  | .ref a => (match s a with
    | some (.lst xs) => some xs
    | _ => none)
  | _ => none
theorem seqL_ok {x : LV} {xs : List LV} {v : V} (r : RelS K s H) (rx : RV K s H x v) (h : seqL x s = some xs) : ∃ a us, v = .ref a ∧ H a = some (.lst us) ∧ RVs K s H xs us := by
  cases x with
  | lst ys =>
    cases h
    simp only [RV] at rx
    obtain ⟨a, us, rfl, _, hh, q⟩ := rx
    exact ⟨a, us, rfl, hh, q⟩
  | ref a =>
    simp only [seqL] at h
    split at h
    · next ys e =>
      cases h
      obtain ⟨us, hh, q⟩ := r.lst e
      exact ⟨a, us, rx.ref', hh, q⟩
    · cases h
  | _ => cases h
/-- a new list of two values: r tells its items -/
def UpL2 (K : PySem.W.Frag) [GG K] (r : R2) (rl : LV → LV → LS → (List LV → LS → Prop) → Prop) : Prop := ∀ x y s H lx ly Q0 Q, RelS K s H → RV K s H lx x → RV K s H ly y → rl lx ly s Q0 →
  (∀ xs s' us H', Q0 xs s' → Step s H s' H' → RelS K s' H' → RVs K s' H' xs us → ∀ p, H' p = none → Q (.ref p) (upd H' p (.lst us))) → r x y H Q
def lOpL (r : LV → LV → LS → (List LV → LS → Prop) → Prop) (ta tb : LTE) : LTL := fun σ s Q E => ta σ s (fun x s1 => tb σ s1 (fun y s2 => r x y s2 Q) E) E
theorem ll_op {op : Operator} {r : R2} {rl : LV → LV → LS → (List LV → LS → Prop) → Prop} (ho : OpR X (binaryOp op) r) (u : UpL2 X.K r rl) (ha : LE X a ta) (hb : LE X b tb) : LL X (.BinOp a op b pos) (lOpL rl ta tb) := fun s0 H0 E tk =>
  (pe_op ho (ha s0 H0 E tk) (hb s0 H0 E tk)).imp fun σ H Q ⟨σl, s, Q0, E1, hσ, hs, st, hE, h, k⟩ => ⟨σl, s, _, E1, hσ, hs, st, hE, h, fun lx s1 x H1 h st1 hs1 rx =>
    ⟨σl, s1, _, E1, hσ.mono st1, hs1, st.trans st1, hE, h, fun ly s2 y H2 h st2 hs2 ry => u x y s2 H2 lx ly Q0 Q hs2 (rx.mono st2) ry h fun xs s3 us H3 q st3 => k xs s3 us H3 q ((st1.trans st2).trans st3)⟩⟩
def rCatL : LV → LV → LS → (List LV → LS → Prop) → Prop := fun x y s Q => opt (seqL x s) fun xs => opt (seqL y s) fun ys => xs.length + ys.length ≤ 16777216 ∧ Q (xs ++ ys) s
theorem ll_cat (ha : LE X a ta) (hb : LE X b tb) : LL X (.BinOp a .Add b pos) (lOpL rCatL ta tb) := ll_op op_cat (fun x y s H lx ly Q0 Q hs rx ry h k => by
  obtain ⟨xs, e1, h⟩ := opt_ok h
  obtain ⟨ys, e2, hl, h⟩ := opt_ok h
  obtain ⟨p, us, rfl, h1, r1⟩ := seqL_ok hs rx e1
  obtain ⟨q, ws, rfl, h2, r2⟩ := seqL_ok hs ry e2
  exact ⟨p, q, us, ws, rfl, rfl, h1, h2, by rw [r1.length, r2.length, sizeLine_eq]; exact hl, fun l hn => k _ _ _ _ h (.refl _ _) hs (r1.append r2) l hn⟩) ha hb
def rRepL : LV → LV → LS → (List LV → LS → Prop) → Prop := fun x y s Q => opt (seqL x s) fun xs => match y with
  | .int k => -(2 ^ 63) ≤ k ∧ k < 2 ^ 63 ∧ xs.length * k.toNat ≤ 16777216 ∧ Q (List.replicate k.toNat xs).flatten s
  | _ => False
theorem RVs.rep {xs : List LV} {us : List V} (h : RVs K s H xs us) : ∀ k : Nat, RVs K s H (List.replicate k xs).flatten (List.replicate k us).flatten
  | 0 => .nil
  | k + 1 => by
    rw [List.replicate_succ, List.replicate_succ, List.flatten_cons, List.flatten_cons]
    exact h.append (RVs.rep h k)
theorem ll_rep (ha : LE X a ta) (hb : LE X b tb) : LL X (.BinOp a .Mult b pos) (lOpL rRepL ta tb) := ll_op op_rep (fun x y s H lx ly Q0 Q hs rx ry h k => by
  obtain ⟨xs, e1, h⟩ := opt_ok h
  obtain ⟨p, us, rfl, h1, r1⟩ := seqL_ok hs rx e1
  cases ly with
  | int n => exact ⟨p, n, us, rfl, ry.int', h1, h.1, h.2.1, by rw [r1.length, sizeLine_eq]; exact h.2.2.1, fun l hn => k _ _ _ _ h.2.2.2 (.refl _ _) hs (r1.rep _) l hn⟩
  | _ => exact False.elim h) ha hb
abbrev rLtI : LR2 := rl2' fun i j => .bl (decide (i < j))
abbrev rLeI : LR2 := rl2' fun i j => .bl (decide (i ≤ j))
abbrev rGtI : LR2 := rl2' fun i j => .bl (decide (j < i))
abbrev rGeI : LR2 := rl2' fun i j => .bl (decide (j ≤ i))
theorem le_lt (ha : LE X a ta) (hb : LE X b tb) : LE X (.Compare a [.Lt] [b] pos) (lOp rLtI ta tb) := le_cmp op_lt (up2_I0 fun _ _ _ _ => .bl) ha hb (nomark _)
theorem le_le (ha : LE X a ta) (hb : LE X b tb) : LE X (.Compare a [.LtE] [b] pos) (lOp rLeI ta tb) := le_cmp op_le (up2_I0 fun _ _ _ _ => .bl) ha hb (nomark _)
theorem le_gt (ha : LE X a ta) (hb : LE X b tb) : LE X (.Compare a [.Gt] [b] pos) (lOp rGtI ta tb) := le_cmp op_gt (up2_I0 fun _ _ _ _ => .bl) ha hb (nomark _)
theorem le_ge (ha : LE X a ta) (hb : LE X b tb) : LE X (.Compare a [.GtE] [b] pos) (lOp rGeI ta tb) := le_cmp op_ge (up2_I0 fun _ _ _ _ => .bl) ha hb (nomark _)
theorem lt_lt (ha : LE X a ta) (hb : LE X b tb) : LT X (.Compare a [.Lt] [b] pos) (lB (lOp rLtI ta tb)) := lt_cmp op_lt (up2_I0 fun _ _ _ _ => .bl) ha hb (nomark _)
theorem lt_le (ha : LE X a ta) (hb : LE X b tb) : LT X (.Compare a [.LtE] [b] pos) (lB (lOp rLeI ta tb)) := lt_cmp op_le (up2_I0 fun _ _ _ _ => .bl) ha hb (nomark _)
theorem lt_gt (ha : LE X a ta) (hb : LE X b tb) : LT X (.Compare a [.Gt] [b] pos) (lB (lOp rGtI ta tb)) := lt_cmp op_gt (up2_I0 fun _ _ _ _ => .bl) ha hb (nomark _)
theorem lt_ge (ha : LE X a ta) (hb : LE X b tb) : LT X (.Compare a [.GtE] [b] pos) (lB (lOp rGeI ta tb)) := lt_cmp op_ge (up2_I0 fun _ _ _ _ => .bl) ha hb (nomark _)
mutual
/-- the value is the data d, read through the store -/
def Isd (s : LS) : PyData → LV → Prop
  | .none, x => x = .non
  | .bool b, x => x = .bl b
  | .int i, x => x = .int i
  | .str z, x => x = .str z
  | .list ds, x => (∃ xs, x = .lst xs ∧ Isds s ds xs) ∨ ∃ a xs, x = .ref a ∧ s a = some (.lst xs) ∧ Isds s ds xs
  | .tuple ds, x => ∃ xs, x = .tup xs ∧ Isds s ds xs
  | .dict _, _ => False
def Isds (s : LS) : List PyData → List LV → Prop
  | [], xs => xs = []
  | d :: ds, xs => ∃ y r, xs = y :: r ∧ Isd s d y ∧ Isds s ds r
end
mutual
theorem Isd.dp (hs : RelS K s H) : ∀ {d : PyData} {x : LV} {v : V}, Isd s d x → RV K s H x v → Dp K H v d
  | .none, _, _, h, r => by simp only [Isd] at h; subst h; rw [r.non']; exact .non
  | .bool b, _, _, h, r => by simp only [Isd] at h; subst h; rw [r.bl']; exact .bl b
  | .int b, _, _, h, r => by simp only [Isd] at h; subst h; rw [r.int']; exact .int b
  | .str b, _, _, h, r => by simp only [Isd] at h; subst h; rw [r.str']; exact .str b
  | .list ds, _, _, h, r => by
    simp only [Isd] at h
    rcases h with ⟨xs, rfl, h⟩ | ⟨a, xs, rfl, e, h⟩
    · simp only [RV] at r
      obtain ⟨a, us, rfl, _, hh, q⟩ := r
      exact .lst (SqL.of hh) (Isds.dp hs h q)
    · obtain ⟨us, hh, q⟩ := hs.lst e
      rw [r.ref']
      exact .lst (SqL.of hh) (Isds.dp hs h q)
  | .tuple ds, _, _, h, r => by
    simp only [Isd] at h
    obtain ⟨xs, rfl, h⟩ := h
    simp only [RV] at r
    obtain ⟨a, us, rfl, _, hh, q⟩ := r
    exact .tup (SqT.of hh) (Isds.dp hs h q)
  | .dict _, _, _, h, _ => by simp only [Isd] at h
theorem Isds.dp (hs : RelS K s H) : ∀ {ds : List PyData} {xs : List LV} {us : List V}, Isds s ds xs → RVs K s H xs us → DpAll K H us ds
  | [], _, _, h, r => by
    simp only [Isds] at h
    subst h
    simp only [RVs] at r
    subst r
    exact .nil
  | d :: ds, _, _, h, r => by
    simp only [Isds] at h
    obtain ⟨y, q, rfl, h1, h2⟩ := h
    simp only [RVs] at r
    obtain ⟨u, w, rfl, r1, r2⟩ := r
    exact .cons (Isd.dp hs h1 r1) (Isds.dp hs h2 r2)
end
def rEqL : LR2 := fun x y s Q => ∃ d e, Isd s d x ∧ Isd s e y ∧ SeqAt.shaped d = true ∧ SeqAt.shaped e = true ∧ Q (.bl (PyData.eqv d e)) s
def rNeL : LR2 := fun x y s Q => ∃ d e, Isd s d x ∧ Isd s e y ∧ SeqAt.shaped d = true ∧ SeqAt.shaped e = true ∧ Q (.bl (!PyData.eqv d e)) s
theorem up_eqL : Up2 K (rEqD K) rEqL := fun x y s H lx ly Q0 Q hs rx ry ⟨d, e, h1, h2, s1, s2, q⟩ k => ⟨d, e, h1.dp hs rx, h2.dp hs ry, s1, s2, k _ _ _ _ q (.refl _ _) hs .bl⟩
theorem up_neL : Up2 K (rNeD K) rNeL := fun x y s H lx ly Q0 Q hs rx ry ⟨d, e, h1, h2, s1, s2, q⟩ k => ⟨d, e, h1.dp hs rx, h2.dp hs ry, s1, s2, k _ _ _ _ q (.refl _ _) hs .bl⟩
theorem le_eqD (hu : X.A.units + 64 < cLine) (ha : LE X a ta) (hb : LE X b tb) : LE X (.Compare a [.Eq] [b] pos) (lOp rEqL ta tb) := le_cmp (op_eqD hu) up_eqL ha hb (nomark _)
theorem le_neD (hu : X.A.units + 64 < cLine) (ha : LE X a ta) (hb : LE X b tb) : LE X (.Compare a [.NotEq] [b] pos) (lOp rNeL ta tb) := le_cmp (op_neD hu) up_neL ha hb (nomark _)
theorem lt_eqD (hu : X.A.units + 64 < cLine) (ha : LE X a ta) (hb : LE X b tb) : LT X (.Compare a [.Eq] [b] pos) (lB (lOp rEqL ta tb)) := lt_cmp (op_eqD hu) up_eqL ha hb (nomark _)
theorem lt_neD (hu : X.A.units + 64 < cLine) (ha : LE X a ta) (hb : LE X b tb) : LT X (.Compare a [.NotEq] [b] pos) (lB (lOp rNeL ta tb)) := lt_cmp (op_neD hu) up_neL ha hb (nomark _)
/-- == of two ints, bools or texts, both of one kind -/
def rEqS : LR2 := fun x y s Q => match x, y with
  | .int i, .int j => Q (.bl (decide (i = j))) s
  | .bl i, .bl j => Q (.bl (decide (i = j))) s
  | .str i, .str j => Q (.bl (decide (i = j))) s
  | _, _ => False
def rNeS : LR2 := fun x y s Q => match x, y with
  | .int i, .int j => Q (.bl (!decide (i = j))) s
  | .bl i, .bl j => Q (.bl (!decide (i = j))) s
  | .str i, .str j => Q (.bl (!decide (i = j))) s
  | _, _ => False
theorem dci {i j : Int} : decide (V.int i = V.int j) = decide (i = j) := by by_cases h : i = j <;> simp [h]
theorem dcb {i j : Bool} : decide (V.bl i = V.bl j) = decide (i = j) := by by_cases h : i = j <;> simp [h]
theorem dcs {i j : Str} : decide (V.str i = V.str j) = decide (i = j) := by by_cases h : i = j <;> simp [h]
theorem up_eqS : Up2 K rEq rEqS := fun x y s H lx ly Q0 Q hs rx ry h k => by
  cases lx <;> cases ly <;> first
    | exact False.elim h
    | (rw [rx.int', ry.int']; exact ⟨rfl, by rw [dci]; exact k _ _ _ _ h (.refl _ _) hs .bl⟩)
    | (rw [rx.bl', ry.bl']; exact ⟨rfl, by rw [dcb]; exact k _ _ _ _ h (.refl _ _) hs .bl⟩)
    | (rw [rx.str', ry.str']; exact ⟨rfl, by rw [dcs]; exact k _ _ _ _ h (.refl _ _) hs .bl⟩)
theorem up_neS : Up2 K rNe rNeS := fun x y s H lx ly Q0 Q hs rx ry h k => by
  cases lx <;> cases ly <;> first
    | exact False.elim h
    | (rw [rx.int', ry.int']; exact ⟨rfl, by rw [dci]; exact k _ _ _ _ h (.refl _ _) hs .bl⟩)
    | (rw [rx.bl', ry.bl']; exact ⟨rfl, by rw [dcb]; exact k _ _ _ _ h (.refl _ _) hs .bl⟩)
    | (rw [rx.str', ry.str']; exact ⟨rfl, by rw [dcs]; exact k _ _ _ _ h (.refl _ _) hs .bl⟩)
theorem le_eq (ha : LE X a ta) (hb : LE X b tb) : LE X (.Compare a [.Eq] [b] pos) (lOp rEqS ta tb) := le_cmp op_eq up_eqS ha hb (nomark _)
theorem le_ne (ha : LE X a ta) (hb : LE X b tb) : LE X (.Compare a [.NotEq] [b] pos) (lOp rNeS ta tb) := le_cmp op_ne up_neS ha hb (nomark _)
theorem lt_eq (ha : LE X a ta) (hb : LE X b tb) : LT X (.Compare a [.Eq] [b] pos) (lB (lOp rEqS ta tb)) := lt_cmp op_eq up_eqS ha hb (nomark _)
theorem lt_ne (ha : LE X a ta) (hb : LE X b tb) : LT X (.Compare a [.NotEq] [b] pos) (lB (lOp rNeS ta tb)) := lt_cmp op_ne up_neS ha hb (nomark _)
/-- is None -/
def rIsNonL : LR2 := fun x y s Q => match y, x with
  | .non, .non => Q (.bl true) s
  | .non, .bl _ => Q (.bl false) s
  | .non, .int _ => Q (.bl false) s
  | .non, .str _ => Q (.bl false) s
  | .non, .ref _ => Q (.bl false) s
  | .non, .tup _ => Q (.bl false) s
  | .non, .lst _ => Q (.bl false) s
  | .non, .dT _ => Q (.bl false) s
  | .non, .ins _ _ => Q (.bl false) s
  | _, _ => False
def rNotNonL : LR2 := fun x y s Q => rIsNonL x y s fun v s' => match v with
  | .bl c => Q (.bl (!c)) s'
  | _ => False
theorem isNon_ok {x y : LV} {v w : V} {Q : LVK} (rx : RV K s H x v) (ry : RV K s H y w) (h : rIsNonL x y s Q) : w = .non ∧ Q (.bl (decide (v = .non))) s := by
  cases y <;> try exact False.elim h
  refine ⟨ry.non', ?_⟩
  cases x with
  | non => rw [rx.non']; exact h
  | bl b => rw [rx.bl']; exact h
  | int b => rw [rx.int']; exact h
  | str b => rw [rx.str']; exact h
  | ref b => rw [rx.ref']; exact h
  | tup xs => simp only [RV] at rx; obtain ⟨a, us, rfl, _⟩ := rx; exact h
  | lst xs => simp only [RV] at rx; obtain ⟨a, us, rfl, _⟩ := rx; exact h
  | dT xs => simp only [RV] at rx; obtain ⟨a, us, o, rfl, _⟩ := rx; exact h
  | ins C xs => simp only [RV] at rx; obtain ⟨a, dx, us, rfl, _⟩ := rx; exact h
  | _ => exact False.elim h
theorem up_isN : Up2 K (fun x y H Q => y = .non ∧ Q (.bl (decide (x = .non))) H) rIsNonL := fun x y s H lx ly Q0 Q hs rx ry h k => by
  obtain ⟨e, q⟩ := isNon_ok rx ry h
  exact ⟨e, k _ _ _ _ q (.refl _ _) hs .bl⟩
theorem up_notN : Up2 K (fun x y H Q => y = .non ∧ Q (.bl (!decide (x = .non))) H) rNotNonL := fun x y s H lx ly Q0 Q hs rx ry h k => by
  obtain ⟨e, q⟩ := isNon_ok rx ry h
  exact ⟨e, k _ _ _ _ q (.refl _ _) hs .bl⟩
theorem le_isN (ha : LE X a ta) (hb : LE X b tb) : LE X (.Compare a [.Is] [b] pos) (lOp rIsNonL ta tb) := le_cmp op_isN up_isN ha hb (nomark _)
theorem le_notN (ha : LE X a ta) (hb : LE X b tb) : LE X (.Compare a [.IsNot] [b] pos) (lOp rNotNonL ta tb) := le_cmp op_notN up_notN ha hb (nomark _)
theorem lt_isN (ha : LE X a ta) (hb : LE X b tb) : LT X (.Compare a [.Is] [b] pos) (lB (lOp rIsNonL ta tb)) := lt_cmp op_isN up_isN ha hb (nomark _)
theorem lt_notN (ha : LE X a ta) (hb : LE X b tb) : LT X (.Compare a [.IsNot] [b] pos) (lB (lOp rNotNonL ta tb)) := lt_cmp op_notN up_notN ha hb (nomark _)
/-- x in a list of ints, by places -/
def rInL (neg : Bool) : LR2 := fun x y s Q => opt (seqL y s) fun xs => ∃ d ds, Isd s d x ∧ Isds s ds xs ∧ SeqAt.shaped d = true ∧ SeqAt.shaped (.list ds) = true ∧ Q (.bl (neg.xor (ds.any fun z => PyData.eqv z d))) s
theorem up_inL : Up2 K (rInD K) (rInL false) := fun x y s H lx ly Q0 Q hs rx ry h k => by
  obtain ⟨xs, e, d, ds, h1, h2, s1, s2, q⟩ := opt_ok h
  obtain ⟨p, us, rfl, hh, r⟩ := seqL_ok hs ry e
  rw [Bool.false_xor] at q
  exact ⟨d, ds, h1.dp hs rx, .lst (SqL.of hh) (h2.dp hs r), s1, s2, k _ _ _ _ q (.refl _ _) hs .bl⟩
theorem up_ninL : Up2 K (rNotInD K) (rInL true) := fun x y s H lx ly Q0 Q hs rx ry h k => by
  obtain ⟨xs, e, d, ds, h1, h2, s1, s2, q⟩ := opt_ok h
  obtain ⟨p, us, rfl, hh, r⟩ := seqL_ok hs ry e
  rw [Bool.true_xor] at q
  exact ⟨d, ds, h1.dp hs rx, .lst (SqL.of hh) (h2.dp hs r), s1, s2, k _ _ _ _ q (.refl _ _) hs .bl⟩
theorem le_inL (hu : X.A.units + 65 < cLine) (ha : LE X a ta) (hb : LE X b tb) (hm : behindInMarks .In b = false) : LE X (.Compare a [.In] [b] pos) (lOp (rInL false) ta tb) := le_cmp (op_inD hu) up_inL ha hb hm
theorem le_ninL (hu : X.A.units + 65 < cLine) (ha : LE X a ta) (hb : LE X b tb) (hm : behindInMarks .NotIn b = false) : LE X (.Compare a [.NotIn] [b] pos) (lOp (rInL true) ta tb) := le_cmp (op_notInD hu) up_ninL ha hb hm
theorem lt_inL (hu : X.A.units + 65 < cLine) (ha : LE X a ta) (hb : LE X b tb) (hm : behindInMarks .In b = false) : LT X (.Compare a [.In] [b] pos) (lB (lOp (rInL false) ta tb)) := lt_cmp (op_inD hu) up_inL ha hb hm
theorem lt_ninL (hu : X.A.units + 65 < cLine) (ha : LE X a ta) (hb : LE X b tb) (hm : behindInMarks .NotIn b = false) : LT X (.Compare a [.NotIn] [b] pos) (lB (lOp (rInL true) ta tb)) := lt_cmp (op_notInD hu) up_ninL ha hb hm
/-- x in a dict whose keys are tuples -/
def keyL : LV → Option Key
  | .int i => some (.inl i)
  | .str z => some (.inr z)
  | _ => none
def keysL : List LV → Option (List Key)
  | [] => some []
  | x :: xs => (keyL x).bind fun k => (keysL xs).map (k :: ·)
theorem keysL_ok : ∀ {xs : List LV} {ks : List Key} {us : List V}, keysL xs = some ks → RVs K s H xs us → us = ks.map kV
  | [], _, _, e, r => by
    simp only [RVs] at r
    subst r
    cases e
    rfl
  | x :: xs, _, _, e, r => by
    simp only [RVs] at r
    obtain ⟨u, w, rfl, r1, r2⟩ := r
    unfold keysL at e
    obtain ⟨k, ek, e⟩ := Option.bind_eq_some_iff.mp e
    obtain ⟨ks, eks, rfl⟩ := Option.map_eq_some_iff.mp e
    rw [keysL_ok eks r2]
    cases x with
    | int i => cases ek; rw [r1.int']; rfl
    | str z => cases ek; rw [r1.str']; rfl
    | _ => cases ek
/-- the dict with tuple keys that a value is -/
def dicT (x : LV) (s : LS) : Option (List (List Key × LV)) := match x with
  | .dT kvs => some kvs
  | .ref a => (match s a with
    | some (.dT kvs) => some kvs
    | _ => none)
  | _ => none
theorem dicT_ok {x : LV} {kvs : List (List Key × LV)} {v : V} (r : RelS K s H) (rx : RV K s H x v) (h : dicT x s = some kvs) : ∃ a us o, v = .ref a ∧ H a = some o ∧ isD us o ∧ RVk K s H kvs us := by
  cases x with
  | dT ys =>
    cases h
    simp only [RV] at rx
    obtain ⟨a, us, o, rfl, _, hh, d, q⟩ := rx
    exact ⟨a, us, o, rfl, hh, d, q⟩
  | ref a =>
    simp only [dicT] at h
    split at h
    · next ys e =>
      cases h
      obtain ⟨us, hh, q⟩ := r a _ e
      exact ⟨a, us, _, rx.ref', hh, .inl rfl, q⟩
    · cases h
  | _ => cases h
theorem isD.rd {a : Addr} {us : List (List Key × V)} {o : HO} (h : H a = some o) (d : isD us o) : Rd H a (.dT us) := by
  rcases d with rfl | ⟨ob, rfl⟩
  · exact .inl h
  · exact .inr ⟨ob, h⟩
theorem RVk.val : ∀ {kvs : List (List Key × LV)} {us : List (List Key × V)} (k : List Key), RVk K s H kvs us → match valL kvs k with
    | some x => ∃ v, valV us k = some v ∧ RV K s H x v
    | none => valV us k = none
  | [], _, k, h => by simp only [RVk] at h; subst h; rfl
  | (j, x) :: kvs, _, k, h => by
    simp only [RVk] at h
    obtain ⟨u, r, rfl, h1, h2⟩ := h
    by_cases e : j = k
    · simp only [valL, if_pos e]
      exact ⟨u, valV_pos e, h1⟩
    · simp only [valL, if_neg e]
      rw [valV_neg (p := (j, u)) e]
      exact RVk.val k h2
/-- the dict with plain keys that stands in the store -/
def dicK (x : LV) (s : LS) : Option (List (Key × LV)) := match x with
  | .ref a => (match s a with
    | some (.dK kvs) => some kvs
    | _ => none)
  | _ => none
theorem dicK_ok {x : LV} {kvs : List (Key × LV)} {v : V} (r : RelS K s H) (rx : RV K s H x v) (h : dicK x s = some kvs) : ∃ a us, x = .ref a ∧ v = .ref a ∧ H a = some (.dK us) ∧ RVd K s H kvs us := by
  cases x with
  | ref a =>
    simp only [dicK] at h
    split at h
    · next ys e =>
      cases h
      obtain ⟨us, hh, q⟩ := r a _ e
      exact ⟨a, us, rfl, rx.ref', hh, q⟩
    · cases h
  | _ => cases h
theorem RVd.val : ∀ {kvs : List (Key × LV)} {us : List (Key × V)} (k : Key), RVd K s H kvs us → match valL kvs k with
    | some x => ∃ v, valV us k = some v ∧ RV K s H x v
    | none => valV us k = none
  | [], _, k, h => by cases h; rfl
  | (j, x) :: kvs, _, k, h => by
    obtain ⟨u, r, rfl, h1, h2⟩ := h
    by_cases e : j = k
    · simp only [valL, if_pos e]
      exact ⟨u, valV_pos e, h1⟩
    · simp only [valL, if_neg e]
      rw [valV_neg (p := (j, u)) e]
      exact RVd.val k h2
end
end L3

namespace L3
open PySem PySem.Spec L2
section
variable {X : Cx} [GG X.K] {K : PySem.W.Frag} [GG K] {s : LS} {H : Hp} {a b e o : Expr} {es : List Expr} {pos : Pos} {ta tb te : LTE} {tas : LTA}
def rIxD : R2 := fun x y H Q => ∃ a v, x = .ref a ∧ DGet H a y (some v) ∧ Q v H
theorem ix_dict (hu : X.A.units + 1 < cLine) : IxR X rIxD := by
  intro value slice pins s σ H x y v u Q I rx ry h hs
  obtain ⟨a, w, rfl, g, q⟩ := h
  cases rx
  exact PyProof.Rows.tail_any (dict_typeIs I g) PySem.F.slot_dict_getitem.lookup (d_getItem hu I g ry fun w' s' I' rw' => ⟨w, H, I', rw', q⟩) hs
def seqT : LV → Option (List LV)
  | .tup xs => some xs
  | _ => none
def rIxL : LR2 := fun x y s Q => match y with
  | .int i => (match x with
    | .lst xs => opt (atI xs i) fun v => Q v s
    | .tup xs => opt (atI xs i) fun v => Q v s
    | .scr ns => opt (atI ns i) fun n => Q (.int n) s
    | .str z => z.length ≤ 16777216 ∧ opt (atI z.cps.toList i) fun c => Q (.str ⟨#[c]⟩) s
    | .ref a => (match s a with
      | some (.lst xs) => opt (atI xs i) fun v => Q v s
      | some (.dK kvs) => opt (valL kvs (.inl i)) fun v => Q v s
      | _ => False)
    | _ => False)
  | .str z => opt (dicK x s) fun kvs => opt (valL kvs (.inr z)) fun v => Q v s
  | .tup ks => opt (dicT x s) fun kvs => opt (keysL ks) fun k => opt (valL kvs k) fun v => Q v s
  | _ => False
theorem RVs.atI {xs : List LV} {us : List V} {i : Int} {x : LV} (r : RVs K s H xs us) (h : L2.atI xs i = some x) : ∃ u, L2.atI us i = some u ∧ RV K s H x u := by
  unfold L2.atI at h ⊢
  rw [r.length]
  obtain ⟨j, e1, e2⟩ := Option.bind_eq_some_iff.mp h
  obtain ⟨u, e3, e4⟩ := r.get e2
  exact ⟨u, by rw [e1]; exact e3, e4⟩
theorem atI_map {α β : Type} (f : α → β) (xs : List α) (i : Int) : L2.atI (xs.map f) i = (L2.atI xs i).map f := by
  unfold L2.atI
  rw [List.length_map]
  cases ixN xs.length i with
  | none => rfl
  | some j => simp
theorem up_ix : Up2 K (fun x y H Q => rIx K x y H Q ∨ rIxD x y H Q) rIxL := fun x y s H lx ly Q0 Q hs rx ry h k => by
  cases ly with
  | int i =>
    cases lx with
    | lst xs =>
      obtain ⟨w, e, h⟩ := opt_ok h
      simp only [RV] at rx
      obtain ⟨p, us, rfl, _, hh, r⟩ := rx
      obtain ⟨u, e2, ru⟩ := r.atI e
      exact .inl (.inl ⟨p, us, i, u, rfl, ry.int', SqL.of hh, e2, k _ _ _ _ h (.refl _ _) hs ru⟩)
    | tup xs =>
      obtain ⟨w, e, h⟩ := opt_ok h
      simp only [RV] at rx
      obtain ⟨p, us, rfl, _, hh, r⟩ := rx
      obtain ⟨u, e2, ru⟩ := r.atI e
      exact .inl (.inr (.inl ⟨p, us, i, u, rfl, ry.int', SqT.of hh, e2, k _ _ _ _ h (.refl _ _) hs ru⟩))
    | scr ns =>
      obtain ⟨w, e, h⟩ := opt_ok h
      simp only [RV] at rx
      obtain ⟨p, rfl, hh⟩ := rx
      refine .inl (.inl ⟨p, ns.map V.int, i, .int w, rfl, ry.int', ?_, by rw [atI_map, e]; rfl, k _ _ _ _ h (.refl _ _) hs .int⟩)
      rcases hh with ⟨_, hh⟩ | hh
      · exact .inl hh
      · exact .inr hh
    | str z =>
      obtain ⟨hl, h⟩ := h
      obtain ⟨w, e, h⟩ := opt_ok h
      exact .inl (.inr (.inr ⟨z, i, w, rx.str', ry.int', by rw [sizeLine_eq]; exact hl, e, k _ _ _ _ h (.refl _ _) hs .str⟩))
    | ref p =>
      simp only [rIxL] at h
      split at h
      · next xs ex =>
        obtain ⟨w, e, h⟩ := opt_ok h
        obtain ⟨us, hh, r⟩ := hs.lst ex
        obtain ⟨u, e2, ru⟩ := r.atI e
        exact .inl (.inl ⟨p, us, i, u, rx.ref', ry.int', SqL.of hh, e2, k _ _ _ _ h (.refl _ _) hs ru⟩)
      · next kvs ex =>
        obtain ⟨w, e, h⟩ := opt_ok h
        obtain ⟨us, hh, r⟩ := hs p _ ex
        have q := r.val (.inl i)
        rw [e] at q
        obtain ⟨u, e2, ru⟩ := q
        refine .inr ⟨p, u, rx.ref', ?_, k _ _ _ _ h (.refl _ _) hs ru⟩
        rw [ry.int', ← e2]
        exact DGet.k (k := .inl i) hh
      · exact h.elim
    | _ => exact False.elim h
  | str z =>
    have h : opt (dicK lx s) (fun kvs => opt (valL kvs (.inr z)) fun v => Q0 v s) := h
    obtain ⟨kvs, ed, h1⟩ := opt_ok h
    obtain ⟨w, e, h2⟩ := opt_ok h1
    obtain ⟨p, us, _, rfl, hh, r⟩ := dicK_ok hs rx ed
    have q := r.val (.inr z)
    rw [e] at q
    obtain ⟨u, e2, ru⟩ := q
    refine .inr ⟨p, u, rfl, ?_, k _ _ _ _ h2 (.refl _ _) hs ru⟩
    rw [ry.str', ← e2]
    exact DGet.k (k := .inr z) hh
  | tup ks =>
    simp only [rIxL] at h
    obtain ⟨kvs, ed, h⟩ := opt_ok h
    obtain ⟨kk, ek, h⟩ := opt_ok h
    obtain ⟨w, e, h⟩ := opt_ok h
    obtain ⟨p, us, ob, rfl, hh, d, r⟩ := dicT_ok hs rx ed
    have q := r.val kk
    rw [e] at q
    obtain ⟨u, e2, ru⟩ := q
    simp only [RV] at ry
    obtain ⟨t, ts, rfl, _, ht, rt⟩ := ry
    rw [keysL_ok ek rt] at ht
    exact .inr ⟨p, u, rfl, .inr ⟨us, kk, t, d.rd hh, rfl, ht, e2.symm⟩, k _ _ _ _ h (.refl _ _) hs ru⟩
  | _ => exact False.elim h
theorem le_item (hu : X.A.units + 1 < cLine) (ha : LE X a ta) (hb : LE X b tb) (hs : PlainIx b := by exact fun _ _ => rfl) : LE X (.Subscript a b pos) (lOp rIxL ta tb) := le_ix (ix_seq.or (ix_dict hu)) up_ix ha hb hs

abbrev LTO := LSt → LS → (Option Int → LS → Prop) → LX → Prop
def upO (K : PySem.W.Frag) [GG K] (s0 : LS) (H0 : Hp) (E : LXS) (t : LTO) : TO := fun σ H Q => ∃ σl s Q0 E1, RSt K s H σl σ ∧ RelS K s H ∧ Step s0 H0 s H ∧ (∀ C s', E1 C s' → E C σl s') ∧ t σl s Q0 E1 ∧
  ∀ i s' H', Q0 i s' → Step s H s' H' → RelS K s' H' → Q i H'
def LO' (X : Cx) [GG X.K] (e : Option Expr) (t : LTO) : Prop := ∀ s0 H0 E, Takes X (WL X.K s0 H0 E) → PO X e (upO X.K s0 H0 E t)
theorem _root_.L2.PO.imp {X : Cx} [GG X.K] {e : Option Expr} {t t' : TO} (h : PO X e t) (i : ∀ σ H Q, t' σ H Q → t σ H Q) : PO X e t' := ⟨fun pins s σ H Q I q => h.run pins s σ H Q I (i _ _ _ q)⟩
def lNoP : LTO := fun _ s Q _ => Q none s
def lPart (t : LTE) : LTO := fun σ s Q E => t σ s (fun x s1 => match x with
  | .int i => Q (some i) s1
  | _ => False) E
theorem lo_none : LO' X none lNoP := fun s0 H0 E tk => po_none.imp fun σ H Q ⟨σl, s, Q0, E1, hσ, hs, st, hE, h, k⟩ => k _ _ _ h (.refl _ _) hs
theorem lo_some (h : LE X e te) : LO' X (some e) (lPart te) := fun s0 H0 E tk => (po_some (h s0 H0 E tk)).imp fun σ H Q ⟨σl, s, Q0, E1, hσ, hs, st, hE, h, k⟩ =>
  ⟨σl, s, _, E1, hσ, hs, st, hE, h, fun lx s1 x H1 h st1 hs1 rx => by
    cases lx with
    | int i => exact ⟨i, rx.int', k _ _ _ h st1 hs1⟩
    | _ => exact False.elim h⟩
def cutL (xs : List LV) (lo hi : Option Int) : List LV := (xs.drop (HT.sIx xs.length 0 lo)).take (HT.sIx xs.length xs.length hi - HT.sIx xs.length 0 lo)
/-- the list that is read: the script too -/
def seqR (x : LV) (s : LS) : Option (List LV) := match x with
  | .scr ns => some (ns.map .int)
  | _ => seqL x s
theorem seqR_ok {x : LV} {xs : List LV} {v : V} (r : RelS K s H) (rx : RV K s H x v) (h : seqR x s = some xs) : ∃ a us, v = .ref a ∧ SqL K H a us ∧ RVs K s H xs us := by
  have old : seqL x s = some xs → ∃ a us, v = .ref a ∧ SqL K H a us ∧ RVs K s H xs us := fun h => by
    obtain ⟨a, us, e, hh, q⟩ := seqL_ok r rx h
    exact ⟨a, us, e, SqL.of hh, q⟩
  cases x with
  | scr ns =>
    cases h
    simp only [RV] at rx
    obtain ⟨a, rfl, hh⟩ := rx
    refine ⟨a, _, rfl, ?_, .ints ns⟩
    rcases hh with ⟨_, hh⟩ | hh
    · exact .inl hh
    · exact .inr hh
  | _ => exact old h
theorem seqR_stay {x : LV} {xs : List LV} {s1 s2 : LS} {H1 H2 : Hp} {v : V} (st : Step s1 H1 s2 H2) (r : RelS K s2 H2) (rx : RV K s1 H1 x v) (h : seqR x s2 = some xs) : ∃ a us, v = .ref a ∧ SqL K H2 a us ∧ RVs K s2 H2 xs us := seqR_ok r (rx.mono st) h
def lSl (te : LTE) (tl th : LTO) : LTL := fun σ s Q E => te σ s (fun x s1 => tl σ s1 (fun lo s2 => th σ s2 (fun hi s3 => opt (seqR x s3) fun xs => Q (cutL xs lo hi) s3) E) E) E
theorem ll_slice {lo hi : Option Expr} {tl th : LTO} {p2 : Pos} (he : LE X e te) (hl : LO' X lo tl) (hh : LO' X hi th) : LL X (.Subscript e (.Slice lo hi none p2) pos) (lSl te tl th) := fun s0 H0 E tk =>
  (pe_slice sl_list (he s0 H0 E tk) (hl s0 H0 E tk) (hh s0 H0 E tk)).imp fun σ H Q ⟨σl, s, Q0, E1, hσ, hs, st, hE, h, k⟩ => ⟨σl, s, _, E1, hσ, hs, st, hE, h, fun lx s1 x H1 h st1 hs1 rx =>
    ⟨σl, s1, _, E1, hσ.mono st1, hs1, st.trans st1, hE, h, fun i s2 H2 h st2 hs2 => ⟨σl, s2, _, E1, hσ.mono (st1.trans st2), hs2, st.trans (st1.trans st2), hE, h, fun j s3 H3 h st3 hs3 => by
      obtain ⟨xs, e, h⟩ := opt_ok h
      obtain ⟨p, us, rfl, hh, r⟩ := seqR_stay (st2.trans st3) hs3 rx e
      refine ⟨p, us, rfl, hh, fun q nq => ?_⟩
      have z := k _ s3 (cutV us i j) H3 h ((st1.trans st2).trans st3) hs3
      refine z ?_ q nq
      unfold cutV cutL
      rw [r.length]
      exact (r.drop _).take _⟩⟩⟩

abbrev LRc := List LV → LS → LVK → Prop
def UpC (K : PySem.W.Frag) [GG K] (r : List V → Hp → VK → Prop) (rl : LRc) : Prop := ∀ vs s H lvs Q0 Q, RelS K s H → RVs K s H lvs vs → rl lvs s Q0 →
  (∀ lv s' v H', Q0 lv s' → Step s H s' H' → RelS K s' H' → RV K s' H' lv v → Q v H') → r vs H Q
def lCB (r : LRc) (t : LTA) : LTE := fun σ s Q E => t σ s (fun vs s1 => r vs s1 Q) E
variable {x : Str} {p : Pos} {id T : String} {r : List V → Hp → VK → Prop} {rl : LRc}
theorem le_cb (hc : CallR X (.builtin id) r) (u : UpC X.K r rl) (hg : Gl X x) (hm : X.mg x = none) (hv : bootBuiltins x = some (.builtin id)) (ha : LA X (e :: es) tas) (hn : x ≠ "__name__" := by decide) (hdb : (x == ("__debug__" : Str)) = false := by decide)
    (he : starEach (e :: es) X.env = (false, eval e X.env) :: starEach es X.env := by rfl) (hpl : (backTo pos (starEach es X.env)).any (·.1) = false := by rfl) : LE X (.Call (.Name x p) (e :: es) [] pos) (lCB rl tas) := fun s0 H0 E tk =>
  (pe_callB hc hg hm hv (ha s0 H0 E tk) hn hdb he hpl).imp fun σ H Q ⟨σl, s, Q0, E1, hσ, hs, st, hE, h, k⟩ => ⟨σl, s, _, E1, hσ, hs, st, hE, h, fun lvs s1 vs H1 h st1 hs1 r => u vs s1 H1 lvs Q0 Q hs1 r h fun lv s2 v H2 q st2 => k lv s2 v H2 q (st1.trans st2)⟩
theorem le_cty (hc : CallR X (.type T) r) (u : UpC X.K r rl) (hg : Gl X x) (hm : X.mg x = none) (hv : bootBuiltins x = some (.type T)) (ha : LA X (e :: es) tas) (hn : x ≠ "__name__" := by decide) (hdb : (x == ("__debug__" : Str)) = false := by decide)
    (he : starEach (e :: es) X.env = (false, eval e X.env) :: starEach es X.env := by rfl) (hpl : (backTo pos (starEach es X.env)).any (·.1) = false := by rfl) : LE X (.Call (.Name x p) (e :: es) [] pos) (lCB rl tas) := fun s0 H0 E tk =>
  (pe_callTy hc hg hm hv (ha s0 H0 E tk) hn hdb he hpl).imp fun σ H Q ⟨σl, s, Q0, E1, hσ, hs, st, hE, h, k⟩ => ⟨σl, s, _, E1, hσ, hs, st, hE, h, fun lvs s1 vs H1 h st1 hs1 r => u vs s1 H1 lvs Q0 Q hs1 r h fun lv s2 v H2 q st2 => k lv s2 v H2 q (st1.trans st2)⟩
/-- .. that makes a new list -/
def UpCL (K : PySem.W.Frag) [GG K] (r : List V → Hp → VK → Prop) (rl : List LV → LS → (List LV → LS → Prop) → Prop) : Prop := ∀ vs s H lvs Q0 Q, RelS K s H → RVs K s H lvs vs → rl lvs s Q0 →
  (∀ xs s' us H', Q0 xs s' → Step s H s' H' → RelS K s' H' → RVs K s' H' xs us → ∀ p, H' p = none → Q (.ref p) (upd H' p (.lst us))) → r vs H Q
def lCBL (r : List LV → LS → (List LV → LS → Prop) → Prop) (t : LTA) : LTL := fun σ s Q E => t σ s (fun vs s1 => r vs s1 Q) E
theorem ll_cb {rl : List LV → LS → (List LV → LS → Prop) → Prop} (hc : CallR X (.builtin id) r) (u : UpCL X.K r rl) (hg : Gl X x) (hm : X.mg x = none) (hv : bootBuiltins x = some (.builtin id)) (ha : LA X (e :: es) tas) (hn : x ≠ "__name__" := by decide) (hdb : (x == ("__debug__" : Str)) = false := by decide)
    (he : starEach (e :: es) X.env = (false, eval e X.env) :: starEach es X.env := by rfl) (hpl : (backTo pos (starEach es X.env)).any (·.1) = false := by rfl) : LL X (.Call (.Name x p) (e :: es) [] pos) (lCBL rl tas) := fun s0 H0 E tk =>
  (pe_callB hc hg hm hv (ha s0 H0 E tk) hn hdb he hpl).imp fun σ H Q ⟨σl, s, Q0, E1, hσ, hs, st, hE, h, k⟩ => ⟨σl, s, _, E1, hσ, hs, st, hE, h, fun lvs s1 vs H1 h st1 hs1 r => u vs s1 H1 lvs Q0 Q hs1 r h fun xs s2 us H2 q st2 => k xs s2 us H2 q (st1.trans st2)⟩
theorem ll_cty {rl : List LV → LS → (List LV → LS → Prop) → Prop} (hc : CallR X (.type T) r) (u : UpCL X.K r rl) (hg : Gl X x) (hm : X.mg x = none) (hv : bootBuiltins x = some (.type T)) (ha : LA X (e :: es) tas) (hn : x ≠ "__name__" := by decide) (hdb : (x == ("__debug__" : Str)) = false := by decide)
    (he : starEach (e :: es) X.env = (false, eval e X.env) :: starEach es X.env := by rfl) (hpl : (backTo pos (starEach es X.env)).any (·.1) = false := by rfl) : LL X (.Call (.Name x p) (e :: es) [] pos) (lCBL rl tas) := fun s0 H0 E tk =>
  (pe_callTy hc hg hm hv (ha s0 H0 E tk) hn hdb he hpl).imp fun σ H Q ⟨σl, s, Q0, E1, hσ, hs, st, hE, h, k⟩ => ⟨σl, s, _, E1, hσ, hs, st, hE, h, fun lvs s1 vs H1 h st1 hs1 r => u vs s1 H1 lvs Q0 Q hs1 r h fun xs s2 us H2 q st2 => k xs s2 us H2 q (st1.trans st2)⟩
def lenL (x : LV) (s : LS) : Option Nat := match x with
  | .lst xs => some xs.length
  | .tup xs => some xs.length
  | .scr ns => some ns.length
  | .ref a => (match s a with
    | some (.lst xs) => some xs.length
    | _ => none)
  | _ => none
def rLenL : LRc := fun vs s Q => match vs with
  | [.str z] => z.length ≤ 16777216 ∧ Q (.int z.length) s
  | [x] => opt (lenL x s) fun n => Q (.int (n : Int)) s
  | _ => False
theorem RVs.one {x : LV} {us : List V} (r : RVs K s H [x] us) : ∃ u, us = [u] ∧ RV K s H x u := by
  simp only [RVs] at r
  obtain ⟨u, w, rfl, r1, r2⟩ := r
  exact ⟨u, by rw [r2], r1⟩
theorem RVs.two {x y : LV} {us : List V} (r : RVs K s H [x, y] us) : ∃ u v, us = [u, v] ∧ RV K s H x u ∧ RV K s H y v := by
  simp only [RVs] at r
  obtain ⟨u, w, rfl, r1, v, z, rfl, r2, r3⟩ := r
  exact ⟨u, v, by rw [r3], r1, r2⟩
theorem RVd.length : ∀ {xs : List (Key × LV)} {us : List (Key × V)}, RVd K s H xs us → us.length = xs.length
  | [], _, h => by cases h; rfl
  | (k, x) :: xs, _, h => by
    obtain ⟨u, r, rfl, _, h2⟩ := h
    simp [RVd.length h2]
theorem up_len : UpC K (fun xs H Q => ∃ x n, xs = [x] ∧ LenV K x H n ∧ Q (.int n) H) rLenL := fun vs s H lvs Q0 Q hs r h k => by
  rcases lvs with _ | ⟨x, _ | ⟨y, l⟩⟩
  · exact False.elim h
  rotate_left
  · exact False.elim (by cases x <;> exact h)
  · obtain ⟨u, rfl, r1⟩ := r.one
    clear r
    have r := r1
    clear r1
    cases x with
    | str z => exact ⟨u, z.length, rfl, by rw [r.str']; exact ⟨by rw [sizeLine_eq]; exact h.1, rfl⟩, k _ _ _ _ h.2 (.refl _ _) hs .int⟩
    | lst xs =>
      have h : Q0 (.int (xs.length : Int)) s := h
      simp only [RV] at r
      obtain ⟨a, us, rfl, _, hh, q⟩ := r
      exact ⟨_, us.length, rfl, .inl ⟨us, SqL.of hh, rfl⟩, by rw [q.length]; exact k _ _ _ _ h (.refl _ _) hs .int⟩
    | tup xs =>
      have h : Q0 (.int (xs.length : Int)) s := h
      simp only [RV] at r
      obtain ⟨a, us, rfl, _, hh, q⟩ := r
      exact ⟨_, us.length, rfl, .inr ⟨us, SqT.of hh, rfl⟩, by rw [q.length]; exact k _ _ _ _ h (.refl _ _) hs .int⟩
    | scr ns =>
      have h : Q0 (.int (ns.length : Int)) s := h
      obtain ⟨a, us, rfl, hh, q⟩ := seqR_ok hs r rfl
      exact ⟨_, us.length, rfl, .inl ⟨us, hh, rfl⟩, by rw [q.length, List.length_map]; exact k _ _ _ _ h (.refl _ _) hs .int⟩
    | ref a =>
      simp only [rLenL, lenL] at h
      split at h
      · next xs ex =>
        have h : Q0 (.int (xs.length : Int)) s := h
        obtain ⟨us, hh, q⟩ := hs.lst ex
        exact ⟨_, us.length, rfl, by rw [r.ref']; exact .inl ⟨us, SqL.of hh, rfl⟩, by rw [q.length]; exact k _ _ _ _ h (.refl _ _) hs .int⟩
      · exact h.elim
    | _ => exact False.elim h
theorem le_len (hg : Gl X "len") (hm : X.mg "len" = none) (ha : LA X [e] tas) (he : starEach [e] X.env = (false, eval e X.env) :: starEach [] X.env := by rfl) (hpl : (backTo pos (starEach [] X.env)).any (·.1) = false := by rfl) :
    LE X (.Call (.Name "len" p) [e] [] pos) (lCB rLenL tas) := le_cb call_len up_len hg hm PySem.boot_len ha (by decide) (by decide) he hpl
end
end L3

namespace L3
open PySem PySem.Spec L2
section
variable {X : Cx} [GG X.K] {K : PySem.W.Frag} [GG K] {s : LS} {H : Hp} {a b e o : Expr} {es : List Expr} {pos : Pos} {ta tb te to : LTE} {tas : LTA}
variable {x : Str} {p : Pos}
/-- the type of a value, as isinstance asks it; CT: what is said of an own class -/
def tyAt (CT : Addr → Prop) (x : LV) (s : LS) : Option Value := match x with
  | .non => some (.type "NoneType")
  | .bl _ => some (.type "bool")
  | .int _ => some (.type "int")
  | .str _ => some (.type "str")
  | .lst _ => some (.type "list")
  | .tup _ => some (.type "tuple")
  | .ins C _ => some (.ref C)
  | .ref a => (match s a with
    | some (.lst _) => some (.type "list")
    | some (.dK _) => some (.type "dict")
    | some (.dT _) => some (.type "dict")
    | some (.ins C _) => some (.ref C)
    | _ => none)
  | _ => none
/-- what an own class must say, for isinstance -/
structure InsC (K : PySem.W.Frag) (C : Addr) : Prop where
  cl : Cls K C
  ha : PySem.W.findIn K (.ref C) "__class__" = some (some (.builtin "object.__class__"))
  hn : PySem.W.specialIn K (.builtin "object.__class__") "__get__" = some (some (.builtin "getset_descriptor.__get__"))
  ht : PySem.W.takesIn K (.builtin "object.__class__") = some true
  hm : PySem.W.mroIn K C (.type "object") = some true
def clsVal : LV → Option Value
  | .ref a => some (.ref a)
  | .ty n => some (.type n)
  | _ => none
def rIsiL (K : PySem.W.Frag) : LRc := fun vs s Q => match vs with
  | [x, c] => opt (tyAt (fun _ => True) x s) fun t => opt (clsVal c) fun u => (∀ C, t = .ref C → InsC K C) ∧ ∃ b, PySem.W.kitOne K t u = some b ∧ Q (.bl b) s
  | _ => False
theorem tyAt_ok {x : LV} {v : V} {t : Value} (hs : RelS K s H) (rx : RV K s H x v) (h : tyAt (fun _ => True) x s = some t) (hc : ∀ C, t = .ref C → InsC K C) : TyX K H v t := by
  cases x with
  | non => cases h; rw [rx.non']; exact .base .non
  | bl b => cases h; rw [rx.bl']; exact .base (.bl b)
  | int b => cases h; rw [rx.int']; exact .base (.int b)
  | str b => cases h; rw [rx.str']; exact .base (.str b)
  | lst xs =>
    cases h
    simp only [RV] at rx
    obtain ⟨a, us, rfl, _, hh, _⟩ := rx
    exact .base (.lst hh)
  | tup xs =>
    cases h
    simp only [RV] at rx
    obtain ⟨a, us, rfl, _, hh, _⟩ := rx
    exact .base (.tup hh)
  | ins C fs =>
    cases h
    simp only [RV] at rx
    obtain ⟨a, dx, us, rfl, _, hh, _⟩ := rx
    have c := hc C rfl
    exact .base (.ins hh c.cl c.ha c.hn c.ht c.hm)
  | ref a =>
    rw [rx.ref']
    simp only [tyAt] at h
    split at h
    · next e => cases h; obtain ⟨us, hh, _⟩ := hs a _ e; exact .base (.lst hh)
    · next e => cases h; obtain ⟨us, hh, _⟩ := hs a _ e; exact .base (.dK hh)
    · next e => cases h; obtain ⟨us, hh, _⟩ := hs a _ e; exact .base (.dT hh)
    · next C fs e =>
      cases h
      obtain ⟨dx, us, hh, _⟩ := hs a _ e
      have c := hc C rfl
      exact .base (.ins hh c.cl c.ha c.hn c.ht c.hm)
    · cases h
  | _ => cases h
theorem clsVal_ok {c : LV} {v : V} {u : Value} (rx : RV K s H c v) (h : clsVal c = some u) : ClsV v u := by
  cases c with
  | ref a => cases h; rw [rx.ref']; exact .own a
  | ty n => cases h; simp only [RV] at rx; rw [rx]; exact .ty n
  | _ => cases h
theorem up_isi : UpC K (L2.rIsi K) (rIsiL K) := fun vs s H lvs Q0 Q hs r h k => by
  rcases lvs with _ | ⟨x, _ | ⟨c, _ | ⟨y, l⟩⟩⟩
  · exact False.elim h
  · exact False.elim h
  · obtain ⟨t, e1, h⟩ := opt_ok h
    obtain ⟨u, e2, hc, b, e3, h⟩ := opt_ok h
    obtain ⟨v, w, rfl, r1, r2⟩ := r.two
    exact ⟨v, w, t, u, b, rfl, clsVal_ok r2 e2, tyAt_ok hs r1 e1 hc, e3, k _ _ _ _ h (.refl _ _) hs .bl⟩
  · exact False.elim h
theorem le_isi (hg : Gl X "isinstance") (hm : X.mg "isinstance" = none) (ha : LA X (e :: es) tas) (he : starEach (e :: es) X.env = (false, eval e X.env) :: starEach es X.env := by rfl) (hpl : (backTo pos (starEach es X.env)).any (·.1) = false := by rfl) :
    LE X (.Call (.Name "isinstance" p) (e :: es) [] pos) (lCB (rIsiL X.K) tas) := le_cb call_isi up_isi hg hm (by decide +kernel) ha (by decide) (by decide) he hpl

def rMax2L : LRc := fun vs s Q => match vs with
  | [.int i, .int j] => Q (.int (if j > i then j else i)) s
  | _ => False
def rMin2L : LRc := fun vs s Q => match vs with
  | [.int i, .int j] => Q (.int (if j < i then j else i)) s
  | _ => False
theorem ints2 {lvs : List LV} {k : Int → Int → Prop} (h : match lvs with
  | [.int i, .int j] => k i j
  | _ => False) : ∃ i j, lvs = [.int i, .int j] ∧ k i j := by
  rcases lvs with _ | ⟨x, _ | ⟨c, _ | ⟨y, l⟩⟩⟩
  · exact h.elim
  · exact False.elim (by cases x <;> exact h)
  · cases x <;> cases c <;> first | exact h.elim | exact ⟨_, _, rfl, h⟩
  · exact False.elim (by cases x <;> cases c <;> exact h)
theorem up_max2 : UpC K (fun xs H Q => ∃ i j, xs = [.int i, .int j] ∧ Q (.int (if j > i then j else i)) H) rMax2L := fun vs s H lvs Q0 Q hs r h k => by
  obtain ⟨i, j, rfl, h⟩ := ints2 (k := fun i j => Q0 (.int (if j > i then j else i)) s) h
  obtain ⟨v, w, rfl, r1, r2⟩ := r.two
  exact ⟨i, j, by rw [r1.int', r2.int'], k _ _ _ _ h (.refl _ _) hs .int⟩
theorem up_min2 : UpC K (fun xs H Q => ∃ i j, xs = [.int i, .int j] ∧ Q (.int (if j < i then j else i)) H) rMin2L := fun vs s H lvs Q0 Q hs r h k => by
  obtain ⟨i, j, rfl, h⟩ := ints2 (k := fun i j => Q0 (.int (if j < i then j else i)) s) h
  obtain ⟨v, w, rfl, r1, r2⟩ := r.two
  exact ⟨i, j, by rw [r1.int', r2.int'], k _ _ _ _ h (.refl _ _) hs .int⟩
theorem le_max2 (hc : X.calm = true) (hg : Gl X "max") (hm : X.mg "max" = none) (ha : LA X (e :: es) tas) (he : starEach (e :: es) X.env = (false, eval e X.env) :: starEach es X.env := by rfl) (hpl : (backTo pos (starEach es X.env)).any (·.1) = false := by rfl) :
    LE X (.Call (.Name "max" p) (e :: es) [] pos) (lCB rMax2L tas) := le_cb (call_max2 hc) up_max2 hg hm (by decide +kernel) ha (by decide) (by decide) he hpl
theorem le_min2 (hc : X.calm = true) (hg : Gl X "min") (hm : X.mg "min" = none) (ha : LA X (e :: es) tas) (he : starEach (e :: es) X.env = (false, eval e X.env) :: starEach es X.env := by rfl) (hpl : (backTo pos (starEach es X.env)).any (·.1) = false := by rfl) :
    LE X (.Call (.Name "min" p) (e :: es) [] pos) (lCB rMin2L tas) := le_cb (call_min2 hc) up_min2 hg hm (by decide +kernel) ha (by decide) (by decide) he hpl
def rIntL : LRc := fun vs s Q => match vs with
  | [.int i] => Q (.int i) s
  | [.bl k] => Q (.int (if k then 1 else 0)) s
  | _ => False
theorem up_int1 : UpC K (fun xs H Q => (∃ i, xs = [.int i] ∧ Q (.int i) H) ∨ ∃ k, xs = [.bl k] ∧ Q (.int (if k then 1 else 0)) H) rIntL := fun vs s H lvs Q0 Q hs r h k => by
  rcases lvs with _ | ⟨x, _ | ⟨c, l⟩⟩
  · exact False.elim h
  · obtain ⟨v, rfl, r1⟩ := r.one
    cases x with
    | int i => exact .inl ⟨i, by rw [r1.int'], k _ _ _ _ h (.refl _ _) hs .int⟩
    | bl i => exact .inr ⟨i, by rw [r1.bl'], k _ _ _ _ h (.refl _ _) hs .int⟩
    | _ => exact False.elim h
  · exact False.elim (by cases x <;> exact h)
theorem le_int1 (hg : Gl X "int") (hm : X.mg "int" = none) (ha : LA X (e :: es) tas) (he : starEach (e :: es) X.env = (false, eval e X.env) :: starEach es X.env := by rfl) (hpl : (backTo pos (starEach es X.env)).any (·.1) = false := by rfl) :
    LE X (.Call (.Name "int" p) (e :: es) [] pos) (lCB rIntL tas) := le_cty call_int1 up_int1 hg hm PyProof.Rows.boot_int ha (by decide) (by decide) he hpl

def intsOf : List LV → Option (List Int)
  | [] => some []
  | .int i :: xs => (intsOf xs).map (i :: ·)
  | _ :: _ => none
theorem intsOf_ok : ∀ {xs : List LV} {ns : List Int}, intsOf xs = some ns → xs = ns.map .int
  | [], _, h => by cases h; rfl
  | x :: xs, ns, h => by
    cases x with
    | int i =>
      obtain ⟨r, e, rfl⟩ := Option.map_eq_some_iff.mp (show (intsOf xs).map (i :: ·) = some ns from h)
      rw [intsOf_ok e]
      rfl
    | _ => cases h
theorem intsOf_map (ns : List Int) : intsOf (ns.map .int) = some ns := by
  induction ns with
  | nil => rfl
  | cons n ns ih => simp [intsOf, ih]
def blsOf : List LV → Option (List Bool)
  | [] => some []
  | .bl i :: xs => (blsOf xs).map (i :: ·)
  | _ :: _ => none
theorem blsOf_ok : ∀ {xs : List LV} {ns : List Bool}, blsOf xs = some ns → xs = ns.map .bl
  | [], _, h => by cases h; rfl
  | x :: xs, ns, h => by
    cases x with
    | bl i =>
      obtain ⟨r, e, rfl⟩ := Option.map_eq_some_iff.mp (show (blsOf xs).map (i :: ·) = some ns from h)
      rw [blsOf_ok e]
      rfl
    | _ => cases h
theorem blsOf_map (ns : List Bool) : blsOf (ns.map .bl) = some ns := by
  induction ns with
  | nil => rfl
  | cons n ns ih => simp [blsOf, ih]
theorem RVs.of_bls : ∀ {ns : List Bool} {us : List V}, RVs K s H (ns.map LV.bl) us → us = ns.map V.bl
  | [], _, h => by simpa only [List.map_nil, RVs] using h
  | n :: ns, _, h => by
    simp only [List.map_cons, RVs, RV] at h
    obtain ⟨u, r, rfl, rfl, h2⟩ := h
    rw [RVs.of_bls h2]; rfl
def one1 (vs : List LV) (k : LV → Prop) : Prop := match vs with
  | [x] => k x
  | _ => False
theorem one1_ok {vs : List LV} {k : LV → Prop} (h : one1 vs k) : ∃ x, vs = [x] ∧ k x := by
  rcases vs with _ | ⟨x, _ | ⟨c, l⟩⟩
  · exact h.elim
  · exact ⟨x, rfl, h⟩
  · exact h.elim
/-- sorted of ints -/
def rSrtI : List LV → LS → (List LV → LS → Prop) → Prop := fun vs s Q => one1 vs fun x => opt (seqL x s) fun xs => opt (intsOf xs) fun ns => ∀ ns' : List Int, ns'.Perm ns → ns'.Pairwise (· ≤ ·) → Q (ns'.map .int) s
theorem up_srtI : UpCL K (rSortedI K) rSrtI := fun vs s H lvs Q0 Q hs r h k => by
  obtain ⟨x, rfl, h⟩ := one1_ok h
  obtain ⟨xs, e1, h⟩ := opt_ok h
  obtain ⟨ns, e2, h⟩ := opt_ok h
  obtain ⟨v, rfl, r1⟩ := r.one
  obtain ⟨q, us, rfl, hh, r2⟩ := seqL_ok hs r1 e1
  rw [intsOf_ok e2] at r2
  rw [r2.of_ints] at hh
  exact ⟨q, ns, rfl, SqL.of hh, fun ns' l pm so np => k _ _ _ _ (h ns' pm so) (.refl _ _) hs (.ints ns') l np⟩
theorem ll_sortedI (hg : Gl X "sorted") (hm : X.mg "sorted" = none) (ha : LA X (e :: es) tas) (he : starEach (e :: es) X.env = (false, eval e X.env) :: starEach es X.env := by rfl) (hpl : (backTo pos (starEach es X.env)).any (·.1) = false := by rfl) :
    LL X (.Call (.Name "sorted" p) (e :: es) [] pos) (lCBL rSrtI tas) := ll_cb cr_sortedI up_srtI hg hm (by decide +kernel) ha (by decide) (by decide) he hpl
/-- list of a list, of a tuple -/
def rLstOf : List LV → LS → (List LV → LS → Prop) → Prop := fun vs s Q => one1 vs fun x => match x with
  | .tup xs => Q xs s
  | _ => opt (seqR x s) fun xs => Q xs s
theorem up_lstOf : UpCL K (fun xs H Q => ∃ p ys, xs = [.ref p] ∧ (SqL K H p ys ∨ SqT K H p ys) ∧ ∀ l, H l = none → Q (.ref l) (upd H l (.lst ys))) rLstOf := fun vs s H lvs Q0 Q hs r h k => by
  obtain ⟨x, rfl, h⟩ := one1_ok h
  obtain ⟨v, rfl, r1⟩ := r.one
  have go : opt (seqR x s) (fun xs => Q0 xs s) → ∃ p ys, [v] = [V.ref p] ∧ (SqL K H p ys ∨ SqT K H p ys) ∧ ∀ l, H l = none → Q (.ref l) (upd H l (.lst ys)) := fun h => by
    obtain ⟨xs, e1, h⟩ := opt_ok h
    obtain ⟨q, us, rfl, hh, r2⟩ := seqR_ok hs r1 e1
    exact ⟨q, us, rfl, .inl hh, fun l np => k _ _ _ _ h (.refl _ _) hs r2 l np⟩
  cases x with
  | tup xs =>
    simp only [RV] at r1
    obtain ⟨a, us, rfl, _, hh, q⟩ := r1
    exact ⟨a, us, rfl, .inr (SqT.of hh), fun l np => k _ _ _ _ h (.refl _ _) hs q l np⟩
  | _ => exact go h
theorem ll_list (hg : Gl X "list") (hm : X.mg "list" = none) (ha : LA X (e :: es) tas) (he : starEach (e :: es) X.env = (false, eval e X.env) :: starEach es X.env := by rfl) (hpl : (backTo pos (starEach es X.env)).any (·.1) = false := by rfl) :
    LL X (.Call (.Name "list" p) (e :: es) [] pos) (lCBL rLstOf tas) := ll_cty call_list_of up_lstOf hg hm PyProof.Rows.boot_list ha (by decide) (by decide) he hpl
/-- list(range(a, b)) -/
def rgL (a b : Int) : List LV := (List.range (b - a).toNat).map fun i => LV.int (a + (i : Nat))
theorem RVs.rg (a b : Int) : RVs K s H (rgL a b) (rgV a b) := by
  have e : rgL a b = ((List.range (b - a).toNat).map fun i => a + ((i : Nat) : Int)).map LV.int := by unfold rgL; rw [List.map_map]; rfl
  have e2 : rgV a b = ((List.range (b - a).toNat).map fun i => a + ((i : Nat) : Int)).map V.int := by unfold rgV; rw [List.map_map]; rfl
  rw [e, e2]
  exact .ints _
def lLstRg2 (ta tb : LTE) : LTL := fun σ s Q E => ta σ s (fun x s1 => tb σ s1 (fun y s2 => match x, y with
  | .int i, .int j => RgOk i j ∧ Q (rgL i j) s2
  | _, _ => False) E) E
def lLstRg1 (ta : LTE) : LTL := fun σ s Q E => ta σ s (fun x s1 => match x with
  | .int j => RgOk 0 j ∧ Q (rgL 0 j) s1
  | _ => False) E
theorem ll_listRg2 {p2 pos2 : Pos} (hc : X.calm = true) (hg : Gl X "list") (hm : X.mg "list" = none) (hg2 : Gl X "range") (hm2 : X.mg "range" = none) (ha : LE X a ta) (hb : LE X b tb)
    (n1 : starEach [a, b] X.env = (false, eval a X.env) :: starEach [b] X.env := by rfl) (n2 : starEach [b] X.env = (false, eval b X.env) :: starEach [] X.env := by rfl)
    (na : starEach [.Call (.Name "range" p2) [a, b] [] pos2] X.env = (false, eval (.Call (.Name "range" p2) [a, b] [] pos2) X.env) :: starEach [] X.env := by rfl) (hq : (backTo pos2 (starEach [b] X.env)).any (·.1) = false := by rfl) :
    LL X (.Call (.Name "list" p) [.Call (.Name "range" p2) [a, b] [] pos2] [] pos) (lLstRg2 ta tb) := fun s0 H0 E tk =>
  (pe_listRg hc hg hm (prg_2 hg2 hm2 (ha s0 H0 E tk) (hb s0 H0 E tk) n1 n2 hq) na).imp fun σ H Q ⟨σl, s, Q0, E1, hσ, hs, st, hE, h, k⟩ => ⟨σl, s, _, E1, hσ, hs, st, hE, h, fun lx s1 x H1 h st1 hs1 rx =>
    ⟨σl, s1, _, E1, hσ.mono st1, hs1, st.trans st1, hE, h, fun ly s2 y H2 h st2 hs2 ry => by
      cases lx <;> try exact False.elim h
      cases ly <;> try exact False.elim h
      exact ⟨_, _, rx.int', ry.int', h.1, fun q nq => k _ _ _ _ h.2 (st1.trans st2) hs2 (.rg _ _) q nq⟩⟩⟩
theorem ll_listRg1 {p2 pos2 : Pos} (hc : X.calm = true) (hg : Gl X "list") (hm : X.mg "list" = none) (hg2 : Gl X "range") (hm2 : X.mg "range" = none) (ha : LE X a ta)
    (n1 : starEach [a] X.env = (false, eval a X.env) :: starEach [] X.env := by rfl)
    (na : starEach [.Call (.Name "range" p2) [a] [] pos2] X.env = (false, eval (.Call (.Name "range" p2) [a] [] pos2) X.env) :: starEach [] X.env := by rfl) :
    LL X (.Call (.Name "list" p) [.Call (.Name "range" p2) [a] [] pos2] [] pos) (lLstRg1 ta) := fun s0 H0 E tk =>
  (pe_listRg hc hg hm (prg_1 hg2 hm2 (ha s0 H0 E tk) n1) na).imp fun σ H Q ⟨σl, s, Q0, E1, hσ, hs, st, hE, h, k⟩ => ⟨σl, s, _, E1, hσ, hs, st, hE, h, fun lx s1 x H1 h st1 hs1 rx => by
      cases lx <;> try exact False.elim h
      exact ⟨_, rx.int', h.1, fun q nq => k _ _ _ _ h.2 st1 hs1 (.rg _ _) q nq⟩⟩
def rAllL : LRc := fun vs s Q => one1 vs fun x => opt (seqL x s) fun xs => opt (blsOf xs) fun bs => Q (.bl (bs.all id)) s
def rAnyL : LRc := fun vs s Q => one1 vs fun x => opt (seqL x s) fun xs => opt (blsOf xs) fun bs => Q (.bl (bs.any id)) s
theorem up_all : UpC K (L2.rAll K) rAllL := fun vs s H lvs Q0 Q hs r h k => by
  obtain ⟨x, rfl, h⟩ := one1_ok h
  obtain ⟨xs, e1, h⟩ := opt_ok h
  obtain ⟨ns, e2, h⟩ := opt_ok h
  obtain ⟨v, rfl, r1⟩ := r.one
  obtain ⟨q, us, rfl, hh, r2⟩ := seqL_ok hs r1 e1
  rw [blsOf_ok e2] at r2
  rw [r2.of_bls] at hh
  exact ⟨q, ns, rfl, SqL.of hh, k _ _ _ _ h (.refl _ _) hs .bl⟩
theorem up_any : UpC K (L2.rAny K) rAnyL := fun vs s H lvs Q0 Q hs r h k => by
  obtain ⟨x, rfl, h⟩ := one1_ok h
  obtain ⟨xs, e1, h⟩ := opt_ok h
  obtain ⟨ns, e2, h⟩ := opt_ok h
  obtain ⟨v, rfl, r1⟩ := r.one
  obtain ⟨q, us, rfl, hh, r2⟩ := seqL_ok hs r1 e1
  rw [blsOf_ok e2] at r2
  rw [r2.of_bls] at hh
  exact ⟨q, ns, rfl, SqL.of hh, k _ _ _ _ h (.refl _ _) hs .bl⟩
theorem le_all (hc : X.calm = true) (hg : Gl X "all") (hm : X.mg "all" = none) (ha : LA X (e :: es) tas) (he : starEach (e :: es) X.env = (false, eval e X.env) :: starEach es X.env := by rfl) (hpl : (backTo pos (starEach es X.env)).any (·.1) = false := by rfl) :
    LE X (.Call (.Name "all" p) (e :: es) [] pos) (lCB rAllL tas) := le_cb (cr_all hc) up_all hg hm (by decide +kernel) ha (by decide) (by decide) he hpl
theorem le_any (hc : X.calm = true) (hg : Gl X "any") (hm : X.mg "any" = none) (ha : LA X (e :: es) tas) (he : starEach (e :: es) X.env = (false, eval e X.env) :: starEach es X.env := by rfl) (hpl : (backTo pos (starEach es X.env)).any (·.1) = false := by rfl) :
    LE X (.Call (.Name "any" p) (e :: es) [] pos) (lCB rAnyL tas) := le_cb (cr_any hc) up_any hg hm (by decide +kernel) ha (by decide) (by decide) he hpl
/-- max, min of a list of ints -/
def rMaxL : LRc := fun vs s Q => one1 vs fun x => opt (seqL x s) fun xs => opt (intsOf xs) fun ns => 0 < ns.length ∧ ∀ m, m ∈ ns → (∀ y, y ∈ ns → y ≤ m) → Q (.int m) s
def rMinL : LRc := fun vs s Q => one1 vs fun x => opt (seqL x s) fun xs => opt (intsOf xs) fun ns => 0 < ns.length ∧ ∀ m, m ∈ ns → (∀ y, y ∈ ns → m ≤ y) → Q (.int m) s
theorem up_max : UpC K (L2.rMax K) rMaxL := fun vs s H lvs Q0 Q hs r h k => by
  obtain ⟨x, rfl, h⟩ := one1_ok h
  obtain ⟨xs, e1, h⟩ := opt_ok h
  obtain ⟨ns, e2, h0, h⟩ := opt_ok h
  obtain ⟨v, rfl, r1⟩ := r.one
  obtain ⟨q, us, rfl, hh, r2⟩ := seqL_ok hs r1 e1
  rw [intsOf_ok e2] at r2
  rw [r2.of_ints] at hh
  exact ⟨q, ns, rfl, SqL.of hh, h0, fun m hm hle => k _ _ _ _ (h m hm hle) (.refl _ _) hs .int⟩
theorem up_min : UpC K (L2.rMin K) rMinL := fun vs s H lvs Q0 Q hs r h k => by
  obtain ⟨x, rfl, h⟩ := one1_ok h
  obtain ⟨xs, e1, h⟩ := opt_ok h
  obtain ⟨ns, e2, h0, h⟩ := opt_ok h
  obtain ⟨v, rfl, r1⟩ := r.one
  obtain ⟨q, us, rfl, hh, r2⟩ := seqL_ok hs r1 e1
  rw [intsOf_ok e2] at r2
  rw [r2.of_ints] at hh
  exact ⟨q, ns, rfl, SqL.of hh, h0, fun m hm hle => k _ _ _ _ (h m hm hle) (.refl _ _) hs .int⟩
theorem le_max (hc : X.calm = true) (hg : Gl X "max") (hm : X.mg "max" = none) (ha : LA X (e :: es) tas) (he : starEach (e :: es) X.env = (false, eval e X.env) :: starEach es X.env := by rfl) (hpl : (backTo pos (starEach es X.env)).any (·.1) = false := by rfl) :
    LE X (.Call (.Name "max" p) (e :: es) [] pos) (lCB rMaxL tas) := le_cb (cr_max hc) up_max hg hm (by decide +kernel) ha (by decide) (by decide) he hpl
theorem le_min (hc : X.calm = true) (hg : Gl X "min") (hm : X.mg "min" = none) (ha : LA X (e :: es) tas) (he : starEach (e :: es) X.env = (false, eval e X.env) :: starEach es X.env := by rfl) (hpl : (backTo pos (starEach es X.env)).any (·.1) = false := by rfl) :
    LE X (.Call (.Name "min" p) (e :: es) [] pos) (lCB rMinL tas) := le_cb (cr_min hc) up_min hg hm (by decide +kernel) ha (by decide) (by decide) he hpl

abbrev LRm := LV → List LV → LS → LVK → Prop
def UpM (K : PySem.W.Frag) [GG K] (r : V → List V → Hp → VK → Prop) (rl : LRm) : Prop := ∀ x vs s H lx lvs Q0 Q, RelS K s H → RV K s H lx x → RVs K s H lvs vs → rl lx lvs s Q0 →
  (∀ lv s' v H', Q0 lv s' → Step s H s' H' → RelS K s' H' → RV K s' H' lv v → Q v H') → r x vs H Q
def lBML (r : LRm) (to : LTE) (t : LTA) : LTE := fun σ s Q E => to σ s (fun x s1 => (seqL x s1).isSome = true ∧ t σ s1 (fun vs s2 => r x vs s2 Q) E) E
variable {name : Str} {apos cpos : Pos} {id : String} {r : V → List V → Hp → VK → Prop} {rl : LRm}
theorem isSeq_ty {x : LV} {v : V} (hs : RelS K s H) (rx : RV K s H x v) (h : (seqL x s).isSome = true) : tyV K "list" v H := by
  obtain ⟨xs, e⟩ := Option.isSome_iff_exists.mp h
  obtain ⟨a, us, rfl, hh, _⟩ := seqL_ok hs rx e
  exact .inl ⟨rfl, us, SqL.of hh⟩
theorem le_bml (slot : Slot "list" name id) (hty : typeOf (.builtin id) = pure (.type "method_descriptor")) (hm : MtR X id r) (u : UpM X.K r rl) (ho : LE X o to) (ha : LA X (e :: es) tas)
    (hbase : attributeBase o name X.env (eval o X.env) = eval o X.env := by rfl)
    (hfew : ((backTo cpos (starEach (e :: es) X.env)).all (fun x => !x.1) && (backToKw cpos (keywordEach [] X.env)).all (fun x => x.1.isSome)
      && decide ((e :: es).length + ([] : List Keyword).length + (if ([] : List Keyword).isEmpty then 0 else 1) < 30)) = true := by rfl)
    (hline : (apos.endLine == cpos.line) = true := by rfl) (hs : starEach (e :: es) X.env = (false, eval e X.env) :: starEach es X.env := by rfl) (hplain : (backTo cpos (starEach es X.env)).any (·.1) = false := by rfl) :
    LE X (.Call (.Attribute o name apos) (e :: es) [] cpos) (lBML rl to tas) := fun s0 H0 E tk => (pe_bm PySem.F.plainAttrs_list slot hty hm (ho s0 H0 E tk) (ha s0 H0 E tk) hbase hfew hline hs hplain).imp fun σ H Q ⟨σl, s, Q0, E1, hσ, hs, st, hE, h, k⟩ =>
  ⟨σl, s, _, E1, hσ, hs, st, hE, h, fun lx s1 x H1 h st1 hs1 rx => ⟨isSeq_ty hs1 rx h.1, σl, s1, _, E1, hσ.mono st1, hs1, st.trans st1, hE, h.2, fun lvs s2 vs H2 h st2 hs2 rs => u x vs s2 H2 lx lvs Q0 Q hs2 (rx.mono st2) rs h fun lv s3 v H3 q st3 => k lv s3 v H3 q ((st1.trans st2).trans st3)⟩⟩
theorem le_bml0 (slot : Slot "list" name id) (hty : typeOf (.builtin id) = pure (.type "method_descriptor")) (hm : MtR X id r) (u : UpM X.K r rl) (ho : LE X o to)
    (hbase : attributeBase o name X.env (eval o X.env) = eval o X.env := by rfl) (hline : (apos.endLine == cpos.line) = true := by rfl) :
    LE X (.Call (.Attribute o name apos) [] [] cpos) (lBML rl to lNil) := fun s0 H0 E tk => (pe_bm0 PySem.F.plainAttrs_list slot hty hm (ho s0 H0 E tk) hbase hline).imp fun σ H Q ⟨σl, s, Q0, E1, hσ, hs, st, hE, h, k⟩ =>
  ⟨σl, s, _, E1, hσ, hs, st, hE, h, fun lx s1 x H1 h st1 hs1 rx => ⟨isSeq_ty hs1 rx h.1, u x [] s1 H1 lx [] Q0 Q hs1 rx .nil h.2 fun lv s3 v H3 q st3 => k lv s3 v H3 q (st1.trans st3)⟩⟩
/-- the list in the store at a -/
def atL (x : LV) (s : LS) (k : Addr → List LV → Prop) : Prop := match x with
  | .ref a => (match s a with
    | some (.lst xs) => k a xs
    | _ => False)
  | _ => False
theorem atL_ok {x : LV} {s : LS} {k : Addr → List LV → Prop} (h : atL x s k) : ∃ a xs, x = .ref a ∧ s a = some (.lst xs) ∧ k a xs := by
  cases x with
  | ref a =>
    simp only [atL] at h
    split at h
    · next xs e => exact ⟨a, xs, rfl, e, h⟩
    · exact h.elim
  | _ => exact h.elim
def rAppL : LRm := fun x vs s Q => one1 vs fun y => atL x s fun a xs => xs.length < 16777216 ∧ Q .non (put s a (.lst (xs ++ [y])))
theorem up_app : UpM K rAppend rAppL := fun x vs s H lx lvs Q0 Q hs rx rs h k => by
  obtain ⟨y, rfl, h⟩ := one1_ok h
  obtain ⟨a, xs, rfl, e, hl, h⟩ := atL_ok h
  obtain ⟨v, rfl, r1⟩ := rs.one
  obtain ⟨us, hh, q⟩ := hs.lst e
  have nn : s a ≠ none ∨ H a = none := .inl (by rw [e]; simp)
  exact ⟨a, us, v, rx.ref', rfl, hh, by rw [q.length, sizeLine_eq]; exact hl, k _ _ _ _ h (.put nn) (hs.put nn ⟨_, upd_same, (q.append (.cons r1 .nil)).mono (.put nn)⟩) .non⟩
theorem le_append (ho : LE X o to) (ha : LA X (e :: es) tas)
    (hbase : attributeBase o "append" X.env (eval o X.env) = eval o X.env := by rfl)
    (hfew : ((backTo cpos (starEach (e :: es) X.env)).all (fun x => !x.1) && (backToKw cpos (keywordEach [] X.env)).all (fun x => x.1.isSome)
      && decide ((e :: es).length + ([] : List Keyword).length + (if ([] : List Keyword).isEmpty then 0 else 1) < 30)) = true := by rfl)
    (hline : (apos.endLine == cpos.line) = true := by rfl) (hs : starEach (e :: es) X.env = (false, eval e X.env) :: starEach es X.env := by rfl) (hplain : (backTo cpos (starEach es X.env)).any (·.1) = false := by rfl) :
    LE X (.Call (.Attribute o "append" apos) (e :: es) [] cpos) (lBML rAppL to tas) := le_bml PySem.F.slot_list_append PySem.F.type_list_append mt_append up_app ho ha hbase hfew hline hs hplain
def rClrL : LRm := fun x vs s Q => vs = [] ∧ atL x s fun a xs => Q .non (put s a (.lst []))
theorem up_clear : UpM K rClear rClrL := fun x vs s H lx lvs Q0 Q hs rx rs ⟨h0, h⟩ k => by
  subst h0
  obtain ⟨a, xs, rfl, e, h⟩ := atL_ok h
  simp only [RVs] at rs
  obtain ⟨us, hh, q⟩ := hs.lst e
  have nn : s a ≠ none ∨ H a = none := .inl (by rw [e]; simp)
  exact ⟨a, us, rx.ref', rs, hh, k _ _ _ _ h (.put nn) (hs.put nn ⟨_, upd_same, .nil⟩) .non⟩
theorem le_clear (ho : LE X o to) (hbase : attributeBase o "clear" X.env (eval o X.env) = eval o X.env := by rfl) (hline : (apos.endLine == cpos.line) = true := by rfl) :
    LE X (.Call (.Attribute o "clear" apos) [] [] cpos) (lBML rClrL to lNil) := le_bml0 PySem.F.slot_list_clear PySem.F.type_list_clear mt_clear up_clear ho hbase hline
def rPopL : LRm := fun x vs s Q => vs = [] ∧ atL x s fun a xs => opt (xs[xs.length - 1]?) fun y => Q y (put s a (.lst xs.dropLast))
theorem RVs.dropLast {xs : List LV} {us : List V} (h : RVs K s H xs us) : RVs K s H xs.dropLast us.dropLast := by
  rw [List.dropLast_eq_take, List.dropLast_eq_take, h.length]
  exact h.take _
theorem up_pop : UpM K rPop rPopL := fun x vs s H lx lvs Q0 Q hs rx rs ⟨h0, h⟩ k => by
  subst h0
  obtain ⟨a, xs, rfl, e, h⟩ := atL_ok h
  obtain ⟨y, ey, h⟩ := opt_ok h
  simp only [RVs] at rs
  obtain ⟨us, hh, q⟩ := hs.lst e
  obtain ⟨u, eu, ru⟩ := q.get ey
  have nn : s a ≠ none ∨ H a = none := .inl (by rw [e]; simp)
  exact ⟨a, us, u, rx.ref', rs, hh, by rw [q.length]; exact eu, k _ _ _ _ h (.put nn) (hs.put nn ⟨_, upd_same, q.dropLast.mono (.put nn)⟩) (ru.mono (.put nn))⟩
theorem le_pop (ho : LE X o to) (hbase : attributeBase o "pop" X.env (eval o X.env) = eval o X.env := by rfl) (hline : (apos.endLine == cpos.line) = true := by rfl) :
    LE X (.Call (.Attribute o "pop" apos) [] [] cpos) (lBML rPopL to lNil) := le_bml0 PySem.F.slot_list_pop PySem.F.type_list_pop mt_pop up_pop ho hbase hline
def rExtL : LRm := fun x vs s Q => one1 vs fun y => opt (seqL y s) fun ys => atL x s fun a xs => xs.length + ys.length ≤ 16777216 ∧ Q .non (put s a (.lst (xs ++ ys)))
theorem up_ext : UpM K rExtend rExtL := fun x vs s H lx lvs Q0 Q hs rx rs h k => by
  obtain ⟨y, rfl, h⟩ := one1_ok h
  obtain ⟨ys, e2, h⟩ := opt_ok h
  obtain ⟨a, xs, rfl, e, hl, h⟩ := atL_ok h
  obtain ⟨v, rfl, r1⟩ := rs.one
  obtain ⟨us, hh, q⟩ := hs.lst e
  obtain ⟨b, ws, rfl, hh2, q2⟩ := seqL_ok hs r1 e2
  have nn : s a ≠ none ∨ H a = none := .inl (by rw [e]; simp)
  exact ⟨a, b, us, ws, rx.ref', rfl, hh, hh2, by rw [q.length, q2.length, sizeLine_eq]; exact hl, k _ _ _ _ h (.put nn) (hs.put nn ⟨_, upd_same, (q.append q2).mono (.put nn)⟩) .non⟩
theorem le_extend (ho : LE X o to) (ha : LA X (e :: es) tas)
    (hbase : attributeBase o "extend" X.env (eval o X.env) = eval o X.env := by rfl)
    (hfew : ((backTo cpos (starEach (e :: es) X.env)).all (fun x => !x.1) && (backToKw cpos (keywordEach [] X.env)).all (fun x => x.1.isSome)
      && decide ((e :: es).length + ([] : List Keyword).length + (if ([] : List Keyword).isEmpty then 0 else 1) < 30)) = true := by rfl)
    (hline : (apos.endLine == cpos.line) = true := by rfl) (hs : starEach (e :: es) X.env = (false, eval e X.env) :: starEach es X.env := by rfl) (hplain : (backTo cpos (starEach es X.env)).any (·.1) = false := by rfl) :
    LE X (.Call (.Attribute o "extend" apos) (e :: es) [] cpos) (lBML rExtL to tas) := le_bml PySem.F.slot_list_extend PySem.F.type_list_extend mt_extend up_ext ho ha hbase hfew hline hs hplain
end
end L3

namespace L3
open PySem PySem.Spec L2
section
variable {X : Cx} [GG X.K] {K : PySem.W.Frag} [GG K] {s : LS} {H : Hp} {a b e o i : Expr} {es : List Expr} {pos : Pos} {ta tb te to ti : LTE} {tas : LTA}
variable {x : Str} {p : Pos}
theorem set_dict (hu : X.A.units + 1 < cLine) : PSet X (fun o i v H Q => ∃ a H', o = .ref a ∧ DPut H a i v H' ∧ Q H') := by
  intro pins s σ H o i v ov iv u Q I ro ri rv h
  obtain ⟨a, H', rfl, g, q⟩ := h
  cases ro
  exact d_setItem hu I g ri rv fun s' I' => ⟨H', I', q⟩
theorem PSet.or {t t' : TSet} (h : PSet X t) (h' : PSet X t') : PSet X (fun o i v H Q => t o i v H Q ∨ t' o i v H Q) := by
  intro pins s σ H o i v ov iv u Q I ro ri rv q
  rcases q with q | q
  · exact h pins s σ H o i v ov iv u Q I ro ri rv q
  · exact h' pins s σ H o i v ov iv u Q I ro ri rv q
def rSetL (x y v : LV) (s : LS) (Q : LS → Prop) : Prop := match x with
  | .ref a => (match s a, y with
    | some (.lst xs), .int k => opt (ixN xs.length k) fun j => Q (put s a (.lst (xs.set j v)))
    | some (.dK kvs), .int k => kvs.length < 16777216 ∧ Q (put s a (.dK (putD kvs (.inl k) v)))
    | some (.dK kvs), .str k => kvs.length < 16777216 ∧ Q (put s a (.dK (putD kvs (.inr k) v)))
    | some (.dT kvs), .tup ks => opt (keysL ks) fun k => kvs.length < 16777216 ∧ Q (put s a (.dT (putD kvs k v)))
    | _, _ => False)
  | _ => False
theorem RVd.any : ∀ {kvs : List (Key × LV)} {us : List (Key × V)} (k : Key), RVd K s H kvs us → (us.any fun p => decide (p.1 = k)) = (kvs.any fun p => decide (p.1 = k))
  | [], _, _, h => by cases h; rfl
  | (j, y) :: kvs, _, k, h => by
    obtain ⟨u, r, rfl, _, h2⟩ := h
    simp only [List.any_cons, RVd.any k h2]
theorem RVd.map : ∀ {kvs : List (Key × LV)} {us : List (Key × V)} (k : Key) {x : LV} {v : V}, RVd K s H kvs us → RV K s H x v → RVd K s H (kvs.map fun p => if p.1 = k then (p.1, x) else p) (us.map fun p => if p.1 = k then (p.1, v) else p)
  | [], _, _, _, _, h, _ => by cases h; rfl
  | (j, y) :: kvs, _, k, x, v, h, g => by
    obtain ⟨u, r, rfl, h1, h2⟩ := h
    simp only [List.map_cons]
    by_cases e : j = k
    · simp only [if_pos e]; exact ⟨v, _, rfl, g, RVd.map k h2 g⟩
    · simp only [if_neg e]; exact ⟨u, _, rfl, h1, RVd.map k h2 g⟩
theorem RVd.snoc : ∀ {kvs : List (Key × LV)} {us : List (Key × V)} (k : Key) {x : LV} {v : V}, RVd K s H kvs us → RV K s H x v → RVd K s H (kvs ++ [(k, x)]) (us ++ [(k, v)])
  | [], _, _, _, v, h, g => by cases h; exact ⟨v, [], rfl, g, rfl⟩
  | (j, y) :: kvs, _, k, x, v, h, g => by
    obtain ⟨u, r, rfl, h1, h2⟩ := h
    exact ⟨u, _, rfl, h1, RVd.snoc k h2 g⟩
theorem RVd.put {kvs : List (Key × LV)} {us : List (Key × V)} (k : Key) {x : LV} {v : V} (h : RVd K s H kvs us) (g : RV K s H x v) : RVd K s H (putD kvs k x) (putK us k v) := by
  unfold putD putK
  rw [h.any k]
  split
  · exact h.map k g
  · exact h.snoc k g
theorem RVk.any : ∀ {kvs : List (List Key × LV)} {us : List (List Key × V)} (k : List Key), RVk K s H kvs us → (us.any fun p => decide (p.1 = k)) = (kvs.any fun p => decide (p.1 = k))
  | [], _, _, h => by simp only [RVk] at h; subst h; rfl
  | (j, y) :: kvs, _, k, h => by
    simp only [RVk] at h
    obtain ⟨u, r, rfl, _, h2⟩ := h
    simp only [List.any_cons, RVk.any k h2]
theorem RVk.map : ∀ {kvs : List (List Key × LV)} {us : List (List Key × V)} (k : List Key) {x : LV} {v : V}, RVk K s H kvs us → RV K s H x v → RVk K s H (kvs.map fun p => if p.1 = k then (p.1, x) else p) (us.map fun p => if p.1 = k then (p.1, v) else p)
  | [], _, _, _, _, h, _ => by simp only [RVk] at h; subst h; simp only [List.map_nil, RVk]
  | (j, y) :: kvs, _, k, x, v, h, g => by
    simp only [RVk] at h
    obtain ⟨u, r, rfl, h1, h2⟩ := h
    simp only [List.map_cons]
    by_cases e : j = k
    · simp only [if_pos e, RVk]; exact ⟨v, _, rfl, g, RVk.map k h2 g⟩
    · simp only [if_neg e, RVk]; exact ⟨u, _, rfl, h1, RVk.map k h2 g⟩
theorem RVk.snoc : ∀ {kvs : List (List Key × LV)} {us : List (List Key × V)} (k : List Key) {x : LV} {v : V}, RVk K s H kvs us → RV K s H x v → RVk K s H (kvs ++ [(k, x)]) (us ++ [(k, v)])
  | [], _, _, _, v, h, g => by simp only [RVk] at h; subst h; simp only [List.nil_append, RVk]; exact ⟨v, [], rfl, g, rfl⟩
  | (j, y) :: kvs, _, k, x, v, h, g => by
    simp only [RVk] at h
    obtain ⟨u, r, rfl, h1, h2⟩ := h
    simp only [List.cons_append, RVk]
    exact ⟨u, _, rfl, h1, RVk.snoc k h2 g⟩
theorem RVk.put {kvs : List (List Key × LV)} {us : List (List Key × V)} (k : List Key) {x : LV} {v : V} (h : RVk K s H kvs us) (g : RV K s H x v) : RVk K s H (putD kvs k x) (putK us k v) := by
  unfold putD putK
  rw [h.any k]
  split
  · exact h.map k g
  · exact h.snoc k g
theorem up_set {x y v : V} {lx ly lv : LV} {Q0 : LS → Prop} {Q : Hp → Prop} (hs : RelS K s H) (rx : RV K s H lx x) (ry : RV K s H ly y) (rv : RV K s H lv v) (h : rSetL lx ly lv s Q0) (k : ∀ s' H', Q0 s' → Step s H s' H' → RelS K s' H' → Q H') :
    L2.rSetL x y v H Q ∨ ∃ a H', x = .ref a ∧ DPut H a y v H' ∧ Q H' := by
  cases lx with
  | ref a =>
    simp only [rSetL] at h
    split at h
    · next xs n e =>
      obtain ⟨j, ej, h⟩ := opt_ok h
      obtain ⟨us, hh, q⟩ := hs.lst e
      have nn : s a ≠ none ∨ H a = none := .inl (by rw [e]; simp)
      exact .inl ⟨a, us, n, j, rx.ref', ry.int', hh, by rw [q.length]; exact ej, k _ _ h (.put nn) (hs.put nn ⟨_, upd_same, (q.set j rv).mono (.put nn)⟩)⟩
    · next kvs n e =>
      obtain ⟨us, hh, q⟩ := hs a _ e
      have nn : s a ≠ none ∨ H a = none := .inl (by rw [e]; simp)
      refine .inr ⟨a, _, rx.ref', ?_, k _ _ h.2 (.put nn) (hs.put nn ⟨_, upd_same, (q.put (.inl n) rv).mono (.put nn)⟩)⟩
      rw [ry.int']
      exact DPut.k (k := .inl n) hh (by rw [q.length, sizeLine_eq]; exact h.1)
    · next kvs n e =>
      obtain ⟨us, hh, q⟩ := hs a _ e
      have nn : s a ≠ none ∨ H a = none := .inl (by rw [e]; simp)
      refine .inr ⟨a, _, rx.ref', ?_, k _ _ h.2 (.put nn) (hs.put nn ⟨_, upd_same, (q.put (.inr n) rv).mono (.put nn)⟩)⟩
      rw [ry.str']
      exact DPut.k (k := .inr n) hh (by rw [q.length, sizeLine_eq]; exact h.1)
    · next kvs ks e =>
      obtain ⟨kk, ek, hl, h⟩ := opt_ok h
      obtain ⟨us, hh, q⟩ := hs a _ e
      have nn : s a ≠ none ∨ H a = none := .inl (by rw [e]; simp)
      simp only [RV] at ry
      obtain ⟨t, ts, rfl, _, ht, rt⟩ := ry
      rw [keysL_ok ek rt] at ht
      exact .inr ⟨a, _, rx.ref', DPut.t hh ht (by rw [q.length, sizeLine_eq]; exact hl), k _ _ h (.put nn) (hs.put nn ⟨_, upd_same, (q.put kk rv).mono (.put nn)⟩)⟩
    · exact h.elim
  | _ => exact False.elim h
def lgSub (to ti : LTE) : LTG := fun v σ s Q E => to σ s (fun o s1 => ti σ s1 (fun i s2 => rSetL o i v s2 fun s3 => Q σ s3) E) E
theorem lg_sub (hu : X.A.units + 1 < cLine) (ho : LE X o to) (hi : LE X i ti) (ha : ∀ v, assign (.Subscript o i pos) X.env v = (do
      let ov ← holding [v] (eval o X.env)
      let iv ← holding [v, ov] (eval i X.env)
      standAt pos
      holding [v, ov, iv] (setItem ov iv v)
      release [v, ov, iv] []) := by intro _; rfl) : LG X (.Subscript o i pos) (lgSub to ti) := fun s0 H0 E tk =>
  (pg_sub (ho s0 H0 E tk) (hi s0 H0 E tk) (PSet.or set_list (set_dict hu)) ha).imp fun v σ H Q ⟨lv, σl, s, Q0, E1, hσ, hs, st, rv, hE, h, k⟩ => ⟨σl, s, _, E1, hσ, hs, st, hE, h, fun lx s1 x H1 h st1 hs1 rx =>
    ⟨σl, s1, _, E1, hσ.mono st1, hs1, st.trans st1, hE, h, fun ly s2 y H2 h st2 hs2 ry => up_set hs2 (rx.mono st2) ry (rv.mono (st1.trans st2)) h fun s3 H3 q st3 hs3 =>
      k _ _ _ _ q ((st1.trans st2).trans st3) hs3 (hσ.mono ((st1.trans st2).trans st3))⟩⟩

def lPairs (P : Addr) : List (Str × LTE) → LSt → LS → (List (Key × LV) → LS → Prop) → LX → Prop
  | [], _, s, Q, _ => Q [] s
  | (k, t) :: r, σ, s, Q, E => t σ s (fun v s1 => lPairs P r σ s1 (fun ps s2 => Q ((.inr k, v) :: ps) s2) E) E
/-- pairs with written texts as keys -/
structure LPP (X : Cx) [GG X.K] (pos : Pos) (keys : List (Option Expr)) (values : List Expr) (trs : List (Str × LTE)) : Prop where
  run : ∀ s0 H0 E, Takes X (WL X.K s0 H0 E) → PPs X pos keys values (trs.map fun p => (tC (.str p.1), up X.K s0 H0 E p.2))
theorem lpp_nil : LPP X pos [] [] [] := ⟨fun s0 H0 E tk => pps_nil⟩
theorem lpp_cons {z : Str} {j : Nat} {p2 : Pos} {ks : List (Option Expr)} {vs : List Expr} {trs : List (Str × LTE)} (hv : LE X e te) (hr : LPP X pos ks vs trs) : LPP X pos (some (.Constant (.str z) j p2) :: ks) (e :: vs) ((z, te) :: trs) :=
  ⟨fun s0 H0 E tk => pps_cons pe_str (hv s0 H0 E tk) (hr.run s0 H0 E tk)⟩
def lDisK (trs : List (Str × LTE)) : LTE := fun σ s Q E => ∀ p, s p = none → lPairs p trs σ (put s p (.dK [])) (fun kvs s2 => s2 p = some (.dK []) ∧ kvs.length ≤ 15 ∧ (kvs.map (·.1)).Nodup ∧ Q (.ref p) (put s2 p (.dK kvs))) E
theorem pairs_up {s0 : LS} {H0 : Hp} {E : LXS} {σ : St} {σl : LSt} {E1 : LX} {P : Addr} : ∀ {trs : List (Str × LTE)} {s : LS} {H : Hp} {Q0 : List (Key × LV) → LS → Prop} {Q : List (V × V) → Hp → Prop}, RSt K s H σl σ → RelS K s H → Step s0 H0 s H → (∀ C s', E1 C s' → E C σl s') →
    lPairs P trs σl s Q0 E1 → (∀ kvs s' us H', Q0 kvs s' → Step s H s' H' → RelS K s' H' → RVd K s' H' kvs us → Q (us.map fun p => (kV p.1, p.2)) H') → tPairs (trs.map fun p => (tC (.str p.1), up K s0 H0 E p.2)) σ H Q
  | [], s, H, Q0, Q, hσ, hs, st, hE, h, k => k _ _ [] _ h (.refl _ _) hs rfl
  | (z, t) :: r, s, H, Q0, Q, hσ, hs, st, hE, h, k => by
    refine ⟨σl, s, _, E1, hσ, hs, st, hE, h, fun lv s1 v H1 h st1 hs1 rv => ?_⟩
    exact pairs_up (trs := r) (hσ.mono st1) hs1 (st.trans st1) hE h fun kvs s2 us H2 q st2 hs2 r2 => k _ s2 ((.inr z, v) :: us) H2 q (st1.trans st2) hs2 ⟨v, us, rfl, rv.mono st2, r2⟩
theorem putK_snoc : ∀ {us : List (Key × V)} {k : Key} {v : V}, (∀ p ∈ us, p.1 ≠ k) → putK us k v = us ++ [(k, v)] := fun {us k v} h => by
  unfold putK
  rw [if_neg]
  intro e
  obtain ⟨p, hp, q⟩ := List.any_eq_true.mp e
  exact h p hp (of_decide_eq_true q)
theorem mergeK_app : ∀ (us acc : List (Key × V)), ((acc ++ us).map (·.1)).Nodup → mergeK acc us = acc ++ us
  | [], acc, _ => by simp [mergeK]
  | (k, v) :: us, acc, nd => by
    have e : mergeK acc ((k, v) :: us) = mergeK (putK acc k v) us := rfl
    rw [e, putK_snoc, mergeK_app us (acc ++ [(k, v)]) (by simpa using nd)]
    · simp
    · intro p hp z
      simp only [List.map_append, List.map_cons, List.nodup_append] at nd
      exact nd.2.2 p.1 (List.mem_map.mpr ⟨p, hp, rfl⟩) k (by simp) z
theorem mergeK_nd {us : List (Key × V)} (nd : (us.map (·.1)).Nodup) : mergeK [] us = us := by
  rw [mergeK_app us [] (by simpa using nd)]
  rfl
theorem RVd.keys : ∀ {kvs : List (Key × LV)} {us : List (Key × V)}, RVd K s H kvs us → us.map (·.1) = kvs.map (·.1)
  | [], _, h => by cases h; rfl
  | (j, y) :: kvs, _, h => by
    obtain ⟨u, r, rfl, _, h2⟩ := h
    simp [RVd.keys h2]
theorem le_disK {keys : List (Option Expr)} {values : List Expr} {trs : List (Str × LTE)} (h : LPP X pos keys values trs) (hall : keys.all (·.isSome) = true) (hl : keys.length = values.length) (h0 : keys ≠ []) (h15 : keys.length ≤ 15) :
    LE X (.Dict keys values pos) (lDisK trs) := fun s0 H0 E tk => (pe_disp (h.run s0 H0 E tk) hall hl h0 h15).imp fun σ H Q ⟨σl, s, Q0, E1, hσ, hs, st, hE, h, k⟩ => fun p np => by
  have st1 : Step s H (put s p (.dK [])) (upd H p (.dK [])) := .put (.inr np)
  have hs1 : RelS X.K (put s p (.dK [])) (upd H p (.dK [])) := hs.put (.inr np) ⟨[], upd_same, rfl⟩
  refine pairs_up (hσ.mono st1) hs1 (st.trans st1) hE (h p (hs.free np)) fun kvs s2 us H2 q st2 hs2 r2 => ?_
  obtain ⟨e, hl2, nd, q⟩ := q
  obtain ⟨ws, hh, r0⟩ := hs2 p _ e
  cases r0
  have nn : s2 p ≠ none ∨ H2 p = none := .inl (by rw [e]; simp)
  refine ⟨hh, us, rfl, ?_, ?_⟩
  · rw [r2.length]; exact hl2
  · rw [mergeK_nd (by rw [r2.keys]; exact nd)]
    exact k _ _ _ _ q ((st1.trans st2).trans (.put nn)) (hs2.put nn ⟨us, upd_same, r2.mono (.put nn)⟩) .ref
end
end L3

namespace L3
open PySem PySem.Spec L2
section
variable {X : Cx} [GG X.K] {K : PySem.W.Frag} [GG K] {s : LS} {H : Hp} {a b e o i : Expr} {es : List Expr} {pos : Pos} {ta tb te to ti : LTE} {tas : LTA} {tg : Expr}
variable {x : Str} {p : Pos}
/-- a list, a tuple, the script: its items; a list in the store stands still -/
def iSeq (te : LTE) : LTI := fun σ s Q E => te σ s (fun x s1 => match x with
  | .ref a => (match s1 a with
    | some (.lst xs) => Q xs (fun s2 => s2 a = some (.lst xs)) s1
    | _ => False)
  | _ => opt (seqR x s1) fun xs => Q xs (fun _ => True) s1) E
def iTupl (te : LTE) : LTI := fun σ s Q E => te σ s (fun x s1 => match x with
  | .tup xs => Q xs (fun _ => True) s1
  | _ => False) E
theorem it_list {J : Addr} {xs : List LV} {stb : LS → Prop} {s1 : LS} {H1 : Hp} (h : ∀ s H, Step s1 H1 s H → RelS K s H → stb s → ∃ us, SqL K H J us ∧ RVs K s H xs us) : ItR K (Itl K J) xs stb s1 H1 where
  go := fun i s H hi st hs b => by
    obtain ⟨us, q, r⟩ := h s H st hs b
    exact ⟨us, us[i]'(by rw [r.length]; exact hi), q, by simp⟩
  stop := fun s H st hs b => by
    obtain ⟨us, q, r⟩ := h s H st hs b
    exact ⟨us, q, by rw [r.length]; exact Nat.le_refl _⟩
  yld := fun i s H x H' hi st hs b y => by
    obtain ⟨us, q, r⟩ := h s H st hs b
    obtain ⟨rfl, y⟩ := y
    obtain ⟨lx, e1, e2⟩ := r.get' (y us q)
    exact ⟨lx, e1, e2, .refl _ _, hs⟩
theorem li_seq (he : LE X e te) : LI X tg e (iSeq te) := fun s0 H0 E tk => (pi_list (he s0 H0 E tk)).imp fun σ H R ⟨σl, s, Q0, E1, hσ, hs, st, hE, h, k⟩ => ⟨σl, s, _, E1, hσ, hs, st, hE, h, fun lx s1 x H1 h st1 hs1 rx => by
  have frozen : opt (seqR lx s1) (fun xs => Q0 xs (fun _ => True) s1) → (∀ s2 xs, seqR lx s1 = some xs → seqR lx s2 = some xs) → ∃ a, x = .ref a ∧ (∃ xs, SqL X.K H1 a xs) ∧ R (Itl X.K a) H1 := fun h same => by
    obtain ⟨xs, e, h⟩ := opt_ok h
    obtain ⟨a, us, rfl, hh, r⟩ := seqR_ok hs1 rx e
    exact ⟨a, rfl, ⟨us, hh⟩, k _ _ _ _ _ h st1 hs1 (it_list fun s2 H2 st2 hs2 _ => by
      obtain ⟨a', us', ea, hh', r'⟩ := seqR_ok hs2 (rx.mono st2) (same s2 xs e)
      cases ea
      exact ⟨us', hh', r'⟩)⟩
  cases lx with
  | ref a =>
    simp only at h
    split at h
    · next xs e =>
      obtain ⟨us, hh, r⟩ := hs1.lst e
      exact ⟨a, rx.ref', ⟨us, SqL.of hh⟩, k _ _ _ _ _ h st1 hs1 (it_list fun s2 H2 st2 hs2 b => by
        obtain ⟨us2, hh2, r2⟩ := hs2.lst b
        exact ⟨us2, SqL.of hh2, r2⟩)⟩
    · exact h.elim
  | lst xs => exact frozen h fun _ _ e => e
  | scr xs => exact frozen h fun _ _ e => e
  | _ => exact False.elim h⟩
theorem li_tup (he : LE X e te) : LI X tg e (iTupl te) := fun s0 H0 E tk => (pi_tup (he s0 H0 E tk)).imp fun σ H R ⟨σl, s, Q0, E1, hσ, hs, st, hE, h, k⟩ => ⟨σl, s, _, E1, hσ, hs, st, hE, h, fun lx s1 x H1 h st1 hs1 rx => by
  cases lx with
  | tup xs =>
    have rx0 := rx
    simp only [RV] at rx
    obtain ⟨a, us, rfl, n, hh, r⟩ := rx
    refine ⟨a, rfl, ⟨us, SqT.of hh⟩, k _ _ _ _ _ h st1 hs1 ?_⟩
    have go : ∀ s2 H2, Step s1 H1 s2 H2 → H2 a = some (.tup us) ∧ RVs X.K s2 H2 xs us := fun s2 H2 st2 => by
      obtain ⟨⟨o', h', q⟩, _⟩ := st2 a _ hh n
      rw [q.tup] at h'
      exact ⟨h', r.mono st2⟩
    refine ⟨fun i s2 H2 hi st2 hs2 _ => ⟨us, us[i]'(by rw [r.length]; exact hi), SqT.of (go s2 H2 st2).1, by simp⟩, fun s2 H2 st2 hs2 _ => ⟨us, SqT.of (go s2 H2 st2).1, by rw [r.length]; exact Nat.le_refl _⟩, fun i s2 H2 y H3 hi st2 hs2 _ hy => ?_⟩
    obtain ⟨rfl, hy⟩ := hy
    obtain ⟨lx, e1, e2⟩ := (go s2 _ st2).2.get' (hy us (SqT.of (go s2 _ st2).1))
    exact ⟨lx, e1, e2, .refl _ _, hs2⟩
  | _ => exact False.elim h⟩
/-- range -/
theorem rgL_get {lo hi : Int} {i : Nat} (h : i < (hi - lo).toNat) : (rgL lo hi)[i]? = some (.int (lo + (i : Nat))) := by
  unfold rgL
  simp [h]
theorem rgL_len {lo hi : Int} : (rgL lo hi).length = (hi - lo).toNat := by unfold rgL; simp
theorem it_range {lo hi : Int} {s1 : LS} {H1 : Hp} : ItR K (Itr lo (hi - lo).toNat) (rgL lo hi) (fun _ => True) s1 H1 where
  go := fun i s H h _ _ _ => by rw [rgL_len] at h; exact h
  stop := fun s H _ _ _ => by rw [rgL_len]; exact Nat.le_refl _
  yld := fun i s H x H' h st hs _ y => by
    rw [rgL_len] at h
    obtain ⟨rfl, rfl⟩ := y
    exact ⟨_, rgL_get h, .int, .refl _ _, hs⟩
def isInt (x : LV) (k : Int → Prop) : Prop := match x with
  | .int i => k i
  | _ => False
theorem isInt_ok {x : LV} {k : Int → Prop} (h : isInt x k) : ∃ i, x = .int i ∧ k i := by
  cases x <;> first | exact ⟨_, rfl, h⟩ | exact h.elim
def two2 (vs : List LV) (k : LV → LV → Prop) : Prop := match vs with
  | [x, y] => k x y
  | _ => False
theorem two2_ok {vs : List LV} {k : LV → LV → Prop} (h : two2 vs k) : ∃ x y, vs = [x, y] ∧ k x y := by
  rcases vs with _ | ⟨x, _ | ⟨c, _ | ⟨d, l⟩⟩⟩
  · exact h.elim
  · exact h.elim
  · exact ⟨x, c, rfl, h⟩
  · exact h.elim
def iRg1 (ta : LTA) : LTI := fun σ s Q E => ta σ s (fun vs s1 => one1 vs fun x => isInt x fun j => -(2 ^ 62) ≤ j ∧ j < 2 ^ 62 ∧ Q (rgL 0 j) (fun _ => True) s1) E
def iRg2 (ta : LTA) : LTI := fun σ s Q E => ta σ s (fun vs s1 => two2 vs fun x y => isInt x fun i => isInt y fun j => (-(2 ^ 62) ≤ i ∧ i < 2 ^ 62 ∧ -(2 ^ 62) ≤ j ∧ j < 2 ^ 62) ∧ Q (rgL i j) (fun _ => True) s1) E
theorem li_range1 (hg : Gl X "range") (hm : X.mg "range" = none) (ha : LA X [a] tas) (hs : starEach [a] X.env = [(false, eval a X.env)] := by rfl) : LI X tg (.Call (.Name "range" p) [a] [] pos) (iRg1 tas) := fun s0 H0 E tk =>
  (pi_range1 hg hm (ha s0 H0 E tk) hs).imp fun σ H R ⟨σl, s, Q0, E1, hσ, hs, st, hE, h, k⟩ => ⟨σl, s, _, E1, hσ, hs, st, hE, h, fun lvs s1 vs H1 h st1 hs1 rs => by
    obtain ⟨lx, rfl, h⟩ := one1_ok h
    obtain ⟨j, rfl, h1, h2, h⟩ := isInt_ok h
    obtain ⟨v, rfl, r⟩ := rs.one
    exact ⟨j, by rw [r.int'], h1, h2, k _ _ _ _ _ h st1 hs1 (by have q := it_range (K := X.K) (lo := 0) (hi := j) (s1 := s1) (H1 := H1); rw [Int.sub_zero] at q; exact q)⟩⟩
theorem li_range2 (hg : Gl X "range") (hm : X.mg "range" = none) (ha : LA X [a, b] tas) (hs : starEach [a, b] X.env = [(false, eval a X.env), (false, eval b X.env)] := by rfl) (hs2 : starEach [b] X.env = [(false, eval b X.env)] := by rfl) :
    LI X tg (.Call (.Name "range" p) [a, b] [] pos) (iRg2 tas) := fun s0 H0 E tk =>
  (pi_range2 hg hm (ha s0 H0 E tk) hs hs2).imp fun σ H R ⟨σl, s, Q0, E1, hσ, hs, st, hE, h, k⟩ => ⟨σl, s, _, E1, hσ, hs, st, hE, h, fun lvs s1 vs H1 h st1 hs1 rs => by
    obtain ⟨lx, ly, rfl, h⟩ := two2_ok h
    obtain ⟨i, rfl, h⟩ := isInt_ok h
    obtain ⟨j, rfl, hb, h⟩ := isInt_ok h
    obtain ⟨v, w, rfl, r1, r2⟩ := rs.two
    exact ⟨i, j, by rw [r1.int', r2.int'], hb, k _ _ _ _ _ h st1 hs1 it_range⟩⟩
/-- enumerate, zip: new pairs -/
theorem it_pairs {J : It} {xs ys : List LV} {n : Nat} {stb : LS → Prop} {s1 : LS} {H1 : Hp} (hn : n = min xs.length ys.length)
    (hg : ∀ i s H, i < n → Step s1 H1 s H → RelS K s H → stb s → J.go i H) (hst : ∀ s H, Step s1 H1 s H → RelS K s H → stb s → J.stop n H)
    (hy : ∀ i s H v H', i < n → Step s1 H1 s H → RelS K s H → stb s → J.yld i H v H' → ∃ T x y lx ly, v = .ref T ∧ H T = none ∧ H' = upd H T (.tup [x, y]) ∧ xs[i]? = some lx ∧ ys[i]? = some ly ∧ RV K s H lx x ∧ RV K s H ly y) :
    ItR K J ((xs.zip ys).map fun p => .tup [p.1, p.2]) stb s1 H1 := by
  have hl : ((xs.zip ys).map fun p => LV.tup [p.1, p.2]).length = n := by rw [List.length_map, List.length_zip, hn]
  refine ⟨fun i s H h => hg i s H (by omega), fun s H => by rw [hl]; exact hst s H, fun i s H x H' h st hs b y => ?_⟩
  obtain ⟨T, x, y, lx, ly, rfl, nT, rfl, e1, e2, r1, r2⟩ := hy i s H x H' (by omega) st hs b y
  refine ⟨.tup [lx, ly], ?_, RVs.tupAt hs nT (.cons r1 (.cons r2 .nil)), .new hs nT, hs.new nT⟩
  rw [List.getElem?_map, List.getElem?_zip_eq_some (z := (lx, ly)) |>.mpr ⟨e1, e2⟩]
  rfl
def stbOf (x : LV) (xs : List LV) : LS → Prop := match x with
  | .ref a => fun s => s a = some (.lst xs)
  | _ => fun _ => True
theorem seq_later {lx : LV} {xs : List LV} {s1 s2 : LS} {H1 H2 : Hp} {v : V} (rx : RV K s1 H1 lx v) (hs1 : RelS K s1 H1) (e : seqR lx s1 = some xs) (st : Step s1 H1 s2 H2) (hs2 : RelS K s2 H2) (b : stbOf lx xs s2) :
    ∃ a us, v = .ref a ∧ SqL K H2 a us ∧ RVs K s2 H2 xs us := by
  cases lx with
  | ref a =>
    obtain ⟨us, hh, r⟩ := hs2.lst b
    exact ⟨a, us, rx.ref', SqL.of hh, r⟩
  | lst ys => exact seqR_ok hs2 (rx.mono st) e
  | scr ys => exact seqR_ok hs2 (rx.mono st) e
  | _ => cases e
def iEnumL (ta : LTA) : LTI := fun σ s Q E => ta σ s (fun vs s1 => one1 vs fun x => opt (seqR x s1) fun xs => Q ((rgL 0 xs.length).zip xs |>.map fun p => .tup [p.1, p.2]) (stbOf x xs) s1) E
def iZipL (ta : LTA) : LTI := fun σ s Q E => ta σ s (fun vs s1 => two2 vs fun x y => opt (seqR x s1) fun xs => opt (seqR y s1) fun ys => Q ((xs.zip ys).map fun p => .tup [p.1, p.2]) (fun s2 => stbOf x xs s2 ∧ stbOf y ys s2) s1) E
theorem li_enum {elts : List Expr} {kk : Nat} {tpos : Pos} (hg : Gl X "enumerate") (hm : X.mg "enumerate" = none) (ha : LA X [a] tas) (hs : starEach [a] X.env = [(false, eval a X.env)] := by rfl) :
    LI X (.Tuple elts kk tpos) (.Call (.Name "enumerate" p) [a] [] pos) (iEnumL tas) := fun s0 H0 E tk =>
  (pi_enum hg hm (ha s0 H0 E tk) hs).imp fun σ H R ⟨σl, s, Q0, E1, hσ, hs, st, hE, h, k⟩ => ⟨σl, s, _, E1, hσ, hs, st, hE, h, fun lvs s1 vs H1 h st1 hs1 rs => by
    obtain ⟨lx, rfl, h⟩ := one1_ok h
    obtain ⟨xs, e, h⟩ := opt_ok h
    obtain ⟨v, rfl, rx⟩ := rs.one
    obtain ⟨q, us, rfl, hh, r⟩ := seqR_ok hs1 rx e
    refine ⟨q, us, rfl, hh, k _ _ _ _ _ h st1 hs1 (it_pairs (n := xs.length) (by rw [rgL_len]; omega) (fun i s2 H2 hi st2 hs2 b => ?_) (fun s2 H2 st2 hs2 b => ?_) fun i s2 H2 v H' hi st2 hs2 b y => ?_)⟩
    · obtain ⟨q', us', eq, hh', r'⟩ := seq_later rx hs1 e st2 hs2 b
      cases eq
      exact ⟨us', us'[i]'(by rw [r'.length]; exact hi), hh', by simp⟩
    · obtain ⟨q', us', eq, hh', r'⟩ := seq_later rx hs1 e st2 hs2 b
      cases eq
      exact ⟨us', hh', by rw [r'.length]; exact Nat.le_refl _⟩
    · obtain ⟨q', us', eq, hh', r'⟩ := seq_later rx hs1 e st2 hs2 b
      cases eq
      obtain ⟨T, x, rfl, nT, rfl, hx⟩ := y
      obtain ⟨lx, e1, e2⟩ := r'.get' (hx us' hh')
      exact ⟨T, .int (i : Nat), x, .int ((i : Nat) : Int), lx, rfl, nT, rfl, by rw [rgL_get (by omega), Int.zero_add], e1, .int, e2⟩⟩
theorem li_zip {elts : List Expr} {kk : Nat} {tpos : Pos} (hg : Gl X "zip") (hm : X.mg "zip" = none) (ha : LA X [a, b] tas) (hs : starEach [a, b] X.env = (false, eval a X.env) :: starEach [b] X.env := by rfl) (hpl : (backTo pos (starEach [b] X.env)).any (·.1) = false := by rfl) :
    LI X (.Tuple elts kk tpos) (.Call (.Name "zip" p) [a, b] [] pos) (iZipL tas) := fun s0 H0 E tk =>
  (pi_zip hg hm (ha s0 H0 E tk) hs hpl).imp fun σ H R ⟨σl, s, Q0, E1, hσ, hs, st, hE, h, k⟩ => ⟨σl, s, _, E1, hσ, hs, st, hE, h, fun lvs s1 vs H1 h st1 hs1 rs => by
    obtain ⟨lx, ly, rfl, h⟩ := two2_ok h
    obtain ⟨xs, e1, h⟩ := opt_ok h
    obtain ⟨ys, e2, h⟩ := opt_ok h
    obtain ⟨v, w, rfl, rx, ry⟩ := rs.two
    obtain ⟨q, us, rfl, hh, r⟩ := seqR_ok hs1 rx e1
    obtain ⟨q2, us2, rfl, hh2, r2⟩ := seqR_ok hs1 ry e2
    refine ⟨q, q2, us, us2, rfl, hh, hh2, k _ _ _ _ _ h st1 hs1 (it_pairs (n := min xs.length ys.length) rfl (fun i s2 H2 hi st2 hs2 b => ?_) (fun s2 H2 st2 hs2 b => ?_) fun i s2 H2 v H' hi st2 hs2 b y => ?_)⟩
    · obtain ⟨q', us', eq, hh', r'⟩ := seq_later rx hs1 e1 st2 hs2 b.1
      cases eq
      obtain ⟨q', us2', eq, hh2', r2'⟩ := seq_later ry hs1 e2 st2 hs2 b.2
      cases eq
      exact ⟨us', us2', us'[i]'(by rw [r'.length]; omega), us2'[i]'(by rw [r2'.length]; omega), hh', hh2', by simp, by simp⟩
    · obtain ⟨q', us', eq, hh', r'⟩ := seq_later rx hs1 e1 st2 hs2 b.1
      cases eq
      obtain ⟨q', us2', eq, hh2', r2'⟩ := seq_later ry hs1 e2 st2 hs2 b.2
      cases eq
      exact ⟨us', us2', hh', hh2', by rw [r'.length, r2'.length]; omega⟩
    · obtain ⟨q', us', eq, hh', r'⟩ := seq_later rx hs1 e1 st2 hs2 b.1
      cases eq
      obtain ⟨q', us2', eq, hh2', r2'⟩ := seq_later ry hs1 e2 st2 hs2 b.2
      cases eq
      obtain ⟨T, x, z, rfl, nT, rfl, hx, hz⟩ := y
      obtain ⟨lx, f1, f2⟩ := r'.get' (hx us' hh')
      obtain ⟨lz, g1, g2⟩ := r2'.get' (hz us2' hh2')
      exact ⟨T, x, z, lx, lz, rfl, nT, rfl, f1, g1, f2, g2⟩⟩

/-- targets of a comprehension: a name, names; the slots is are its own -/
inductive CTg : Type where
  | one (i : Nat)
  | many (is : List Nat)
def CTg.real (K : PySem.W.Frag) : CTg → TG
  | .one i => gName i
  | .many is => gTup K is.length (gNames is)
def CTg.lift : CTg → LTG
  | .one i => lgName i
  | .many is => lgTup is
def CTg.slots : CTg → List Nat
  | .one i => [i]
  | .many is => is
def lwipe (σ : LSt) : List Nat → LSt
  | [] => σ
  | v :: vs => (lwipe σ vs).set v none
theorem RSt.wipe {σl : LSt} {σ : St} (h : RSt K s H σl σ) : ∀ vs : List Nat, RSt K s H (lwipe σl vs) (L2.wipe σ vs)
  | [] => h
  | v :: vs => (RSt.wipe h vs).setN v none
theorem wipe_set {σ : St} {i : Nat} {v : Option V} : ∀ {vs : List Nat}, i ∈ vs → L2.wipe (σ.set i v) vs = L2.wipe σ vs
  | w :: vs, h => by
    simp only [L2.wipe]
    have com : ∀ (vs : List Nat), L2.wipe (σ.set i v) vs = (L2.wipe σ vs).set i v ∨ L2.wipe (σ.set i v) vs = L2.wipe σ vs := by
      intro vs
      induction vs with
      | nil => exact .inl rfl
      | cons w vs ih =>
        simp only [L2.wipe]
        rcases ih with ih | ih
        · rw [ih]
          by_cases e : i = w
          · subst e; right; rw [List.set_set]
          · left; rw [List.set_comm _ _ e]
        · right; rw [ih]
    rcases com vs with e | e
    · rw [e]
      by_cases q : i = w
      · subst q; rw [List.set_set]
      · rcases List.mem_cons.mp h with z | z
        · exact absurd z q
        · have := wipe_set (σ := σ) (v := v) z
          rw [← e, this]
    · rw [e]
theorem wipe_idem {σ : St} {vs : List Nat} : ∀ {ws : List Nat}, (∀ i ∈ ws, i ∈ vs) → L2.wipe (L2.wipe σ ws) vs = L2.wipe σ vs
  | [], _ => rfl
  | w :: ws, h => by
    show L2.wipe ((L2.wipe σ ws).set w none) vs = _
    rw [wipe_set (h w (by simp)), wipe_idem fun i hi => h i (by simp [hi])]
/-- a heap without what stands at an address -/
def cutH (H : Hp) (D : Addr) : Hp := fun b => if b = D then none else H b
theorem cutH_same {D : Addr} : cutH H D D = none := by unfold cutH; rw [if_pos rfl]
theorem cutH_ne {D b : Addr} (h : b ≠ D) : cutH H D b = H b := by unfold cutH; rw [if_neg h]
theorem cutH_upd {D : Addr} {u : HO} (h : H D = some u) : upd (cutH H D) D u = H := by
  funext b
  by_cases e : b = D
  · subst e; rw [upd_same, h]
  · rw [upd_ne e, cutH_ne e]
theorem cutH_step {D : Addr} {o : LO} (e : s D = some o) : Step s H (del s D) (cutH H D) := fun b u hb nb => by
  have ne : b ≠ D := by rintro rfl; rw [e] at nb; cases nb
  rw [cutH_ne ne]
  exact ⟨⟨u, hb, .refl u⟩, by unfold L3.del; rw [if_neg ne]; exact nb⟩
theorem cutH_rel {D : Addr} {o : LO} (hs : RelS K s H) (e : s D = some o) : RelS K (del s D) (cutH H D) := fun b v hb => by
  by_cases q : b = D
  · subst q; unfold L3.del at hb; rw [if_pos rfl] at hb; cases hb
  · unfold L3.del at hb
    rw [if_neg q] at hb
    exact (hs b v hb).mono (cutH_step e) fun u z => by rw [cutH_ne q]; exact z
theorem gNames_wipe {Q : St → Hp → Prop} {vs : List Nat} : ∀ {is : List Nat} {us : List V} {σ : St}, (∀ i ∈ is, i ∈ vs) → gNames is us σ H Q → gNames is us σ H (fun σ2 H2 => L2.wipe σ2 vs = L2.wipe σ vs ∧ Q σ2 H2)
  | [], _, _, _, ⟨e, q⟩ => ⟨e, rfl, q⟩
  | i :: is, _, σ, hm, ⟨v, r, e, q⟩ => by
    refine ⟨v, r, e, ?_⟩
    have z := gNames_wipe (is := is) (us := r) (σ := σ.set i (some v)) (vs := vs) (fun j hj => hm j (by simp [hj])) q
    rw [wipe_set (hm i (by simp))] at z
    exact z
theorem ctg_wipe {g : CTg} {v : V} {σ : St} {Q : St → Hp → Prop} {vs : List Nat} (hm : ∀ i ∈ g.slots, i ∈ vs) (h : g.real K v σ H Q) : g.real K v σ H (fun σ2 H2 => L2.wipe σ2 vs = L2.wipe σ vs ∧ Q σ2 H2) := by
  cases g with
  | one i => exact ⟨wipe_set (hm i (by simp [CTg.slots])), h⟩
  | many is =>
    obtain ⟨a, xs, e, h1, h2, h⟩ := h
    exact ⟨a, xs, e, h1, h2, gNames_wipe hm h⟩
/-- the target's reading -/
theorem ctg_up {g : CTg} {lv : LV} {v : V} {σl : LSt} {σ : St} {Q0 : LSt → LS → Prop} {Q : St → Hp → Prop} {E : LX} (hσ : RSt K s H σl σ) (hs : RelS K s H) (rv : RV K s H lv v) (h : g.lift lv σl s Q0 E) (k : ∀ σl' σ', Q0 σl' s → RSt K s H σl' σ' → Q σ' H) : g.real K v σ H Q := by
  cases g with
  | one i => exact k _ _ h (hσ.set i rv)
  | many is =>
    cases lv with
    | tup xs =>
      simp only [CTg.lift, lgTup] at h
      simp only [RV] at rv
      obtain ⟨a, us, rfl, n, hh, r⟩ := rv
      split at h
      · next σ' e => exact ⟨a, us, rfl, SqT.of hh, by rw [r.length, lSets_len e], gNames_ok hσ r e fun σ2 q => k _ _ h q⟩
      · exact h.elim
    | _ => exact False.elim h
def noX : LXS := fun _ _ _ => False
theorem takes_no {X : Cx} [GG X.K] {K : PySem.W.Frag} [GG K] {s0 : LS} {H0 : Hp} : Takes X (WL K s0 H0 noX) := fun u s' x => by
  obtain ⟨_, _, _, _, _, _, _, _, _, _, _, _, _, _, _, _, w⟩ := x
  obtain ⟨_, _, _, _, _, _, _, _, z⟩ := w
  exact z.elim
def lYes : LTT := fun _ s Q _ => Q true s
/-- the loop of a comprehension whose list stands at D -/
def lcLoop (D : Addr) (g : CTg) (tt : LTT) (te : LTE) (stb : LS → Prop) (σw : LSt) (Q : List LV → LS → Prop) : List LV → LS → Prop
  | [], s => stb s ∧ match s D with
    | some (.lst acc) => Q acc (del s D)
    | _ => False
  | x :: xs, s => stb s ∧ g.lift x σw s (fun σ2 s2 => tt σ2 s2 (fun b s3 => (b = true → te σ2 s3 (fun y s4 => match s4 D with
      | some (.lst acc) => acc.length < 16777216 ∧ lcLoop D g tt te stb σw Q xs (put s4 D (.lst (acc ++ [y])))
      | _ => False) fun _ _ => False) ∧ (b = false → lcLoop D g tt te stb σw Q xs s3)) fun _ _ => False) fun _ _ => False
def lLc (it : LTI) (g : CTg) (tt : LTT) (te : LTE) (vs : List Nat) : LTL := fun σ s Q E => it σ s (fun xs stb s1 => ∀ D, s1 D = none → lcLoop D g tt te stb (lwipe σ vs) Q xs (put s1 D (.lst []))) E
def LTs (X : Cx) [GG X.K] (ifs : List Expr) (t : LTT) : Prop := ∀ s0 H0 E, Takes X (WL X.K s0 H0 E) → PTs X ifs (upT X.K s0 H0 E t)
theorem lts_nil : LTs X [] lYes := fun s0 H0 E tk => ⟨fun pins si σ H Q I ⟨σl, s, Q0, E1, hσ, hs, st, hE, h, k⟩ => pts_nil.run pins si σ H Q I (k _ _ _ h (.refl _ _) hs)⟩
theorem lts_one {c : Expr} {t : LTT} (h : LT X c t) : LTs X [c] t := fun s0 H0 E tk => pts_one (h s0 H0 E tk)
theorem lcLoop_stb {D : Addr} {g : CTg} {tt : LTT} {te : LTE} {stb : LS → Prop} {σw : LSt} {Q : List LV → LS → Prop} : ∀ {xs : List LV} {s : LS}, lcLoop D g tt te stb σw Q xs s → stb s
  | [], _, h => h.1
  | _ :: _, _, h => h.1
theorem lc_imp {it : LTI} {g : CTg} {tt : LTT} {te : LTE} {own : List (Str × Nat)} {s0 : LS} {H0 : Hp} {E : LXS} (hm : ∀ i ∈ g.slots, i ∈ own.map (·.2)) : ∀ σ H Q, upL X.K s0 H0 E (lLc it g tt te (own.map (·.2))) σ H Q →
    tLc (upI X.K s0 H0 E it) (g.real X.K) (upT X.K s0 H0 noX tt) (up X.K s0 H0 noX te) (own.map (·.2)) σ H Q :=
  fun σ H Q ⟨σl, s, Q0, E1, hσ, hs, st, hE, h, k⟩ => by
    refine ⟨σl, s, _, E1, hσ, hs, st, hE, h, fun xs stb s1 H1 J h st1 hs1 itr => fun D nD => ?_⟩
    have hD := hs1.free nD
    have st2 : Step s1 H1 (put s1 D (.lst [])) (upd H1 D (.lst [])) := .put (.inr nD)
    have hs2 : RelS X.K (put s1 D (.lst [])) (upd H1 D (.lst [])) := hs1.put (.inr nD) ⟨[], upd_same, .nil⟩
    refine ⟨fun i m H' => ∃ s', RelS X.K s' H' ∧ Step s1 H1 s' H' ∧ m = xs.length - i ∧ i ≤ xs.length ∧ lcLoop D g tt te stb (lwipe σl (own.map (·.2))) Q0 (xs.drop i) s', ⟨xs.length, _, hs2, st2, by simp, Nat.zero_le _, h D hD⟩, ?_⟩
    rintro i m H3 ⟨s3, hs3, st3, rfl, hi, h3⟩
    have st13 := st1.trans st3
    by_cases hlt : i < xs.length
    · rw [List.drop_eq_getElem_cons hlt] at h3
      refine .inr ⟨itr.go i s3 H3 hlt st3 hs3 h3.1, fun H' => ∃ s', RelS X.K s' H' ∧ Step s1 H1 s' H' ∧ lcLoop D g tt te stb (lwipe σl (own.map (·.2))) Q0 (xs.drop (i + 1)) s', fun H' ⟨s', q1, q2, q3⟩ => ⟨xs.length - (i + 1), by omega, s', q1, q2, rfl, hlt, q3⟩, fun x H4 y => ?_⟩
      obtain ⟨lx, ex, rx, st4, hs4⟩ := itr.yld i s3 H3 x H4 hlt st3 hs3 h3.1 y
      rw [List.getElem?_eq_getElem hlt] at ex
      cases ex
      have st14 := st13.trans st4
      rw [← wipe_idem (σ := σ) (vs := own.map (·.2)) (ws := own.map (·.2)) fun i hi => hi]
      have wi : ∀ Q, g.real X.K x (L2.wipe σ (own.map (·.2))) H4 Q → g.real X.K x (L2.wipe (L2.wipe σ (own.map (·.2))) (own.map (·.2))) H4 Q := fun Q h => by rw [wipe_idem fun i hi => hi]; exact h
      refine wi _ (ctg_wipe hm (ctg_up ((hσ.mono st14).wipe _) hs4 rx h3.2 fun σl5 σ5 h5 hσ5 => ?_))
      refine ⟨σl5, s3, _, _, hσ5, hs4, (st.trans st14), fun C s' z => z, h5, fun b s6 H6 h6 st6 hs6 => ?_⟩
      have st46 := st4.trans st6
      cases b with
      | true =>
        refine iteT ⟨σl5, s6, _, _, hσ5.mono st6, hs6, (st.trans st14).trans st6, fun C s' z => z, h6.1 rfl, fun ly s7 y H7 h7 st7 hs7 ry => ?_⟩
        have st17 := (st3.trans st46).trans st7
        split at h7
        · next acc eD =>
          obtain ⟨us, hh, r⟩ := hs7.lst eD
          have nn : s7 D ≠ none ∨ H7 D = none := .inl (by rw [eD]; simp)
          exact ⟨us, hh, by rw [r.length, sizeLine_eq]; exact h7.1, put s7 D (.lst (acc ++ [ly])), hs7.put nn ⟨_, upd_same, (r.append (.cons ry .nil)).mono (.put nn)⟩, st17.trans (.put nn), h7.2⟩
        · exact h7.elim
      | false => exact iteF ⟨s6, hs6, st3.trans st46, h6.2 rfl⟩
    · have ei : i = xs.length := by omega
      subst ei
      rw [List.drop_length] at h3
      obtain ⟨b3, h3⟩ := h3
      refine .inl ⟨itr.stop s3 H3 st3 hs3 b3, ?_⟩
      split at h3
      · next acc eD =>
        obtain ⟨us, hh, r⟩ := hs3.lst eD
        have stc : Step s3 H3 (del s3 D) (cutH H3 D) := cutH_step eD
        have z := k acc (del s3 D) us (cutH H3 D) h3 (st13.trans stc) (cutH_rel hs3 eD) (r.mono stc) D cutH_same
        rw [cutH_upd hh] at z
        exact z
      · exact h3.elim
theorem ll_lc {elt iter : Expr} {ifs : List Expr} {scope : Scope} {own : List (Str × Nat)} {it : LTI} {g : CTg} {tt : LTT} {te : LTE} (hc : X.calm = true) (hN : X.N.Nodup) (hi : LI X tg iter it) (ok : BlkOk X.N X.env.scope scope own) (hm : ∀ i ∈ g.slots, i ∈ own.map (·.2))
    (hg : ∀ (s : Shared) (H : Hp) (C : Addr) (cl : List (Str × Addr)) (fp : List Addr), PG (X.blk s H scope (compEnvC scope cl C X.env) fp) tg (g.real X.K)) (ht : ∀ (s : Shared) (H : Hp) (C : Addr) (cl : List (Str × Addr)) (fp : List Addr), LTs (X.blk s H scope (compEnvC scope cl C X.env) fp) ifs tt)
    (he : ∀ (s : Shared) (H : Hp) (C : Addr) (cl : List (Str × Addr)) (fp : List Addr), LE (X.blk s H scope (compEnvC scope cl C X.env) fp) elt te) (hs : ∀ x, foldedSetIterable iter X.env x = pure x := by intro _; rfl) :
    LL X (.ListComp elt [⟨tg, iter, ifs, 0⟩] scope pos) (lLc it g tt te (own.map (·.2))) := fun s0 H0 E tk =>
  (pe_lc (g := g.real X.K) (tt := upT X.K s0 H0 noX tt) (te := up X.K s0 H0 noX te) hc hN (hi s0 H0 E tk) ok hg (fun s H C cl fp => ht s H C cl fp s0 H0 noX takes_no) (fun s H C cl fp => he s H C cl fp s0 H0 noX takes_no) hs).imp (lc_imp hm)
/-- name = [..] -/
theorem lp_setLcF {i : Nat} {y : Str} {py : Pos} {elt iter : Expr} {ifs : List Expr} {scope : Scope} {own : List (Str × Nat)} {spos : Pos} {it : LTI} {g : CTg} {tt : LTT} {te : LTE} (hc : X.calm = true) (hN : X.N.Nodup) (hy : X.N[i]? = some y) (hyl : X.env.scope.names.lookup y = some .local)
    (hi : LI X tg iter it) (ok : BlkOk X.N X.env.scope scope own) (hm : ∀ i ∈ g.slots, i ∈ own.map (·.2))
    (hg : ∀ (s : Shared) (H : Hp) (C : Addr) (cl : List (Str × Addr)) (fp : List Addr), PG (X.blk s H scope (compEnvC scope cl C X.env) fp) tg (g.real X.K)) (ht : ∀ (s : Shared) (H : Hp) (C : Addr) (cl : List (Str × Addr)) (fp : List Addr), LTs (X.blk s H scope (compEnvC scope cl C X.env) fp) ifs tt)
    (he : ∀ (s : Shared) (H : Hp) (C : Addr) (cl : List (Str × Addr)) (fp : List Addr), LE (X.blk s H scope (compEnvC scope cl C X.env) fp) elt te)
    (hsw : swapsWith (.ListComp elt [⟨tg, iter, ifs, 0⟩] scope pos) (some (.Name y py)) spos.line X.env = pure true) (hs : ∀ x, foldedSetIterable iter X.env x = pure x := by intro _; rfl) :
    LP X (.Assign [.Name y py] (.ListComp elt [⟨tg, iter, ifs, 0⟩] scope pos) spos) (lAsg (lFz (lLc it g tt te (own.map (·.2)))) (lgName i)) := fun s0 H0 E tk hp =>
  (ps_setLc (g := g.real X.K) (tt := upT X.K s0 H0 noX tt) (te := up X.K s0 H0 noX te) hc hN hy hyl hsw (hi s0 H0 E tk) ok hg (fun s H C cl fp => ht s H C cl fp s0 H0 noX takes_no) (fun s H C cl fp => he s H C cl fp s0 H0 noX takes_no) hs).imp fun D σ H ⟨σl, s, Dl, hσ, hs, st, h, d⟩ =>
    lc_imp hm σ H _ (fz_up ⟨σl, s, _, _, hσ, hs, st, fun C s' q => d.ex C σl s' q, h, fun lx s1 x H1 h st1 hs1 rx => d.nx _ _ _ _ h st1 hs1 ((hσ.mono st1).set i rx)⟩)
theorem lp_setLcN {i : Nat} {y : Str} {py : Pos} {elt iter : Expr} {ifs : List Expr} {scope : Scope} {own : List (Str × Nat)} {spos : Pos} {it : LTI} {g : CTg} {tt : LTT} {te : LTE} (hc : X.calm = true) (hN : X.N.Nodup) (hy : X.N[i]? = some y) (hyl : X.env.scope.names.lookup y = some .local)
    (hi : LI X tg iter it) (ok : BlkOk X.N X.env.scope scope own) (hm : ∀ i ∈ g.slots, i ∈ own.map (·.2))
    (hg : ∀ (s : Shared) (H : Hp) (C : Addr) (cl : List (Str × Addr)) (fp : List Addr), PG (X.blk s H scope (compEnvC scope cl C X.env) fp) tg (g.real X.K)) (ht : ∀ (s : Shared) (H : Hp) (C : Addr) (cl : List (Str × Addr)) (fp : List Addr), LTs (X.blk s H scope (compEnvC scope cl C X.env) fp) ifs tt)
    (he : ∀ (s : Shared) (H : Hp) (C : Addr) (cl : List (Str × Addr)) (fp : List Addr), LE (X.blk s H scope (compEnvC scope cl C X.env) fp) elt te)
    (hsw : swapsWith (.ListComp elt [⟨tg, iter, ifs, 0⟩] scope pos) (some (.Name y py)) spos.line X.env = pure true) (hs : ∀ x, foldedSetIterable iter X.env x = pure x := by intro _; rfl) :
    LP X (.Assign [.Name y py] (.ListComp elt [⟨tg, iter, ifs, 0⟩] scope pos) spos) (lAsg (lNew (lLc it g tt te (own.map (·.2)))) (lgName i)) := fun s0 H0 E tk hp =>
  (ps_setLc (g := g.real X.K) (tt := upT X.K s0 H0 noX tt) (te := up X.K s0 H0 noX te) hc hN hy hyl hsw (hi s0 H0 E tk) ok hg (fun s H C cl fp => ht s H C cl fp s0 H0 noX takes_no) (fun s H C cl fp => he s H C cl fp s0 H0 noX takes_no) hs).imp fun D σ H ⟨σl, s, Dl, hσ, hs, st, h, d⟩ =>
    lc_imp hm σ H _ (new_up ⟨σl, s, _, _, hσ, hs, st, fun C s' q => d.ex C σl s' q, h, fun lx s1 x H1 h st1 hs1 rx => d.nx _ _ _ _ h st1 hs1 ((hσ.mono st1).set i rx)⟩)
end
end L3

namespace L3
open PySem PySem.Spec L2
section
variable {X : Cx} [GG X.K] {K : PySem.W.Frag} [GG K] {s : LS} {H : Hp} {a b e o i : Expr} {es : List Expr} {pos : Pos} {ta tb te to ti : LTE} {tas : LTA} {tg : Expr}
variable {x m : Str} {p p2 pos2 : Pos} {j : Nat} {C : Addr}
/-- what is known of an own exception class -/
structure ExK (K : PySem.W.Frag) (mg : Str → Option Value) (x : Str) (C : Addr) : Prop where
  xP : PySem.W.excIn K C [.type "ValueError", .type "Exception", .type "BaseException", .type "object"] "ValueError.__new__" = true
  gP : mg x = some (.ref C)
  kP : PySem.W.keepIn K (.ref C) = true
  bP : PySem.W.subIn K (.ref C) (.type "BaseException") = some true
  tP : PySem.W.typeIn K (.ref C) = some (.type "type")
def lRaise (C : Addr) : LTS := fun D σ s => D.ex C σ s
theorem lp_raise (T : ExK X.K X.mg x C) (hc : X.calm = true) (hg : Gl X x) (hdb : (x == ("__debug__" : Str)) = false := by decide) : LP X (.Raise (some (.Call (.Name x p) [.Constant (.str m) j p2] [] pos)) none pos2) (lRaise C) := fun s0 H0 E tk hp =>
  (ps_raise hc tk (pmk_own PySem.F.excBase_ValueError T.xP T.gP T.kP (raises_own T.bP T.tP) hg hdb)).imp fun D σ H ⟨σl, s, Dl, hσ, hs, st, h, d⟩ => ⟨C, σl, s, rfl, rfl, hσ, hs, st, d.ex _ _ _ h⟩
def lTryX (K : PySem.W.Frag) (c : Value) (tb : LTS) (ts : Addr → LTS) : LTS := fun D σ s => tb (D.wex fun C σ' s' => ∃ b, PySem.W.exmOne K (.ref C) c = some b ∧ (b = true → ts C (D.wex noX) σ' s') ∧ (b = false → D.ex C σ' s')) σ s
theorem DnE.noX {E : LXS} {Dl : LEnds} {D : Ends} (d : DnE K E s H Dl D) : DnE K L3.noX s H (Dl.wex L3.noX) D := ⟨d.nx, d.rt, d.bk, d.ct, fun _ _ _ h => h⟩
variable {body suite : List Stmt} {b₀ : Stmt} {np pos' : Pos} {c : Value} {tbd : LTS} {ts : Addr → LTS}
theorem lp_try_only (hs' : X.stack = X.env :: X.outer) (hf : X.env.frame = some X.env.locals) (hc : Names X x c)
    (hb : ∀ (pn : List (Addr × Obj)) (xe : Value → Shared → Prop), LPs (X.tr pn xe) body tbd)
    (hsu : ∀ (a : Addr) (oe : Obj) (C : Addr) (pn : List (Addr × Obj)), Zc (.ref C) none oe → (∃ vs, oe.data = .fields vs) → LPs (X.suite a ((a, oe) :: pn)) (b₀ :: suite) (ts C)) :
    LP X (.Try body [.ExceptHandler (some (.Name x np)) none (b₀ :: suite) pos'] [] [] pos) (lTryX X.K c tbd ts) := fun s0 H0 E tk hp => by
  refine (ps_try_only (tb := fun W D σ H => ∃ s1 H1 E', (∀ cls d σ H, WL X.K s1 H1 E' cls d σ H → W cls d σ H) ∧ upS X.K s1 H1 E' tbd D σ H)
    (ts := fun a cls d D σ H => ∃ C s1 H1, cls = .ref C ∧ d = none ∧ upS X.K s1 H1 noX (ts C) D σ H) hs' hf hc tk (fun W pn xe tk' po => ⟨fun pins si σ H D I ⟨s1, H1, E', hw, h⟩ => ?_⟩) (fun a oe cls d pn hz hv => ⟨fun pins si σ H D I ⟨C, s1, H1, e1, e2, h⟩ => ?_⟩)).imp ?_
  · exact (hb pn xe s1 H1 E' (tk'.imp hw) po).run pins si σ H D I h
  · subst e1 e2
    exact (hsu a oe C pn hz hv s1 H1 noX takes_no PassesOwn.never).run pins si σ H D I h
  · intro D σ H ⟨σl, s, Dl, hσ, hs, st, h, d⟩
    refine ⟨s, H, fun C σ' s' => ∃ b, PySem.W.exmOne X.K (.ref C) c = some b ∧ (b = true → ts C (Dl.wex noX) σ' s') ∧ (b = false → Dl.ex C σ' s'), fun cls dd σ' H' ⟨C, σl', s', e1, e2, hσ', hs1, st1, b, eb, h1, h2⟩ => ?_, σl, s, _, hσ, hs, .refl _ _, h, ⟨d.nx, d.rt, d.bk, d.ct, fun _ _ _ q => q⟩⟩
    subst e1 e2
    refine ⟨b, eb, fun q a na => ⟨C, s', H', rfl, rfl, σl', s', _, hσ', hs1, .refl _ _, h1 q, (d.mono st1).noX⟩, fun q => ⟨C, σl', s', rfl, rfl, hσ', hs1, st.trans st1, d.ex _ _ _ (h2 q)⟩⟩
/-- except x as n: the exception lies at slot i meanwhile -/
def lTryAs (K : PySem.W.Frag) (c : Value) (i : Nat) (tb : LTS) (ts : Addr → Addr → LTS) : LTS := fun D σ s => tb (D.wex fun C σ' s' => ∃ b, PySem.W.exmOne K (.ref C) c = some b ∧
  (b = true → ∀ a, ts a C { nx := fun σ' s' => D.nx (σ'.set i none) s', rt := D.rt, bk := fun σ' s' => D.bk (σ'.set i none) s', ct := fun σ' s' => D.ct (σ'.set i none) s', ex := noX } (σ'.set i (some (.ref a))) s') ∧ (b = false → D.ex C σ' s')) σ s
theorem lp_try_as {n : Str} {i : Nat} {ts : Addr → Addr → LTS} (hs' : X.stack = X.env :: X.outer) (hf : X.env.frame = some X.env.locals) (hN : X.N.Nodup) (hi : X.N[i]? = some n) (hln : X.env.kindOf n = some .local) (hc : Names X x c)
    (hb : ∀ (pn : List (Addr × Obj)) (xe : Value → Shared → Prop), LPs (X.tr pn xe) body tbd)
    (hsu : ∀ (a : Addr) (oe : Obj) (C : Addr) (pn : List (Addr × Obj)), Zc (.ref C) none oe → (∃ vs, oe.data = .fields vs) → LPs (X.suite a ((a, oe) :: pn)) (b₀ :: suite) (ts a C)) :
    LP X (.Try body [.ExceptHandler (some (.Name x np)) (some n) (b₀ :: suite) pos'] [] [] pos) (lTryAs X.K c i tbd ts) := fun s0 H0 E tk hp => by
  refine (ps_try_as (tb := fun W D σ H => ∃ s1 H1 E', (∀ cls d σ H, WL X.K s1 H1 E' cls d σ H → W cls d σ H) ∧ upS X.K s1 H1 E' tbd D σ H)
    (ts := fun a cls d D σ H => ∃ C s1 H1, cls = .ref C ∧ d = none ∧ upS X.K s1 H1 noX (ts a C) D σ H) hs' hf hN hi hln hc tk (fun W pn xe tk' po => ⟨fun pins si σ H D I ⟨s1, H1, E', hw, h⟩ => ?_⟩) (fun a oe cls d pn hz hv => ⟨fun pins si σ H D I ⟨C, s1, H1, e1, e2, h⟩ => ?_⟩)).imp ?_
  · exact (hb pn xe s1 H1 E' (tk'.imp hw) po).run pins si σ H D I h
  · subst e1 e2
    exact (hsu a oe C pn hz hv s1 H1 noX takes_no PassesOwn.never).run pins si σ H D I h
  · intro D σ H ⟨σl, s, Dl, hσ, hs, st, h, d⟩
    refine ⟨s, H, fun C σ' s' => ∃ b, PySem.W.exmOne X.K (.ref C) c = some b ∧
      (b = true → ∀ a, ts a C { nx := fun σ' s' => Dl.nx (σ'.set i none) s', rt := Dl.rt, bk := fun σ' s' => Dl.bk (σ'.set i none) s', ct := fun σ' s' => Dl.ct (σ'.set i none) s', ex := noX } (σ'.set i (some (.ref a))) s') ∧ (b = false → Dl.ex C σ' s'), fun cls dd σ' H' ⟨C, σl', s', e1, e2, hσ', hs1, st1, b, eb, h1, h2⟩ => ?_, σl, s, _, hσ, hs, .refl _ _, h, ⟨d.nx, d.rt, d.bk, d.ct, fun _ _ _ q => q⟩⟩
    subst e1 e2
    have d1 := d.mono st1
    refine ⟨b, eb, fun q a na => ⟨C, s', H', rfl, rfl, _, s', _, hσ'.set i .ref, hs1, .refl _ _, h1 q a, ⟨?_, d1.rt, ?_, ?_, fun _ _ _ z => z⟩⟩, fun q => ⟨C, σl', s', rfl, rfl, hσ', hs1, st.trans st1, d.ex _ _ _ (h2 q)⟩⟩
    · exact fun σ2 s2 σr H2 z st2 hs2 r2 => d1.nx _ _ _ _ z st2 hs2 (r2.setN i none)
    · exact fun σ2 s2 σr H2 z st2 hs2 r2 => d1.bk _ _ _ _ z st2 hs2 (r2.setN i none)
    · exact fun σ2 s2 σr H2 z st2 hs2 r2 => d1.ct _ _ _ _ z st2 hs2 (r2.setN i none)
/-- isinstance(e, c) of the exception in hand -/
def rIsEL (K : PySem.W.Frag) (a C : Addr) : LRc := fun vs s Q => two2 vs fun x c => x = .ref a ∧ ExcC K C ∧ opt (clsVal c) fun u => ∃ b, PySem.W.kitOne K (.ref C) u = some b ∧ Q (.bl b) s
theorem le_isE {a C : Addr} {oe : Obj} {pn : List (Addr × Obj)} (hz : Zc (.ref C) none oe) (hf : ∃ vs, oe.data = .fields vs) (hg : Gl (X.suite a ((a, oe) :: pn)) "isinstance") (hm : X.mg "isinstance" = none) (ha : LA (X.suite a ((a, oe) :: pn)) (e :: es) tas)
    (he : starEach (e :: es) (X.suite a ((a, oe) :: pn)).env = (false, eval e (X.suite a ((a, oe) :: pn)).env) :: starEach es (X.suite a ((a, oe) :: pn)).env := by rfl) (hpl : (backTo pos (starEach es (X.suite a ((a, oe) :: pn)).env)).any (·.1) = false := by rfl) :
    LE (X.suite a ((a, oe) :: pn)) (.Call (.Name "isinstance" p) (e :: es) [] pos) (lCB (rIsEL X.K a C) tas) :=
  le_cb (r := fun vs H Q => ExcC X.K C ∧ rIsE X.K C a vs H Q) (fun pins si σ H xs us Q I r ⟨hC, q⟩ => call_isE hC hz hf pins si σ H xs us Q I r q) (fun vs s H lvs Q0 Q hs r h k => by
    obtain ⟨lx, lc, rfl, e0, hC, h1⟩ := two2_ok h
    obtain ⟨u, e1, b, e2, h2⟩ := opt_ok h1
    obtain ⟨v, w, rfl, r1, r2⟩ := r.two
    rw [e0] at r1
    exact ⟨hC, w, u, b, by rw [r1.ref'], fun u' ru => (clsVal_ok r2 e1).eq ru, e2, k _ _ _ _ h2 (.refl _ _) hs .bl⟩) hg hm (by decide +kernel) ha (by decide) (by decide) he hpl

def clsAt (x : LV) (s : LS) (k : Addr → List (Str × LV) → Prop) : Prop := match x with
  | .ref a => (match s a with
    | some (.ins B fs) => k B fs
    | _ => False)
  | .ins B fs => k B fs
  | _ => False
theorem clsAt_ok {x : LV} {v : V} {k : Addr → List (Str × LV) → Prop} (r : RelS K s H) (rx : RV K s H x v) (h : clsAt x s k) : ∃ a dx us B fs, v = .ref a ∧ H a = some (.ins B dx us) ∧ RVf K s H fs us ∧ k B fs := by
  cases x with
  | ref a =>
    simp only [clsAt] at h
    split at h
    · next B fs e =>
      obtain ⟨dx, us, hh, rf⟩ := r.ins e
      exact ⟨a, dx, us, B, fs, rx.ref', hh, rf, h⟩
    · exact h.elim
  | ins B fs =>
    simp only [RV] at rx
    obtain ⟨a, dx, us, rfl, _, hh, rf⟩ := rx
    exact ⟨a, dx, us, B, fs, rfl, hh, rf, h⟩
  | _ => exact h.elim
def lMethD (m : Str) (Tb : Addr → LSp → Prop) (ta : LTE) (t : LTA) : LTE := fun σ s Q E => ta σ s (fun x s1 => clsAt x s1 fun B fs => fs.lookup m = none ∧ ∃ sp, Tb B sp ∧ t σ s1 (fun vs s2 => sp (x :: vs) s2 Q E) E) E
/-- what the classes of the table have as m -/
def MethT (X : Cx) [GG X.K] (m : Str) (Tb : Addr → LSp → Prop) : Prop := ∀ C sp, Tb C sp → Cls X.K C ∧ ∃ f fd ps k, Meth X.K C m f ∧ LFn X.prog X.w X.K X.mg X.base k f fd ps sp ∧ Room k X.A ∧ Binds X.K fd ps []
variable {apos : Pos} {Tb : Addr → LSp → Prop}
theorem le_methD {pl : Sem Bool} (ha : LE X o ta) (hT : MethT X m Tb) (hes : LA X (e :: es) tas)
    (hst : starEach (e :: es) X.env = (false, eval e X.env) :: starEach es X.env := by rfl) (hpl : (backTo pos (starEach es X.env)).any (·.1) = false := by rfl)
    (ht : eval (.Call (.Attribute o m apos) (e :: es) [] pos) X.env = (do
      let ov ← eval o X.env
      standAt apos.atName
      let (f, first) ← holding [ov] (getMethod ov m pl)
      callWith pos f first (backTo pos (starEach (e :: es) X.env)) (backToKw pos (keywordEach [] X.env))) := by rfl) : LE X (.Call (.Attribute o m apos) (e :: es) [] pos) (lMethD m Tb ta tas) := fun s0 H0 E tk =>
  ⟨fun pins si σ H Q I ⟨σl, s, Q0, E1, hσ, hs, st, hE, h, kk⟩ => by
    refine PySem.W.methodCall_KW (pl := pl) (thn (ha.go tk I hσ hs st hE h) fun u si1 hx => ?_) ht
    obtain ⟨x, H1, I1, rv, lx, s1, st1, hs1, rx, h⟩ := hx
    obtain ⟨a, dx, us, B, fs, rfl, hh, rf, l, sp, tb, h⟩ := clsAt_ok hs1 rx h
    obtain ⟨c, f, fd, ps, k, hm, F, hr, hb⟩ := hT B sp tb
    obtain rfl : u = Value.ref a := rv
    refine getmeth_ok I1 hh c hm (rf.look0 l) ?_
    refine PySem.W.callWith_K (first := [.ref a]) (h₀ := X.base) I.ok.mod.kin hm.kp (thn (hes.go tk pos I1 (hσ.mono st1) hs1 (st.trans st1) hE h) fun us si2 hx2 => ?_) hst hpl
    obtain ⟨vs, H2, I2, rvs, lvs, s2, st2, hs2, r, h⟩ := hx2
    refine ⟨I2.kIn, ?_⟩
    have st12 := st1.trans st2
    exact run_fnS (E := fun _ => WE (WL X.K s0 H0 E) σ) (us := .ref a :: us) (vs := .ref a :: vs) F hr hb (passAt tk σ) I2 (.cons rfl rvs) (dn_call (hσ.mono st12) hs2 (st.trans st12) hE (.cons (rx.mono st2) r) h fun lv s3 v H3 q st3 => kk lv s3 v H3 q (st12.trans st3))⟩
theorem le_methD0 {pl : Sem Bool} (ha : LE X o ta) (hT : MethT X m Tb)
    (ht : eval (.Call (.Attribute o m apos) [] [] pos) X.env = (do
      let ov ← eval o X.env
      standAt apos.atName
      let (f, first) ← holding [ov] (getMethod ov m pl)
      callWith pos f first (backTo pos (starEach [] X.env)) (backToKw pos (keywordEach [] X.env))) := by rfl) : LE X (.Call (.Attribute o m apos) [] [] pos) (lMethD m Tb ta lNil) := fun s0 H0 E tk =>
  ⟨fun pins si σ H Q I ⟨σl, s, Q0, E1, hσ, hs, st, hE, h, kk⟩ => by
    refine PySem.W.methodCall_KW (pl := pl) (thn (ha.go tk I hσ hs st hE h) fun u si1 hx => ?_) ht
    obtain ⟨x, H1, I1, rv, lx, s1, st1, hs1, rx, h⟩ := hx
    obtain ⟨a, dx, us, B, fs, rfl, hh, rf, l, sp, tb, h⟩ := clsAt_ok hs1 rx h
    obtain ⟨c, f, fd, ps, k, hm, F, hr, hb⟩ := hT B sp tb
    obtain rfl : u = Value.ref a := rv
    refine getmeth_ok I1 hh c hm (rf.look0 l) ?_
    exact PySem.W.callWith_K0 (first := [.ref a]) I1.kIn hm.kp (run_fnS (E := fun _ => WE (WL X.K s0 H0 E) σ) (us := [.ref a]) (vs := [.ref a]) F hr hb (passAt tk σ) I1 (.cons rfl .nil)
      (dn_call (hσ.mono st1) hs1 (st.trans st1) hE (.cons rx .nil) h fun lv s3 v H3 q st3 => kk lv s3 v H3 q (st1.trans st3)))⟩
end

instance ggOf {CX : CXT} {P : Program} {w : World} {K : PySem.W.Frag} [g : GG K] {mg : Str → Option Value} {base : Heap} {N : List Str} {qual : Str} {scope : Scope} {f : Addr} {cd : Value} {A : Around} {outer : List Env} {s : Shared} {H : Hp} {E : XK} :
    GG (cxOf CX P w K mg base N qual scope f cd A outer s H E).K := g
def lstart (N : List Str) (vs : List LV) : LSt := vs.map some ++ List.replicate (N.length - vs.length) none
/-- a def's ends; what is handed back may be frozen, what the store holds forgotten -/
def lEnds (Q : LVK) (E : LX) : LEnds := ⟨fun _ s' => ∃ s2, Sub s2 s' ∧ Q .non s2, fun lv s' => ∃ y s2, Frz lv s' y s2 ∧ Q y s2, fun _ _ => False, fun _ _ => False, fun C _ s' => ∃ s2, Sub s2 s' ∧ E C s2⟩
theorem Sub.refl (s : LS) : Sub s s := fun _ => .inr rfl
section
variable {P : Program} {w : World} {K : PySem.W.Frag} [GG K] {mg : Str → Option Value} {base : Heap}
theorem _root_.L2.Fun.okL {x qual : Str} {st : Stmt} {f : Addr} {fd : FuncData} {N ps : List Str} {k : Nat} {sp : LSp} (F : Fun K x qual st f fd) (S : FnScope N ps (defScope st)) (len : ∀ vs s Q E, sp vs s Q E → vs.length = ps.length)
    (hbody : ∀ (cdv : Value) (A : Around) (outer : List Env) (si : Shared) (H : Hp) (E : XK), Room k (A.deeper (PyProof.Rows.envOfC qual (defScope st) si.heap.objs.size f cdv)) →
      ∃ t, LPs (cxOf (L2.CX P w) P w K mg base N qual (defScope st) f cdv A outer si H E) (defBody st) t ∧ ∀ vs s Q E, sp vs s Q E → t (lEnds Q E) (lstart N vs) s) : LFn P w K mg base (k + 1) f fd ps sp := by
  refine F.okX S (fun vs H Q E ⟨lvs, s, Q0, E0, r, _, h, _⟩ => by rw [r.length]; exact len _ _ _ _ h) fun cdv A outer si H vs Q E hr h => ?_
  obtain ⟨lvs, s, Q0, E0, r, hs, h, kq, ke⟩ := h
  obtain ⟨t, ht, hb⟩ := hbody cdv A outer si H E hr
  have tk := takes_of (X := cxOf (L2.CX P w) P w K mg base N qual (defScope st) f cdv A outer si H E) (E := E) rfl rfl rfl rfl
  refine ⟨upS K s H (fun C σl s' => ∃ s2, Sub s2 s' ∧ E0 C s2) t, ht s H _ (tk.imp fun cls d σ H' w => ?_) (passes_of rfl), ?_⟩
  · obtain ⟨C, σl, s', rfl, rfl, _, hs', st', s2, sb, q⟩ := w
    exact ke C s2 H' q (st'.trans sb.step) (sb.rel hs')
  · refine ⟨lstart N lvs, s, lEnds Q0 E0, ?_, hs, .refl _ _, hb lvs s Q0 E0 h, ⟨fun σl s' σ H' ⟨s2, sb, q⟩ st' hs' _ => kq .non s2 .non H' q (st'.trans sb.step) (sb.rel hs') .non, fun lv s' v H' ⟨y, s2, fz, q⟩ st' hs' rv => ?_, fun _ _ _ _ z => z.elim, fun _ _ _ _ z => z.elim, fun _ _ _ z => z⟩⟩
    · show RSt K s H (lstart N lvs) (start N vs)
      unfold lstart
      have e : start N vs = vs.map some ++ List.replicate (N.length - vs.length) none := rfl
      rw [e, r.length]
      exact (RSt.vals r).append (.nones _)
    · obtain ⟨a, b, c⟩ := fz K H' v hs' rv
      exact kq y s2 v H' q (st'.trans c) b a
end
end L3

namespace L3
open PySem PySem.Spec L2
structure MkN (K : PySem.W.Frag) (C : Addr) : Prop where
  makes : PySem.W.makesIn K C = true
  init : PySem.W.findIn K (.ref C) "__init__" = some (some (.builtin "object.__init__"))
  kp : PySem.W.keepIn K (.ref C) = true
def lMakeN (C : Addr) : LTE := fun σ s Q E => ∀ x, s x = none → Q (.ref x) (put s x (.ins C []))
section
variable {X : Cx} [GG X.K] {C : Addr} {x : Str} {p pos : Pos}
theorem le_makeN (M : MkN X.K C) (hg : Gl X x) (hm : X.mg x = some (.ref C)) (hdb : (x == ("__debug__" : Str)) = false := by decide) :
    LE X (.Call (.Name x p) [] [] pos) (lMakeN C) := fun s0 H0 E tk => ⟨fun pins si σ H Q I ⟨σl, s, Q0, E1, hσ, hs, st, hE, h, kk⟩ => by
  refine wpAny_Call_Name_kw (ld_glob I hg hm ?_ hdb)
  refine PySem.W.callWith_K0 I.kIn M.kp ?_
  have ny := I.hok.fresh (a := si.heap.objs.size + 1) (Nat.le_succ _)
  have nd := I.hok.fresh (a := si.heap.objs.size) (Nat.le_refl _)
  have J := Inv.made (C := C) I
  obtain ⟨stm, hsm⟩ := made_step (C := C) hs ny nd (Nat.ne_of_lt (Nat.lt_succ_self _))
  have q := kk _ _ _ _ (h _ (hs.free ny)) stm hsm .ref
  have Y := PySem.W.makes_of (M := model X.prog X.w) I.kIn M.makes
  refine wpAny_call (make_map0 I.kIn M.makes M.init (fun self => PySem.W.Looks.of_pure (PySem.W.oi_bind self)) ?_)
  have hobj : ((si.heap.push PySem.W.emptyDict).push (PySem.W.instObj C si.heap.objs.size)).get? (si.heap.objs.size + 1) = some (PySem.W.instObj C si.heap.objs.size) := by
    have := Heap.get?_push_size (si.heap.push PySem.W.emptyDict) (o := PySem.W.instObj C si.heap.objs.size) rfl
    rwa [Heap.size_push] at this
  have t1 : PySem.W.Looks (model X.prog X.w) ((si.heap.push PySem.W.emptyDict).push (PySem.W.instObj C si.heap.objs.size)) (typeOf (.ref (si.heap.objs.size + 1))) (.ref C) := (PySem.W.Looks.ld hobj).andThen .now
  have t2 : PySem.W.Looks (model X.prog X.w) ((si.heap.push PySem.W.emptyDict).push (PySem.W.instObj C si.heap.objs.size)) (isInstance (.ref (si.heap.objs.size + 1)) (.type "object")) true := t1.andThen (Y.top.keeps fun b o e => Heap.get?_push_of_some _ (Heap.get?_push_of_some _ e))
  refine PySem.codeAny_call_builtin PySem.W.oi_plain PySem.W.entry_oi (@PySem.W.check_slot (model X.prog X.w) _ _ _ "object.__init__" "object" "__init__" (.ref (si.heap.objs.size + 1)) [] [] _ PySem.W.oi_kind PySem.W.oi_split t2 (PySem.W.oi_args (.ref (si.heap.objs.size + 1))) ?_)
  rw [PySem.W.oi_run]
  exact wpAny_pure (And.intro rfl ⟨V.ref (si.heap.objs.size + 1), _, J, rfl, q⟩)⟩
end
end L3

namespace L3
open PySem PySem.Spec L2
@[simp] theorem lC_ap (v : LV) (σ_ : LSt) (s : LS) (Q : LVK) (E_ : LX) : lC v σ_ s Q E_ = (Q v s) := rfl
@[simp] theorem lOp_ap (r : LR2) (ta tb : LTE) (σ : LSt) (s : LS) (Q : LVK) (E : LX) : lOp r ta tb σ s Q E = (ta σ s (fun x s1 => tb σ s1 (fun y s2 => r x y s2 Q) E) E) := rfl
@[simp] theorem lUn_ap (r : LR1) (ta : LTE) (σ : LSt) (s : LS) (Q : LVK) (E : LX) : lUn r ta σ s Q E = (ta σ s (fun x s1 => r x s1 Q) E) := rfl
@[simp] theorem lB_ap (t : LTE) (σ : LSt) (s : LS) (Q : Bool → LS → Prop) (E : LX) : lB t σ s Q E = (t σ s (fun x s1 => isBl x fun c => Q c s1) E) := rfl
@[simp] theorem lAnd_ap (t u : LTT) (σ : LSt) (s : LS) (Q : Bool → LS → Prop) (E : LX) : lAnd t u σ s Q E = (t σ s (fun c s1 => (c = true → u σ s1 Q E) ∧ (c = false → Q false s1)) E) := rfl
@[simp] theorem lOr_ap (t u : LTT) (σ : LSt) (s : LS) (Q : Bool → LS → Prop) (E : LX) : lOr t u σ s Q E = (t σ s (fun c s1 => (c = true → Q true s1) ∧ (c = false → u σ s1 Q E)) E) := rfl
@[simp] theorem lNot_ap (t : LTT) (σ : LSt) (s : LS) (Q : Bool → LS → Prop) (E : LX) : lNot t σ s Q E = (t σ s (fun c s1 => Q (!c) s1) E) := rfl
@[simp] theorem lAndV_ap (ta tb : LTE) (σ : LSt) (s : LS) (Q : LVK) (E : LX) : lAndV ta tb σ s Q E = (lB ta σ s (fun c s1 => (c = true → tb σ s1 Q E) ∧ (c = false → Q (.bl false) s1)) E) := rfl
@[simp] theorem lOrV_ap (ta tb : LTE) (σ : LSt) (s : LS) (Q : LVK) (E : LX) : lOrV ta tb σ s Q E = (lB ta σ s (fun c s1 => (c = true → Q (.bl true) s1) ∧ (c = false → tb σ s1 Q E)) E) := rfl
@[simp] theorem lNotV_ap (ta : LTE) (σ : LSt) (s : LS) (Q : LVK) (E : LX) : lNotV ta σ s Q E = (lB ta σ s (fun c s1 => Q (.bl (!c)) s1) E) := rfl
@[simp] theorem lCutT_ap (t : LTT) (σ : LSt) (s : LS) (Q : Bool → LS → Prop) (E : LX) : lCutT t σ s Q E = (∃ b, t σ s (fun b' s' => b' = b ∧ s' = s) E ∧ Q b s) := rfl
@[simp] theorem lCutE_ap (t : LTE) (σ : LSt) (s : LS) (Q : LVK) (E : LX) : lCutE t σ s Q E = (∃ v, t σ s (fun v' s' => v' = v ∧ s' = s) E ∧ Q v s) := rfl
@[simp] theorem lNil_ap  (σ_ : LSt) (s : LS) (Q : List LV → LS → Prop) (E_ : LX) : lNil  σ_ s Q E_ = (Q [] s) := rfl
@[simp] theorem lCons_ap (t : LTE) (u : LTA) (σ : LSt) (s : LS) (Q : List LV → LS → Prop) (E : LX) : lCons t u σ s Q E = (t σ s (fun x s1 => u σ s1 (fun xs s2 => Q (x :: xs) s2) E) E) := rfl
@[simp] theorem lNext_ap  (D : LEnds) (σ : LSt) (s : LS) : lNext  D σ s = (D.nx σ s) := rfl
@[simp] theorem lSeq_ap (t u : LTS) (D : LEnds) (σ : LSt) (s : LS) : lSeq t u D σ s = (t (D.wnx (u D)) σ s) := rfl
@[simp] theorem lBreak_ap  (D : LEnds) (σ : LSt) (s : LS) : lBreak  D σ s = (D.bk σ s) := rfl
@[simp] theorem lCont_ap  (D : LEnds) (σ : LSt) (s : LS) : lCont  D σ s = (D.ct σ s) := rfl
@[simp] theorem lDrop_ap (te : LTE) (D : LEnds) (σ : LSt) (s : LS) : lDrop te D σ s = (te σ s (fun _ s1 => D.nx σ s1) (fun C s1 => D.ex C σ s1)) := rfl
@[simp] theorem lRet_ap (te : LTE) (D : LEnds) (σ : LSt) (s : LS) : lRet te D σ s = (te σ s D.rt (fun C s1 => D.ex C σ s1)) := rfl
@[simp] theorem lRetN_ap  (D : LEnds) (σ_ : LSt) (s : LS) : lRetN  D σ_ s = (D.rt .non s) := rfl
@[simp] theorem lIf_ap (c : LTT) (t u : LTS) (D : LEnds) (σ : LSt) (s : LS) : lIf c t u D σ s = (c σ s (fun b s1 => (b = true → t D σ s1) ∧ (b = false → u D σ s1)) (fun C s1 => D.ex C σ s1)) := rfl
@[simp] theorem lCut_ap (t : LTS) (D : LEnds) (σ : LSt) (s : LS) : lCut t D σ s = (∃ R : LSt → LS → Prop, t (D.wnx R) σ s ∧ ∀ σ' s', R σ' s' → D.nx σ' s') := rfl
@[simp] theorem lNever_ap  (D_ : LEnds) (σ_ : LSt) (s_ : LS) : lNever  D_ σ_ s_ = (False) := rfl
@[simp] theorem lgName_ap (i : Nat) (v : LV) (σ : LSt) (s : LS) (Q : LSt → LS → Prop) (E_ : LX) : lgName i v σ s Q E_ = (Q (σ.set i (some v)) s) := rfl
@[simp] theorem lAsg_ap (te : LTE) (g : LTG) (D : LEnds) (σ : LSt) (s : LS) : lAsg te g D σ s = (te σ s (fun x s1 => g x σ s1 D.nx (fun C s2 => D.ex C σ s2)) (fun C s1 => D.ex C σ s1)) := rfl
@[simp] theorem lFor_ap (it : LTI) (g : LTG) (tb : LTS) (D : LEnds) (σ : LSt) (s : LS) : lFor it g tb D σ s = (it σ s (fun xs stb s1 => lLoop g tb stb D xs σ s1) (fun C s1 => D.ex C σ s1)) := rfl
@[simp] theorem lFz_ap (t : LTL) (σ : LSt) (s : LS) (Q : LVK) (E : LX) : lFz t σ s Q E = (t σ s (fun xs s1 => Q (.lst xs) s1) E) := rfl
@[simp] theorem lNew_ap (t : LTL) (σ : LSt) (s : LS) (Q : LVK) (E : LX) : lNew t σ s Q E = (t σ s (fun xs s1 => ∀ p, s1 p = none → Q (.ref p) (put s1 p (.lst xs))) E) := rfl
@[simp] theorem lDisp_ap (t : LTA) (σ : LSt) (s : LS) (Q : List LV → LS → Prop) (E : LX) : lDisp t σ s Q E = (t σ s (fun xs s1 => xs.length ≤ 16777216 ∧ Q xs s1) E) := rfl
@[simp] theorem lTup_ap (t : LTA) (σ : LSt) (s : LS) (Q : LVK) (E : LX) : lTup t σ s Q E = (t σ s (fun xs s1 => xs.length ≤ 16777216 ∧ Q (.tup xs) s1) E) := rfl
@[simp] theorem lFld_ap (C : Addr) (f : Str) (ta : LTE) (σ : LSt) (s : LS) (Q : LVK) (E : LX) : lFld C f ta σ s Q E = (ta σ s (fun x s1 => fldAt C f x s1 fun v => Q v s1) E) := rfl
@[simp] theorem lSetF_ap (C : Addr) (f : Str) (ta tv : LTE) (D : LEnds) (σ : LSt) (s : LS) : lSetF C f ta tv D σ s = (tv σ s (fun y s1 => ta σ s1 (fun x s2 => match x with
  | .ref a => (match s2 a with
    | some (.ins B fs) => B = C ∧ fs.length < 1000 ∧ D.nx σ (put s2 a (.ins C (putL f y fs)))
    | _ => False)
  | _ => False) (fun C s3 => D.ex C σ s3)) (fun C s3 => D.ex C σ s3)) := rfl
@[simp] theorem lCall_ap (sp : LSp) (t : LTA) (σ : LSt) (s : LS) (Q : LVK) (E : LX) : lCall sp t σ s Q E = (t σ s (fun vs s1 => sp vs s1 Q E) E) := rfl
@[simp] theorem lMeth_ap (C : Addr) (m : Str) (sp : LSp) (ta : LTE) (t : LTA) (σ : LSt) (s : LS) (Q : LVK) (E : LX) : lMeth C m sp ta t σ s Q E = (ta σ s (fun x s1 => methAt C m x s1 ∧ t σ s1 (fun vs s2 => sp (x :: vs) s2 Q E) E) E) := rfl
@[simp] theorem lMake_ap (C : Addr) (sp : LSp) (t : LTA) (σ : LSt) (s : LS) (Q : LVK) (E : LX) : lMake C sp t σ s Q E = (t σ s (fun vs s1 => ∀ x, s1 x = none → sp (.ref x :: vs) (put s1 x (.ins C [])) (fun v s2 => v = .non ∧ Q (.ref x) s2) E) E) := rfl
@[simp] theorem lMakeF_ap (C : Addr) (sp : LSp) (t : LTA) (σ : LSt) (s : LS) (Q : LVK) (E : LX) : lMakeF C sp t σ s Q E = (t σ s (fun vs s1 => ∀ x, s1 x = none → sp (.ref x :: vs) (put s1 x (.ins C [])) (fun v s2 => v = .non ∧ ∃ fs, s2 x = some (.ins C fs) ∧ Q (.ins C fs) (del s2 x)) E) E) := rfl
@[simp] theorem lFrz_ap (t : LTE) (σ : LSt) (s : LS) (Q : LVK) (E : LX) : lFrz t σ s Q E = (t σ s (fun x s1 => ∃ y s2, Frz x s1 y s2 ∧ Q y s2) E) := rfl
@[simp] theorem lOpL_ap (r : LV → LV → LS → (List LV → LS → Prop) → Prop) (ta tb : LTE) (σ : LSt) (s : LS) (Q : List LV → LS → Prop) (E : LX) : lOpL r ta tb σ s Q E = (ta σ s (fun x s1 => tb σ s1 (fun y s2 => r x y s2 Q) E) E) := rfl
@[simp] theorem lNoP_ap  (σ_ : LSt) (s : LS) (Q : Option Int → LS → Prop) (E_ : LX) : lNoP  σ_ s Q E_ = (Q none s) := rfl
@[simp] theorem lPart_ap (t : LTE) (σ : LSt) (s : LS) (Q : Option Int → LS → Prop) (E : LX) : lPart t σ s Q E = (t σ s (fun x s1 => match x with
  | .int i => Q (some i) s1
  | _ => False) E) := rfl
@[simp] theorem lSl_ap (te : LTE) (tl th : LTO) (σ : LSt) (s : LS) (Q : List LV → LS → Prop) (E : LX) : lSl te tl th σ s Q E = (te σ s (fun x s1 => tl σ s1 (fun lo s2 => th σ s2 (fun hi s3 => opt (seqR x s3) fun xs => Q (cutL xs lo hi) s3) E) E) E) := rfl
@[simp] theorem lCB_ap (r : LRc) (t : LTA) (σ : LSt) (s : LS) (Q : LVK) (E : LX) : lCB r t σ s Q E = (t σ s (fun vs s1 => r vs s1 Q) E) := rfl
@[simp] theorem lCBL_ap (r : List LV → LS → (List LV → LS → Prop) → Prop) (t : LTA) (σ : LSt) (s : LS) (Q : List LV → LS → Prop) (E : LX) : lCBL r t σ s Q E = (t σ s (fun vs s1 => r vs s1 Q) E) := rfl
@[simp] theorem lLstRg2_ap (ta tb : LTE) (σ : LSt) (s : LS) (Q : List LV → LS → Prop) (E : LX) : lLstRg2 ta tb σ s Q E = (ta σ s (fun x s1 => tb σ s1 (fun y s2 => match x, y with
  | .int i, .int j => RgOk i j ∧ Q (rgL i j) s2
  | _, _ => False) E) E) := rfl
@[simp] theorem lLstRg1_ap (ta : LTE) (σ : LSt) (s : LS) (Q : List LV → LS → Prop) (E : LX) : lLstRg1 ta σ s Q E = (ta σ s (fun x s1 => match x with
  | .int j => RgOk 0 j ∧ Q (rgL 0 j) s1
  | _ => False) E) := rfl
@[simp] theorem rAllL_ap  (vs : List LV) (s : LS) (Q : LVK) : rAllL  vs s Q = (one1 vs fun x => opt (seqL x s) fun xs => opt (blsOf xs) fun bs => Q (.bl (bs.all id)) s) := rfl
@[simp] theorem rAnyL_ap  (vs : List LV) (s : LS) (Q : LVK) : rAnyL  vs s Q = (one1 vs fun x => opt (seqL x s) fun xs => opt (blsOf xs) fun bs => Q (.bl (bs.any id)) s) := rfl
@[simp] theorem rMaxL_ap  (vs : List LV) (s : LS) (Q : LVK) : rMaxL  vs s Q = (one1 vs fun x => opt (seqL x s) fun xs => opt (intsOf xs) fun ns => 0 < ns.length ∧ ∀ m, m ∈ ns → (∀ y, y ∈ ns → y ≤ m) → Q (.int m) s) := rfl
@[simp] theorem rMinL_ap  (vs : List LV) (s : LS) (Q : LVK) : rMinL  vs s Q = (one1 vs fun x => opt (seqL x s) fun xs => opt (intsOf xs) fun ns => 0 < ns.length ∧ ∀ m, m ∈ ns → (∀ y, y ∈ ns → m ≤ y) → Q (.int m) s) := rfl
@[simp] theorem lBML_ap (r : LRm) (to : LTE) (t : LTA) (σ : LSt) (s : LS) (Q : LVK) (E : LX) : lBML r to t σ s Q E = (to σ s (fun x s1 => (seqL x s1).isSome = true ∧ t σ s1 (fun vs s2 => r x vs s2 Q) E) E) := rfl
@[simp] theorem rAppL_ap  (x : LV) (vs : List LV) (s : LS) (Q : LVK) : rAppL  x vs s Q = (one1 vs fun y => atL x s fun a xs => xs.length < 16777216 ∧ Q .non (put s a (.lst (xs ++ [y])))) := rfl
@[simp] theorem rClrL_ap  (x : LV) (vs : List LV) (s : LS) (Q : LVK) : rClrL  x vs s Q = (vs = [] ∧ atL x s fun a xs => Q .non (put s a (.lst []))) := rfl
@[simp] theorem rPopL_ap  (x : LV) (vs : List LV) (s : LS) (Q : LVK) : rPopL  x vs s Q = (vs = [] ∧ atL x s fun a xs => opt (xs[xs.length - 1]?) fun y => Q y (put s a (.lst xs.dropLast))) := rfl
@[simp] theorem rExtL_ap  (x : LV) (vs : List LV) (s : LS) (Q : LVK) : rExtL  x vs s Q = (one1 vs fun y => opt (seqL y s) fun ys => atL x s fun a xs => xs.length + ys.length ≤ 16777216 ∧ Q .non (put s a (.lst (xs ++ ys)))) := rfl
@[simp] theorem lgSub_ap (to ti : LTE) (v : LV) (σ : LSt) (s : LS) (Q : LSt → LS → Prop) (E : LX) : lgSub to ti v σ s Q E = (to σ s (fun o s1 => ti σ s1 (fun i s2 => rSetL o i v s2 fun s3 => Q σ s3) E) E) := rfl
@[simp] theorem lDisK_ap (trs : List (Str × LTE)) (σ : LSt) (s : LS) (Q : LVK) (E : LX) : lDisK trs σ s Q E = (∀ p, s p = none → lPairs p trs σ (put s p (.dK [])) (fun kvs s2 => s2 p = some (.dK []) ∧ kvs.length ≤ 15 ∧ (kvs.map (·.1)).Nodup ∧ Q (.ref p) (put s2 p (.dK kvs))) E) := rfl
@[simp] theorem iSeq_ap (te : LTE) (σ : LSt) (s : LS) (Q : List LV → (LS → Prop) → LS → Prop) (E : LX) : iSeq te σ s Q E = (te σ s (fun x s1 => match x with
  | .ref a => (match s1 a with
    | some (.lst xs) => Q xs (fun s2 => s2 a = some (.lst xs)) s1
    | _ => False)
  | _ => opt (seqR x s1) fun xs => Q xs (fun _ => True) s1) E) := rfl
@[simp] theorem iTupl_ap (te : LTE) (σ : LSt) (s : LS) (Q : List LV → (LS → Prop) → LS → Prop) (E : LX) : iTupl te σ s Q E = (te σ s (fun x s1 => match x with
  | .tup xs => Q xs (fun _ => True) s1
  | _ => False) E) := rfl
@[simp] theorem iRg1_ap (ta : LTA) (σ : LSt) (s : LS) (Q : List LV → (LS → Prop) → LS → Prop) (E : LX) : iRg1 ta σ s Q E = (ta σ s (fun vs s1 => one1 vs fun x => isInt x fun j => -(2 ^ 62) ≤ j ∧ j < 2 ^ 62 ∧ Q (rgL 0 j) (fun _ => True) s1) E) := rfl
@[simp] theorem iRg2_ap (ta : LTA) (σ : LSt) (s : LS) (Q : List LV → (LS → Prop) → LS → Prop) (E : LX) : iRg2 ta σ s Q E = (ta σ s (fun vs s1 => two2 vs fun x y => isInt x fun i => isInt y fun j => (-(2 ^ 62) ≤ i ∧ i < 2 ^ 62 ∧ -(2 ^ 62) ≤ j ∧ j < 2 ^ 62) ∧ Q (rgL i j) (fun _ => True) s1) E) := rfl
@[simp] theorem iEnumL_ap (ta : LTA) (σ : LSt) (s : LS) (Q : List LV → (LS → Prop) → LS → Prop) (E : LX) : iEnumL ta σ s Q E = (ta σ s (fun vs s1 => one1 vs fun x => opt (seqR x s1) fun xs => Q ((rgL 0 xs.length).zip xs |>.map fun p => .tup [p.1, p.2]) (stbOf x xs) s1) E) := rfl
@[simp] theorem iZipL_ap (ta : LTA) (σ : LSt) (s : LS) (Q : List LV → (LS → Prop) → LS → Prop) (E : LX) : iZipL ta σ s Q E = (ta σ s (fun vs s1 => two2 vs fun x y => opt (seqR x s1) fun xs => opt (seqR y s1) fun ys => Q ((xs.zip ys).map fun p => .tup [p.1, p.2]) (fun s2 => stbOf x xs s2 ∧ stbOf y ys s2) s1) E) := rfl
@[simp] theorem lYes_ap  (σ_ : LSt) (s : LS) (Q : Bool → LS → Prop) (E_ : LX) : lYes  σ_ s Q E_ = (Q true s) := rfl
@[simp] theorem lLc_ap (it : LTI) (g : CTg) (tt : LTT) (te : LTE) (vs : List Nat) (σ : LSt) (s : LS) (Q : List LV → LS → Prop) (E : LX) : lLc it g tt te vs σ s Q E = (it σ s (fun xs stb s1 => ∀ D, s1 D = none → lcLoop D g tt te stb (lwipe σ vs) Q xs (put s1 D (.lst []))) E) := rfl
@[simp] theorem lRaise_ap (C : Addr) (D : LEnds) (σ : LSt) (s : LS) : lRaise C D σ s = (D.ex C σ s) := rfl
@[simp] theorem lTryX_ap (K : PySem.W.Frag) (c : Value) (tb : LTS) (ts : Addr → LTS) (D : LEnds) (σ : LSt) (s : LS) : lTryX K c tb ts D σ s = (tb (D.wex fun C σ' s' => ∃ b, PySem.W.exmOne K (.ref C) c = some b ∧ (b = true → ts C (D.wex noX) σ' s') ∧ (b = false → D.ex C σ' s')) σ s) := rfl
@[simp] theorem lTryAs_ap (K : PySem.W.Frag) (c : Value) (i : Nat) (tb : LTS) (ts : Addr → Addr → LTS) (D : LEnds) (σ : LSt) (s : LS) : lTryAs K c i tb ts D σ s = (tb (D.wex fun C σ' s' => ∃ b, PySem.W.exmOne K (.ref C) c = some b ∧
  (b = true → ∀ a, ts a C { nx := fun σ' s' => D.nx (σ'.set i none) s', rt := D.rt, bk := fun σ' s' => D.bk (σ'.set i none) s', ct := fun σ' s' => D.ct (σ'.set i none) s', ex := noX } (σ'.set i (some (.ref a))) s') ∧ (b = false → D.ex C σ' s')) σ s) := rfl
@[simp] theorem rIsEL_ap (K : PySem.W.Frag) (a C : Addr) (vs : List LV) (s : LS) (Q : LVK) : rIsEL K a C vs s Q = (two2 vs fun x c => x = .ref a ∧ ExcC K C ∧ opt (clsVal c) fun u => ∃ b, PySem.W.kitOne K (.ref C) u = some b ∧ Q (.bl b) s) := rfl
@[simp] theorem lMethD_ap (m : Str) (Tb : Addr → LSp → Prop) (ta : LTE) (t : LTA) (σ : LSt) (s : LS) (Q : LVK) (E : LX) : lMethD m Tb ta t σ s Q E = (ta σ s (fun x s1 => clsAt x s1 fun B fs => fs.lookup m = none ∧ ∃ sp, Tb B sp ∧ t σ s1 (fun vs s2 => sp (x :: vs) s2 Q E) E) E) := rfl
@[simp] theorem lMakeN_ap (C : Addr) (σ : LSt) (s : LS) (Q : LVK) (E : LX) : lMakeN C σ s Q E = (∀ x, s x = none → Q (.ref x) (put s x (.ins C []))) := rfl

@[simp] theorem lVar_ap (i : Nat) (σ : LSt) (s : LS) (Q : LVK) (E : LX) : lVar i σ s Q E = (match σ[i]? with
  | some (some v) => Q v s
  | _ => False) := rfl
@[simp] theorem isBl_bl (c : Bool) (k : Bool → Prop) : isBl (.bl c) k = k c := rfl
@[simp] theorem opt_some {α : Type} (v : α) (k : α → Prop) : opt (some v) k = k v := rfl
@[simp] theorem one1_ap (v : LV) (k : LV → Prop) : one1 [v] k = k v := rfl
@[simp] theorem two2_ap (v w : LV) (k : LV → LV → Prop) : two2 [v, w] k = k v w := rfl
@[simp] theorem isInt_ap (i : Int) (k : Int → Prop) : isInt (.int i) k = k i := rfl
@[simp] theorem rl2_ap (C : Int → Int → Prop) (g : Int → Int → LV) (i j : Int) (s : LS) (Q : LVK) : rl2 C g (.int i) (.int j) s Q = (C i j ∧ Q (g i j) s) := rfl
@[simp] theorem rl2'_ap (g : Int → Int → LV) (i j : Int) (s : LS) (Q : LVK) : rl2' g (.int i) (.int j) s Q = Q (g i j) s := rfl
@[simp] theorem rNegI_ap (i : Int) (s : LS) (Q : LVK) : rNegI (.int i) s Q = Q (.int (-i)) s := rfl
@[simp] theorem rAddL_int (i j : Int) (s : LS) (Q : LVK) : rAddL (.int i) (.int j) s Q = Q (.int (i + j)) s := rfl
@[simp] theorem rAddL_str (i j : Str) (s : LS) (Q : LVK) : rAddL (.str i) (.str j) s Q = (i.length + j.length ≤ 16777216 ∧ Q (.str (i ++ j)) s) := rfl
@[simp] theorem rCatL_ap (x y : LV) (s : LS) (Q : List LV → LS → Prop) : rCatL x y s Q = (opt (seqL x s) fun xs => opt (seqL y s) fun ys => xs.length + ys.length ≤ 16777216 ∧ Q (xs ++ ys) s) := rfl
@[simp] theorem rRepL_ap (x : LV) (k : Int) (s : LS) (Q : List LV → LS → Prop) : rRepL x (.int k) s Q = (opt (seqL x s) fun xs => -(2 ^ 63) ≤ k ∧ k < 2 ^ 63 ∧ xs.length * k.toNat ≤ 16777216 ∧ Q (List.replicate k.toNat xs).flatten s) := rfl
@[simp] theorem seqL_lst (xs : List LV) (s : LS) : seqL (.lst xs) s = some xs := rfl
@[simp] theorem seqL_ref (a : Addr) (s : LS) : seqL (.ref a) s = (match s a with
    | some (.lst xs) => some xs
    | _ => none) := rfl
@[simp] theorem seqR_lst (xs : List LV) (s : LS) : seqR (.lst xs) s = some xs := rfl
@[simp] theorem seqR_scr (ns : List Int) (s : LS) : seqR (.scr ns) s = some (ns.map .int) := rfl
@[simp] theorem seqR_ref (a : Addr) (s : LS) : seqR (.ref a) s = (match s a with
    | some (.lst xs) => some xs
    | _ => none) := rfl
@[simp] theorem lenL_lst (xs : List LV) (s : LS) : lenL (.lst xs) s = some xs.length := rfl
@[simp] theorem lenL_tup (xs : List LV) (s : LS) : lenL (.tup xs) s = some xs.length := rfl
@[simp] theorem lenL_scr (xs : List Int) (s : LS) : lenL (.scr xs) s = some xs.length := rfl
@[simp] theorem lenL_ref (a : Addr) (s : LS) : lenL (.ref a) s = (match s a with
    | some (.lst xs) => some xs.length
    | _ => none) := rfl
@[simp] theorem rLenL_str (z : Str) (s : LS) (Q : LVK) : rLenL [.str z] s Q = (z.length ≤ 16777216 ∧ Q (.int z.length) s) := rfl
@[simp] theorem rLenL_lst (xs : List LV) (s : LS) (Q : LVK) : rLenL [.lst xs] s Q = Q (.int (xs.length : Int)) s := rfl
@[simp] theorem rLenL_tup (xs : List LV) (s : LS) (Q : LVK) : rLenL [.tup xs] s Q = Q (.int (xs.length : Int)) s := rfl
@[simp] theorem rLenL_scr (xs : List Int) (s : LS) (Q : LVK) : rLenL [.scr xs] s Q = Q (.int (xs.length : Int)) s := rfl
@[simp] theorem rLenL_ref (a : Addr) (s : LS) (Q : LVK) : rLenL [.ref a] s Q = opt (lenL (.ref a) s) fun n => Q (.int (n : Int)) s := rfl
@[simp] theorem rEqS_int (i j : Int) (s : LS) (Q : LVK) : rEqS (.int i) (.int j) s Q = Q (.bl (decide (i = j))) s := rfl
@[simp] theorem rEqS_bl (i j : Bool) (s : LS) (Q : LVK) : rEqS (.bl i) (.bl j) s Q = Q (.bl (decide (i = j))) s := rfl
@[simp] theorem rEqS_str (i j : Str) (s : LS) (Q : LVK) : rEqS (.str i) (.str j) s Q = Q (.bl (decide (i = j))) s := rfl
@[simp] theorem rNeS_int (i j : Int) (s : LS) (Q : LVK) : rNeS (.int i) (.int j) s Q = Q (.bl (!decide (i = j))) s := rfl
@[simp] theorem rNeS_bl (i j : Bool) (s : LS) (Q : LVK) : rNeS (.bl i) (.bl j) s Q = Q (.bl (!decide (i = j))) s := rfl
@[simp] theorem rNeS_str (i j : Str) (s : LS) (Q : LVK) : rNeS (.str i) (.str j) s Q = Q (.bl (!decide (i = j))) s := rfl
section
variable (s : LS) (Q : LVK)
@[simp] theorem rIsN_non : rIsNonL .non .non s Q = Q (.bl true) s := rfl
@[simp] theorem rIsN_bl (b : Bool) : rIsNonL (.bl b) .non s Q = Q (.bl false) s := rfl
@[simp] theorem rIsN_int (b : Int) : rIsNonL (.int b) .non s Q = Q (.bl false) s := rfl
@[simp] theorem rIsN_str (b : Str) : rIsNonL (.str b) .non s Q = Q (.bl false) s := rfl
@[simp] theorem rIsN_ref (b : Addr) : rIsNonL (.ref b) .non s Q = Q (.bl false) s := rfl
@[simp] theorem rIsN_tup (b : List LV) : rIsNonL (.tup b) .non s Q = Q (.bl false) s := rfl
@[simp] theorem rIsN_lst (b : List LV) : rIsNonL (.lst b) .non s Q = Q (.bl false) s := rfl
@[simp] theorem rIsN_dT (b : List (List Key × LV)) : rIsNonL (.dT b) .non s Q = Q (.bl false) s := rfl
@[simp] theorem rNotN_ap (x y : LV) : rNotNonL x y s Q = rIsNonL x y s fun v s' => match v with
  | .bl c => Q (.bl (!c)) s'
  | _ => False := rfl
@[simp] theorem rIx_lst (xs : List LV) (i : Int) : rIxL (.lst xs) (.int i) s Q = opt (atI xs i) fun v => Q v s := rfl
@[simp] theorem rIx_tup (xs : List LV) (i : Int) : rIxL (.tup xs) (.int i) s Q = opt (atI xs i) fun v => Q v s := rfl
@[simp] theorem rIx_scr (xs : List Int) (i : Int) : rIxL (.scr xs) (.int i) s Q = opt (atI xs i) fun v => Q (.int v) s := rfl
@[simp] theorem rIx_str (z : Str) (i : Int) : rIxL (.str z) (.int i) s Q = (z.length ≤ 16777216 ∧ opt (atI z.cps.toList i) fun c => Q (.str ⟨#[c]⟩) s) := rfl
@[simp] theorem rIx_ref (a : Addr) (i : Int) : rIxL (.ref a) (.int i) s Q = (match s a with
      | some (.lst xs) => opt (atI xs i) fun v => Q v s
      | some (.dK kvs) => opt (valL kvs (.inl i)) fun v => Q v s
      | _ => False) := rfl
@[simp] theorem rIx_key (x : LV) (z : Str) : rIxL x (.str z) s Q = opt (dicK x s) fun kvs => opt (valL kvs (.inr z)) fun v => Q v s := rfl
@[simp] theorem rIx_dT (x : LV) (ks : List LV) : rIxL x (.tup ks) s Q = opt (dicT x s) fun kvs => opt (keysL ks) fun k => opt (valL kvs k) fun v => Q v s := rfl
@[simp] theorem dicK_ref (a : Addr) : dicK (.ref a) s = (match s a with
    | some (.dK kvs) => some kvs
    | _ => none) := rfl
@[simp] theorem dicT_ref (a : Addr) : dicT (.ref a) s = (match s a with
    | some (.dT kvs) => some kvs
    | _ => none) := rfl
@[simp] theorem dicT_dT (kvs : List (List Key × LV)) : dicT (.dT kvs) s = some kvs := rfl
@[simp] theorem atL_ref (a : Addr) (k : Addr → List LV → Prop) : atL (.ref a) s k = (match s a with
    | some (.lst xs) => k a xs
    | _ => False) := rfl
@[simp] theorem keyL_int (i : Int) : keyL (.int i) = some (.inl i) := rfl
@[simp] theorem keyL_str (i : Str) : keyL (.str i) = some (.inr i) := rfl
@[simp] theorem keysL_nil : keysL [] = some [] := rfl
@[simp] theorem keysL_cons (x : LV) (xs : List LV) : keysL (x :: xs) = (keyL x).bind fun k => (keysL xs).map (k :: ·) := rfl
@[simp] theorem fld_ref (C : Addr) (f : Str) (a : Addr) (k : LV → Prop) : fldAt C f (.ref a) s k = (match s a with
    | some (.ins D fs) => D = C ∧ (match fs.lookup f with
      | some v => k v
      | none => False)
    | _ => False) := rfl
@[simp] theorem fld_ins (C D : Addr) (f : Str) (fs : List (Str × LV)) (k : LV → Prop) : fldAt C f (.ins D fs) s k = (D = C ∧ (match fs.lookup f with
    | some v => k v
    | none => False)) := rfl
@[simp] theorem meth_ref (C : Addr) (f : Str) (a : Addr) : methAt C f (.ref a) s = (match s a with
    | some (.ins B fs) => B = C ∧ fs.lookup f = none
    | _ => False) := rfl
@[simp] theorem meth_ins (C D : Addr) (f : Str) (fs : List (Str × LV)) : methAt C f (.ins D fs) s = (D = C ∧ fs.lookup f = none) := rfl
@[simp] theorem clsAt_ref (a : Addr) (k : Addr → List (Str × LV) → Prop) : clsAt (.ref a) s k = (match s a with
    | some (.ins B fs) => k B fs
    | _ => False) := rfl
@[simp] theorem clsAt_ins (C : Addr) (fs : List (Str × LV)) (k : Addr → List (Str × LV) → Prop) : clsAt (.ins C fs) s k = k C fs := rfl
@[simp] theorem rLst_lst (xs : List LV) (Q : List LV → LS → Prop) : rLstOf [.lst xs] s Q = Q xs s := rfl
@[simp] theorem rLst_tup (xs : List LV) (Q : List LV → LS → Prop) : rLstOf [.tup xs] s Q = Q xs s := rfl
@[simp] theorem rLst_scr (xs : List Int) (Q : List LV → LS → Prop) : rLstOf [.scr xs] s Q = Q (xs.map .int) s := rfl
@[simp] theorem rLst_ref (a : Addr) (Q : List LV → LS → Prop) : rLstOf [.ref a] s Q = opt (seqL (.ref a) s) fun xs => Q xs s := rfl
@[simp] theorem rSrtI_ap (vs : List LV) (Q : List LV → LS → Prop) : rSrtI vs s Q = one1 vs fun x => opt (seqL x s) fun xs => opt (intsOf xs) fun ns => ∀ ns' : List Int, ns'.Perm ns → ns'.Pairwise (· ≤ ·) → Q (ns'.map .int) s := rfl
@[simp] theorem rMax2_ap (i j : Int) : rMax2L [.int i, .int j] s Q = Q (.int (if j > i then j else i)) s := rfl
@[simp] theorem rMin2_ap (i j : Int) : rMin2L [.int i, .int j] s Q = Q (.int (if j < i then j else i)) s := rfl
@[simp] theorem rInt_int (i : Int) : rIntL [.int i] s Q = Q (.int i) s := rfl
@[simp] theorem rInt_bl (k : Bool) : rIntL [.bl k] s Q = Q (.int (if k then 1 else 0)) s := rfl
@[simp] theorem rIsi_ap (K : PySem.W.Frag) (x c : LV) : rIsiL K [x, c] s Q = opt (tyAt (fun _ => True) x s) fun t => opt (clsVal c) fun u => (∀ C, t = .ref C → InsC K C) ∧ ∃ b, PySem.W.kitOne K t u = some b ∧ Q (.bl b) s := rfl
@[simp] theorem clsVal_ref (a : Addr) : clsVal (.ref a) = some (.ref a) := rfl
@[simp] theorem clsVal_ty (n : String) : clsVal (.ty n) = some (.type n) := rfl
@[simp] theorem tyAt_non (CT : Addr → Prop) : tyAt CT .non s = some (.type "NoneType") := rfl
@[simp] theorem tyAt_bl (CT : Addr → Prop) (b : Bool) : tyAt CT (.bl b) s = some (.type "bool") := rfl
@[simp] theorem tyAt_int (CT : Addr → Prop) (b : Int) : tyAt CT (.int b) s = some (.type "int") := rfl
@[simp] theorem tyAt_str (CT : Addr → Prop) (b : Str) : tyAt CT (.str b) s = some (.type "str") := rfl
@[simp] theorem tyAt_lst (CT : Addr → Prop) (b : List LV) : tyAt CT (.lst b) s = some (.type "list") := rfl
@[simp] theorem tyAt_tup (CT : Addr → Prop) (b : List LV) : tyAt CT (.tup b) s = some (.type "tuple") := rfl
@[simp] theorem tyAt_ins (CT : Addr → Prop) (C : Addr) (b : List (Str × LV)) : tyAt CT (.ins C b) s = some (.ref C) := rfl
@[simp] theorem tyAt_ref (CT : Addr → Prop) (a : Addr) : tyAt CT (.ref a) s = (match s a with
    | some (.lst _) => some (.type "list")
    | some (.dK _) => some (.type "dict")
    | some (.dT _) => some (.type "dict")
    | some (.ins C _) => some (.ref C)
    | _ => none) := rfl
@[simp] theorem stbOf_ref (a : Addr) (xs : List LV) : stbOf (.ref a) xs s = (s a = some (.lst xs)) := rfl
@[simp] theorem stbOf_lst (ys xs : List LV) : stbOf (.lst ys) xs s = True := rfl
@[simp] theorem stbOf_scr (ys : List Int) (xs : List LV) : stbOf (.scr ys) xs s = True := rfl
@[simp] theorem stbOf_tup (ys xs : List LV) : stbOf (.tup ys) xs s = True := rfl
@[simp] theorem rSet_ap (a : Addr) (y v : LV) (Q : LS → Prop) : rSetL (.ref a) y v s Q = (match s a, y with
    | some (.lst xs), .int k => opt (ixN xs.length k) fun j => Q (put s a (.lst (xs.set j v)))
    | some (.dK kvs), .int k => kvs.length < 16777216 ∧ Q (put s a (.dK (putD kvs (.inl k) v)))
    | some (.dK kvs), .str k => kvs.length < 16777216 ∧ Q (put s a (.dK (putD kvs (.inr k) v)))
    | some (.dT kvs), .tup ks => opt (keysL ks) fun k => kvs.length < 16777216 ∧ Q (put s a (.dT (putD kvs k v)))
    | _, _ => False) := rfl
@[simp] theorem put_same' (a : Addr) (o : LO) : put s a o a = some o := put_same
@[simp] theorem lift_one (i : Nat) : CTg.lift (.one i) = lgName i := rfl
@[simp] theorem lift_many (is : List Nat) : CTg.lift (.many is) = lgTup is := rfl
@[simp] theorem slots_one (i : Nat) : CTg.slots (.one i) = [i] := rfl
@[simp] theorem slots_many (is : List Nat) : CTg.slots (.many is) = is := rfl
@[simp] theorem lwipe_nil (σ : LSt) : lwipe σ [] = σ := rfl
@[simp] theorem lwipe_cons (σ : LSt) (v : Nat) (vs : List Nat) : lwipe σ (v :: vs) = (lwipe σ vs).set v none := rfl
@[simp] theorem lSets_nil (σ : LSt) : lSets [] [] σ = some σ := rfl
@[simp] theorem lSets_cons (i : Nat) (is : List Nat) (v : LV) (vs : List LV) (σ : LSt) : lSets (i :: is) (v :: vs) σ = lSets is vs (σ.set i (some v)) := rfl
@[simp] theorem lgTup_ap (is : List Nat) (xs : List LV) (σ : LSt) (Q : LSt → LS → Prop) (E : LX) : lgTup is (.tup xs) σ s Q E = opt (lSets is xs σ) fun σ' => Q σ' s := by
  simp only [lgTup, opt]
  cases lSets is xs σ <;> rfl
@[simp] theorem lPairs_nil (P : Addr) (σ : LSt) (Q : List (Key × LV) → LS → Prop) (E : LX) : lPairs P [] σ s Q E = Q [] s := rfl
@[simp] theorem lPairs_cons (P : Addr) (k : Str) (t : LTE) (r : List (Str × LTE)) (σ : LSt) (Q : List (Key × LV) → LS → Prop) (E : LX) : lPairs P ((k, t) :: r) σ s Q E = t σ s (fun v s1 => lPairs P r σ s1 (fun ps s2 => Q ((.inr k, v) :: ps) s2) E) E := rfl
end
@[simp] theorem cxOf_K {CX : CXT} {P : Program} {w : World} {K : PySem.W.Frag} {mg : Str → Option Value} {base : Heap} {N : List Str} {qual : Str} {sc : Scope} {f : Addr} {cdv : Value} {A : Around} {outer : List Env} {si : Shared} {H : Hp} {E : XK} : (cxOf CX P w K mg base N qual sc f cdv A outer si H E).K = K := rfl
@[simp] theorem lstart_ap (N : List Str) (vs : List LV) : lstart N vs = vs.map some ++ List.replicate (N.length - vs.length) none := rfl
end L3

namespace L3
open PySem PySem.Spec L2
section
variable {X : Cx} [GG X.K] {K : PySem.W.Frag} [GG K] {s : LS} {H : Hp} {a b e o i : Expr} {es : List Expr} {pos : Pos} {ta tb te to ti t t' : LTE} {tas : LTA}
variable {k : Nat} {f C : Addr} {fd : FuncData} {ps : List Str} {sp : LSp} {x m : Str} {p apos : Pos}
theorem LE.imp (h : LE X e t) (hi : ∀ σ s Q E, t' σ s Q E → t σ s Q E) : LE X e t' := fun s0 H0 E tk => (h s0 H0 E tk).imp fun σ H Q ⟨σl, s, Q0, E1, hσ, hs, st, hE, h, k⟩ => ⟨σl, s, Q0, E1, hσ, hs, st, hE, hi _ _ _ _ h, k⟩
theorem Sub.put {s s' : LS} {x : Addr} {o : LO} (h : Sub s s') (n : s x = none) : Sub s (put s' x o) := fun a => by
  unfold L3.put
  by_cases e : a = x
  · subst e; exact .inl n
  · rw [if_neg e]; exact h a
theorem Sub.trans {s s' s2 : LS} (h : Sub s s') (h' : Sub s' s2) : Sub s s2 := fun a => by
  rcases h a with q | q
  · exact .inl q
  · rcases h' a with r | r
    · exact .inl (by rw [q, r])
    · exact .inr (by rw [q, r])
theorem Sub.free {s s' : LS} {x : Addr} (h : Sub s s') (n : s' x = none) : s x = none := by
  rcases h x with q | q
  · exact q
  · rw [q, n]
theorem Sub.del {s s' : LS} {x : Addr} (h : Sub s s') : Sub (del s x) s' := fun a => by
  unfold L3.del
  by_cases e : a = x
  · exact .inl (if_pos e)
  · rw [if_neg e]; exact h a
theorem sub_put {s : LS} {x : Addr} {o : LO} (n : s x = none) : Sub s (put s x o) := (Sub.refl s).put n
theorem sub_del {s : LS} {x : Addr} : Sub (del s x) s := (Sub.refl s).del
theorem fin {Q : LVK} {x : LV} {s' s2 : LS} (h : Sub s2 s') (q : Q x s2) : ∃ y s2, Frz x s' y s2 ∧ Q y s2 := ⟨x, s2, .sub h, q⟩
theorem fin_lst {Q : LVK} {r : Addr} {xs : List LV} {s' s2 : LS} (e : s' r = some (.lst xs)) (n : s2 r = none) (h : Sub s2 s') (q : Q (.lst xs) s2) : ∃ y s2, Frz (.ref r) s' y s2 ∧ Q y s2 := ⟨_, s2, .lst e n h, q⟩
theorem fin_dT {Q : LVK} {r : Addr} {xs : List (List Key × LV)} {s' s2 : LS} (e : s' r = some (.dT xs)) (n : s2 r = none) (h : Sub s2 s') (q : Q (.dT xs) s2) : ∃ y s2, Frz (.ref r) s' y s2 ∧ Q y s2 := ⟨_, s2, .dT e n h, q⟩
theorem fin_ins {Q : LVK} {r C : Addr} {xs : List (Str × LV)} {s' s2 : LS} (e : s' r = some (.ins C xs)) (n : s2 r = none) (h : Sub s2 s') (q : Q (.ins C xs) s2) : ∃ y s2, Frz (.ref r) s' y s2 ∧ Q y s2 := ⟨_, s2, .ins e n h, q⟩
theorem put_inj {s : LS} {x : Addr} {o o' : LO} : put s x o = put s x o' ↔ o = o' := by
  constructor
  · intro h
    have := congrFun h x
    rw [put_same, put_same] at this
    exact Option.some.inj this
  · intro h; rw [h]
/-- C() frozen at once -/
def lMakeNF (C : Addr) : LTE := fun _ s Q _ => Q (.ins C []) s
theorem le_makeNF (M : MkN X.K C) (hg : Gl X x) (hm : X.mg x = some (.ref C)) (hdb : (x == ("__debug__" : Str)) = false := by decide) : LE X (.Call (.Name x p) [] [] pos) (lMakeNF C) :=
  (le_frz (le_makeN M hg hm hdb)).imp fun σ s Q E h y hy => ⟨_, s, .ins put_same hy (sub_put hy), h⟩
/-- C(..) frozen once its __init__ has ended -/
def lMakeZ (C : Addr) (sp : LSp) (t : LTA) : LTE := fun σ s Q E => t σ s (fun vs s1 => ∀ x, s1 x = none → sp (.ref x :: vs) (put s1 x (.ins C [])) (fun v s2 => v = .non ∧ ∃ fs, s2 = put s1 x (.ins C fs) ∧ Q (.ins C fs) s1) (fun c s2 => s2 = put s1 x (.ins C []) ∧ E c s1)) E
theorem dn_callS {s0 : LS} {H0 : Hp} {E : LXS} {σ : St} {H : Hp} {Q : VK} {sp : LSp} {K : PySem.W.Frag} [GG K] {σl : LSt} {s sR : LS} {HR : Hp} {lvs : List LV} {vs : List V} {Q0 : LVK} {E1 : LX} (hσ : RSt K sR HR σl σ) (hs : RelS K s H) (st : Step s0 H0 sR HR) (stR : Step sR HR s H)
    (hE : ∀ C s', E1 C s' → Sub sR s' ∧ E C σl sR) (r : RVs K s H lvs vs) (h : sp lvs s Q0 E1) (k : ∀ lv s' v H', Q0 lv s' → Step s H s' H' → RelS K s' H' → RV K s' H' lv v → Q v H') : dn K sp vs H Q (WE (WL K s0 H0 E) σ) :=
  ⟨lvs, s, Q0, E1, r, hs, h, k, fun C s' H' q st1 hs1 => by
    obtain ⟨sb, q'⟩ := hE C s' q
    have st2 := (stR.trans st1).trans sb.step
    exact ⟨C, σl, sR, rfl, rfl, hσ.mono st2, sb.rel hs1, st.trans st2, q'⟩⟩
theorem le_makeZ (M : Mk X.K C f) (F : LFn X.prog X.w X.K X.mg X.base k f fd ps sp) (hr : Room (k + 1) X.A) (hg : Gl X x) (hm : X.mg x = some (.ref C)) (hb : Binds X.K fd ps []) (ha : LA X (e :: es) tas)
    (hdb : (x == ("__debug__" : Str)) = false := by decide) (he : starEach (e :: es) X.env = (false, eval e X.env) :: starEach es X.env := by rfl) (hpl : (backTo pos (starEach es X.env)).any (·.1) = false := by rfl) :
    LE X (.Call (.Name x p) (e :: es) [] pos) (lMakeZ C sp tas) := fun s0 H0 E tk => ⟨fun pins si σ H Q I ⟨σl, s, Q0, E1, hσ, hs, st, hE, h, kk⟩ => by
  refine wpAny_Call_Name_kw (ld_glob I hg hm ?_ hdb)
  refine PySem.W.callWith_K (h₀ := X.base) I.ok.mod.kin M.kp (thn (ha.go tk pos I hσ hs st hE h) fun us si1 hx => ?_) he hpl
  obtain ⟨vs, H1, I1, rvs, lvs, s1, st1, hs1, r, h⟩ := hx
  refine ⟨I1.kIn, run_makeS M F hr hb (passAt tk σ) I1 rvs fun y dx ny nd ne => ?_⟩
  obtain ⟨stm, hsm⟩ := made_step (C := C) hs1 ny nd ne
  have n1 : upd H1 dx (.own y) y = none := by rw [upd_ne (Ne.symm ne)]; exact ny
  have st2 := st1.trans stm
  have sb : Sub s1 (put s1 y (.ins C [])) := sub_put (hs1.free ny)
  have r2 := r.mono stm
  refine dn_callS (sR := s1) (HR := H1) (s := put s1 y (.ins C [])) (hσ.mono st1) hsm (st.trans st1) stm (fun C' s' q => ⟨by rw [q.1]; exact sb, hE _ _ q.2⟩) (.cons .ref r2) (h y (hs1.free ny)) fun lv s3 v H3 q st3 hs3 rv => ?_
  · obtain ⟨rfl, fs, rfl, q⟩ := q
    refine ⟨rv.non', ?_⟩
    have z := Frz.ins (s1 := put s1 y (.ins C fs)) (s2 := s1) (a := y) put_same (hs1.free ny) (sub_put (hs1.free ny)) X.K H3 (.ref y) hs3 .ref
    exact kk _ s1 _ H3 q (st2.trans (st3.trans z.2.2)) z.2.1 z.1⟩
end
end L3

namespace L3
open PySem PySem.Spec L2
mutual
def datV : LV → Option PyData
  | .non => some .none
  | .bl b => some (.bool b)
  | .int i => some (.int i)
  | .str z => some (.str z)
  | .lst xs => (datVs xs).map .list
  | .tup xs => (datVs xs).map .tuple
  | _ => none
def datVs : List LV → Option (List PyData)
  | [] => some []
  | x :: xs => (datV x).bind fun d => (datVs xs).map (d :: ·)
end
mutual
theorem isd_of_dat {s : LS} : ∀ {x : LV} {d : PyData}, datV x = some d → Isd s d x
  | .non, d, h => by simp only [datV, Option.some.injEq] at h; subst h; simp only [Isd]
  | .bl b, d, h => by simp only [datV, Option.some.injEq] at h; subst h; simp only [Isd]
  | .int b, d, h => by simp only [datV, Option.some.injEq] at h; subst h; simp only [Isd]
  | .str b, d, h => by simp only [datV, Option.some.injEq] at h; subst h; simp only [Isd]
  | .lst xs, d, h => by
    simp only [datV, Option.map_eq_some_iff] at h
    obtain ⟨ds, h, rfl⟩ := h
    simp only [Isd]
    exact .inl ⟨xs, rfl, isds_of_dat h⟩
  | .tup xs, d, h => by
    simp only [datV, Option.map_eq_some_iff] at h
    obtain ⟨ds, h, rfl⟩ := h
    simp only [Isd]
    exact ⟨xs, rfl, isds_of_dat h⟩
  | .ty _, _, h => by simp only [datV] at h; cases h
  | .ref _, _, h => by simp only [datV] at h; cases h
  | .scr _, _, h => by simp only [datV] at h; cases h
  | .dT _, _, h => by simp only [datV] at h; cases h
  | .ins _ _, _, h => by simp only [datV] at h; cases h
theorem isds_of_dat {s : LS} : ∀ {xs : List LV} {ds : List PyData}, datVs xs = some ds → Isds s ds xs
  | [], ds, h => by simp only [datVs, Option.some.injEq] at h; subst h; simp only [Isds]
  | x :: xs, ds, h => by
    simp only [datVs, Option.bind_eq_some_iff, Option.map_eq_some_iff] at h
    obtain ⟨d, h1, ds', h2, rfl⟩ := h
    simp only [Isds]
    exact ⟨x, xs, rfl, isd_of_dat h1, isds_of_dat h2⟩
end
def dat (s : LS) (x : LV) : Option PyData := match x with
  | .ref a => (match s a with
    | some (.lst xs) => (datVs xs).map .list
    | _ => none)
  | x => datV x
theorem isd_dat {s : LS} {x : LV} {d : PyData} (h : dat s x = some d) : Isd s d x := by
  cases x with
  | ref a =>
    simp only [dat] at h
    split at h
    · next xs e =>
      simp only [Option.map_eq_some_iff] at h
      obtain ⟨ds, h, rfl⟩ := h
      simp only [Isd]
      exact .inr ⟨a, xs, rfl, e, isds_of_dat h⟩
    · cases h
  | _ => exact isd_of_dat h
@[simp] theorem dat_non (s : LS) : dat s .non = some .none := by simp only [dat, datV]
@[simp] theorem dat_bl (s : LS) (b : Bool) : dat s (.bl b) = some (.bool b) := by simp only [dat, datV]
@[simp] theorem dat_int (s : LS) (b : Int) : dat s (.int b) = some (.int b) := by simp only [dat, datV]
@[simp] theorem dat_str (s : LS) (b : Str) : dat s (.str b) = some (.str b) := by simp only [dat, datV]
@[simp] theorem dat_lst (s : LS) (xs : List LV) : dat s (.lst xs) = (datVs xs).map .list := by simp only [dat, datV]
@[simp] theorem dat_tup (s : LS) (xs : List LV) : dat s (.tup xs) = (datVs xs).map .tuple := by simp only [dat, datV]
@[simp] theorem dat_ref (s : LS) (a : Addr) : dat s (.ref a) = (match s a with
    | some (.lst xs) => (datVs xs).map .list
    | _ => none) := rfl
@[simp] theorem datV_non : datV .non = some .none := by simp only [datV]
@[simp] theorem datV_bl (b : Bool) : datV (.bl b) = some (.bool b) := by simp only [datV]
@[simp] theorem datV_int (b : Int) : datV (.int b) = some (.int b) := by simp only [datV]
@[simp] theorem datV_str (b : Str) : datV (.str b) = some (.str b) := by simp only [datV]
@[simp] theorem datV_lst (xs : List LV) : datV (.lst xs) = (datVs xs).map .list := by simp only [datV]
@[simp] theorem datV_tup (xs : List LV) : datV (.tup xs) = (datVs xs).map .tuple := by simp only [datV]
@[simp] theorem datVs_nil : datVs [] = some [] := by simp only [datVs]
@[simp] theorem datVs_cons (x : LV) (xs : List LV) : datVs (x :: xs) = (datV x).bind fun d => (datVs xs).map (d :: ·) := by simp only [datVs]
def rEqV (neg : Bool) : LR2 := fun x y s Q => opt (dat s x) fun d => opt (dat s y) fun e => (SeqAt.shaped d = true ∧ SeqAt.shaped e = true) ∧ Q (.bl (neg.xor (PyData.eqv d e))) s
@[simp] theorem rEqV_ap (neg : Bool) (x y : LV) (s : LS) (Q : LVK) : rEqV neg x y s Q = (opt (dat s x) fun d => opt (dat s y) fun e => (SeqAt.shaped d = true ∧ SeqAt.shaped e = true) ∧ Q (.bl (neg.xor (PyData.eqv d e))) s) := rfl
theorem eqV_L {x y : LV} {s : LS} {Q : LVK} (h : rEqV false x y s Q) : rEqL x y s Q := by
  obtain ⟨d, h1, h⟩ := opt_ok h
  obtain ⟨e, h2, ⟨h3, h4⟩, h⟩ := opt_ok h
  exact ⟨d, e, isd_dat h1, isd_dat h2, h3, h4, by simpa using h⟩
theorem neV_L {x y : LV} {s : LS} {Q : LVK} (h : rEqV true x y s Q) : rNeL x y s Q := by
  obtain ⟨d, h1, h⟩ := opt_ok h
  obtain ⟨e, h2, ⟨h3, h4⟩, h⟩ := opt_ok h
  exact ⟨d, e, isd_dat h1, isd_dat h2, h3, h4, by simpa using h⟩
def rInV (neg : Bool) : LR2 := fun x y s Q => opt (seqL y s) fun xs => opt (dat s x) fun d => opt (datVs xs) fun ds => (SeqAt.shaped d = true ∧ SeqAt.shaped (.list ds) = true) ∧ Q (.bl (neg.xor (ds.any fun z => PyData.eqv z d))) s
@[simp] theorem rInV_ap (neg : Bool) (x y : LV) (s : LS) (Q : LVK) : rInV neg x y s Q = (opt (seqL y s) fun xs => opt (dat s x) fun d => opt (datVs xs) fun ds => (SeqAt.shaped d = true ∧ SeqAt.shaped (.list ds) = true) ∧ Q (.bl (neg.xor (ds.any fun z => PyData.eqv z d))) s) := rfl
theorem inV_L {neg : Bool} {x y : LV} {s : LS} {Q : LVK} (h : rInV neg x y s Q) : rInL neg x y s Q := by
  obtain ⟨xs, e, h⟩ := opt_ok h
  obtain ⟨d, h1, h⟩ := opt_ok h
  obtain ⟨ds, h2, ⟨h3, h4⟩, h⟩ := opt_ok h
  show opt (seqL y s) _
  rw [e]
  exact ⟨d, ds, isd_dat h1, isds_of_dat h2, h3, h4, h⟩
section
variable {X : Cx} [GG X.K] {K : PySem.W.Frag} [GG K] {s : LS} {H : Hp} {a b : Expr} {pos : Pos} {ta tb : LTE}
theorem Up2.imp {K : PySem.W.Frag} [GG K] {r : R2} {rl rl' : LR2} (u : Up2 K r rl) (h : ∀ x y s Q, rl' x y s Q → rl x y s Q) : Up2 K r rl' := fun x y s H lx ly Q0 Q hs rx ry q k => u x y s H lx ly Q0 Q hs rx ry (h _ _ _ _ q) k
theorem le_eqV (hu : X.A.units + 64 < cLine) (ha : LE X a ta) (hb : LE X b tb) : LE X (.Compare a [.Eq] [b] pos) (lOp (rEqV false) ta tb) := le_cmp (op_eqD hu) (up_eqL.imp fun _ _ _ _ => eqV_L) ha hb (nomark _)
theorem le_neV (hu : X.A.units + 64 < cLine) (ha : LE X a ta) (hb : LE X b tb) : LE X (.Compare a [.NotEq] [b] pos) (lOp (rEqV true) ta tb) := le_cmp (op_neD hu) (up_neL.imp fun _ _ _ _ => neV_L) ha hb (nomark _)
theorem lt_eqV (hu : X.A.units + 64 < cLine) (ha : LE X a ta) (hb : LE X b tb) : LT X (.Compare a [.Eq] [b] pos) (lB (lOp (rEqV false) ta tb)) := lt_cmp (op_eqD hu) (up_eqL.imp fun _ _ _ _ => eqV_L) ha hb (nomark _)
theorem lt_neV (hu : X.A.units + 64 < cLine) (ha : LE X a ta) (hb : LE X b tb) : LT X (.Compare a [.NotEq] [b] pos) (lB (lOp (rEqV true) ta tb)) := lt_cmp (op_neD hu) (up_neL.imp fun _ _ _ _ => neV_L) ha hb (nomark _)
theorem le_inV (hu : X.A.units + 65 < cLine) (ha : LE X a ta) (hb : LE X b tb) (hm : behindInMarks .In b = false) : LE X (.Compare a [.In] [b] pos) (lOp (rInV false) ta tb) := le_cmp (op_inD hu) (up_inL.imp fun _ _ _ _ => inV_L) ha hb hm
theorem le_ninV (hu : X.A.units + 65 < cLine) (ha : LE X a ta) (hb : LE X b tb) (hm : behindInMarks .NotIn b = false) : LE X (.Compare a [.NotIn] [b] pos) (lOp (rInV true) ta tb) := le_cmp (op_notInD hu) (up_ninL.imp fun _ _ _ _ => inV_L) ha hb hm
theorem lt_inV (hu : X.A.units + 65 < cLine) (ha : LE X a ta) (hb : LE X b tb) (hm : behindInMarks .In b = false) : LT X (.Compare a [.In] [b] pos) (lB (lOp (rInV false) ta tb)) := lt_cmp (op_inD hu) (up_inL.imp fun _ _ _ _ => inV_L) ha hb hm
theorem lt_ninV (hu : X.A.units + 65 < cLine) (ha : LE X a ta) (hb : LE X b tb) (hm : behindInMarks .NotIn b = false) : LT X (.Compare a [.NotIn] [b] pos) (lB (lOp (rInV true) ta tb)) := lt_cmp (op_notInD hu) (up_ninL.imp fun _ _ _ _ => inV_L) ha hb hm
end
class Cod (α : Type) where
  enc : α → LV
  den : α → PyData
  datV : ∀ a, L3.datV (enc a) = some (den a)
  can : ∀ a, (den a).canLay0 = true
  dep : Nat
  hdep : ∀ a, (den a).depth ≤ dep
  eqv : ∀ a b, PyData.eqv (den a) (den b) = true ↔ a = b
variable {α β : Type}
def encs [Cod α] (xs : List α) : List LV := xs.map Cod.enc
theorem datVs_enc [Cod α] : ∀ xs : List α, datVs (xs.map Cod.enc) = some (xs.map Cod.den)
  | [] => by simp
  | x :: xs => by simp only [List.map_cons, datVs_cons, Cod.datV, datVs_enc xs, Option.bind_some, Option.map_some]
theorem can_all [Cod α] : ∀ xs : List α, PyData.canLayAll0 (xs.map Cod.den) = true
  | [] => by simp [PyData.canLayAll0]
  | x :: xs => by simp only [List.map_cons, PyData.canLayAll0, Cod.can, can_all xs, Bool.and_true]
theorem dep_all [Cod α] : ∀ xs : List α, PyData.depthAll (xs.map Cod.den) ≤ Cod.dep α
  | [] => by simp [PyData.depthAll]
  | x :: xs => by
    simp only [List.map_cons, PyData.depthAll]
    exact Nat.max_le.mpr ⟨Cod.hdep x, dep_all xs⟩
theorem eqv_all [Cod α] : ∀ xs ys : List α, PyData.eqvAll (xs.map Cod.den) (ys.map Cod.den) = true ↔ xs = ys
  | [], [] => by simp [PyData.eqvAll]
  | [], _ :: _ => by simp [PyData.eqvAll]
  | _ :: _, [] => by simp [PyData.eqvAll]
  | x :: xs, y :: ys => by simp only [List.map_cons, PyData.eqvAll, Bool.and_eq_true, Cod.eqv, eqv_all xs ys, List.cons.injEq]
instance : Cod Int := ⟨.int, .int, fun _ => by simp, fun _ => by simp [PyData.canLay0], 0, fun _ => by simp [PyData.depth], fun a b => by simp [PyData.eqv]⟩
instance : Cod Bool := ⟨.bl, .bool, fun _ => by simp, fun _ => by simp [PyData.canLay0], 0, fun _ => by simp [PyData.depth], fun a b => by simp [PyData.eqv]⟩
instance [Cod α] : Cod (List α) := ⟨fun xs => .lst (xs.map Cod.enc), fun xs => .list (xs.map Cod.den), fun xs => by simp [datVs_enc], fun xs => by simp only [PyData.canLay0]; exact can_all xs, Cod.dep α + 1, fun xs => by
  simp only [PyData.depth]; exact Nat.succ_le_succ (dep_all xs), fun a b => by simp only [PyData.eqv]; exact eqv_all a b⟩
instance [Cod α] [Cod β] : Cod (α × β) := ⟨fun p => .tup [Cod.enc p.1, Cod.enc p.2], fun p => .tuple [Cod.den p.1, Cod.den p.2], fun p => by simp [Cod.datV], fun p => by simp [PyData.canLay0, PyData.canLayAll0, Cod.can], max (Cod.dep α) (Cod.dep β) + 1, fun p => by
  simp only [PyData.depth, PyData.depthAll]
  have := Cod.hdep p.1
  have := Cod.hdep p.2
  omega, fun a b => by
  simp only [PyData.eqv, PyData.eqvAll, Bool.and_true, Bool.and_eq_true, Cod.eqv, Prod.ext_iff]⟩
/-- a letter's name -/
structure Nm where
  hand : Int
  place : Int
  k : Int
deriving DecidableEq, Repr
def nmL (n : Nm) : LV := .tup [.int n.hand, .int n.place, .int n.k]
def nmD (n : Nm) : PyData := .tuple [.int n.hand, .int n.place, .int n.k]
instance : Cod Nm := ⟨nmL, nmD, fun p => by simp [nmL, nmD], fun p => by simp [nmD, PyData.canLay0, PyData.canLayAll0], 1, fun p => by simp [nmD, PyData.depth, PyData.depthAll], fun a b => by
  cases a; cases b; simp [nmD, PyData.eqv, PyData.eqvAll]⟩
instance [Cod α] : Cod (Option α) where
  enc := fun o => match o with
    | none => .non
    | some a => .tup [Cod.enc a]
  den := fun o => match o with
    | none => .none
    | some a => .tuple [Cod.den a]
  datV := fun o => by cases o <;> simp [Cod.datV]
  can := fun o => by cases o <;> simp [PyData.canLay0, PyData.canLayAll0, Cod.can]
  dep := Cod.dep α + 1
  hdep := fun o => by
    cases o with
    | none => simp [PyData.depth]
    | some a =>
      simp only [PyData.depth, PyData.depthAll]
      have := Cod.hdep a
      omega
  eqv := fun a b => by cases a <;> cases b <;> simp [PyData.eqv, PyData.eqvAll, Cod.eqv]
theorem shaped_cod [Cod α] (h : Cod.dep α ≤ 64) (a : α) : SeqAt.shaped (Cod.den a) = true := by
  unfold SeqAt.shaped
  rw [Cod.can, Bool.true_and]
  exact decide_eq_true (Nat.le_trans (Cod.hdep a) h)
theorem eqv_cod [Cod α] [DecidableEq α] (a b : α) : PyData.eqv (Cod.den a) (Cod.den b) = decide (a = b) := by
  by_cases h : a = b
  · rw [decide_eq_true h]; exact (Cod.eqv a b).mpr h
  · rw [decide_eq_false h]
    cases e : PyData.eqv (Cod.den a) (Cod.den b) with
    | false => rfl
    | true => exact absurd ((Cod.eqv a b).mp e) h
/-- the value at hand is the coded a -/
def Den [Cod α] (s : LS) (x : LV) (a : α) : Prop := dat s x = some (Cod.den a)
theorem den_enc [Cod α] (s : LS) (a : α) : Den s (Cod.enc a) a := by
  have h := Cod.datV a
  unfold Den dat
  cases e : Cod.enc a with
  | ref p => rw [e] at h; simp only [L3.datV] at h; cases h
  | _ => rw [e] at h; exact h
theorem den_ref [Cod α] {s : LS} {r : Addr} {xs : List α} (h : s r = some (.lst (xs.map Cod.enc))) : Den s (.ref r) xs := by
  unfold Den
  rw [dat_ref, h]
  simp only [datVs_enc, Option.map_some]
  rfl
theorem rEqV_den [Cod α] [DecidableEq α] {neg : Bool} {x y : LV} {s : LS} {Q : LVK} {a b : α} (hd : Cod.dep α ≤ 64) (hx : Den s x a) (hy : Den s y b) : rEqV neg x y s Q = Q (.bl (neg.xor (decide (a = b)))) s := by
  rw [rEqV_ap, hx, hy, opt_some, opt_some, shaped_cod hd, shaped_cod hd, eqv_cod]
  simp
theorem any_cod [Cod α] [DecidableEq α] (xs : List α) (a : α) : ((xs.map Cod.den).any fun z => PyData.eqv z (Cod.den a)) = decide (a ∈ xs) := by
  induction xs with
  | nil => simp
  | cons x xs ih => rw [List.map_cons, List.any_cons, ih, eqv_cod]; simp [eq_comm]
theorem rInV_den [Cod α] [DecidableEq α] {neg : Bool} {x y : LV} {s : LS} {Q : LVK} {a : α} {b : List α} (hd : Cod.dep α < 64) (hx : Den s x a) (hy : seqL y s = some (b.map Cod.enc)) : rInV neg x y s Q = Q (.bl (neg.xor (decide (a ∈ b)))) s := by
  rw [rInV_ap, hx, hy, opt_some, opt_some, datVs_enc, opt_some, shaped_cod (Nat.le_of_lt hd), show SeqAt.shaped (.list (b.map Cod.den)) = true from shaped_cod (α := List α) hd b, any_cod]
  simp
end L3
namespace L3
theorem ifD {P A B : Prop} [Decidable P] (h1 : P → A) (h2 : ¬P → B) : (decide P = true → A) ∧ (decide P = false → B) := ⟨fun h => h1 (of_decide_eq_true h), fun h => h2 (of_decide_eq_false h)⟩
theorem ifN {P A B : Prop} [Decidable P] (h1 : ¬P → A) (h2 : P → B) : ((!decide P) = true → A) ∧ ((!decide P) = false → B) := ⟨fun h => h1 (by simpa using h), fun h => h2 (by simpa using h)⟩
theorem ifT {c : Bool} {A B : Prop} (e : c = true) (h : A) : (c = true → A) ∧ (c = false → B) := ⟨fun _ => h, fun q => by rw [e] at q; cases q⟩
theorem ifF {c : Bool} {A B : Prop} (e : c = false) (h : B) : (c = true → A) ∧ (c = false → B) := ⟨fun q => (by rw [e] at q; cases q), fun _ => h⟩
theorem ifB {c : Bool} {A B : Prop} (h1 : c = true → A) (h2 : c = false → B) : (c = true → A) ∧ (c = false → B) := ⟨h1, h2⟩
end L3

namespace L3
open PySem PySem.Spec L2
variable {α : Type} {g : LTG} {tb : LTS} {stb : LS → Prop} {D : LEnds}
theorem lLoop_map (enc : α → LV) (I : List α → List α → LSt → LS → Prop) {xs : List α} {σ : LSt} {s : LS} (h0 : I [] xs σ s) (hst : ∀ p r σ s, I p r σ s → stb s)
    (hs : ∀ p x r σ s N, xs = p ++ x :: r → I p (x :: r) σ s → (∀ σ' s', I (p ++ [x]) r σ' s' → N σ' s') → g (enc x) σ s (fun σ2 s2 => tb (D.wlp N) σ2 s2) (fun C s1 => D.ex C σ s1))
    (hn : ∀ σ s, I xs [] σ s → D.nx σ s) : lLoop g tb stb D (xs.map enc) σ s := by
  have go : ∀ (r p : List α) (σ : LSt) (s : LS), xs = p ++ r → I p r σ s → lLoop g tb stb D (r.map enc) σ s := by
    intro r
    induction r with
    | nil =>
      intro p σ s e i
      rw [List.append_nil] at e
      subst e
      exact ⟨hst _ _ _ _ i, hn _ _ i⟩
    | cons x r ih =>
      intro p σ s e i
      exact ⟨hst _ _ _ _ i, hs p x r σ s _ e i fun σ' s' q => ih (p ++ [x]) σ' s' (by simp [e]) q⟩
  exact go xs [] σ s rfl h0
/-- .. over a range: what holds ahead of the turn i -/
theorem lLoop_rg {a b : Int} (I : Nat → LSt → LS → Prop) {σ : LSt} {s : LS} (h0 : I 0 σ s) (hst : ∀ i σ s, I i σ s → stb s)
    (hs : ∀ i σ s N, i < (b - a).toNat → I i σ s → (∀ σ' s', I (i + 1) σ' s' → N σ' s') → g (.int (a + (i : Nat))) σ s (fun σ2 s2 => tb (D.wlp N) σ2 s2) (fun C s1 => D.ex C σ s1))
    (hn : ∀ σ s, I (b - a).toNat σ s → D.nx σ s) : lLoop g tb stb D (rgL a b) σ s := by
  refine lLoop_map (fun i : Nat => LV.int (a + (i : Nat))) (fun p r σ s => I p.length σ s) h0 (fun p r σ s => hst _ _ _) ?_ ?_
  · intro p x r σ s N e i k
    have hl : p.length + (r.length + 1) = (b - a).toNat := by
      have := congrArg List.length e
      simpa using this.symm
    have hx : x = p.length := by
      have := congrArg (fun l : List Nat => l[p.length]?) e
      simp at this
      rw [List.getElem?_range (by omega)] at this
      simpa using this.symm
    subst hx
    refine hs p.length σ s N (by omega) i fun σ' s' q => k σ' s' ?_
    simpa using q
  · intro σ s i
    refine hn σ s ?_
    simpa using i
/-- what was held is held still -/
def Ext (s s' : LS) : Prop := ∀ a o, s a = some o → s' a = some o
theorem Ext.refl (s : LS) : Ext s s := fun _ _ h => h
theorem Ext.trans {s s' s2 : LS} (h : Ext s s') (h' : Ext s' s2) : Ext s s2 := fun a o e => h' a o (h a o e)
theorem Ext.put {s s' : LS} {x : Addr} {o : LO} (h : Ext s s') (n : s x = none) : Ext s (put s' x o) := fun a o' e => by
  have ne : a ≠ x := by rintro rfl; rw [n] at e; cases e
  rw [put_ne ne]
  exact h a o' e
theorem Ext.sub {s s' : LS} (h : Ext s s') : Sub s s' := fun a => by
  cases e : s a with
  | none => exact .inl rfl
  | some o => exact .inr (h a o e).symm
theorem ext_put {s : LS} {x : Addr} {o : LO} (n : s x = none) : Ext s (put s x o) := (Ext.refl s).put n
theorem lc_pure {enc : α → LV} {Da : Addr} {gc : CTg} {tt : LTT} {te : LTE} {σw : LSt} {Q : List LV → LS → Prop} {s : LS} {xs : List α} (hD : s Da = none) (p : α → Bool) (f : α → LV) (hst : ∀ s', Ext s s' → stb s') (hlen : xs.length ≤ 16777216)
    (hs : ∀ x ∈ xs, ∀ s' (Y : LV → LS → Prop) (N : LS → Prop), Ext s s' → (p x = true → Y (f x) s') → (p x = false → N s') →
      gc.lift (enc x) σw s' (fun σ2 s2 => tt σ2 s2 (fun b s3 => (b = true → te σ2 s3 Y fun _ _ => False) ∧ (b = false → N s3)) fun _ _ => False) fun _ _ => False)
    (hQ : Q ((xs.filter p).map f) s) : lcLoop Da gc tt te stb σw Q (xs.map enc) (put s Da (.lst [])) := by
  have go : ∀ (r q : List α), xs = q ++ r → lcLoop Da gc tt te stb σw Q (r.map enc) (put s Da (.lst ((q.filter p).map f))) := by
    intro r
    induction r with
    | nil =>
      intro q e
      rw [List.append_nil] at e
      subst e
      refine ⟨hst _ (ext_put hD), ?_⟩
      rw [put_same]
      show Q _ (del (put s Da _) Da)
      have : del (put s Da (.lst ((xs.filter p).map f))) Da = s := by
        funext b
        unfold del put
        by_cases h : b = Da
        · rw [if_pos h, h, hD]
        · rw [if_neg h, if_neg h]
      rw [this]
      exact hQ
    | cons x r ih =>
      intro q e
      refine ⟨hst _ (ext_put hD), ?_⟩
      have hl : ((q.filter p).map f).length < 16777216 := by
        have h1 := List.length_filter_le p q
        have h2 := congrArg List.length e
        simp at h2
        rw [List.length_map]
        omega
      have z := ih (q ++ [x]) (by simp [e])
      refine hs x (by simp [e]) _ _ _ (ext_put hD) (fun hp => ?_) (fun hp => ?_)
      · show match put s Da _ Da with | some (.lst acc) => _ | _ => False
        rw [put_same]
        refine ⟨hl, ?_⟩
        rw [put_put]
        simpa [List.filter_append, hp] using z
      · simpa [List.filter_append, hp] using z
  exact go xs [] rfl
end L3

namespace L3
open PySem PySem.Spec L2
/-- the law's own promise; tabs: the tables of code objects that makers fill -/
def spLaw (tabs : List (Addr × Str)) : LSp := fun vs s Q E => ∃ ns : List Int, ns.length ≤ 63 ∧ vs = [.scr ns] ∧ (∀ p ∈ tabs, s p.1 = some (.tab p.2)) ∧ Q (.bl true) s
theorem law_starts {K : PySem.W.Frag} [GG K] (tabs : List (Addr × Str)) (nd : (tabs.map (·.1)).Nodup) (H : Hp) (a : Addr) (ns : List Int) (hl : ns.length ≤ 63) (hT : ∀ p ∈ tabs, H p.1 = some (.tbl #[])) (hS : SqL K H a (ns.map V.int)) :
    dn K (spLaw tabs) [.ref a] H (fun v _ => v = .bl true) fun _ _ _ => False := by
  have look : ∀ (l : List (Addr × Str)) (b : Addr) (q : Str), l.lookup b = some q → (b, q) ∈ l := fun l => by
    induction l with
    | nil => intro b q h; cases h
    | cons p r ih =>
      intro b q h
      obtain ⟨c, z⟩ := p
      rw [List.lookup_cons] at h
      by_cases e : b = c
      · subst e; rw [beq_self_eq_true] at h; cases h; simp
      · rw [beq_eq_false_iff_ne.mpr e] at h
        exact List.mem_cons_of_mem _ (ih b q h)
  have has : ∀ (l : List (Addr × Str)), (l.map (·.1)).Nodup → ∀ p ∈ l, l.lookup p.1 = some p.2 := fun l => by
    induction l with
    | nil => intro _ p h; cases h
    | cons p r ih =>
      intro nd x h
      rw [List.map_cons, List.nodup_cons] at nd
      obtain ⟨c, z⟩ := p
      rw [List.lookup_cons]
      rcases List.mem_cons.mp h with rfl | h
      · rw [beq_self_eq_true]
      · have : x.1 ≠ c := fun e => nd.1 (by rw [← e]; exact List.mem_map_of_mem (f := (·.1)) h)
        rw [beq_eq_false_iff_ne.mpr this]
        exact ih nd.2 x h
  refine ⟨[.scr ns], fun b => (tabs.lookup b).map .tab, fun v _ => v = .bl true, fun _ _ => False, ?_, fun b o e => ?_, ⟨ns, hl, rfl, fun p hp => by show (tabs.lookup p.1).map LO.tab = some (.tab p.2); rw [has tabs nd p hp]; rfl, rfl⟩, fun lv s' v H' q _ _ r => ?_, fun _ _ _ q => q.elim⟩
  · simp only [RVs]
    refine ⟨_, _, rfl, ?_, rfl⟩
    simp only [RV]
    refine ⟨a, rfl, ?_⟩
    rcases hS with h | h
    · refine .inl ⟨?_, h⟩
      show (tabs.lookup a).map LO.tab = none
      cases e : tabs.lookup a with
      | none => rfl
      | some q =>
        have := hT _ (look tabs a q e)
        rcases h with h | ⟨o, h⟩ <;> rw [this] at h <;> cases h
    · exact .inr h
  · have e : (tabs.lookup b).map LO.tab = some o := e
    cases z : tabs.lookup b with
    | none => rw [z] at e; cases e
    | some q =>
      rw [z] at e
      cases e
      exact ⟨#[], hT _ (look tabs b q z), True.intro, fun pos cv h => by cases h⟩
  · subst q
    simpa only [RV] using r
theorem law_ends {P : Program} {w : World} (H : Hp) (s : Shared) (e : Value) (s' : Shared) (h : L2.CX P w [] H s (fun _ _ _ => False) e s') : False := by
  obtain ⟨_, _, _, _, _, _, _, _, _, _, _, _, z⟩ := h
  exact z
theorem kit_ref {K : PySem.W.Frag} {C D : Addr} {b : Bool} (hd : PySem.W.hasDictIn K C = true) (ht : PySem.W.typeIn K (.ref C) = some (.type "type")) (h0 : PySem.W.subIn K (.ref C) (.ref C) = some true) (h : PySem.W.subIn K (.ref D) (.ref C) = some b) : PySem.W.kitOne K (.ref D) (.ref C) = some b := by
  obtain ⟨cd, hc, _⟩ := PySem.W.any_some hd
  have e2 : ((PySem.W.clsIn K C).isSome && PySem.W.typeIn K (.ref C) == some (.type "type")) = true := by rw [hc, ht] <;> rfl
  show (if (Value.ref D == Value.ref C) = true then some true else (if ((PySem.W.clsIn K C).isSome && PySem.W.typeIn K (.ref C) == some (.type "type")) = true then PySem.W.subIn K (.ref D) (.ref C) else none)) = some b
  rw [if_pos e2]
  by_cases e : D = C
  · subst e
    rw [h0] at h
    rw [if_pos (by simp), h]
  · rw [if_neg (by intro q; exact e (by simpa using q))]
    exact h
theorem kit_rty {K : PySem.W.Frag} {D : Addr} {T : String} {b : Bool} (hT : PySem.W.kitMeta T = true) (h : PySem.W.subIn K (.ref D) (.type T) = some b) : PySem.W.kitOne K (.ref D) (.type T) = some b := by
  show (if (Value.ref D == Value.type T) = true then some true else (if PySem.W.kitMeta T = true then PySem.W.subIn K (.ref D) (.type T) else none)) = some b
  rw [if_neg (by intro q; cases q), if_pos hT]
  exact h
theorem kit_tyr {K : PySem.W.Frag} {C : Addr} {T : String} {b : Bool} (hd : PySem.W.hasDictIn K C = true) (ht : PySem.W.typeIn K (.ref C) = some (.type "type")) (h : PySem.W.subIn K (.type T) (.ref C) = some b) : PySem.W.kitOne K (.type T) (.ref C) = some b := by
  obtain ⟨cd, hc, _⟩ := PySem.W.any_some hd
  have e2 : ((PySem.W.clsIn K C).isSome && PySem.W.typeIn K (.ref C) == some (.type "type")) = true := by rw [hc, ht] <;> rfl
  show (if (Value.type T == Value.ref C) = true then some true else (if ((PySem.W.clsIn K C).isSome && PySem.W.typeIn K (.ref C) == some (.type "type")) = true then PySem.W.subIn K (.type T) (.ref C) else none)) = some b
  rw [if_pos e2, if_neg (by intro q; cases q)]
  exact h
theorem cutL_to (xs : List LV) (k : Nat) : cutL xs none (some (k : Int)) = xs.take k := by
  unfold cutL
  rw [HT.sIx_none, HT.sIx_nat, List.drop_zero, Nat.sub_zero]
  by_cases h : k ≤ xs.length
  · rw [Nat.min_eq_left h]
  · rw [Nat.min_eq_right (by omega), List.take_of_length_le (Nat.le_refl _), List.take_of_length_le (by omega)]
theorem cutL_from (xs : List LV) (k : Nat) : cutL xs (some (k : Int)) none = xs.drop k := by
  unfold cutL
  rw [HT.sIx_none, HT.sIx_nat]
  by_cases h : k ≤ xs.length
  · rw [Nat.min_eq_left h, List.take_of_length_le (by simp)]
  · rw [Nat.min_eq_right (by omega), List.drop_length, List.take_nil, List.drop_of_length_le (by omega)]
end L3
namespace L3
open PySem PySem.Spec L2
theorem putL_nil {f : Str} {v : LV} : putL f v [] = [(f, v)] := rfl
theorem putL_cons {f g : Str} {v u : LV} {r : List (Str × LV)} : putL f v ((g, u) :: r) = if g = f then (g, v) :: r else (g, u) :: putL f v r := rfl
theorem seqL_cases {x : LV} {s : LS} {xs : List LV} (h : seqL x s = some xs) : x = .lst xs ∨ ∃ a, x = .ref a ∧ s a = some (.lst xs) := by
  cases x with
  | lst ys => exact .inl (by rw [seqL_lst] at h; rw [Option.some.inj h])
  | ref a =>
    rw [seqL_ref] at h
    split at h
    · next ys e => exact .inr ⟨a, rfl, by rw [e, Option.some.inj h]⟩
    · cases h
  | _ => exact absurd h (by simp [seqL])
theorem hu65 {k : Nat} {A : Around} (hr : Room k A) : A.units + 65 < cLine := by have := hr.un; omega
end L3

namespace L3
open PySem PySem.Spec L2
def pairL (p : Int × Int) : LV := .tup [.int p.1, .int p.2]
def pairD (p : Int × Int) : PyData := .tuple [.int p.1, .int p.2]
theorem dv_ints (xs : List Int) : datVs (xs.map LV.int) = some (xs.map PyData.int) := datVs_enc (α := Int) xs
theorem dv_bls (xs : List Bool) : datVs (xs.map LV.bl) = some (xs.map PyData.bool) := datVs_enc (α := Bool) xs
theorem dv_nms (xs : List Nm) : datVs (xs.map nmL) = some (xs.map nmD) := datVs_enc (α := Nm) xs
theorem dv_prs (xs : List (Int × Int)) : datVs (xs.map pairL) = some (xs.map pairD) := datVs_enc (α := Int × Int) xs
theorem dv_nm (n : Nm) : datV (nmL n) = some (nmD n) := by simp [nmL, nmD]
theorem dt_nm (s : LS) (n : Nm) : dat s (nmL n) = some (nmD n) := by simp [nmL, nmD]
theorem dt_pr (s : LS) (n : Int × Int) : dat s (pairL n) = some (pairD n) := by simp [pairL, pairD]
theorem dv_pr (n : Int × Int) : datV (pairL n) = some (pairD n) := by simp [pairL, pairD]
theorem sh_int (i : Int) : SeqAt.shaped (.int i) = true := shaped_cod (α := Int) (by decide) i
theorem sh_bl (i : Bool) : SeqAt.shaped (.bool i) = true := shaped_cod (α := Bool) (by decide) i
theorem sh_none : SeqAt.shaped .none = true := by decide
theorem sh_ints (xs : List Int) : SeqAt.shaped (.list (xs.map .int)) = true := shaped_cod (α := List Int) (by decide) xs
theorem sh_bls (xs : List Bool) : SeqAt.shaped (.list (xs.map .bool)) = true := shaped_cod (α := List Bool) (by decide) xs
theorem sh_nm (i : Nm) : SeqAt.shaped (nmD i) = true := shaped_cod (α := Nm) (by decide) i
theorem sh_nms (xs : List Nm) : SeqAt.shaped (.list (xs.map nmD)) = true := shaped_cod (α := List Nm) (by decide) xs
theorem sh_pr (i : Int × Int) : SeqAt.shaped (pairD i) = true := shaped_cod (α := Int × Int) (by decide) i
theorem sh_prs (xs : List (Int × Int)) : SeqAt.shaped (.list (xs.map pairD)) = true := shaped_cod (α := List (Int × Int)) (by decide) xs
theorem anyI (xs : List Int) (a : Int) : ((xs.map PyData.int).any fun z => PyData.eqv z (.int a)) = decide (a ∈ xs) := (any_cod xs a).trans (decide_eq_decide.mpr Iff.rfl)
theorem anyN (xs : List Nm) (a : Nm) : ((xs.map nmD).any fun z => PyData.eqv z (nmD a)) = decide (a ∈ xs) := (any_cod xs a).trans (decide_eq_decide.mpr Iff.rfl)
theorem anyP (xs : List (Int × Int)) (a : Int × Int) : ((xs.map pairD).any fun z => PyData.eqv z (pairD a)) = decide (a ∈ xs) := (any_cod xs a).trans (decide_eq_decide.mpr Iff.rfl)
theorem eqv_int (a b : Int) : PyData.eqv (.int a) (.int b) = decide (a = b) := eqv_cod a b
theorem eqv_bl (a b : Bool) : PyData.eqv (.bool a) (.bool b) = decide (a = b) := eqv_cod a b
theorem eqv_ints (a b : List Int) : PyData.eqv (.list (a.map .int)) (.list (b.map .int)) = decide (a = b) := eqv_cod a b
theorem eqv_bls (a b : List Bool) : PyData.eqv (.list (a.map .bool)) (.list (b.map .bool)) = decide (a = b) := eqv_cod a b
theorem eqv_nms (a b : List Nm) : PyData.eqv (.list (a.map nmD)) (.list (b.map nmD)) = decide (a = b) := eqv_cod a b
theorem eqv_prs (a b : List (Int × Int)) : PyData.eqv (.list (a.map pairD)) (.list (b.map pairD)) = decide (a = b) := eqv_cod a b
theorem eqv_nm (a b : Nm) : PyData.eqv (nmD a) (nmD b) = decide (a = b) := eqv_cod a b
theorem eqv_pr (a b : Int × Int) : PyData.eqv (pairD a) (pairD b) = decide (a = b) := eqv_cod a b
theorem ifNX {P A B : Prop} [Decidable P] (h1 : ¬P → A) (h2 : P → B) : ((true ^^ decide P) = true → A) ∧ ((true ^^ decide P) = false → B) := ⟨fun h => h1 (by simpa using h), fun h => h2 (by simpa using h)⟩
theorem ifDX {P A B : Prop} [Decidable P] (h1 : P → A) (h2 : ¬P → B) : ((false ^^ decide P) = true → A) ∧ ((false ^^ decide P) = false → B) := ⟨fun h => h1 (by simpa using h), fun h => h2 (by simpa using h)⟩
theorem iOr {P : Prop} [Decidable P] {A B : Prop} (h1 : P → A) (h2 : ¬P → B) : (decide P = true → A) ∧ (decide P = false → B) := ifD h1 h2
theorem atI_mem {α β : Type} {xs : List α} {i : Int} {v : α} (f : α → β) (h0 : 0 ≤ i) (h : xs[i.toNat]? = some v) : atI (xs.map f) i = some (f v) := by
  obtain ⟨k, rfl⟩ := Int.eq_ofNat_of_zero_le h0
  exact atI_nat (by rw [List.getElem?_map, show xs[k]? = some v from by simpa using h]; rfl)
theorem atI_memV {β : Type} {xs : List β} {i : Int} {v : β} (h0 : 0 ≤ i) (h : xs[i.toNat]? = some v) : atI xs i = some v := by
  obtain ⟨k, rfl⟩ := Int.eq_ofNat_of_zero_le h0
  exact atI_nat (by simpa using h)
theorem ifTT {A B : Prop} (h : A) : (true = true → A) ∧ (true = false → B) := ifT rfl h
theorem ifFF {A B : Prop} (h : B) : (false = true → A) ∧ (false = false → B) := ifF rfl h
theorem lc_map {α : Type} {stb : LS → Prop} {enc : α → LV} {Da : Addr} {gc : CTg} {te : LTE} {σw : LSt} {Q : List LV → LS → Prop} {s : LS} {xs : List α} (hD : s Da = none) (f : α → LV) (hst : ∀ s', Ext s s' → stb s') (hlen : xs.length ≤ 16777216)
    (hs : ∀ x ∈ xs, ∀ s' (Y : LV → LS → Prop), Ext s s' → Y (f x) s' → gc.lift (enc x) σw s' (fun σ2 s2 => te σ2 s2 Y fun _ _ => False) fun _ _ => False)
    (hm : ∀ x σ s' (Y Y' : LSt → LS → Prop), (∀ σ s, Y σ s → Y' σ s) → gc.lift (enc x) σ s' Y (fun _ _ => False) → gc.lift (enc x) σ s' Y' fun _ _ => False)
    (hQ : Q (xs.map f) s) : lcLoop Da gc lYes te stb σw Q (xs.map enc) (put s Da (.lst [])) := by
  refine lc_pure hD (fun _ => true) f hst hlen (fun x hx s' Y N e hY _ => ?_) ?_
  · exact hm x _ _ _ _ (fun σ s2 h => ⟨fun _ => h, fun q => by cases q⟩) (hs x hx s' Y e (hY rfl))
  · have e : xs.filter (fun _ => true) = xs := List.filter_eq_self.mpr fun _ _ => rfl
    rw [e]
    exact hQ
theorem lc_map1 {α : Type} {stb : LS → Prop} {enc : α → LV} {Da : Addr} {i : Nat} {te : LTE} {σw : LSt} {Q : List LV → LS → Prop} {s : LS} {xs : List α} (hD : s Da = none) (f : α → LV) (hst : ∀ s', Ext s s' → stb s') (hlen : xs.length ≤ 16777216)
    (hs : ∀ x ∈ xs, ∀ s' (Y : LV → LS → Prop), Ext s s' → Y (f x) s' → te (σw.set i (some (enc x))) s' Y fun _ _ => False)
    (hQ : Q (xs.map f) s) : lcLoop Da (.one i) lYes te stb σw Q (xs.map enc) (put s Da (.lst [])) :=
  lc_map hD f hst hlen (fun x hx s' Y e hY => hs x hx s' Y e hY) (fun x σ s' Y Y' h q => h _ _ q) hQ
theorem ifTr {A B : Prop} (h : A) : (True → A) ∧ (False → B) := ⟨fun _ => h, fun q => q.elim⟩
theorem ifFr {A B : Prop} (h : B) : (False → A) ∧ (True → B) := ⟨fun q => q.elim, fun _ => h⟩
theorem ifnT {A B : Prop} (h : B) : ((!true) = true → A) ∧ ((!true) = false → B) := ⟨fun q => (by cases q), fun _ => h⟩
theorem ifnF {A B : Prop} (h : A) : ((!false) = true → A) ∧ ((!false) = false → B) := ⟨fun _ => h, fun q => (by cases q)⟩
theorem decF {h : Decidable False} : @decide False h = false := decide_eq_false fun q => q
theorem decT {h : Decidable True} : @decide True h = true := decide_eq_true True.intro
theorem blsOf_const {α : Type} (xs : List α) (b : Bool) : blsOf (xs.map fun _ => LV.bl b) = some (xs.map fun _ => b) := by
  induction xs with
  | nil => rfl
  | cons x xs ih => show (blsOf (xs.map fun _ => LV.bl b)).map (b :: ·) = _; rw [ih]; rfl
theorem blsOf_fn {α : Type} (xs : List α) (f : α → Bool) : blsOf (xs.map fun x => LV.bl (f x)) = some (xs.map f) := by
  induction xs with
  | nil => rfl
  | cons x xs ih => show (blsOf (xs.map fun x => LV.bl (f x))).map (f x :: ·) = _; rw [ih]; rfl
theorem all_const {α : Type} (xs : List α) : ((xs.map fun _ => true).all id) = true := by simp
theorem sh_nil : SeqAt.shaped (.list []) = true := by decide
theorem eqv_nil {α : Type} (f : α → PyData) (xs : List α) : PyData.eqv (.list (xs.map f)) (.list []) = xs.isEmpty := by
  cases xs <;> simp [PyData.eqv, PyData.eqvAll]
end L3

namespace L3
open PySem PySem.Spec L2
def strV (x : LV) (k : Str → Prop) : Prop := match x with
  | .str a => k a
  | _ => False
theorem strV_ok {x : LV} {k : Str → Prop} (h : strV x k) : ∃ a, x = .str a ∧ k a := by
  cases x with
  | str a => exact ⟨a, rfl, h⟩
  | _ => exact h.elim
def strsOf : List LV → Option (List Str)
  | [] => some []
  | .str i :: xs => (strsOf xs).map (i :: ·)
  | _ :: _ => none
theorem strsOf_ok : ∀ {xs : List LV} {ns : List Str}, strsOf xs = some ns → xs = ns.map .str
  | [], ns, h => by simp only [strsOf, Option.some.injEq] at h; subst h; rfl
  | x :: xs, ns, h => by
    cases x with
    | str i =>
      obtain ⟨r, e, rfl⟩ := Option.map_eq_some_iff.mp (show (strsOf xs).map (i :: ·) = some ns from h)
      rw [strsOf_ok e]
      rfl
    | _ => simp [strsOf] at h
theorem strsOf_map (ns : List Str) : strsOf (ns.map .str) = some ns := by
  induction ns with
  | nil => rfl
  | cons n ns ih => simp [strsOf, ih]
theorem strsOf_fn {α : Type} (f : α → Str) (ns : List α) : strsOf (ns.map fun a => .str (f a)) = some (ns.map f) := by
  induction ns with
  | nil => rfl
  | cons n ns ih => simp [strsOf, ih]
section
variable {X : Cx} [GG X.K] {K : PySem.W.Frag} [GG K] {s : LS} {H : Hp} {a b e o i : Expr} {es : List Expr} {pos apos : Pos} {ta tb te to ti : LTE} {tas : LTA}
theorem RVs.strs {K : PySem.W.Frag} [GG K] {s : LS} {H : Hp} : ∀ ys : List Str, RVs K s H (ys.map .str) (ys.map V.str)
  | [] => by simp only [List.map_nil, RVs]
  | y :: ys => by simp only [List.map_cons, RVs]; exact ⟨_, _, rfl, .str, RVs.strs ys⟩
theorem RVs.strs_eq {K : PySem.W.Frag} [GG K] {s : LS} {H : Hp} : ∀ {ys : List Str} {us : List V}, RVs K s H (ys.map .str) us → us = ys.map V.str
  | [], us, h => by simpa only [List.map_nil, RVs] using h
  | y :: ys, us, h => by
    simp only [List.map_cons, RVs] at h
    obtain ⟨u, r, rfl, h1, h2⟩ := h
    rw [h1.str', RVs.strs_eq h2]
    rfl
def lJoin (to te : LTE) : LTE := fun σ s Q E => to σ s (fun x s1 => strV x fun a => te σ s1 (fun y s2 => opt (seqL y s2) fun xs => opt (strsOf xs) fun ys => (ys.map (·.length)).sum + ys.length * a.length ≤ 16777216 ∧ Q (.str (Txt.join a ys)) s2) E) E
theorem le_join (ho : LE X o to) (he : LE X e te) (hs : starEach [e] X.env = [(false, eval e X.env)] := by rfl) (hbase : attributeBase o "join" X.env (eval o X.env) = eval o X.env := by rfl) (hline : (apos.endLine == pos.line) = true := by rfl) :
    LE X (.Call (.Attribute o "join" apos) [e] [] pos) (lJoin to te) := fun s0 H0 E tk => (pe_join (ho s0 H0 E tk) (he s0 H0 E tk) hs hbase hline).imp fun σ H Q ⟨σl, s, Q0, E1, hσ, hs, st, hE, h, k⟩ =>
  ⟨σl, s, _, E1, hσ, hs, st, hE, h, fun lx s1 x H1 h st1 hs1 rx => by
    obtain ⟨a, rfl, h⟩ := strV_ok h
    rw [rx.str']
    refine ⟨⟨a, rfl⟩, σl, s1, _, E1, hσ.mono st1, hs1, st.trans st1, hE, h, fun ly s2 y H2 h st2 hs2 ry => ?_⟩
    obtain ⟨xs, e1, h⟩ := opt_ok h
    obtain ⟨ys, e2, hl, h⟩ := opt_ok h
    obtain ⟨p, us, rfl, hh, r⟩ := seqL_ok hs2 ry e1
    rw [strsOf_ok e2] at r
    rw [r.strs_eq] at hh
    exact ⟨a, p, ys, rfl, rfl, .inl (SqL.of hh), hl, k _ _ _ _ h (st1.trans st2) hs2 .str⟩⟩
def lSplit (to te : LTE) : LTL := fun σ s Q E => to σ s (fun x s1 => strV x fun a => te σ s1 (fun y s2 => strV y fun b => ((b.length == 0) = false ∧ a.length + 2 ≤ 16777216) ∧ Q ((Txt.split a b).map .str) s2) E) E
theorem ll_split (ho : LE X o to) (he : LE X e te) (hs : starEach [e] X.env = [(false, eval e X.env)] := by rfl) (hbase : attributeBase o "split" X.env (eval o X.env) = eval o X.env := by rfl) (hline : (apos.endLine == pos.line) = true := by rfl) :
    LL X (.Call (.Attribute o "split" apos) [e] [] pos) (lSplit to te) := fun s0 H0 E tk => (pe_split (ho s0 H0 E tk) (he s0 H0 E tk) hs hbase hline).imp fun σ H Q ⟨σl, s, Q0, E1, hσ, hs, st, hE, h, k⟩ =>
  ⟨σl, s, _, E1, hσ, hs, st, hE, h, fun lx s1 x H1 h st1 hs1 rx => by
    obtain ⟨a, rfl, h⟩ := strV_ok h
    rw [rx.str']
    refine ⟨⟨a, rfl⟩, σl, s1, _, E1, hσ.mono st1, hs1, st.trans st1, hE, h, fun ly s2 y H2 h st2 hs2 ry => ?_⟩
    obtain ⟨b, rfl, ⟨h1, h2⟩, h⟩ := strV_ok h
    rw [ry.str']
    exact ⟨a, b, rfl, rfl, h1, h2, k _ _ _ _ h (st1.trans st2) hs2 (RVs.strs _)⟩⟩
@[simp] theorem strV_ap (a : Str) (k : Str → Prop) : strV (.str a) k = k a := rfl
end
end L3

namespace L3
open PySem PySem.Spec PyProof.Rows
section
variable {M : Model} {A : Around} {E : Value → Shared → Prop} {s : Shared}
theorem newEnv_clo {scope : Scope} {globals : Addr} {closure : List (Str × Addr)} {binds : List (Str × Value)} {qual : Str} {func : Option Addr} {code : Value} {builtins : Addr} {Q : Env → Shared → Prop}
    (hk : scope.kind = .function) (hl : ∀ x ∈ binds, scope.names.lookup x.1 = some .local)
    (hQ : ∀ h' tk, h'.Ns s.heap.objs.size (fun x => binds.reverse.lookup x) → Heap.SameBut s.heap.objs.size (pushCells (s.heap.push { cls := .type "frame", data := .dict #[] }) scope.names) h' →
      Q (newEnv scope s.heap.objs.size globals (cellsFrom (s.heap.objs.size + 1) scope.names closure) qual func code none builtins) { s with heap := h', toks := tk }) :
    wpAny M A (newFunctionEnv scope globals closure binds qual func code none builtins) Q E s := by
  simp only [newFunctionEnv, Option.isSome_none, Bool.false_eq_true, if_false]
  refine wpAny_bind (wpAny_alloc ?_)
  refine wpAny_bind (wpAny_layCells _ (fun name kind cells => by cases hkc : kind == NameKind.cell <;> simp [hkc]) _ _ _ _ ?_)
  rw [show ({ s with heap := s.heap.push { cls := .type "frame", data := .dict #[] } } : Shared).heap.objs.size = s.heap.objs.size + 1 from Heap.size_push ..]
  refine wpAny_bind ?_
  refine wpAny_forIn_list _
    (fun rest _ s' => ∃ done h' tk, binds = done ++ rest ∧ s' = { s with heap := h', toks := tk } ∧ h'.Ns s.heap.objs.size (fun x => done.reverse.lookup x) ∧
      Heap.SameBut s.heap.objs.size (pushCells (s.heap.push { cls := .type "frame", data := .dict #[] }) scope.names) h') _ ?_ ?_ binds _
    ⟨[], _, _, rfl, rfl, (Heap.Ns.new s.heap (.type "frame")).keeps (pushCells_keeps _ _), Heap.SameBut.refl ..⟩
  · rintro ⟨name, v⟩ rest _ s' ⟨done, h', tk, hb, rfl, hns, hsb⟩
    have hk' : Env.kindOf { scope, locals := s.heap.objs.size, globals, cells := cellsFrom (s.heap.objs.size + 1) scope.names closure, qual, func, code, frame := some s.heap.objs.size, builtins } name = some .local :=
      hl (name, v) (by rw [hb]; simp)
    refine wpAny_bind (wpAny_storeName_local hk' hns (fun h'' hns' hsb' => wpAny_pure ⟨done ++ [(name, v)], h'', _, by simp [hb], rfl, ?_, hsb.trans hsb'⟩) (by show (scope.kind == .class || (scope.kind == .module && _)) = false; rw [hk]; rfl))
    rw [lookup_reverse_snoc]; exact hns'
  · rintro _ s' ⟨done, h', tk, hb, rfl, hns, hsb⟩
    rw [List.append_nil] at hb; subst hb
    exact wpAny_pure (hQ h' tk hns hsb)
end

open L2 LamX NdefX
/-- names: the parameters, the captured ones, then its locals (some of them cells of its own) -/
structure CScope (N ps fr : List Str) (sc : Scope) : Prop where
  kind : sc.kind = .function
  co : sc.isCoroutine = false
  gen : sc.isGenerator = false
  nd : N.Nodup
  pre : N.take (ps.length + fr.length) = ps ++ fr
  par : ∀ x ∈ ps, sc.names.lookup x = some .local
  free : ∀ y ∈ sc.names, y.2 = .free → y.1 ∈ fr
  frk : ∀ x ∈ fr, sc.names.lookup x = some .free
  ndn : (sc.names.map (·.1)).Nodup
def cscB (N ps fr : List Str) (sc : Scope) : Bool :=
  decide (sc.kind = .function) && !sc.isCoroutine && !sc.isGenerator && decide N.Nodup && decide (N.take (ps.length + fr.length) = ps ++ fr) && ps.all (fun x => decide (sc.names.lookup x = some .local)) && sc.names.all (fun y => !decide (y.2 = .free) || decide (y.1 ∈ fr)) && fr.all (fun x => decide (sc.names.lookup x = some .free)) && decide (sc.names.map (·.1)).Nodup
theorem cscope_by {N ps fr : List Str} {sc : Scope} (h : cscB N ps fr sc = true) : CScope N ps fr sc := by
  unfold cscB at h
  simp only [Bool.and_eq_true, Bool.not_eq_true', decide_eq_true_eq, List.all_eq_true, Bool.or_eq_true, decide_eq_false_iff_not] at h
  obtain ⟨⟨⟨⟨⟨⟨⟨⟨h1, h2⟩, h3⟩, h4⟩, h5⟩, h6⟩, h8⟩, h9⟩, h10⟩ := h
  exact ⟨h1, h2, h3, h4, h5, h6, fun y hy e => (h8 y hy).elim (fun z => absurd e z) id, h9, h10⟩
abbrev envC (F : NF) (f L : Addr) : Env := PySem.W.envX F.qual F.scope L f (.ref F.c) (cellsFrom (L + 1) F.scope.names F.cl)
/-- the context of its body, at its entry -/
def ccx (CX : CXT) (P : Program) (w : World) (K : PySem.W.Frag) (mg : Str → Option Value) (base : Heap) (N : List Str) (F : NF) (f : Addr) (A : Around) (outer : List Env) (s : Shared) (H : Hp) (E : XK) : Cx where
  prog := P
  w := w
  K := K
  mg := mg
  base := base
  A := A.deeper (envC F f s.heap.objs.size)
  N := N
  s_0 := s
  H_0 := H
  env := envC F f s.heap.objs.size
  outer := outer
  stack := envC F f s.heap.objs.size :: outer
  ex := []
  calm := true
  fn := fun x => decide (F.scope.names.lookup x = some .cell)
  pn := []
  xe := fun e s' => wpAny (model P w) (A.deeper (envC F f s.heap.objs.size)) (leaving (envC F f s.heap.objs.size) e) (fun _ s'' => CX outer H s E e s'') (fun e' s'' => CX outer H s E e' s'') s'
/-- its own cells lie ahead of the captured ones -/
theorem cells_app : ∀ (names : List (Str × NameKind)) (n : Nat) (acc : List (Str × Addr)), cellsFrom n names acc = cellsFrom n names [] ++ acc
  | [], n, acc => rfl
  | (x, k) :: r, n, acc => by
    unfold cellsFrom
    split
    · rw [cells_app r (n + 1) ((x, n) :: acc), cells_app r (n + 1) [(x, n)], List.append_assoc]; rfl
    · exact cells_app r n acc
theorem own_cells {h : Heap} (names : List (Str × NameKind)) : CellsOk (pushCells h names) h.objs.size (cellsFrom h.objs.size names []) := cellsFrom_ok names h h.objs.size [] ⟨fun _ _ hm => (nomatch hm), List.Pairwise.nil⟩ (Nat.le_refl _)
theorem own_kind : ∀ (names : List (Str × NameKind)) (n : Nat) (y : Str) (c : Addr), (y, c) ∈ cellsFrom n names [] → (y, NameKind.cell) ∈ names
  | [], n, y, c, h => (nomatch h)
  | (x, k) :: r, n, y, c, h => by
    unfold cellsFrom at h
    split at h
    · next hk =>
      rw [cells_app, List.mem_append] at h
      rcases h with h | h
      · exact List.mem_cons_of_mem _ (own_kind r _ y c h)
      · simp at h
        rw [h.1, eq_of_beq hk]; simp
    · exact List.mem_cons_of_mem _ (own_kind r n y c h)
theorem kind_one {names : List (Str × NameKind)} (nd : (names.map (·.1)).Nodup) {y : Str} {k : NameKind} (hm : (y, k) ∈ names) {k' : NameKind} (h : names.lookup y = some k') : k' = k := by
  induction names with
  | nil => cases hm
  | cons a r ih =>
    obtain ⟨x, j⟩ := a
    rw [List.map_cons, List.nodup_cons] at nd
    rw [List.lookup_cons] at h
    rw [List.mem_cons] at hm
    by_cases e : y = x
    · subst e
      rw [beq_self_eq_true] at h
      rcases hm with hm | hm
      · cases hm; exact (Option.some.inj h).symm
      · exact absurd (List.mem_map_of_mem (f := (·.1)) hm) nd.1
    · rw [beq_eq_false_iff_ne.mpr e] at h
      rcases hm with hm | hm
      · cases hm; exact absurd rfl e
      · exact ih nd.2 hm h
theorem look_own {own cl : List (Str × Addr)} {y : Str} {c : Addr} (h : (own ++ cl).lookup y = some c) : own.lookup y = some c ∨ (own.lookup y = none ∧ cl.lookup y = some c) := by
  rw [List.lookup_append] at h
  cases e : own.lookup y with
  | none => rw [e] at h; exact .inr ⟨rfl, by simpa using h⟩
  | some d => rw [e] at h; exact .inl (by simpa using h)
section
variable {CX : CXT} {P : Program} {w : World} {K : PySem.W.Frag} {mg : Str → Option Value} {base : Heap} {N ps fr : List Str} {F : NF} {f : Addr} {A : Around} {outer : List Env} {s : Shared} {H : Hp} {E : XK} {us : List Value} {vs : List V} {ws : List (Option V)}
theorem inv_startC {h₁ : Heap} {tk : Nat} (S : CScope N ps fr F.scope) (hd : A.handled = none) (e0 : Env0 P w K mg base A outer s H) (hl : vs.length = ps.length) (r : Vals vs us) (C : CellsAt F.cl fr ws s.heap H) (hns : h₁.Ns s.heap.objs.size fun y => (ps.zip us).reverse.lookup y)
    (kp : Heap.SameBut s.heap.objs.size (pushCells (s.heap.push { cls := .type "frame", data := .dict #[] }) F.scope.names) h₁) : Inv (ccx CX P w K mg base N F f A outer s H E) [] (startF N vs ws) H { s with heap := h₁, toks := tk } := by
  have hpl : ps.length + fr.length ≤ N.length := by
    have q := congrArg List.length S.pre
    rw [List.length_take, List.length_append] at q
    omega
  have keep0 : ∀ b o, s.heap.get? b = some o → h₁.get? b = some o := fun b o e => kp.extBut b o (Nat.ne_of_lt (Heap.lt_size e)) (pushCells_keeps _ _ b o (Heap.get?_push_of_some _ e))
  have noA : ∀ b : Addr, b ∉ (ccx CX P w K mg base N F f A outer s H E).ex := fun b z => absurd (show b ∈ ([] : List Addr) from z) (by simp)
  have cellK : ∀ {c : Addr} {v : Option Value}, s.heap.IsCell c v → h₁.IsCell c v := fun {c v} ⟨o, ho, hd⟩ => ⟨o, keep0 _ _ ho, hd⟩
  have ow := own_cells (h := s.heap.push { cls := .type "frame", data := .dict #[] }) F.scope.names
  rw [Heap.size_push] at ow
  -- the env's cells
  have ecl : (ccx CX P w K mg base N F f A outer s H E).env.cells = cellsFrom (s.heap.objs.size + 1) F.scope.names [] ++ F.cl := cells_app _ _ _
  have ownC : ∀ y c, (cellsFrom (s.heap.objs.size + 1) F.scope.names []).lookup y = some c → s.heap.objs.size < c ∧ h₁.IsCell c none ∧ (y, NameKind.cell) ∈ F.scope.names := fun y c e => by
    have hm := PySem.mem_of_lookup e
    obtain ⟨⟨o, ho, hc⟩, hlt⟩ := ow.empty y c hm
    exact ⟨hlt, ⟨o, kp.extBut c o (Nat.ne_of_gt hlt) ho, hc⟩, own_kind _ _ _ _ hm⟩
  have oldC : ∀ y c, F.cl.lookup y = some c → c < s.heap.objs.size := fun y c e => by
    obtain ⟨v, o, ho, _⟩ := (C.all y c e).2
    exact Heap.lt_size ho
  refine ⟨⟨e0.mod, S.kind, rfl, rfl, Nat.le_refl _, fun y z c h1 h2 => ?_, fun y hy => ?_, fun y c hf hc => ?_, fun _ => hd, Around.frames_deeper e0.frames, .inr ⟨rfl, rfl⟩, fun b z => absurd z (noA b), e0.bs, e0.bsz, fun b _ _ => noA b,
      fun b z => absurd z (noA b), e0.funs, e0.frf⟩,
    rfl, e0.bare, Un.kept keep0, ⟨_, hns, fun i y v e1 e2 e3 => ?_⟩, fun y c e => ?_, e0.hok.fresh (Nat.le_refl _), fun y c e => ?_, fun q hq => absurd (show q ∈ ([] : List (Addr × Obj)) ++ [] from hq) (by simp), e0.hok.kept keep0, ?_⟩
  · rw [ecl] at h1 h2
    rcases look_own h1 with a1 | ⟨_, a1⟩ <;> rcases look_own h2 with a2 | ⟨_, a2⟩
    · exact name_of_addr ow.apart (PySem.mem_of_lookup a1) (PySem.mem_of_lookup a2)
    · exact absurd (oldC _ _ a2) (Nat.not_lt.mpr (Nat.le_of_lt (ownC _ _ a1).1))
    · exact absurd (oldC _ _ a1) (Nat.not_lt.mpr (Nat.le_of_lt (ownC _ _ a2).1))
    · exact C.inj _ _ _ a1 a2
  · have hy : F.scope.names.lookup y = some .cell ∨ F.scope.names.lookup y = some .free := hy
    have key : ((cellsFrom (s.heap.objs.size + 1) F.scope.names F.cl).lookup y).isSome = true := by
      refine PySem.W.cellsFrom_some _ _ _ ?_
      rcases hy with hy | hy
      · exact .inl hy
      · obtain ⟨i, hi⟩ := List.mem_iff_getElem?.mp (S.free _ (PySem.mem_of_lookup hy) rfl)
        obtain ⟨c, hc, _⟩ := C.has i y hi
        exact .inr (by rw [hc]; rfl)
    exact Option.isSome_iff_exists.mp key
  · have hf : F.scope.names.lookup y = some .cell := of_decide_eq_true hf
    rw [ecl] at hc
    rcases look_own hc with a | ⟨a0, a⟩
    · exact Nat.le_of_lt (ownC _ _ a).1
    · exfalso
      have := PySem.W.cellsFrom_some F.scope.names (s.heap.objs.size + 1) [] (x := y) (.inl hf)
      rw [a0] at this
      cases this
  · have e1 : N[i]? = some y := e1
    have clen := C.len
    unfold startF at e2
    by_cases h1 : i < ps.length
    · have hq : (ps ++ fr)[i]? = some y := by
        rw [← S.pre, List.getElem?_take_of_lt (by omega)]
        exact e1
      rw [List.getElem?_append_left h1] at hq
      rw [List.getElem?_append_left (by rw [List.length_map]; omega), List.getElem?_map] at e2
      have ha : vs[i]? = some v := by
        cases e : vs[i]? with
        | none => rw [e] at e2; cases e2
        | some a => rw [e] at e2; cases e2; rfl
      obtain ⟨u, hu, rv⟩ := r.get ha
      have ndP : ps.Nodup := by
        have q := S.nd.sublist (List.take_sublist (ps.length + fr.length) N)
        rw [S.pre] at q
        exact (List.nodup_append.mp q).1
      exact ⟨u, rv, .inl ⟨S.par y (List.mem_of_getElem? hq), zip_look ndP hq hu⟩⟩
    · rw [List.getElem?_append_right (by rw [List.length_map]; omega), List.length_map] at e2
      by_cases h2 : i < ps.length + fr.length
      · have hq : (ps ++ fr)[i]? = some y := by
          rw [← S.pre, List.getElem?_take_of_lt (by omega)]
          exact e1
        rw [List.getElem?_append_right (by omega)] at hq
        rw [List.getElem?_append_left (by omega), hl] at e2
        obtain ⟨c, hc, hv⟩ := C.has (i - ps.length) y hq
        obtain ⟨u, ru, hu⟩ := hv v e2
        have hk := S.frk y (List.mem_of_getElem? hq)
        have hn : (cellsFrom (s.heap.objs.size + 1) F.scope.names []).lookup y = none := by
          cases e : (cellsFrom (s.heap.objs.size + 1) F.scope.names []).lookup y with
          | none => rfl
          | some d =>
            have := kind_one S.ndn (ownC y d e).2.2 hk
            cases this
        refine ⟨u, ru, .inr ⟨.inr hk, c, ?_, cellK hu⟩⟩
        rw [ecl, List.lookup_append, hn, hc]; rfl
      · rw [List.getElem?_append_right (by omega), List.getElem?_replicate] at e2
        split at e2 <;> cases e2
  · rw [ecl] at e
    rcases look_own e with a | ⟨_, a⟩
    · exact ⟨_, (ownC _ _ a).2.1⟩
    · obtain ⟨v, z⟩ := (C.all y c a).2
      exact ⟨v, cellK z⟩
  · rw [ecl] at e
    rcases look_own e with a | ⟨_, a⟩
    · exact e0.hok.fresh (Nat.le_of_lt (ownC _ _ a).1)
    · exact (C.all y c a).1
  · have clen := C.len
    unfold startF
    show _ = N.length
    rw [List.length_append, List.length_append, List.length_map, List.length_replicate]
    omega
end
instance ggC {CX : CXT} {P : Program} {w : World} {K : PySem.W.Frag} [g : GG K] {mg : Str → Option Value} {base : Heap} {N : List Str} {F : NF} {f : Addr} {A : Around} {outer : List Env} {s : Shared} {H : Hp} {E : XK} :
    GG (ccx CX P w K mg base N F f A outer s H E).K := g
section
variable {CX : CXT} {P : Program} {w : World} {K : PySem.W.Frag} {mg : Str → Option Value} {base : Heap} {N ps fr : List Str} {F : NF} {f : Addr} {k : Nat} {sp : List (Option V) → Sp}
/-- a function with captured cells, by its body -/
theorem nokC_of (S : CScope N ps fr F.scope) (hb : ∀ (doc pm ctv : Value) (us : List Value), us.length = ps.length → bindArgs (F.fd doc pm ctv) ⟨us, []⟩ = pure (ps.zip us)) (len : ∀ ws vs H Q E, sp ws vs H Q E → vs.length = ps.length)
    (body : ∀ (A : Around) (outer : List Env) (s : Shared) (H : Hp) (vs : List V) (ws : List (Option V)) (Q : VK) (E : XK), Room k (A.deeper (envC F f s.heap.objs.size)) → Env0 P w K mg base A outer s H → H f = some (FnO f F) → ws.length = fr.length → sp ws vs H Q E →
      ∃ t, PSs (ccx CX P w K mg base N F f A outer s H E) F.body t ∧ t { nx := fun _ H' => Q .non H', rt := Q } (startF N vs ws) H) : NOk P w K mg base CX (k + 1) f F ps fr sp := by
  refine ⟨len, fun A outer s H us vs ws Q E hr e0 hf hc C r hsp => ?_⟩
  have ha := len _ _ _ _ _ hsp
  have nl : s.heap.NoLimit := e0.mod.nolimit.keeps fun b o e => (e0.bs b o e).1
  obtain ⟨od, sl, doc, pm, ctv, ho⟩ := fnO_at e0.hok hf
  refine codeAny_call_function hr.depth ho rfl S.co S.gen rfl (codeO_at e0.hok hc) (?_)
  rw [hb doc pm ctv us (by rw [← r.length]; exact ha)]
  refine wpAny_pure (newEnv_clo S.kind (fun ⟨n, _⟩ hy => S.par n (List.of_mem_zip hy).1) (fun h₁ tk hns hsb => ?_))
  have kp : ∀ b o, s.heap.get? b = some o → h₁.get? b = some o := fun b o e => hsb.extBut b o (Nat.ne_of_lt (Heap.lt_size e)) (pushCells_keeps _ _ b o (Heap.get?_push_of_some _ e))
  refine ⟨nl.keeps kp, codeAny_func (show wpAny _ _ (execs F.body (envC F f s.heap.objs.size)) _ _ _ from ?_)⟩
  obtain ⟨t, ht, hq⟩ := body A outer s H vs ws Q E (hr.deeper _) e0 hf C.len hsp
  have J : Inv (ccx CX P w K mg base N F f A outer s H E) [] (startF N vs ws) H { s with heap := h₁, toks := tk } := inv_startC S hr.hd e0 ha r C hns hsb
  refine wpAny_mono (ht.run [] _ (startF N vs ws) H _ J hq) (fun fl s' hs => ?_) fun e s' hs => hs
  have ret : ∀ {σ' : L2.St} {H' : Hp} {v : V} {u : Value}, Inv (ccx CX P w K mg base N F f A outer s H E) [] σ' H' s' → L2.RelV v u → Q v H' → CE outer P w H s Q u s' :=
    fun {σ' H' v u} I rv q => ⟨v, H', I.os, I.bare, I.base, I.hok, rv, q⟩
  match fl, hs with
  | .ret u, hs =>
    obtain ⟨v, σ', H', I, rv, q⟩ := hs
    exact ret I rv q
  | .next, hs =>
    obtain ⟨σ', H', I, q⟩ := hs
    exact ret (v := V.non) (u := Value.none) I rfl q
  | .brk, hs => obtain ⟨_, _, _, q⟩ := hs; exact q.elim
  | .cont, hs => obtain ⟨_, _, _, q⟩ := hs; exact q.elim
end
end L3

namespace L3
open PySem PySem.Spec PyProof.Rows L2 LamX NdefX
theorem RelS.ext0 {K : PySem.W.Frag} [GG K] {s : LS} {H : Hp} {a : Addr} {φ : Heap → Prop} (r : RelS K s H) (h : H a = Option.some (HO.ext φ)) : s a = none := by
  cases e : s a with
  | none => rfl
  | some o =>
    exfalso
    have q := r a o e
    cases o with
    | lst xs => obtain ⟨us, q, _⟩ := q; rw [h] at q; cases q
    | dK xs => obtain ⟨us, q, _⟩ := q; rw [h] at q; cases q
    | dT xs => obtain ⟨us, q, _⟩ := q; rw [h] at q; cases q
    | ins C xs => obtain ⟨dx, us, q, _⟩ := q; rw [h] at q; cases q
    | tab z => obtain ⟨us, q, _⟩ := q; rw [h] at q; cases q
/-- the table at P tells codes of one name -/
def TabQ (H : Hp) (P : Addr) (q : Str) : Prop := ∃ ps, H P = some (.tbl ps) ∧ TriplesOk ps.toList ∧ ∀ (pos : Pos) (cv : Value), codeAmong pos ps.toList = some cv → ∃ c, cv = .ref c ∧ H c = some (CodeO c q)
/-- from H to H1: the function F was made at f, its code at c -/
structure Made (P : Addr) (q : Str) (f c : Addr) (F : NF) (H H1 : Hp) : Prop where
  nf : H f = none
  tab : TabQ H1 P q
  fn : H1 f = some (FnO f F)
  code : H1 c = some (CodeO c q)
  rest : ∀ b, b ≠ P → H b ≠ none → H1 b = H b
section
variable {X : Cx} {pins : List (Addr × Obj)} {σ : L2.St} {H : Hp} {s : Shared}
theorem ndefX {c P : Addr} {name q : Str} {params : Arguments} {body : List Stmt} {scope : Scope} {pos : Pos} {E Q : Value → Shared → Prop} (I : Inv X pins σ H s) (TB : TabB X.base X.mg c P) (hcode : X.env.code = .ref c) (hq : X.env.qual ++ name = q)
    (hT : TabQ H P q) (hfree : ∀ y ∈ scope.names, y.2 = .free → ∃ c, X.env.cells.lookup y.1 = some c)
    (h : ∀ (f c' : Addr) (H1 : Hp) (s' : Shared), Inv X pins σ H1 s' → Made P q f c' ⟨name, q, params, body, scope, cloFrom X.env.cells scope.names [], c'⟩ H H1 → Q (.ref f) s') :
    wpAny (model X.prog X.w) X.A (makeFunction name q params (.stmts body) scope X.env [] [] [] pos pos.line) Q E s := by
  subst hq
  obtain ⟨ps, hP, tr, cs⟩ := hT
  have hP' : s.heap.get? P = some { cls := .none, data := .fields ps } := (I.hok P _ hP : _)
  have bP : s.heap.BuiltinsAt X.mg P := (TB.bm.keeps I.bk : _)
  cases hc : codeAmong pos ps.toList with
  | some cv =>
    obtain ⟨c', rfl, ho⟩ := cs pos _ hc
    refine PySem.W.makeFunction_hit (mg := X.mg) (c := c) (P := P) (ps := ps) (closure_ok hfree) I.ok.glob (I.mod.glob.keeps I.bk) hcode (TB.code.keeps I.bk) hP' tr hc bP fun ctv doc h' tk hx _ => ?_
    have J : Inv X pins σ H { s with heap := h', toks := tk } := (I.kept hx : _)
    have nF : H h'.objs.size = none := J.hok.fresh (Nat.le_refl _)
    have J2 := inv_fn (F := ⟨name, X.env.qual ++ name, params, body, scope, cloFrom X.env.cells scope.names [], c'⟩) (t' := tk) (doc := doc) (pm := (X.mg "__name__").getD .none) (ctv := ctv) J rfl
    have st : ∀ b o, H b = some o → upd H h'.objs.size (FnO h'.objs.size ⟨name, X.env.qual ++ name, params, body, scope, cloFrom X.env.cells scope.names [], c'⟩) b = some o := fun b o e => by rw [upd_ne (ne_of_none e nF)]; exact e
    exact h _ c' _ _ J2 ⟨nF, ⟨ps, st _ _ hP, tr, fun p v e => by obtain ⟨d, e1, e2⟩ := cs p v e; exact ⟨d, e1, st _ _ e2⟩⟩, upd_same, st _ _ ho, fun b _ hb => upd_ne (by rintro rfl; exact hb nF)⟩
  | none =>
    refine PySem.W.makeFunction_K (mg := X.mg) (c := c) (P := P) (ps := ps) (closure_ok hfree) I.ok.glob (I.mod.glob.keeps I.bk) hcode (TB.code.keeps I.bk) hP' tr hc TB.gP bP fun c' ctv doc h' tk hx hge hlt hrec htb => ?_
    obtain ⟨c2, oc, vs, t, e2, hoc, hd, hv⟩ := hrec
    cases e2
    have nC : H c' = none := I.hok.fresh hge
    have J := inv_table (t' := tk) (more := #[rawInt pos.line, rawInt pos.col, .ref c']) (h' := h') I hP (fun b o hb e => hx b o hb e) htb hge ⟨oc, vs, t, hoc, hd, hv⟩
    have J2 := inv_fn (F := ⟨name, X.env.qual ++ name, params, body, scope, cloFrom X.env.cells scope.names [], c'⟩) (t' := tk) (doc := doc) (pm := (X.mg "__name__").getD .none) (ctv := ctv) J rfl
    have nF1 := (J.hok.fresh (Nat.le_refl _) : _)
    have nF : H h'.objs.size = none := I.hok.fresh (Nat.le_trans hge (Nat.le_of_lt hlt))
    have cf : c' ≠ h'.objs.size := Nat.ne_of_lt hlt
    have pc : P ≠ c' := ne_of_none hP nC
    have pf : P ≠ h'.objs.size := ne_of_none hP nF
    refine h _ c' _ _ J2 ⟨nF, ⟨_, by rw [upd_ne pf, upd_ne pc, upd_same], ?_, fun p v e => ?_⟩, upd_same, by rw [upd_ne cf, upd_same], fun b hb hn => ?_⟩
    · rw [show (ps ++ #[rawInt pos.line, rawInt pos.col, .ref c']).toList = ps.toList ++ [rawInt pos.line, rawInt pos.col, .ref c'] by simp]
      exact PySem.TriplesOk_snoc _ _ _ _ tr
    · rw [show (ps ++ #[rawInt pos.line, rawInt pos.col, .ref c']).toList = ps.toList ++ [rawInt pos.line, rawInt pos.col, .ref c'] by simp] at e
      rcases among_app2 _ tr e with z | ⟨z, _, _⟩
      · obtain ⟨d, e1, e2⟩ := cs p v z
        refine ⟨d, e1, ?_⟩
        have nd : d ≠ P := by
          rintro rfl
          rw [hP] at e2
          exact codeO_ne ps (Option.some.inj e2).symm
        rw [upd_ne (ne_of_none e2 nF), upd_ne (ne_of_none e2 nC), upd_ne nd]
        exact e2
      · exact ⟨c', z, by rw [upd_ne cf, upd_same]⟩
    · rw [upd_ne (by rintro rfl; exact hn nF), upd_ne (by rintro rfl; exact hn nC), upd_ne hb]
end
theorem Made.up {K : PySem.W.Frag} [GG K] {P : Addr} {q : Str} {f c : Addr} {F : NF} {s : LS} {H H1 : Hp} (m : Made P q f c F H H1) (hs : RelS K s H) (hP : s P = some (.tab q)) : Step s H s H1 ∧ RelS K s H1 ∧ s f = none ∧ s c = none := by
  have st : Step s H s H1 := fun a o e n => ⟨⟨o, by rw [m.rest a (by rintro rfl; rw [hP] at n; cases n) (by rw [e]; simp)]; exact e, .refl o⟩, n⟩
  have c0 : ∀ d, H1 d = some (CodeO d q) → s d = none := fun d e => by
    cases z : H d with
    | none => exact hs.free z
    | some o =>
      by_cases hd : d = P
      · subst hd
        obtain ⟨ps, e2, _⟩ := m.tab
        rw [e] at e2
        exact absurd (Option.some.inj e2) (codeO_ne ps)
      · have := m.rest d hd (by rw [z]; simp)
        rw [e] at this
        exact hs.ext0 this.symm
  refine ⟨st, fun a o e => ?_, hs.free m.nf, c0 c m.code⟩
  by_cases ha : a = P
  · subst ha
    rw [hP] at e
    cases e
    obtain ⟨ps, e1, e2, e3⟩ := m.tab
    refine ⟨ps, e1, e2, fun pos cv z => ?_⟩
    obtain ⟨d, z1, z2⟩ := e3 pos cv z
    exact ⟨d, z1, c0 d z2, z2⟩
  · exact (hs a o e).mono st fun u z => by rw [m.rest a ha (by rw [z]; simp)]; exact z
theorem tabQ_of {K : PySem.W.Frag} [GG K] {s : LS} {H : Hp} {P : Addr} {q : Str} (hs : RelS K s H) (h : s P = some (.tab q)) : TabQ H P q := by
  obtain ⟨ps, e1, e2, e3⟩ := hs P _ h
  exact ⟨ps, e1, e2, fun pos cv z => by obtain ⟨c, z1, _, z2⟩ := e3 pos cv z; exact ⟨c, z1, z2⟩⟩
/-- def name(..): within a def: its reading -/
def tDefX (P : Addr) (q : Str) (i : Nat) (mk : Addr → NF) : TS := fun D σ H => TabQ H P q ∧ ∀ (f c : Addr) (H1 : Hp), Made P q f c (mk c) H H1 → i < σ.length → D.nx (σ.set i (some (.ref f))) H1
theorem ps_defX {X : Cx} {st : Stmt} {c P : Addr} {name q : Str} {pos : Pos} {i : Nat} (hst : st = .FunctionDef name (C8.fnArgs st) (C8.fnBody st) [] none [] (C8.fnScope st) none name pos) (TB : TabB X.base X.mg c P) (hcode : X.env.code = .ref c) (hq : X.env.qual ++ name = q)
    (hfree : ∀ y ∈ (C8.fnScope st).names, y.2 = .free → X.env.scope.names.lookup y.1 = some .cell ∨ X.env.scope.names.lookup y.1 = some .free) (hd0 : (C8.fnArgs st).defaults = []) (hk0 : (C8.fnArgs st).kw_defaults = [])
    (ha : annTrees (C8.fnArgs st) none X.env = []) (hN : X.N.Nodup) (hi : X.N[i]? = some name) (hx : Loc X.env.scope name) (hf : X.fn name = true ∨ X.env.scope.names.lookup name = some .local) :
    PS X st (tDefX P q i (NF.of st name q (cloFrom X.env.cells (C8.fnScope st).names []))) := by
  rw [show PS X st = PS X (.FunctionDef name (C8.fnArgs st) (C8.fnBody st) [] none [] (C8.fnScope st) none name pos) from congrArg _ hst]
  refine ⟨fun pins s σ H D I ⟨hT, h⟩ => ?_⟩
  have e : qualnameIn X.env name name = q := by
    rw [← hq]
    have kd : X.env.kindOf name = some .local ∨ X.env.kindOf name = some .cell := hx
    unfold qualnameIn
    rcases kd with k | k <;> rw [k] <;> first | rfl | exact if_neg (by decide)
  refine PySem.W.nestDef_K hd0 hk0 ha ?_
  rw [e]
  exact ndefX I TB hcode hq hT (fun y hy z => (hfree y hy z).elim (fun z => I.ok.has _ (.inl z)) fun z => I.ok.has _ (.inr z)) fun f c' H1 s' J m =>
    store_ok J hN hi hx (v := .ref f) rfl (fun s'' J => ⟨_, _, J, h f c' H1 m (by rw [I.len]; exact (List.getElem?_eq_some_iff.mp hi).1)⟩) hf
structure PSM (X : Cx) (sts : List Stmt) (t : (L2.St → V → Hp → Prop) → L2.St → Hp → Prop) : Prop where
  run : ∀ (pins : List (Addr × Obj)) (s : Shared) (σ : L2.St) (H : Hp) (R : L2.St → V → Hp → Prop), Inv X pins σ H s → t R σ H →
    wpAny (model X.prog X.w) X.A (execs sts X.env) (fun fl s' => ∃ u, fl = .ret u ∧ ∃ v σ' H', Inv X pins σ' H' s' ∧ L2.RelV v u ∧ R σ' v H') X.xe s
section
variable {X : Cx} {st : Stmt} {rest : List Stmt} {t : TS} {e : Expr} {te : TE} {pos : Pos} {u u' : (L2.St → V → Hp → Prop) → L2.St → Hp → Prop}
theorem PSM.imp (h : PSM X rest u) (i : ∀ R σ H, u' R σ H → u R σ H) : PSM X rest u' := ⟨fun pins s σ H R I q => h.run pins s σ H R I (i _ _ _ q)⟩
theorem psm_cons (h1 : PS X st t) (h2 : PSM X rest u) : PSM X (st :: rest) fun R σ H => t { nx := u R, rt := fun _ _ => False } σ H := by
  refine ⟨fun pins s σ H R I h => ?_⟩
  refine wpAny_execs_cons (thn (h1.run pins s σ H _ I h) fun f s1 q => ?_)
  cases f with
  | next =>
    obtain ⟨σ', H', I', q⟩ := q
    exact h2.run pins s1 σ' H' R I' q
  | ret v => obtain ⟨_, _, _, _, _, q⟩ := q; exact q.elim
  | brk => obtain ⟨_, _, _, q⟩ := q; exact q.elim
  | cont => obtain ⟨_, _, _, q⟩ := q; exact q.elim
theorem psm_ret (he : PE X e te) : PSM X [.Return (some e) pos] fun R σ H => te σ H fun v H1 => R σ v H1 := by
  refine ⟨fun pins s σ H R I h => ?_⟩
  refine wpAny_execs_cons (wpAny_Return_some (thn (he.run pins s σ H _ I h) fun v s1 ⟨x, H1, I1, r1, q1⟩ => ?_))
  exact ⟨v, rfl, x, σ, H1, I1, r1, q1⟩
end
/-- what the maker's end asks: the function at f, its captured names' values -/
structure DnM (K : PySem.W.Frag) [GG K] (k : Ck) (js : List Nat) (cl : List (Str × Addr)) (E : LXS) (s : LS) (H : Hp) (Dl : LEnds) (R : L2.St → V → Hp → Prop) : Prop where
  rt : ∀ (xs : List LV) (s' : LS) (σ : L2.St) (H' : Hp) (f c : Addr) (vs : List V), Dl.rt (.clo k xs) s' → Step s H s' H' → RelS K s' H' → H' f = some (k.fo f cl c) → H' c = some (CodeO c k.qual) →
    RVs K s' H' xs vs → js.map (fun j => σ[j]?) = vs.map (fun v => some (some v)) → R σ (.ref f) H'
  ex : ∀ C σl s', Dl.ex C σl s' → E C σl s'
theorem DnM.mono {K : PySem.W.Frag} [GG K] {k : Ck} {js : List Nat} {cl : List (Str × Addr)} {E : LXS} {s s1 : LS} {H H1 : Hp} {Dl : LEnds} {R : L2.St → V → Hp → Prop} (d : DnM K k js cl E s H Dl R) (st : Step s H s1 H1) : DnM K k js cl E s1 H1 Dl R :=
  ⟨fun xs s' σ H' f c vs q st' => d.rt xs s' σ H' f c vs q (st.trans st'), d.ex⟩
def upM (K : PySem.W.Frag) [GG K] (k : Ck) (js : List Nat) (cl : List (Str × Addr)) (s0 : LS) (H0 : Hp) (E : LXS) (t : LTS) : (L2.St → V → Hp → Prop) → L2.St → Hp → Prop := fun R σ H => ∃ σl s Dl, RSt K s H σl σ ∧ RelS K s H ∧ Step s0 H0 s H ∧ t Dl σl s ∧ DnM K k js cl E s H Dl R
def LPM (X : Cx) [GG X.K] (k : Ck) (js : List Nat) (cl : List (Str × Addr)) (sts : List Stmt) (t : LTS) : Prop := ∀ s0 H0 E, Takes X (WL X.K s0 H0 E) → PassesOwn (model X.prog X.w) X.A X.env X.xe → PSM X sts (upM X.K k js cl s0 H0 E t)
/-- within the maker: no other return -/
def lSeqM (t u : LTS) : LTS := fun D σ s => t ⟨u D, fun _ _ => False, fun _ _ => False, fun _ _ => False, D.ex⟩ σ s
section
variable {X : Cx} [GG X.K] {st : Stmt} {rest : List Stmt} {t u : LTS} {k : Ck} {js : List Nat} {cl : List (Str × Addr)}
theorem lpm_cons (h1 : LP X st t) (h2 : LPM X k js cl rest u) : LPM X k js cl (st :: rest) (lSeqM t u) := fun s0 H0 E tk hp =>
  (psm_cons (h1 s0 H0 E tk hp) (h2 s0 H0 E tk hp)).imp fun R σ H ⟨σl, s, Dl, hσ, hs, st, h, d⟩ =>
    ⟨σl, s, _, hσ, hs, st, h, ⟨fun σl1 s1 σ1 H1 h1 st1 hs1 r1 => ⟨σl1, s1, Dl, r1, hs1, st.trans st1, h1, d.mono st1⟩, fun _ _ _ _ z => z.elim, fun _ _ _ _ z => z.elim, fun _ _ _ _ z => z.elim, d.ex⟩⟩
/-- def g(..): .. ; return g -/
def lMade (P : Addr) (k : Ck) (js : List Nat) : LTS := fun D σ s => s P = some (.tab k.qual) ∧ ∃ xs : List LV, js.map (fun j => σ[j]?) = xs.map (fun x => some (some x)) ∧ D.rt (.clo k xs) s
theorem slots_of {K : PySem.W.Frag} [GG K] {s : LS} {H : Hp} {σl : LSt} {σ : L2.St} (hσ : RSt K s H σl σ) : ∀ {js : List Nat} {xs : List LV}, js.map (fun j => σl[j]?) = xs.map (fun x => some (some x)) → ∃ vs : List V, RVs K s H xs vs ∧ js.map (fun j => σ[j]?) = vs.map (fun v => some (some v))
  | [], [], _ => ⟨[], .nil, rfl⟩
  | [], _ :: _, h => by cases h
  | _ :: _, [], h => by cases h
  | j :: js, x :: xs, h => by
    rw [List.map_cons, List.map_cons, List.cons.injEq] at h
    obtain ⟨v, e, r⟩ := hσ.get h.1
    obtain ⟨vs, rs, es⟩ := slots_of hσ h.2
    exact ⟨v :: vs, .cons r rs, by rw [List.map_cons, List.map_cons, e, es]⟩
theorem lpm_made {c P : Addr} {name : Str} {pos p1 p2 : Pos} {i : Nat} (hst : k.st = .FunctionDef name (C8.fnArgs k.st) (C8.fnBody k.st) [] none [] (C8.fnScope k.st) none name pos) (TB : TabB X.base X.mg c P) (hcode : X.env.code = .ref c) (hn : k.name = name) (hq : X.env.qual ++ name = k.qual)
    (hcl : cl = cloFrom X.env.cells (C8.fnScope k.st).names [])
    (hfree : ∀ y ∈ (C8.fnScope k.st).names, y.2 = .free → X.env.scope.names.lookup y.1 = some .cell ∨ X.env.scope.names.lookup y.1 = some .free) (hd0 : (C8.fnArgs k.st).defaults = []) (hk0 : (C8.fnArgs k.st).kw_defaults = [])
    (ha : annTrees (C8.fnArgs k.st) none X.env = []) (hN : X.N.Nodup) (hi : X.N[i]? = some name) (hx : X.env.scope.names.lookup name = some .local) (hj : ∀ j ∈ js, j ≠ i) (hd : (name == ("__debug__" : Str)) = false := by decide) (hcd : (name == ("__classdict__" : Str)) = false := by decide) :
    LPM X k js cl [k.st, .Return (some (.Name name p1)) p2] (lMade P k js) := fun s0 H0 E tk hp =>
  (psm_cons (ps_defX hst TB hcode hq hfree hd0 hk0 ha hN hi (.inl hx) (.inr hx)) (psm_ret (pe_var (i := i) hN' hx' hd hcd))).imp fun R σ H ⟨σl, s, Dl, hσ, hs, st, ⟨hP, xs, e, h⟩, d⟩ => by
    refine ⟨tabQ_of hs hP, fun f c' H1 m hl => ?_⟩
    obtain ⟨st1, hs1, _, _⟩ := m.up hs hP
    obtain ⟨vs, r, es⟩ := slots_of hσ e
    refine ⟨.ref f, by rw [List.getElem?_set_self hl], ?_⟩
    refine d.rt xs s _ H1 f c' vs h st1 hs1 (by subst hn hcl; rw [k.fo_def (by rw [hst]; rfl)]; exact m.fn) m.code (r.mono st1) ?_
    rw [← es]
    exact List.map_congr_left fun j hj' => by rw [List.getElem?_set_ne (Ne.symm (hj j hj'))]
where
  hN' := hi
  hx' : Vis X.env.scope name := .inl hx
end
end L3

namespace L3
open PySem PySem.Spec PyProof.Rows L2 LamX NdefX
theorem hok_cel {P : Program} {w : World} {H : Hp} {h : Heap} {c : Addr} {v : V} {u : Value} (k : HOk P w H h) (n : H c = none) (r : RelV v u) (hc : h.IsCell c (some u)) : HOk P w (upd H c (CelO c v)) h := fun a o e => by
  by_cases ha : a = c
  · subst ha
    rw [upd_same] at e
    cases e
    obtain ⟨o, ho, hd⟩ := hc
    exact ⟨⟨u, r, o, ho, hd⟩, ⟨o, ho⟩, fun h1 h2 ⟨u', r', o', ho', hd'⟩ st => ⟨u', r', o', st _ ho', hd'⟩⟩
  · rw [upd_ne ha] at e
    exact (k a o e).stay (fun _ _ _ q => q) (fun b q => by rw [upd_ne (by rintro rfl; rw [n] at q; cases q)]; exact q) fun b xs q => by rw [upd_ne (by rintro rfl; rw [n] at q; cases q)]; exact q
theorem cells_add {P : Program} {w : World} {H : Hp} {h : Heap} : ∀ (l : List (Addr × V)), (l.map (·.1)).Nodup → HOk P w H h → (∀ p ∈ l, H p.1 = none ∧ ∃ u, RelV p.2 u ∧ h.IsCell p.1 (some u)) →
    ∃ H2, HOk P w H2 h ∧ (∀ p ∈ l, H2 p.1 = some (CelO p.1 p.2)) ∧ ∀ b, b ∉ l.map (·.1) → H2 b = H b
  | [], _, k, _ => ⟨H, k, fun _ h => (nomatch h), fun _ _ => rfl⟩
  | (c, v) :: l, nd, k, hl => by
    rw [List.map_cons, List.nodup_cons] at nd
    obtain ⟨H2, k2, h2, r2⟩ := cells_add l nd.2 k fun p hp => hl p (List.mem_cons_of_mem _ hp)
    obtain ⟨n, u, r, hc⟩ := hl (c, v) List.mem_cons_self
    have n2 : H2 c = none := by rw [r2 c nd.1]; exact n
    refine ⟨upd H2 c (CelO c v), hok_cel k2 n2 r hc, fun p hp => ?_, fun b hb => ?_⟩
    · rcases List.mem_cons.mp hp with rfl | hq
      · exact upd_same
      · rw [upd_ne (fun z => nd.1 (by rw [← z]; exact List.mem_map_of_mem (f := (·.1)) hq))]
        exact h2 p hq
    · rw [List.map_cons, List.mem_cons, not_or] at hb
      rw [upd_ne hb.1]
      exact r2 b hb.2
theorem un_add {fs ex : List Addr} {H H1 H2 : Hp} {h h1 : Heap} {cs : List Addr} (un : Un fs ex H H1 h h1) (r : ∀ b, b ∉ cs → H2 b = H1 b) (n : ∀ c ∈ cs, H1 c = none) (f : ∀ c ∈ cs, h.get? c = none) : Un fs ex H H2 h h1 := by
  have out : ∀ b o, H1 b = some o → b ∉ cs := fun b o e hb => by rw [n b hb] at e; cases e
  exact ⟨un.keep, un.slot, fun b o e n' hx => by rw [r b fun hb => by rw [f b hb] at e; cases e]; exact un.free b o e n' hx, un.there,
    fun b xs e => by have q := un.tups b xs e; rw [r b (out b _ q)]; exact q, fun b o u e => by have q := un.frzs b o u e; rw [r b (out b _ q)]; exact q,
    fun b ps e => by obtain ⟨m, q⟩ := un.tbls b ps e; exact ⟨m, by rw [r b (out b _ q)]; exact q⟩⟩
/-- the captured names, in the order in which they lie -/
def frOf (names : List (Str × NameKind)) : List Str := ((names.filter fun y => y.2 == .free).map (·.1)).reverse
theorem clo_keys (cells : List (Str × Addr)) : ∀ (names : List (Str × NameKind)) (acc : List (Str × Addr)), (cloFrom cells names acc).map (·.1) = frOf names ++ acc.map (·.1)
  | [], acc => rfl
  | (n, k) :: r, acc => by
    unfold cloFrom
    by_cases hk : k == .free
    · rw [if_pos hk, clo_keys cells r]
      simp [frOf, hk]
    · rw [if_neg hk, clo_keys cells r]
      simp [frOf, hk]
theorem RVc.of {K : PySem.W.Frag} [GG K] {s : LS} {H : Hp} : ∀ {xs : List LV} {vs : List V} {cs : List Addr}, RVs K s H xs vs → cs.length = vs.length → (∀ p ∈ cs.zip vs, CelH K s H p.1 p.2) → RVc K s H xs cs
  | [], vs, cs, r, e, _ => by
    simp only [RVs] at r
    subst r
    simp only [RVc]
    exact List.eq_nil_of_length_eq_zero e
  | x :: xs, vs, cs, r, e, hc => by
    simp only [RVs] at r
    obtain ⟨u, vs, rfl, r1, r2⟩ := r
    cases cs with
    | nil => cases e
    | cons c cs =>
      simp only [RVc]
      exact ⟨c, cs, u, rfl, hc (c, u) (by simp), r1, RVc.of r2 (by simpa using e) fun p hp => hc p (by simp [hp])⟩
/-- a def whose code object is known -/
structure FunC (K : PySem.W.Frag) (x qual : Str) (st : Stmt) (f : Addr) (fd : FuncData) (c : Addr) : Prop where
  ex : ∃ (oc : Value) (od : Option Addr) (kV doc pm : Value) (an : Option Addr) (ct : Value) (osl : Array (Option Value)),
    fd = PySem.W.fnOf x qual (defArgs st) (defBody st) (defScope st) .none kV doc pm an (.ref c) ct ∧ K.lookup f = some ⟨oc, od, .func fd, osl⟩ ∧ PySem.W.codeIn K (.ref c) qual = true
theorem funC_mk {K : PySem.W.Frag} {x qual : Str} {st : Stmt} {f c : Addr} {oc : Value} {od an : Option Addr} {osl : Array (Option Value)} {kV doc pm ct : Value} (l : K.lookup f = some ⟨oc, od, .func (PySem.W.fnOf x qual (defArgs st) (defBody st) (defScope st) .none kV doc pm an (.ref c) ct), osl⟩)
    (h : PySem.W.codeIn K (.ref c) qual = true) : FunC K x qual st f (PySem.W.fnOf x qual (defArgs st) (defBody st) (defScope st) .none kV doc pm an (.ref c) ct) c := ⟨⟨oc, od, kV, doc, pm, an, ct, osl, rfl, l, h⟩⟩
/-- the ends of a maker -/
def mEnds (Q : LVK) (E : LX) : LEnds := ⟨fun _ _ => False, fun lv s' => ∃ y s2, Frz lv s' y s2 ∧ Q y s2, fun _ _ => False, fun _ _ => False, fun C _ s' => ∃ s2, Sub s2 s' ∧ E C s2⟩
abbrev mCells (st : Stmt) (si : Shared) : List (Str × Addr) := cellsFrom (si.heap.objs.size + 1) (defScope st).names []
section
variable {P : Program} {w : World} {K : PySem.W.Frag} [GG K] {mg : Str → Option Value} {base : Heap}
theorem FunC.ok {x qual : Str} {st : Stmt} {f c : Addr} {fd : FuncData} {N ps : List Str} {k : Nat} {sp : LSp} {ck : Ck} {js : List Nat} (F : FunC K x qual st f fd c) (S : FnScope N ps (defScope st)) (len : ∀ vs s Q E, sp vs s Q E → vs.length = ps.length)
    (hfr : frOf (C8.fnScope ck.st).names = ck.fr) (nfr : ck.fr.Nodup) (kfr : ∀ y ∈ ck.fr, (defScope st).names.lookup y = some .cell) (hjs : js.map (fun j => N[j]?) = ck.fr.map some)
    (hbody : ∀ (A : Around) (outer : List Env) (si : Shared) (H : Hp) (E : XK), Room k (A.deeper (PyProof.Rows.envOfC qual (defScope st) si.heap.objs.size f (.ref c))) →
      ∃ t, LPM (cxOf (L2.CX P w) P w K mg base N qual (defScope st) f (.ref c) A outer si H E) ck js (cloFrom (mCells st si) (C8.fnScope ck.st).names []) (defBody st) t ∧ ∀ vs s Q E, sp vs s Q E → t (mEnds Q E) (lstart N vs) s) : LFn P w K mg base (k + 1) f fd ps sp := by
  obtain ⟨oc, od, kV, doc, pm, an, ct, osl, rfl, lk, hcd⟩ := F.ex
  have len' : ∀ vs H Q E, dn K sp vs H Q E → vs.length = ps.length := fun vs H Q E ⟨lvs, s, Q0, E0, r, _, h, _⟩ => by rw [r.length]; exact len _ _ _ _ h
  refine ⟨len', fun A outer s H args us vs Q E hr e0 hb r hsp => ?_⟩
  have hl := len' _ _ _ _ hsp
  have KX : K.In s.heap := e0.mod.kin.keeps fun b o e => (e0.bs b o e).1
  have nl : s.heap.NoLimit := e0.mod.nolimit.keeps fun b o e => (e0.bs b o e).1
  refine codeAny_call_function hr.depth (KX _ _ lk) rfl S.co S.gen rfl (PySem.W.codeRec_of KX hcd) (hb _ _ _ _ ?_)
  refine wpAny_newFunctionEnv_cells S.kind (fun ⟨n, v⟩ hy => ?_) fun env he s1 x => ?_
  · rcases S.par n (List.of_mem_zip hy).1 with q | q
    · exact .inl q
    · exact .inr ⟨q, PySem.W.cellsFrom_some _ _ _ (.inl q)⟩
  subst he
  refine ⟨nl.keeps x.toInCall.keep, codeAny_func (show wpAny _ _ (execs (defBody st) _) _ _ _ from ?_)⟩
  obtain ⟨lvs, ls, Q0, E0, rl, hs, h, kq, ke⟩ := hsp
  obtain ⟨t, ht, hbd⟩ := hbody A outer s H E (hr.deeper _)
  have tk := takes_of (X := cxOf (L2.CX P w) P w K mg base N qual (defScope st) f (.ref c) A outer s H E) (E := E) rfl rfl rfl rfl
  have I : Inv (cxOf (L2.CX P w) P w K mg base N qual (defScope st) f (.ref c) A outer s H E) [] (start N vs) H s1 := inv_start S hr.hd e0 hl r x
  have M := ht ls H (fun C σl s' => ∃ s2, Sub s2 s' ∧ E0 C s2) (tk.imp fun cls d σ H' w => by
    obtain ⟨C, σl, s', rfl, rfl, _, hs', st', s2, sb, q⟩ := w
    exact ke C s2 H' q (st'.trans sb.step) (sb.rel hs')) (passes_of rfl)
  let cl := cloFrom (mCells st s) (C8.fnScope ck.st).names []
  have hk : cl.map (·.1) = ck.fr := by rw [show cl.map (·.1) = frOf (C8.fnScope ck.st).names ++ [] from clo_keys _ _ _, List.append_nil, hfr]
  have start_ok : RSt K ls H (lstart N lvs) (start N vs) := by
    unfold lstart
    rw [show start N vs = vs.map some ++ List.replicate (N.length - vs.length) none from rfl, rl.length]
    exact (RSt.vals rl).append (.nones _)
  refine wpAny_mono (M.run [] s1 (start N vs) H (fun σ' v H' => ∃ vs' : List V, js.map (fun j => σ'[j]?) = vs'.map (fun v => some (some v)) ∧ ∀ H2, (cl.map (·.2)).Nodup → (∀ a ∈ cl.map (·.2), H' a = none) → (∀ p ∈ (cl.map (·.2)).zip vs', H2 p.1 = some (CelO p.1 p.2)) →
    (∀ b, b ∉ cl.map (·.2) → H2 b = H' b) → Q v H2) I ⟨lstart N lvs, ls, mEnds Q0 E0, start_ok, hs, .refl _ _, hbd lvs ls Q0 E0 h, fun xs s' σ' H' f' c' vs' hrt st' hs' hf hc' rx hj => ?_, fun _ _ _ z => z⟩) (fun fl s' hfl => ?_) fun e s' he => he
  · refine ⟨vs', hj, fun H2 nd h0 h2 r2 => ?_⟩
    have l1 : cl.length = vs'.length := by
      have e1 := congrArg List.length hj
      have e2 := congrArg List.length hjs
      have e3 := congrArg List.length hk
      simp only [List.length_map] at e1 e2 e3
      omega
    have st2 : Step s' H' s' H2 := fun a o e n => ⟨⟨o, by rw [r2 a fun ha => by rw [h0 a ha] at e; cases e]; exact e, .refl o⟩, n⟩
    have hs2 : RelS K s' H2 := fun a o e => (hs' a o e).mono st2 fun u z => by rw [r2 a fun ha => by rw [h0 a ha] at z; cases z]; exact z
    have rv : RV K s' H2 (.clo ck xs) (.ref f') := by
      simp only [RV]
      refine ⟨f', c', cl, rfl, hs'.ext0 hf, by rw [r2 f' fun ha => by rw [h0 _ ha] at hf; cases hf]; exact hf, hs'.ext0 hc', by rw [r2 c' fun ha => by rw [h0 _ ha] at hc'; cases hc']; exact hc', hk, nd, ?_⟩
      refine RVc.of (rx.mono st2) (by rw [List.length_map]; exact l1) fun p hp => .inl ⟨hs'.free (h0 _ (List.of_mem_zip hp).1), h2 p hp⟩
    obtain ⟨y, s2, fz, q⟩ := hrt
    obtain ⟨a1, a2, a3⟩ := fz K H2 (.ref f') hs2 rv
    exact kq y s2 _ H2 q ((st'.trans st2).trans a3) a2 a1
  · obtain ⟨u, rfl, v, σ', H', J, rv, vs', hj, q⟩ := hfl
    have ecl : ∀ y a, (y, a) ∈ cl → (mCells st s).lookup y = some a ∧ y ∈ ck.fr := fun y a hm => by
      have hy : y ∈ ck.fr := by rw [← hk]; exact List.mem_map_of_mem (f := (·.1)) hm
      refine ⟨?_, hy⟩
      rcases cloFrom_mem hm with z | ⟨_, z⟩
      · cases z
      · obtain ⟨b, hb⟩ := cell_has (n := s.heap.objs.size + 1) (kfr y hy)
        rw [show mCells st s = cellsFrom (s.heap.objs.size + 1) (defScope st).names [] from rfl] at z ⊢
        rw [hb] at z ⊢
        rw [z]; rfl
    have nd : (cl.map (·.2)).Nodup := by
      rw [List.Nodup, List.pairwise_iff_getElem]
      intro i j hi hj2 hij
      rw [List.getElem_map, List.getElem_map]
      rw [List.length_map] at hi hj2
      intro z
      obtain ⟨z1, _⟩ := ecl cl[i].1 cl[i].2 (List.getElem_mem hi)
      obtain ⟨z2, _⟩ := ecl cl[j].1 cl[j].2 (List.getElem_mem hj2)
      rw [z] at z1
      have e := J.ok.inj _ _ _ z1 z2
      have nf := nfr
      rw [← hk, List.Nodup, List.pairwise_iff_getElem] at nf
      have := nf i j (by rw [List.length_map]; exact hi) (by rw [List.length_map]; exact hj2) hij
      rw [List.getElem_map, List.getElem_map] at this
      exact this e
    have h0 : ∀ a ∈ cl.map (·.2), H' a = none := fun a ha => by
      obtain ⟨⟨y, b⟩, hm, rfl⟩ := List.mem_map.mp ha
      exact J.freeC y b (ecl y b hm).1
    have l1 : cl.length = vs'.length := by
      have e1 := congrArg List.length hj
      have e2 := congrArg List.length hjs
      have e3 := congrArg List.length hk
      simp only [List.length_map] at e1 e2 e3
      omega
    have cells : ∀ p ∈ (cl.map (·.2)).zip vs', H' p.1 = none ∧ ∃ u, RelV p.2 u ∧ s'.heap.IsCell p.1 (some u) := fun p hp => by
      refine ⟨h0 _ (List.of_mem_zip hp).1, ?_⟩
      obtain ⟨i, hi, rfl⟩ := List.mem_iff_getElem.mp hp
      rw [List.length_zip, List.length_map, l1, Nat.min_self] at hi
      rw [List.getElem_zip]
      simp only [List.getElem_map]
      have hi' : i < cl.length := by omega
      obtain ⟨z1, z2⟩ := ecl cl[i].1 cl[i].2 (List.getElem_mem hi')
      have ey : ck.fr[i]? = some cl[i].1 := by rw [← hk, List.getElem?_map, List.getElem?_eq_getElem hi']; rfl
      have e2 : (js.map fun j => N[j]?)[i]? = some (some cl[i].1) := by rw [hjs, List.getElem?_map, ey]; rfl
      rw [List.getElem?_map] at e2
      cases ej : js[i]? with
      | none => rw [ej] at e2; cases e2
      | some j =>
        rw [ej] at e2
        have hN : N[j]? = some cl[i].1 := Option.some.inj e2
        have e3 : (js.map fun j => σ'[j]?)[i]? = some (some (some vs'[i])) := by rw [hj, List.getElem?_map, List.getElem?_eq_getElem hi]; rfl
        rw [List.getElem?_map, ej] at e3
        obtain ⟨m, hn, hlk⟩ := J.loc
        obtain ⟨u, ru, l⟩ := hlk j cl[i].1 vs'[i] hN (Option.some.inj e3) (.inr (.inl (kfr _ z2)))
        refine ⟨u, ru, ?_⟩
        rcases l with ⟨z, _⟩ | ⟨_, b, hb, hc⟩
        · have z' : (defScope st).names.lookup cl[i].1 = some .local := z
          rw [kfr _ z2] at z'
          cases z'
        · have hb' : (mCells st s).lookup cl[i].1 = some b := hb
          rw [z1] at hb'
          cases hb'
          exact hc
    have zf : ((cl.map (·.2)).zip vs').map (·.1) = cl.map (·.2) := List.map_fst_zip (by rw [List.length_map]; omega)
    obtain ⟨H2, k2, h2, r2⟩ := cells_add _ (by rw [zf]; exact nd) J.hok cells
    rw [zf] at r2
    refine ⟨v, H2, J.os, J.bare, un_add J.base r2 h0 (fun a ha => ?_), k2, rv, q H2 nd h0 h2 r2⟩
    obtain ⟨⟨y, b⟩, hm, rfl⟩ := List.mem_map.mp ha
    exact Heap.get?_none_of_le (J.ok.cab y b rfl (ecl y b hm).1)
end
end L3

namespace L3
open PySem PySem.Spec PyProof.Rows L2 LamX NdefX
open Classical in
noncomputable def cutP (H : Hp) (C : Addr → Prop) : Hp := fun b => if C b then none else H b
open Classical in
noncomputable def addP (H2 H : Hp) (C : Addr → Prop) : Hp := fun b => if C b then H b else H2 b
theorem cut_in {H : Hp} {C : Addr → Prop} {b : Addr} (h : C b) : cutP H C b = none := by unfold cutP; rw [if_pos h]
theorem cut_out {H : Hp} {C : Addr → Prop} {b : Addr} (h : ¬ C b) : cutP H C b = H b := by unfold cutP; rw [if_neg h]
theorem add_in {H2 H : Hp} {C : Addr → Prop} {b : Addr} (h : C b) : addP H2 H C b = H b := by unfold addP; rw [if_pos h]
theorem add_out {H2 H : Hp} {C : Addr → Prop} {b : Addr} (h : ¬ C b) : addP H2 H C b = H2 b := by unfold addP; rw [if_neg h]
/-- what may be laid aside -/
structure Aside (H : Hp) (C : Addr → Prop) : Prop where
  there : ∀ b, C b → H b ≠ none
  own : ∀ a b, C a → H b = some (.own a) → (∀ y, H a ≠ some (.own y)) → (∀ φ, H a ≠ some (.ext φ)) → C b
  back : ∀ a b, H b = some (.own a) → C b → C a
  notup : ∀ b xs, C b → H b ≠ some (.tup xs)
  nofrz : ∀ b o u, C b → H b ≠ some (.frz o u)
theorem obj_of {P : Program} {w : World} {H : Hp} {h : Heap} {a : Addr} {o : HO} (x : ObjOk P w H h a o) : ∃ ob, h.get? a = some ob := by
  cases o with
  | lst xs => obtain ⟨_, _, _, _, z⟩ := x; exact ⟨_, z⟩
  | tup xs => obtain ⟨_, _, _, ob, z, _⟩ := x; exact ⟨_, z⟩
  | dK kvs => obtain ⟨_, _, _, _, o, _, _, z, _⟩ := x; exact ⟨_, z⟩
  | dT kvs => obtain ⟨_, _, _, _, o, _, _, z, _⟩ := x; exact ⟨_, z⟩
  | set S n => obtain ⟨o, _, _, _, z, _⟩ := x; exact ⟨_, z⟩
  | ins C dx fs => obtain ⟨_, _, _, z, _⟩ := x; exact ⟨_, z⟩
  | own y => exact x
  | xd fs => obtain ⟨_, ⟨_, _, _, z, _⟩, _⟩ := x; exact ⟨_, z⟩
  | rng lo hi => obtain ⟨_, _, _, z⟩ := x; exact ⟨_, z⟩
  | frz ob u => exact ⟨_, x.1⟩
  | tbl ps => exact ⟨_, x⟩
  | met f y => exact ⟨_, x⟩
  | ext φ => exact x.2.1
section
variable {P : Program} {w : World} {K : PySem.W.Frag} {mg : Str → Option Value} {base : Heap} {A : Around} {outer : List Env} {s s' : Shared} {H H2 : Hp} {C : Addr → Prop} {h h' : Heap}
theorem hok_cut (a : Aside H C) (k : HOk P w H h) : HOk P w (cutP H C) h := fun x o e => by
  by_cases hx : C x
  · rw [cut_in hx] at e; cases e
  · rw [cut_out hx] at e
    exact (k x o e).stay (fun _ _ _ q => q) (fun b q => by rw [cut_out fun hb => hx (a.back x b q hb)]; exact q) fun b xs q => by rw [cut_out fun hb => a.notup b xs hb q]; exact q
theorem env0_cut (a : Aside H C) (e : Env0 P w K mg base A outer s H) : Env0 P w K mg base A outer s (cutP H C) :=
  have no : ∀ b, H b = none → cutP H C b = none := fun b n => by
    by_cases hb : C b
    · exact cut_in hb
    · rw [cut_out hb]; exact n
  ⟨e.frames, e.mod, fun b o q => ⟨(e.bs b o q).1, no b (e.bs b o q).2⟩, e.bsz, e.funs, fun b hb => no b (e.frf b hb), hok_cut a e.hok, e.bare⟩
theorem ce_add {Q Q' : VK} {u : Value} (a : Aside H C) (e0 : Env0 P w K mg base A outer s H) (hc : CE outer P w (cutP H C) s Q' u s') (hq : ∀ v H2, Q' v H2 → (∀ c, C c → H2 c = none) → Q v (addP H2 H C)) : CE outer P w H s Q u s' := by
  obtain ⟨v, H2, os, bare, un, hok, r, q⟩ := hc
  have obj : ∀ b o, H b = some o → ∃ ob, s.heap.get? b = some ob := fun b o e => obj_of (e0.hok b o e)
  have ex : ∀ c, C c → ∀ ob, s.heap.get? c = some ob → s'.heap.get? c = some ob := fun c hb ob ho => un.keep c ob ho (cut_in hb) (fun hf => a.there c hb (e0.frf c hf)) (by simp)
  have n2 : ∀ c, C c → H2 c = none := fun c hb => by
    cases z : H c with
    | none => exact absurd z (a.there c hb)
    | some o =>
      obtain ⟨ob, ho⟩ := obj c o z
      exact un.free c ob ho (cut_in hb) (by simp)
  have out : ∀ b, H b = none → ¬ C b := fun b e hb => a.there b hb e
  have ownC : ∀ b y, H2 b = some (.own y) → ¬ C b := fun b y e hb => by rw [n2 b hb] at e; cases e
  refine ⟨v, addP H2 H C, os, bare, ⟨fun b o e n hf hx => ?_, fun b o e n hf hx => ?_, fun b o e n hx => ?_, un.there, fun b xs e => ?_, fun b o u' e => ?_, fun b ps e => ?_⟩, fun x o e => ?_, r, hq v H2 q n2⟩
  · exact un.keep b o e (by rw [cut_out (out b n)]; exact n) hf hx
  · exact un.slot b o e (by rw [cut_out (out b n)]; exact n) hf hx
  · rw [add_out (out b n)]
    exact un.free b o e (by rw [cut_out (out b n)]; exact n) hx
  · have z : ¬ C b := fun hb => a.notup b xs hb e
    rw [add_out z]
    exact un.tups b xs (by rw [cut_out z]; exact e)
  · have z : ¬ C b := fun hb => a.nofrz b o u' hb e
    rw [add_out z]
    exact un.frzs b o u' (by rw [cut_out z]; exact e)
  · by_cases z : C b
    · rw [add_in z]
      exact ⟨#[], by rw [e]; simp⟩
    · rw [add_out z]
      exact un.tbls b ps (by rw [cut_out z]; exact e)
  · by_cases hx : C x
    · rw [add_in hx] at e
      have k := e0.hok x o e
      have tup : ∀ b xs, H b = some (.tup xs) → addP H2 H C b = some (.tup xs) := fun b xs q => by
        have z : ¬ C b := fun hb => a.notup b xs hb q
        rw [add_out z]
        exact un.tups b xs (by rw [cut_out z]; exact q)
      cases o with
      | own y =>
        obtain ⟨ob, ho⟩ := k
        exact ⟨ob, ex x hx ob ho⟩
      | ext φ =>
        obtain ⟨z1, ⟨ob, ho⟩, z3⟩ := k
        exact ⟨z3 _ _ z1 fun o' ho' => ex x hx o' ho', ⟨ob, ex x hx ob ho⟩, z3⟩
      | _ =>
        refine k.stay (fun b u' hb ho => ?_) (fun b q => ?_) tup
        · rcases hb with rfl | hb
          · exact ex b hx u' ho
          · exact ex b (a.own x b hx hb (by rw [e]; simp) (by rw [e]; simp)) u' ho
        · rw [add_in (a.own x b hx q (by rw [e]; simp) (by rw [e]; simp))]; exact q
    · rw [add_out hx] at e
      exact (hok x o e).stay (fun _ _ _ q => q) (fun b q => by rw [add_out (ownC b x q)]; exact q) fun b xs q => by rw [add_out fun hb => by rw [n2 b hb] at q; cases q]; exact q
end
mutual
def ncl : LV → Bool
  | .clo _ _ => false
  | .tup xs => ncls xs
  | .lst xs => ncls xs
  | .dT kvs => nclk kvs
  | .ins _ fs => nclf fs
  | _ => true
def ncls : List LV → Bool
  | [] => true
  | x :: xs => ncl x && ncls xs
def nclk : List (List Key × LV) → Bool
  | [] => true
  | (_, x) :: xs => ncl x && nclk xs
def nclf : List (Str × LV) → Bool
  | [] => true
  | (_, x) :: xs => ncl x && nclf xs
end
def ncld : List (Key × LV) → Bool
  | [] => true
  | (_, x) :: xs => ncl x && ncld xs
def nclO : LO → Bool
  | .lst xs => ncls xs
  | .dK kvs => ncld kvs
  | .dT kvs => nclk kvs
  | .ins _ fs => nclf fs
  | .tab _ => false
/-- from one heap to another: all but cells and functions' codes -/
structure Cut (s : LS) (H : Hp) (s' : LS) (H' : Hp) : Prop where
  at_ : ∀ a o, H a = some o → s a = none → (∀ φ, o ≠ .ext φ) → (∀ y, o ≠ .own y) → H' a = some o ∧ s' a = none
section
variable {K : PySem.W.Frag} [GG K] {s s' : LS} {H H' : Hp}
theorem ScrAt.cut (c : Cut s H s' H') {a : Addr} {ns : List Int} (h : ScrAt K s H a ns) : ScrAt K s' H' a ns := by
  rcases h with ⟨n, h | ⟨o, h⟩⟩ | h
  · obtain ⟨h', n'⟩ := c.at_ a _ h n (fun φ z => by cases z) fun y z => by cases z
    exact .inl ⟨n', .inl h'⟩
  · obtain ⟨h', n'⟩ := c.at_ a _ h n (fun φ z => by cases z) fun y z => by cases z
    exact .inl ⟨n', .inr ⟨o, h'⟩⟩
  · exact .inr h
mutual
theorem RV.cut (c : Cut s H s' H') : ∀ {x : LV} {v : V}, ncl x = true → RV K s H x v → RV K s' H' x v
  | .non, _, _, h => by simpa only [RV] using h
  | .bl _, _, _, h => by simpa only [RV] using h
  | .int _, _, _, h => by simpa only [RV] using h
  | .str _, _, _, h => by simpa only [RV] using h
  | .ty _, _, _, h => by simpa only [RV] using h
  | .ref _, _, _, h => by simpa only [RV] using h
  | .scr _, _, _, h => by
    simp only [RV] at h ⊢
    obtain ⟨a, e, h⟩ := h
    exact ⟨a, e, h.cut c⟩
  | .tup xs, _, n0, h => by
    simp only [RV] at h ⊢
    obtain ⟨a, us, e, n, h, r⟩ := h
    obtain ⟨h', n'⟩ := c.at_ a _ h n (fun φ z => by cases z) fun y z => by cases z
    exact ⟨a, us, e, n', h', RVs.cut c (by simpa only [ncl] using n0) r⟩
  | .lst xs, _, n0, h => by
    simp only [RV] at h ⊢
    obtain ⟨a, us, e, n, h, r⟩ := h
    obtain ⟨h', n'⟩ := c.at_ a _ h n (fun φ z => by cases z) fun y z => by cases z
    exact ⟨a, us, e, n', h', RVs.cut c (by simpa only [ncl] using n0) r⟩
  | .dT kvs, _, n0, h => by
    simp only [RV] at h ⊢
    obtain ⟨a, us, o, e, n, h, d, r⟩ := h
    obtain ⟨h', n'⟩ := c.at_ a _ h n (fun φ z => by subst z; rcases d with d | ⟨_, d⟩ <;> cases d) fun y z => by subst z; rcases d with d | ⟨_, d⟩ <;> cases d
    exact ⟨a, us, o, e, n', h', d, RVk.cut c (by simpa only [ncl] using n0) r⟩
  | .ins C fs, _, n0, h => by
    simp only [RV] at h ⊢
    obtain ⟨a, dx, us, e, n, h, r⟩ := h
    obtain ⟨h', n'⟩ := c.at_ a _ h n (fun φ z => by cases z) fun y z => by cases z
    exact ⟨a, dx, us, e, n', h', RVf.cut c (by simpa only [ncl] using n0) r⟩
  | .clo k xs, _, n0, _ => by simp only [ncl] at n0; cases n0
theorem RVs.cut (c : Cut s H s' H') : ∀ {xs : List LV} {us : List V}, ncls xs = true → RVs K s H xs us → RVs K s' H' xs us
  | [], _, _, h => by simp only [RVs] at h ⊢; exact h
  | x :: xs, _, n0, h => by
    simp only [RVs] at h ⊢
    simp only [ncls, Bool.and_eq_true] at n0
    obtain ⟨u, r, e, h1, h2⟩ := h
    exact ⟨u, r, e, RV.cut c n0.1 h1, RVs.cut c n0.2 h2⟩
theorem RVk.cut (c : Cut s H s' H') : ∀ {xs : List (List Key × LV)} {us : List (List Key × V)}, nclk xs = true → RVk K s H xs us → RVk K s' H' xs us
  | [], _, _, h => by simp only [RVk] at h ⊢; exact h
  | (k, x) :: xs, _, n0, h => by
    simp only [RVk] at h ⊢
    simp only [nclk, Bool.and_eq_true] at n0
    obtain ⟨u, r, e, h1, h2⟩ := h
    exact ⟨u, r, e, RV.cut c n0.1 h1, RVk.cut c n0.2 h2⟩
theorem RVf.cut (c : Cut s H s' H') : ∀ {xs : List (Str × LV)} {us : List (Str × V)}, nclf xs = true → RVf K s H xs us → RVf K s' H' xs us
  | [], _, _, h => by simp only [RVf] at h ⊢; exact h
  | (k, x) :: xs, _, n0, h => by
    simp only [RVf] at h ⊢
    simp only [nclf, Bool.and_eq_true] at n0
    obtain ⟨u, r, e, h1, h2⟩ := h
    exact ⟨u, r, e, RV.cut c n0.1 h1, RVf.cut c n0.2 h2⟩
end
theorem RVd.cut (c : Cut s H s' H') : ∀ {xs : List (Key × LV)} {us : List (Key × V)}, ncld xs = true → RVd K s H xs us → RVd K s' H' xs us
  | [], _, _, h => by simp only [RVd] at h ⊢; exact h
  | (k, x) :: xs, _, n0, h => by
    simp only [RVd] at h ⊢
    simp only [ncld, Bool.and_eq_true] at n0
    obtain ⟨u, r, e, h1, h2⟩ := h
    exact ⟨u, r, e, RV.cut c n0.1 h1, RVd.cut c n0.2 h2⟩
end
theorem ObjR.cut {K : PySem.W.Frag} [GG K] {s s' : LS} {H H' : Hp} {a : Addr} {o : LO} (c : Cut s H s' H') (k : ∀ u, H a = some u → H' a = some u) (n : nclO o = true) (h : ObjR K s H a o) : ObjR K s' H' a o := by
  cases o with
  | lst xs => obtain ⟨us, h, r⟩ := h; exact ⟨us, k _ h, r.cut c n⟩
  | dK xs => obtain ⟨us, h, r⟩ := h; exact ⟨us, k _ h, r.cut c n⟩
  | dT xs => obtain ⟨us, h, r⟩ := h; exact ⟨us, k _ h, r.cut c n⟩
  | ins C xs => obtain ⟨dx, us, h, r⟩ := h; exact ⟨dx, us, k _ h, r.cut c n⟩
  | tab q => cases n
/-- what the callee sees of the store, and what stands behind the call -/
def mergeS (s1 sv s2 : LS) : LS := fun a => if sv a = none then (match s1 a with
  | some o => some o
  | none => s2 a) else s2 a
/-- the running functions' captured cells stand in the base -/
def GIn (K : PySem.W.Frag) [GG K] (base : Heap) : Prop := ∀ c v, GG.cell K c = some v → ∃ o u, base.get? c = some o ∧ o.data = .cell (some u) ∧ RelV v u
def dnC (K : PySem.W.Frag) [GG K] (sp : List LV → LSp) : List (Option V) → Sp := fun ws vs H Q E => ∃ lws wv lvs s Q0 E0, ws = wv.map some ∧ RVs K s H lws wv ∧ RVs K s H lvs vs ∧ RelS K s H ∧ sp lws lvs s Q0 E0 ∧
  (∀ lv s' v H', Q0 lv s' → Step s H s' H' → RelS K s' H' → RV K s' H' lv v → Q v H') ∧ (∀ C s' H', E0 C s' → Step s H s' H' → RelS K s' H' → E (.ref C) none H')
/-- the promise of the function whose object at f is fo, whose code object is at c -/
structure FoOk (P : Program) (w : World) (K : PySem.W.Frag) (mg : Str → Option Value) (base : Heap) (CX : CXT) (k : Nat) (f : Addr) (fo : HO) (c : Addr) (q : Str) (cl : List (Str × Addr)) (ps fr : List Str) (sp : List (Option V) → Sp) : Prop where
  len : ∀ ws vs H Q E, sp ws vs H Q E → vs.length = ps.length
  run : ∀ (A : Around) (outer : List Env) (s : Shared) (H : Hp) (us : List Value) (vs : List V) (ws : List (Option V)) (Q : VK) (E : XK), Room k A → Env0 P w K mg base A outer s H → H f = some fo → H c = some (CodeO c q) →
    CellsAt cl fr ws s.heap H → Vals vs us → sp ws vs H Q E → codeAny (model P w) A (.call (.ref f) ⟨us, []⟩) (CR CX outer P w H s Q E) s
theorem FoOk.of {P : Program} {w : World} {K : PySem.W.Frag} {mg : Str → Option Value} {base : Heap} {CX : CXT} {k : Nat} {f : Addr} {fo : HO} {F : NF} {ps fr : List Str} {sp : List (Option V) → Sp} (h : NOk P w K mg base CX k f F ps fr sp) (e : fo = FnO f F) : FoOk P w K mg base CX k f fo F.c F.qual F.cl ps fr sp :=
  ⟨h.len, by subst e; exact h.run⟩
abbrev CloOk (P : Program) (w : World) (K : PySem.W.Frag) [GG K] (mg : Str → Option Value) (base : Heap) (k : Nat) (ck : Ck) (ps : List Str) (sp : List LV → LSp) : Prop := ∀ (f c : Addr) (cl : List (Str × Addr)), FoOk P w K mg base (L2.CX P w) k f (ck.fo f cl c) c ck.qual cl ps ck.fr (dnC K sp)
def cstart (N : List Str) (vs xs : List LV) : LSt := vs.map some ++ (xs.map some ++ List.replicate (N.length - vs.length - xs.length) none)
section
variable {P : Program} {w : World} {K : PySem.W.Frag} [GG K] {mg : Str → Option Value} {base : Heap}
theorem cloOk_of {ck : Ck} {N ps : List Str} {k : Nat} {sp : List LV → LSp} (S : CScope N ps ck.fr (C8.fnScope ck.st)) (hb : ∀ (cl : List (Str × Addr)) (c : Addr) (doc pm ctv : Value) (us : List Value), us.length = ps.length → bindArgs ((ck.nf cl c).fd doc pm ctv) ⟨us, []⟩ = pure (ps.zip us))
    (len : ∀ xs vs s Q E, sp xs vs s Q E → vs.length = ps.length)
    (hbody : ∀ (f c : Addr) (cl : List (Str × Addr)) (A : Around) (outer : List Env) (si : Shared) (H : Hp) (E : XK), Room k (A.deeper (envC (ck.nf cl c) f si.heap.objs.size)) →
      ∃ t, LPs (ccx (L2.CX P w) P w K mg base N (ck.nf cl c) f A outer si H E) (C8.fnBody ck.st) t ∧ ∀ xs vs s Q E, sp xs vs s Q E → t (lEnds Q E) (cstart N vs xs) s) (hnl : lamOf ck.st = none := by rfl) : CloOk P w K mg base (k + 1) ck ps sp := fun f c cl => by
  refine FoOk.of (nokC_of S (hb cl c) (fun ws vs H Q E ⟨_, _, lvs, s, Q0, E0, _, _, r, _, h, _⟩ => by rw [r.length]; exact len _ _ _ _ _ h) fun A outer si H vs ws Q E hr e0 hf hl h => ?_) (ck.fo_def hnl f cl c)
  obtain ⟨lws, wv, lvs, s, Q0, E0, rfl, rw_, r, hs, h, kq, ke⟩ := h
  obtain ⟨t, ht, hb⟩ := hbody f c cl A outer si H E hr
  have tk := takes_of (X := ccx (L2.CX P w) P w K mg base N (ck.nf cl c) f A outer si H E) (E := E) rfl rfl rfl rfl
  refine ⟨upS K s H (fun C σl s' => ∃ s2, Sub s2 s' ∧ E0 C s2) t, ht s H _ (tk.imp fun cls d σ H' w => ?_) (passes_of rfl), ?_⟩
  · obtain ⟨C, σl, s', rfl, rfl, _, hs', st', s2, sb, q⟩ := w
    exact ke C s2 H' q (st'.trans sb.step) (sb.rel hs')
  · refine ⟨cstart N lvs lws, s, lEnds Q0 E0, ?_, hs, .refl _ _, hb lws lvs s Q0 E0 h, ⟨fun σl s' σ H' ⟨s2, sb, q⟩ st' hs' _ => kq .non s2 .non H' q (st'.trans sb.step) (sb.rel hs') .non, fun lv s' v H' ⟨y, s2, fz, q⟩ st' hs' rv => ?_, fun _ _ _ _ z => z.elim, fun _ _ _ _ z => z.elim, fun _ _ _ z => z⟩⟩
    · unfold cstart
      rw [show startF N vs (wv.map some) = vs.map some ++ (wv.map some ++ List.replicate (N.length - vs.length - (wv.map some).length) none) from rfl, List.length_map, r.length, rw_.length]
      exact (RSt.vals r).append ((RSt.vals rw_).append (.nones _))
    · obtain ⟨a, b, c⟩ := fz K H' v hs' rv
      exact kq y s2 v H' q (st'.trans c) b a
end
theorem RVc.vals {K : PySem.W.Frag} [GG K] {s : LS} {H : Hp} : ∀ {xs : List LV} {cs : List Addr}, RVc K s H xs cs → ∃ vs : List V, RVs K s H xs vs ∧ cs.length = vs.length ∧ ∀ p ∈ cs.zip vs, CelH K s H p.1 p.2
  | [], cs, h => by
    simp only [RVc] at h
    subst h
    exact ⟨[], .nil, rfl, fun _ h => (nomatch h)⟩
  | x :: xs, cs, h => by
    simp only [RVc] at h
    obtain ⟨c, r, u, rfl, h1, h2, h3⟩ := h
    obtain ⟨vs, a1, a2, a3⟩ := RVc.vals h3
    refine ⟨u :: vs, .cons h2 a1, by simp [a2], fun p hp => ?_⟩
    rcases List.mem_cons.mp hp with rfl | hq
    · exact h1
    · exact a3 p hq
theorem lookup_nd {cl : List (Str × Addr)} (nd : (cl.map (·.1)).Nodup) : ∀ {y : Str} {c : Addr}, (y, c) ∈ cl → cl.lookup y = some c := by
  induction cl with
  | nil => intro y c h; cases h
  | cons p r ih =>
    intro y c h
    obtain ⟨n, d⟩ := p
    rw [List.map_cons, List.nodup_cons] at nd
    rw [List.lookup_cons]
    rcases List.mem_cons.mp h with h | h
    · cases h; rw [beq_self_eq_true]
    · have : y ≠ n := fun z => nd.1 (by rw [← z]; exact List.mem_map_of_mem (f := (·.1)) h)
      rw [beq_eq_false_iff_ne.mpr this]
      exact ih nd.2 h
theorem addr_nd {cl : List (Str × Addr)} (nd : (cl.map (·.2)).Nodup) {x y : Str} {c : Addr} (h1 : (x, c) ∈ cl) (h2 : (y, c) ∈ cl) : x = y := by
  induction cl with
  | nil => cases h1
  | cons p r ih =>
    rw [List.map_cons, List.nodup_cons] at nd
    rcases List.mem_cons.mp h1 with h1 | h1 <;> rcases List.mem_cons.mp h2 with h2 | h2
    · rw [← h1] at h2; cases h2; rfl
    · exact absurd (by rw [← h1]; exact List.mem_map_of_mem (f := (·.2)) h2) nd.1
    · exact absurd (by rw [← h2]; exact List.mem_map_of_mem (f := (·.2)) h1) nd.1
    · exact ih nd.2 h1 h2
section
variable {X : Cx} [GG X.K] {pins : List (Addr × Obj)} {σ : L2.St} {H : Hp} {si : Shared}
theorem run_clo {f : Addr} {k : Nat} {ck : Ck} {ps : List Str} {sp : List LV → LSp} {us : List Value} {vs : List V} {xs lvs : List LV} {s sv : LS} {Q : VK} {Q0 : LVK} (F : CloOk X.prog X.w X.K X.mg X.base k ck ps sp) (hr : Room k X.A) (hG : GIn X.K X.base) (nfr : ck.fr.Nodup)
    (I : Inv X pins σ H si) (hs : RelS X.K s H) (rf : RV X.K s H (.clo ck xs) (.ref f)) (ra : RVs X.K s H lvs vs) (r : Vals vs us) (sub : Sub sv s) (n1 : ∀ a o, sv a = some o → nclO o = true) (n2 : ncls xs = true) (n3 : ncls lvs = true)
    (h : sp xs lvs sv Q0 fun _ _ => False) (kq : ∀ lv s2 v H2, Q0 lv s2 → (∀ a, sv a = none → s a ≠ none → s2 a = none) → Step s H (mergeS s sv s2) H2 → RelS X.K (mergeS s sv s2) H2 → RV X.K (mergeS s sv s2) H2 lv v → Q v H2) :
    wpAny (model X.prog X.w) X.A (call (.ref f) us) (EP X pins σ Q) X.xe si := by
  simp only [RV] at rf
  obtain ⟨_, c, cl, e, sf, hf, sc, hc, hk, nd, rc⟩ := rf
  cases e
  obtain ⟨wv, rw_, lw, cw⟩ := rc.vals
  let C2 : Addr → Prop := fun a => (a ∈ cl.map (·.2) ∧ H a ≠ none) ∨ (s a ≠ none ∧ sv a = none)
  let C : Addr → Prop := fun b => C2 b ∨ ∃ a, H b = some (.own a) ∧ C2 a
  have cellE : ∀ a, a ∈ cl.map (·.2) → H a ≠ none → ∃ v, H a = some (CelO a v) := fun a ha hn => by
    obtain ⟨i, hi, rfl⟩ := List.mem_iff_getElem.mp ha
    have hi' : i < ((cl.map (·.2)).zip wv).length := by rw [List.length_zip, ← lw, Nat.min_self]; exact hi
    have := cw _ (List.getElem_mem hi')
    rw [List.getElem_zip] at this
    rcases this with ⟨_, z⟩ | z
    · exact ⟨_, z⟩
    · obtain ⟨o, u, hb, _, _⟩ := hG _ _ z
      exact absurd (I.bs _ o hb).2 hn
  have storeE : ∀ a, s a ≠ none → (∃ xs, H a = some (.lst xs)) ∨ (∃ xs, H a = some (.dK xs)) ∨ (∃ xs, H a = some (.dT xs)) ∨ (∃ D dx xs, H a = some (.ins D dx xs)) ∨ ∃ ps, H a = some (.tbl ps) := fun a hn => by
    cases z : s a with
    | none => exact absurd z hn
    | some o =>
      have q := hs a o z
      cases o with
      | lst xs => obtain ⟨us, q, _⟩ := q; exact .inl ⟨_, q⟩
      | dK xs => obtain ⟨us, q, _⟩ := q; exact .inr (.inl ⟨_, q⟩)
      | dT xs => obtain ⟨us, q, _⟩ := q; exact .inr (.inr (.inl ⟨_, q⟩))
      | ins D xs => obtain ⟨dx, us, q, _⟩ := q; exact .inr (.inr (.inr (.inl ⟨_, _, _, q⟩)))
      | tab z => obtain ⟨us, q, _⟩ := q; exact .inr (.inr (.inr (.inr ⟨_, q⟩)))
  have c2E : ∀ a, C2 a → (∃ φ, H a = some (.ext φ)) ∨ (∃ xs, H a = some (.lst xs)) ∨ (∃ xs, H a = some (.dK xs)) ∨ (∃ xs, H a = some (.dT xs)) ∨ (∃ D dx xs, H a = some (.ins D dx xs)) ∨ ∃ ps, H a = some (.tbl ps) := fun a ha => by
    rcases ha with ⟨h1, h2⟩ | ⟨h1, h2⟩
    · obtain ⟨v, z⟩ := cellE a h1 h2
      exact .inl ⟨_, z⟩
    · exact .inr (storeE a h1)
  have cE : ∀ a, C a → (∃ φ, H a = some (.ext φ)) ∨ (∃ xs, H a = some (.lst xs)) ∨ (∃ xs, H a = some (.dK xs)) ∨ (∃ xs, H a = some (.dT xs)) ∨ (∃ D dx xs, H a = some (.ins D dx xs)) ∨ (∃ ps, H a = some (.tbl ps)) ∨ ∃ y, H a = some (.own y) := fun a ha => by
    rcases ha with ha | ⟨y, hy, _⟩
    · rcases c2E a ha with z | z | z | z | z | z
      · exact .inl z
      · exact .inr (.inl z)
      · exact .inr (.inr (.inl z))
      · exact .inr (.inr (.inr (.inl z)))
      · exact .inr (.inr (.inr (.inr (.inl z))))
      · exact .inr (.inr (.inr (.inr (.inr (.inl z)))))
    · exact .inr (.inr (.inr (.inr (.inr (.inr ⟨y, hy⟩)))))
  have asd : Aside H C := by
    refine ⟨fun b hb z => ?_, fun a b ha hb na ne => ?_, fun a b hb hC => ?_, fun b xs hb z => ?_, fun b o u hb z => ?_⟩
    · rcases cE b hb with ⟨_, q⟩ | ⟨_, q⟩ | ⟨_, q⟩ | ⟨_, q⟩ | ⟨_, _, _, q⟩ | ⟨_, q⟩ | ⟨_, q⟩ <;> rw [q] at z <;> cases z
    · rcases ha with ha | ⟨y, hy, _⟩
      · exact .inr ⟨a, hb, ha⟩
      · exact absurd hy (na y)
    · rcases hC with hC | ⟨y, hy, hC⟩
      · rcases c2E b hC with ⟨_, q⟩ | ⟨_, q⟩ | ⟨_, q⟩ | ⟨_, q⟩ | ⟨_, _, _, q⟩ | ⟨_, q⟩ <;> rw [hb] at q <;> cases q
      · rw [hb] at hy
        cases hy
        exact .inl hC
    · rcases cE b hb with ⟨_, q⟩ | ⟨_, q⟩ | ⟨_, q⟩ | ⟨_, q⟩ | ⟨_, _, _, q⟩ | ⟨_, q⟩ | ⟨_, q⟩ <;> rw [q] at z <;> cases z
    · rcases cE b hb with ⟨_, q⟩ | ⟨_, q⟩ | ⟨_, q⟩ | ⟨_, q⟩ | ⟨_, _, _, q⟩ | ⟨_, q⟩ | ⟨_, q⟩ <;> rw [q] at z <;> cases z
  -- what the store does not hold, and is no cell, is seen
  have seen : ∀ a o, H a = some o → s a = none → (∀ φ, o ≠ .ext φ) → (∀ y, o ≠ .own y) → ¬ C a := fun a o e n ne no hC => by
    rcases hC with (⟨h1, h2⟩ | ⟨h1, _⟩) | ⟨y, hy, _⟩
    · obtain ⟨v, z⟩ := cellE a h1 h2
      rw [e] at z
      exact ne _ (Option.some.inj z)
    · exact h1 n
    · rw [e] at hy
      exact no _ (Option.some.inj hy)
  have held : ∀ a o, sv a = some o → ¬ C a := fun a o e hC => by
    have es : s a = some o := by rcases sub a with z | z <;> rw [e] at z <;> first | cases z | exact z.symm
    rcases hC with (⟨h1, h2⟩ | ⟨_, h2⟩) | ⟨y, hy, _⟩
    · obtain ⟨v, z⟩ := cellE a h1 h2
      have := hs.ext0 z
      rw [es] at this; cases this
    · rw [e] at h2; cases h2
    · rcases storeE a (by rw [es]; simp) with ⟨_, q⟩ | ⟨_, q⟩ | ⟨_, q⟩ | ⟨_, _, _, q⟩ | ⟨_, q⟩ <;> rw [hy] at q <;> cases q
  have svn : ∀ a, s a = none → sv a = none := fun a n => by
    rcases sub a with z | z
    · exact z
    · rw [z]; exact n
  have cut : Cut s H sv (cutP H C) := ⟨fun a o e n ne no => ⟨by rw [cut_out (seen a o e n ne no)]; exact e, svn a n⟩⟩
  have relv : RelS X.K sv (cutP H C) := fun a o e => by
    have es : s a = some o := by rcases sub a with z | z <;> rw [e] at z <;> first | cases z | exact z.symm
    exact (hs a o es).cut cut (fun u z => by rw [cut_out (held a o e)]; exact z) (n1 a o e)
  have noCell : ∀ a, s a = none → (∀ v, ¬ si.heap.IsCell a v) → (∃ φ, H a = some (.ext φ)) → ¬ C a := fun a n nc ⟨φ, hφ⟩ hC => by
    rcases hC with (⟨h1, h2⟩ | ⟨h1, _⟩) | ⟨y, hy, _⟩
    · obtain ⟨v, z⟩ := cellE a h1 h2
      obtain ⟨⟨u, _, hc⟩, _⟩ := I.hok a _ z
      exact nc _ hc
    · exact h1 n
    · rw [hφ] at hy; cases hy
  have fC : ¬ C f := noCell f sf (fun v ⟨o, ho, hd⟩ => by
    obtain ⟨od, fd, sl, hz⟩ := Ck.fo_at I.hok hf
    rw [hz] at ho
    cases ho
    cases hd) ⟨_, hf⟩
  have cC : ¬ C c := noCell c sc (fun v ⟨o, ho, hd⟩ => by
    obtain ⟨⟨oc, us', t, hz, h2, _⟩, _⟩ := I.hok c _ hc
    rw [hz] at ho
    cases ho
    rw [h2] at hd
    cases hd) ⟨_, hc⟩
  have kn : (cl.map (·.1)).Nodup := by rw [hk]; exact nfr
  have cellI : ∀ (i : Nat) (hi : i < cl.length), ∃ (hw : i < wv.length), (∃ u, RelV wv[i] u ∧ si.heap.IsCell cl[i].2 (some u)) ∧ cutP H C cl[i].2 = none := fun i hi => by
    have hw : i < wv.length := by rw [List.length_map] at lw; omega
    have hi' : i < ((cl.map (·.2)).zip wv).length := by rw [List.length_zip, ← lw, Nat.min_self, List.length_map]; exact hi
    have q := cw _ (List.getElem_mem hi')
    rw [List.getElem_zip] at q
    simp only [List.getElem_map] at q
    have hm : cl[i].2 ∈ cl.map (·.2) := List.mem_map_of_mem (f := (·.2)) (List.getElem_mem hi)
    refine ⟨hw, ?_, ?_⟩
    · rcases q with ⟨_, z⟩ | z
      · obtain ⟨⟨u, r1, r2⟩, _⟩ := I.hok _ _ z
        exact ⟨u, r1, r2⟩
      · obtain ⟨o, u, b1, b2, b3⟩ := hG _ _ z
        exact ⟨u, b3, o, I.bk _ _ b1, b2⟩
    · by_cases hn : H cl[i].2 = none
      · by_cases hC : C cl[i].2
        · exact cut_in hC
        · rw [cut_out hC]; exact hn
      · exact cut_in (.inl (.inl ⟨hm, hn⟩))
  have CA : CellsAt cl ck.fr (wv.map some) si.heap (cutP H C) := by
    refine ⟨?_, fun y a e => ?_, fun x y a e1 e2 => addr_nd nd (PySem.mem_of_lookup e1) (PySem.mem_of_lookup e2), fun i y e => ?_⟩
    · rw [List.length_map, ← hk, List.length_map, ← lw, List.length_map]
    · obtain ⟨i, hi, z⟩ := List.mem_iff_getElem.mp (PySem.mem_of_lookup e)
      obtain ⟨hw, ⟨u, _, h2⟩, h3⟩ := cellI i hi
      rw [z] at h2 h3
      exact ⟨h3, _, h2⟩
    · rw [← hk, List.getElem?_map] at e
      cases ei : cl[i]? with
      | none => rw [ei] at e; cases e
      | some p =>
        rw [ei] at e
        obtain ⟨hi, rfl⟩ := List.getElem?_eq_some_iff.mp ei
        obtain rfl : cl[i].1 = y := Option.some.inj e
        obtain ⟨hw, ⟨u, h1, h2⟩, h3⟩ := cellI i hi
        refine ⟨cl[i].2, lookup_nd kn (List.getElem_mem hi), fun v ev => ?_⟩
        rw [List.getElem?_map, List.getElem?_eq_getElem hw] at ev
        cases ev
        exact ⟨u, h1, h2⟩
  refine wpAny_call (codeAny_mono ((F f c cl).run X.A X.stack si (cutP H C) us vs (wv.map some) (fun v H2 => ∃ lv s2, Q0 lv s2 ∧ Step sv (cutP H C) s2 H2 ∧ RelS X.K s2 H2 ∧ RV X.K s2 H2 lv v) (fun _ _ _ => False) hr (env0_cut asd I.env0) (by rw [cut_out fC]; exact hf) (by show cutP H C c = some (CodeO c ck.qual); rw [cut_out cC]; exact hc) CA r
    ⟨xs, wv, lvs, sv, Q0, fun _ _ => False, rfl, rw_.cut cut n2, ra.cut cut n3, relv, h, fun lv s' v H' q st hs rv => ⟨lv, s', q, st, hs, rv⟩, fun _ _ _ z => z.elim⟩) fun res s' hq => ?_)
  cases res with
  | error e =>
    obtain ⟨_, _, _, _, _, _, _, _, _, _, _, _, z⟩ := hq
    exact z.elim
  | ok fl =>
    cases fl with
    | ret u =>
      refine I.after (ce_add asd I.env0 hq fun v H2 ⟨lv, s2, q, st, hs2, rv⟩ nH => ?_)
      have sA : Step s2 H2 (mergeS s sv s2) (addP H2 H C) := fun a o e n => by
        have hC : ¬ C a := fun z => by rw [nH a z] at e; cases e
        refine ⟨⟨o, by rw [add_out hC]; exact e, .refl o⟩, ?_⟩
        unfold mergeS
        split
        · next hv =>
          cases es : s a with
          | none => exact n
          | some o' => exact absurd (.inl (.inr ⟨by rw [es]; simp, hv⟩)) hC
        · exact n
      have sB : Step s H (mergeS s sv s2) (addP H2 H C) := fun a o e n => by
        have m : mergeS s sv s2 a = s2 a := by unfold mergeS; rw [if_pos (svn a n), n]
        rw [m]
        by_cases hC : C a
        · exact ⟨⟨o, by rw [add_in hC]; exact e, .refl o⟩, hs2.free (nH a hC)⟩
        · rw [add_out hC]
          exact st a o (by rw [cut_out hC]; exact e) (svn a n)
      refine kq lv s2 v _ q (fun a h1 h2 => hs2.free (nH a (.inl (.inr ⟨h2, h1⟩)))) sB (fun a o e => ?_) (rv.mono sA)
      unfold mergeS at e
      have viaA : s2 a = some o → ObjR X.K (mergeS s sv s2) (addP H2 H C) a o := fun e => (hs2 a o e).mono sA fun u z => by rw [add_out fun hC => by rw [nH a hC] at z; cases z]; exact z
      split at e
      · next hv =>
        cases es : s a with
        | none => rw [es] at e; exact viaA e
        | some o' =>
          rw [es] at e
          cases e
          exact (hs a o es).mono sB fun u z => by rw [add_in (.inl (.inr ⟨by rw [es]; simp, hv⟩))]; exact z
      · exact viaA e
    | next => exact False.elim hq
    | brk => exact False.elim hq
    | cont => exact False.elim hq
end
theorem foAt_of {X : Cx} {pins : List (Addr × Obj)} {σ : L2.St} {H : Hp} {s : Shared} {k : Ck} {f c : Addr} {cl : List (Str × Addr)} (I : Inv X pins σ H s) (e : H f = some (k.fo f cl c)) : PySem.W.FnAt f s.heap := by
  obtain ⟨od, fd, sl, ho⟩ := Ck.fo_at I.hok e
  exact ⟨_, od, _, sl, ho⟩
/-- x(..), x a name that holds such a function: it sees the part sv of the store -/
def lClo (ck : Ck) (sp : List LV → LSp) (i : Nat) (t : LTA) : LTE := fun σ s Q E => match σ[i]? with
  | some (some (.clo k xs)) => k = ck ∧ ncls xs = true ∧ t σ s (fun vs s1 => ncls vs = true ∧ ∃ sv, Sub sv s1 ∧ (∀ a o, sv a = some o → nclO o = true) ∧
      sp xs vs sv (fun v s2 => (∀ a, sv a = none → s1 a ≠ none → s2 a = none) → Q v (mergeS s1 sv s2)) fun _ _ => False) E
  | _ => False
theorem le_clo {X : Cx} [GG X.K] {ck : Ck} {ps : List Str} {sp : List LV → LSp} {i k : Nat} {x : Str} {e : Expr} {es : List Expr} {p pos : Pos} {t : LTA} (F : CloOk X.prog X.w X.K X.mg X.base k ck ps sp) (hr : Room k X.A) (hG : GIn X.K X.base) (nfr : ck.fr.Nodup)
    (hN : X.N[i]? = some x) (hv : Vis X.env.scope x) (ha : LA X (e :: es) t) (hd : (x == ("__debug__" : Str)) = false := by decide) (hcd : (x == ("__classdict__" : Str)) = false := by decide)
    (he : starEach (e :: es) X.env = (false, eval e X.env) :: starEach es X.env := by rfl) (hpl : (backTo pos (starEach es X.env)).any (·.1) = false := by rfl) : LE X (.Call (.Name x p) (e :: es) [] pos) (lClo ck sp i t) := fun s0 H0 E tk => by
  refine ⟨fun pins si σ H Q I h => ?_⟩
  obtain ⟨σl, s, Q0, E1, hσ, hs, st, hE, h, kq⟩ := h
  unfold lClo at h
  split at h
  case h_2 => exact h.elim
  case h_1 k xs ei =>
    obtain ⟨rfl, n2, h⟩ := h
    obtain ⟨v, ev, rv⟩ := hσ.get ei
    have rv' := rv
    simp only [RV] at rv'
    obtain ⟨f, c, cl, rfl, sf, hf, _⟩ := rv'
    refine wpAny_Call_Name_kw (thn ((pe_var (pos := p) hN hv hd hcd).run pins si σ H (fun v H1 => v = .ref f ∧ H1 = H) I ⟨.ref f, ev, rfl, rfl⟩) fun u s1 ⟨v, H1, I1, r1, q1⟩ => ?_)
    obtain ⟨rfl, rfl⟩ := q1
    obtain rfl : u = Value.ref f := r1
    have at_ : ∀ s' H', Step s H1 s' H' → H' f = some (k.fo f cl c) := fun s' H' st' => by
      obtain ⟨⟨o', h', e'⟩, _⟩ := st' f _ hf sf
      rw [e'.ext] at h'
      exact h'
    refine PySem.W.callWith_F (first := []) (foAt_of I1 hf) (thn ((ha s0 H0 E tk).run pos pins s1 σ H1 (fun vs H' => ∃ lvs s', (ncls lvs = true ∧ ∃ sv, Sub sv s' ∧ (∀ a o, sv a = some o → nclO o = true) ∧
      sp xs lvs sv (fun v s2 => (∀ a, sv a = none → s' a ≠ none → s2 a = none) → Q0 v (mergeS s' sv s2)) fun _ _ => False) ∧ Step s H1 s' H' ∧ RelS X.K s' H' ∧ RVs X.K s' H' lvs vs) I1 ⟨σl, s, _, E1, hσ, hs, st, hE, h, fun lvs s' vs H' q st' hs' r => ⟨lvs, s', q, st', hs', r⟩⟩) fun us s2 ⟨vs, H2, I2, r, q⟩ => ?_) he hpl
    obtain ⟨lvs, s', ⟨n3, sv, sub, n1, hsp⟩, st', hs', ra⟩ := q
    refine ⟨foAt_of I2 (at_ s' H2 st'), show wpAny _ _ (call (.ref f) us) _ _ _ from ?_⟩
    exact run_clo (xs := xs) (lvs := lvs) (s := s') (sv := sv) F hr hG nfr I2 hs' (rv.mono st') ra r sub n1 n2 n3 hsp fun lv s2 v H3 q fr stB hsB rvB => kq lv _ v H3 (q fr) (st'.trans stB) hsB rvB
end L3

namespace L3
open PySem PySem.Spec L2 LamX NdefX
@[reducible] def noGG (K : PySem.W.Frag) : GG K := ⟨fun _ => none⟩
theorem noGG_in {K : PySem.W.Frag} {base : Heap} : @GIn K (noGG K) base := fun _ _ h => by cases h
/-- the makers: code object, table, the made function's qualified name -/
theorem walk_tabs {l : PySem.W.OpenLaw} {q : Program} {loose : List Str} {XP : (Str → Option Value) → Heap → Prop} {YP : World → Heap → Prop} {d : DefRec} {K : Params → PySem.W.Frag} {k : Nat} {x : Str} (hn : l.most = some 63) (hdf : d.params.defaults = []) (hr : Room k callerA)
    (hY : ∀ (w : World) (h : Heap), YP w h → (K w.params).In h)
    (F : ∀ (w : World) (mg : Str → Option Value) (fa : Addr) (h : Heap), YP w h → (K w.params).In h → h.Ns mainGlobals mg → mg d.name = some (.ref fa) →
      ∃ (fd : FuncData) (ts : List (Addr × Addr × Str)), (ts.map (·.2.1)).Nodup ∧ (∀ p ∈ ts, h.get? p.2.1 = some { cls := .none, data := .fields #[] } ∧ (K w.params).lookup p.2.1 = none ∧ PySem.W.codeHdIn (K w.params) p.1 p.2.1 = true) ∧
        (∀ (s : Shared) (u : Value), BindsTo s fd ⟨[u], []⟩ [(x, u)]) ∧
        ∀ base : Heap, (K w.params).In base → base.Ns mainGlobals mg → (∀ p ∈ ts, TabB base mg p.1 p.2.1) → @LFn l.prog w (K w.params) (noGG _) mg base k fa fd [x] (spLaw (ts.map (·.2)))) :
    PySem.W.WalkO q loose XP YP l.row.toRowW d [] (fun f vs => PySem.call f vs) := by
  refine walk_ofTs (n := 63) (k := k) (x := x) (CX := fun w => L2.CX l.prog w) hn (by decide) hdf hr hY (fun w mg fa h Y KX G hmg => ?_) fun _ => law_ends
  obtain ⟨fd, ts, nd, hT, hb, hF⟩ := F w mg fa h Y KX G hmg
  letI := noGG (K w.params)
  have up : ∀ {Pr : Addr × Addr → Prop}, (∀ p ∈ ts, Pr (p.1, p.2.1)) → ∀ p ∈ ts.map (fun p => (p.1, p.2.1)), Pr p := fun h p hp => by
    obtain ⟨q, hq, rfl⟩ := List.mem_map.mp hp
    exact h q hq
  refine ⟨fd, ts.map fun p => (p.1, p.2.1), dn (K w.params) (spLaw (ts.map (·.2))), up fun p hp => (hT p hp).1, up fun p hp => (hT p hp).2.1, up fun p hp => PySem.W.codeHd_of_K KX (hT p hp).2.2, hb, fun H a ns hl _ hH hS => ?_, fun base KB GB TB => hF base KB GB fun p hp => TB (p.1, p.2.1) (List.mem_map_of_mem (f := fun p => (p.1, p.2.1)) hp)⟩
  refine law_starts (ts.map (·.2)) (by rw [List.map_map]; exact nd) H a ns hl (fun p hp => ?_) hS
  obtain ⟨q, hq, rfl⟩ := List.mem_map.mp hp
  exact hH (q.1, q.2.1) (List.mem_map_of_mem (f := fun p => (p.1, p.2.1)) hq)
end L3

namespace L3
open PySem PySem.Spec L2 LamX NdefX
def FrzS (σ : LSt) (s : LS) (σ' : LSt) (s' : LS) : Prop := ∀ (K : PySem.W.Frag) [GG K] H vs, RelS K s H → RSt K s H σ vs → RSt K s' H σ' vs ∧ RelS K s' H ∧ Step s H s' H
def lFrzS (t : LTS) : LTS := fun D σ s => ∃ σ' s', FrzS σ s σ' s' ∧ t D σ' s'
theorem lp_frzS {X : Cx} [GG X.K] {st : Stmt} {t : LTS} (h : LP X st t) : LP X st (lFrzS t) := fun s0 H0 E tk hp => (h s0 H0 E tk hp).imp fun D σ H ⟨σl, s, Dl, hσ, hs, st, ⟨σ', s', fz, h⟩, d⟩ => by
  obtain ⟨a, b, c⟩ := fz X.K H σ hs hσ
  exact ⟨σ', s', Dl, a, b, st.trans c, h, d.mono c⟩
theorem FrzS.refl (σ : LSt) (s : LS) : FrzS σ s σ s := fun K _ H vs hs r => ⟨r, hs, .refl s H⟩
/-- the slot i is frozen -/
theorem FrzS.at_ {σ : LSt} {s s' : LS} {i : Nat} {x y : LV} (e : σ[i]? = some (some x)) (f : Frz x s y s') : FrzS σ s (σ.set i (some y)) s' := fun K _ H vs hs r => by
  obtain ⟨v, ev, rv⟩ := r.get e
  obtain ⟨a, b, c⟩ := f K H v hs rv
  refine ⟨?_, b, c⟩
  have z := (r.mono c).set i a
  obtain ⟨hi, ev⟩ := List.getElem?_eq_some_iff.mp ev
  rw [← ev, List.set_getElem_self] at z
  exact z
theorem merge_put {s1 sv s2 : LS} {l : Addr} {o : LO} (h : sv l ≠ none ∨ s1 l = none) : mergeS s1 sv (put s2 l o) = put (mergeS s1 sv s2) l o := by
  funext a
  unfold mergeS put
  by_cases e : a = l
  · subst e
    rcases h with h | h
    · simp [h]
    · simp [h]
  · simp [e]
theorem merge_self {s1 sv : LS} (h : Sub sv s1) : mergeS s1 sv sv = s1 := by
  funext a
  unfold mergeS
  rcases h a with z | z
  · rw [if_pos z, z]
    cases s1 a <;> rfl
  · by_cases n : sv a = none
    · rw [if_pos n, n]
      cases s1 a <;> rfl
    · rw [if_neg n, z]
theorem put_none {s : LS} {x p : Addr} {o : LO} (h : put s x o p = none) : p ≠ x ∧ s p = none := by
  unfold put at h
  split at h
  · cases h
  · next n => exact ⟨n, h⟩
/-- nothing of the store is seen -/
def noS : LS := fun _ => none
theorem noS_sub {s : LS} : Sub noS s := fun _ => .inl rfl
theorem noS_cl : ∀ a o, noS a = some o → nclO o = true := fun _ _ h => by cases h
/-- one object alone is seen -/
def onlyS (s : LS) (l : Addr) : LS := fun a => if a = l then s a else none
theorem onlyS_sub {s : LS} {l : Addr} : Sub (onlyS s l) s := fun a => by
  unfold onlyS
  split
  · exact .inr rfl
  · exact .inl rfl
theorem onlyS_at {s : LS} {l : Addr} : onlyS s l l = s l := by unfold onlyS; rw [if_pos rfl]
theorem onlyS_cl {s : LS} {l : Addr} {o : LO} (e : s l = some o) (h : nclO o = true) : ∀ a o, onlyS s l a = some o → nclO o = true := fun a u q => by
  unfold onlyS at q
  split at q
  · next z => subst z; rw [e] at q; cases q; exact h
  · cases q
theorem ncls_append : ∀ (xs ys : List LV), ncls (xs ++ ys) = (ncls xs && ncls ys)
  | [], ys => by simp [ncls]
  | x :: xs, ys => by simp [ncls, ncls_append xs ys, Bool.and_assoc]
theorem ncls_map {α : Type} {f : α → LV} (h : ∀ a, ncl (f a) = true) : ∀ xs : List α, ncls (xs.map f) = true
  | [] => by simp [ncls]
  | x :: xs => by simp [ncls, h, ncls_map h xs]
structure T3 (α β γ : Type) where
  a : α
  b : β
  c : γ
deriving DecidableEq
structure T4 (α β γ δ : Type) where
  a : α
  b : β
  c : γ
  d : δ
deriving DecidableEq
section
variable {α β γ δ : Type} [Cod α] [Cod β] [Cod γ] [Cod δ]
instance : Cod (T3 α β γ) := ⟨fun p => .tup [Cod.enc p.a, Cod.enc p.b, Cod.enc p.c], fun p => .tuple [Cod.den p.a, Cod.den p.b, Cod.den p.c], fun p => by simp [Cod.datV], fun p => by simp [PyData.canLay0, PyData.canLayAll0, Cod.can], max (Cod.dep α) (max (Cod.dep β) (Cod.dep γ)) + 1, fun p => by
  simp only [PyData.depth, PyData.depthAll]
  have := Cod.hdep p.a
  have := Cod.hdep p.b
  have := Cod.hdep p.c
  omega, fun p q => by
  cases p; cases q
  simp only [PyData.eqv, PyData.eqvAll, Bool.and_true, Bool.and_eq_true, Cod.eqv, T3.mk.injEq]⟩
instance : Cod (T4 α β γ δ) := ⟨fun p => .tup [Cod.enc p.a, Cod.enc p.b, Cod.enc p.c, Cod.enc p.d], fun p => .tuple [Cod.den p.a, Cod.den p.b, Cod.den p.c, Cod.den p.d], fun p => by simp [Cod.datV], fun p => by simp [PyData.canLay0, PyData.canLayAll0, Cod.can], max (max (Cod.dep α) (Cod.dep β)) (max (Cod.dep γ) (Cod.dep δ)) + 1, fun p => by
  simp only [PyData.depth, PyData.depthAll]
  have := Cod.hdep p.a
  have := Cod.hdep p.b
  have := Cod.hdep p.c
  have := Cod.hdep p.d
  omega, fun p q => by
  cases p; cases q
  simp only [PyData.eqv, PyData.eqvAll, Bool.and_true, Bool.and_eq_true, Cod.eqv, T4.mk.injEq]⟩
theorem isd_enc (s : LS) (a : α) : Isd s (Cod.den a) (Cod.enc a) := isd_of_dat (Cod.datV a)
theorem isd_lst {s : LS} {r : Addr} {xs : List α} (h : s r = some (.lst (xs.map Cod.enc))) : Isd s (Cod.den xs) (.ref r) := by
  show Isd s (.list (xs.map Cod.den)) (.ref r)
  simp only [Isd]
  exact .inr ⟨r, _, rfl, h, isds_of_dat (datVs_enc xs)⟩
theorem isd_t3 {s : LS} {x y z : LV} {a : α} {b : β} {c : γ} (h1 : Isd s (Cod.den a) x) (h2 : Isd s (Cod.den b) y) (h3 : Isd s (Cod.den c) z) : Isd s (Cod.den (T3.mk a b c)) (.tup [x, y, z]) := by
  show Isd s (.tuple [Cod.den a, Cod.den b, Cod.den c]) (.tup [x, y, z])
  simp only [Isd, Isds]
  exact ⟨_, rfl, x, _, rfl, h1, y, _, rfl, h2, z, _, rfl, h3, rfl⟩
theorem isd_t4 {s : LS} {x y z u : LV} {a : α} {b : β} {c : γ} {d : δ} (h1 : Isd s (Cod.den a) x) (h2 : Isd s (Cod.den b) y) (h3 : Isd s (Cod.den c) z) (h4 : Isd s (Cod.den d) u) : Isd s (Cod.den (T4.mk a b c d)) (.tup [x, y, z, u]) := by
  show Isd s (.tuple [Cod.den a, Cod.den b, Cod.den c, Cod.den d]) (.tup [x, y, z, u])
  simp only [Isd, Isds]
  exact ⟨_, rfl, x, _, rfl, h1, y, _, rfl, h2, z, _, rfl, h3, u, _, rfl, h4, rfl⟩
theorem eqL_cod [DecidableEq α] {s : LS} {x y : LV} {a b : α} {Q : LVK} (hd : Cod.dep α ≤ 64) (hx : Isd s (Cod.den a) x) (hy : Isd s (Cod.den b) y) (q : Q (.bl (decide (a = b))) s) : rEqL x y s Q :=
  ⟨_, _, hx, hy, shaped_cod hd a, shaped_cod hd b, by rw [eqv_cod]; exact q⟩
theorem neL_cod [DecidableEq α] {s : LS} {x y : LV} {a b : α} {Q : LVK} (hd : Cod.dep α ≤ 64) (hx : Isd s (Cod.den a) x) (hy : Isd s (Cod.den b) y) (q : Q (.bl (!decide (a = b))) s) : rNeL x y s Q :=
  ⟨_, _, hx, hy, shaped_cod hd a, shaped_cod hd b, by rw [eqv_cod]; exact q⟩
end
end L3

namespace L3
open PySem PySem.Spec PyProof.Rows L2
section
variable {X : Cx} [GG X.K] {e a b o : Expr} {te ta tb : LTE} {pos : Pos} {tg : Expr}
def lNewT : LTE := fun _ s Q _ => ∀ p, s p = none → Q (.ref p) (put s p (.dT []))
def lNewK : LTE := fun _ s Q _ => ∀ p, s p = none → Q (.ref p) (put s p (.dK []))
theorem le_dnewT : LE X (.Dict [] [] pos) lNewT := fun s0 H0 E tk => pe_dnewT.imp fun σ H Q ⟨σl, s, Q0, E1, hσ, hs, st, hE, h, k⟩ p np =>
  k _ _ _ _ (h p (hs.free np)) (.put (.inr np)) (hs.put (.inr np) ⟨[], upd_same, by simp only [RVk]⟩) .ref
theorem le_dnewK : LE X (.Dict [] [] pos) lNewK := fun s0 H0 E tk => pe_dnewK.imp fun σ H Q ⟨σl, s, Q0, E1, hσ, hs, st, hE, h, k⟩ p np =>
  k _ _ _ _ (h p (hs.free np)) (.put (.inr np)) (hs.put (.inr np) ⟨[], upd_same, by simp only [RVd]⟩) .ref
def rInD2 (neg : Bool) : LR2 := fun y x s Q => match y with
  | .tup ks => opt (dicT x s) fun kvs => opt (keysL ks) fun k => Q (.bl (neg.xor (valL kvs k).isSome)) s
  | .int i => opt (dicK x s) fun kvs => Q (.bl (neg.xor (valL kvs (.inl i)).isSome)) s
  | .str z => opt (dicK x s) fun kvs => Q (.bl (neg.xor (valL kvs (.inr z)).isSome)) s
  | _ => False
def rHas (neg : Bool) : R2 := fun y x H Q => ∃ a o, x = .ref a ∧ DGet H a y o ∧ Q (.bl (neg.xor o.isSome)) H
theorem op_has (hu : X.A.units + 1 < cLine) : OpR X (compareOp .In) (rHas false) := by
  intro pins s σ H y x u v Q I ry rx ⟨d, ov, ex, g, q⟩
  subst ex
  obtain rfl : v = Value.ref d := rx
  exact d_in hu I g ry fun s3 I3 => ⟨.bl ov.isSome, H, I3, rfl, by simpa using q⟩
theorem op_hasnt (hu : X.A.units + 1 < cLine) : OpR X (compareOp .NotIn) (rHas true) := by
  intro pins s σ H y x u v Q I ry rx ⟨d, ov, ex, g, q⟩
  subst ex
  obtain rfl : v = Value.ref d := rx
  exact d_notIn hu I g ry fun s3 I3 => ⟨.bl (!ov.isSome), H, I3, rfl, by simpa using q⟩
theorem RVk.has {K : PySem.W.Frag} [GG K] {s : LS} {H : Hp} {kvs : List (List Key × LV)} {us : List (List Key × V)} (k : List Key) (h : RVk K s H kvs us) : (valV us k).isSome = (valL kvs k).isSome := by
  have q := RVk.val k h
  cases e : valL kvs k with
  | none => rw [e] at q; rw [q]; rfl
  | some x => rw [e] at q; obtain ⟨v, e2, _⟩ := q; rw [e2]; rfl
theorem RVd.has {K : PySem.W.Frag} [GG K] {s : LS} {H : Hp} {kvs : List (Key × LV)} {us : List (Key × V)} (k : Key) (h : RVd K s H kvs us) : (valV us k).isSome = (valL kvs k).isSome := by
  have q := RVd.val k h
  cases e : valL kvs k with
  | none => rw [e] at q; rw [q]; rfl
  | some x => rw [e] at q; obtain ⟨v, e2, _⟩ := q; rw [e2]; rfl
theorem up_has {K : PySem.W.Frag} [GG K] {neg : Bool} : Up2 K (rHas neg) (rInD2 neg) := fun y x s H ly lx Q0 Q hs ry rx h k => by
  have plain : ∀ kk : Key, y = kV kk → opt (dicK lx s) (fun kvs => Q0 (.bl (neg.xor (valL kvs kk).isSome)) s) → rHas neg y x H Q := fun kk ey h => by
    obtain ⟨kvs, e, h'⟩ := opt_ok h
    obtain ⟨d, us, _, ed, hh, r⟩ := dicK_ok hs rx e
    subst ey ed
    exact ⟨d, _, rfl, DGet.k hh, by rw [r.has]; exact k _ _ _ _ h' (.refl _ _) hs .bl⟩
  cases ly with
  | tup ks =>
    obtain ⟨kvs, e, h⟩ := opt_ok h
    obtain ⟨kk, e2, h⟩ := opt_ok h
    obtain ⟨d, us, o, rfl, hh, hd, r⟩ := dicT_ok hs rx e
    simp only [RV] at ry
    obtain ⟨t, ts, rfl, _, ht, rt⟩ := ry
    rw [keysL_ok e2 rt] at ht
    exact ⟨d, _, rfl, .inr ⟨us, kk, t, hd.rd hh, rfl, ht, rfl⟩, by rw [r.has]; exact k _ _ _ _ h (.refl _ _) hs .bl⟩
  | int i => exact plain (.inl i) ry.int' h
  | str z => exact plain (.inr z) ry.str' h
  | _ => exact False.elim h
theorem le_inT (hu : X.A.units + 1 < cLine) (ha : LE X a ta) (hb : LE X b tb) (hm : behindInMarks .In b = false) : LE X (.Compare a [.In] [b] pos) (lOp (rInD2 false) ta tb) := le_cmp (op_has hu) up_has ha hb hm
theorem le_ninT (hu : X.A.units + 1 < cLine) (ha : LE X a ta) (hb : LE X b tb) (hm : behindInMarks .NotIn b = false) : LE X (.Compare a [.NotIn] [b] pos) (lOp (rInD2 true) ta tb) := le_cmp (op_hasnt hu) up_has ha hb hm
theorem lt_inT (hu : X.A.units + 1 < cLine) (ha : LE X a ta) (hb : LE X b tb) (hm : behindInMarks .In b = false) : LT X (.Compare a [.In] [b] pos) (lB (lOp (rInD2 false) ta tb)) := lt_cmp (op_has hu) up_has ha hb hm
theorem lt_ninT (hu : X.A.units + 1 < cLine) (ha : LE X a ta) (hb : LE X b tb) (hm : behindInMarks .NotIn b = false) : LT X (.Compare a [.NotIn] [b] pos) (lB (lOp (rInD2 true) ta tb)) := lt_cmp (op_hasnt hu) up_has ha hb hm
/-- the dict is locked for good -/
theorem pe_lockD {t : TE} (h : PE X e t) : PE X e (fun σ H Q => t σ H fun x H1 => ∃ d us, x = .ref d ∧ ((H1 d = some (.dT us) ∧ ∀ od, Q x (upd H1 d (.frz od (.dT us)))) ∨ ∃ od, H1 d = some (.frz od (.dT us)) ∧ Q x H1)) := by
  refine ⟨fun pins s σ H Q I q => thn (h.run pins s σ H _ I q) fun u s1 ⟨x, H1, I1, rx, d, us, ex, q⟩ => ?_⟩
  rcases q with ⟨hd, q⟩ | ⟨od, hd, q⟩
  · obtain ⟨od, I2⟩ := I1.lock hd (by exact True.intro)
    exact ⟨x, _, I2, rx, q od⟩
  · exact ⟨x, _, I1, rx, q⟩
theorem locked {K : PySem.W.Frag} [GG K] {s : LS} {H : Hp} {d : Addr} {us : List (List Key × V)} (od : Obj) (hs : RelS K s H) (hd : H d = some (.dT us)) (n : s d = none) : Step s H s (upd H d (.frz od (.dT us))) ∧ RelS K s (upd H d (.frz od (.dT us))) := by
  have st : Step s H s (upd H d (.frz od (.dT us))) := fun b w e nb => by
    by_cases hb : b = d
    · subst hb
      rw [hd] at e
      cases e
      exact ⟨⟨_, upd_same, .inr (.inl ⟨us, od, rfl, rfl⟩)⟩, nb⟩
    · exact ⟨⟨w, by rw [upd_ne hb]; exact e, .refl w⟩, nb⟩
  exact ⟨st, fun b w e => (hs b w e).mono st fun u z => by rw [upd_ne (by rintro rfl; rw [n] at e; cases e)]; exact z⟩
def keyV : Key → LV
  | .inl i => .int i
  | .inr z => .str z
def keyT (k : List Key) : LV := .tup (k.map keyV)
theorem RVs.keys {K : PySem.W.Frag} [GG K] {s : LS} {H : Hp} : ∀ k : List Key, RVs K s H (k.map keyV) (k.map kV)
  | [] => .nil
  | .inl i :: r => .cons .int (RVs.keys r)
  | .inr i :: r => .cons .str (RVs.keys r)
theorem RelS.tup0 {K : PySem.W.Frag} [GG K] {s : LS} {H : Hp} {a : Addr} {xs : List V} (r : RelS K s H) (h : H a = Option.some (.tup xs)) : s a = none := by
  cases e : s a with
  | none => rfl
  | some o =>
    exfalso
    have q := r a o e
    cases o with
    | lst xs => obtain ⟨us, q, _⟩ := q; rw [h] at q; cases q
    | dK xs => obtain ⟨us, q, _⟩ := q; rw [h] at q; cases q
    | dT xs => obtain ⟨us, q, _⟩ := q; rw [h] at q; cases q
    | ins C xs => obtain ⟨dx, us, q, _⟩ := q; rw [h] at q; cases q
    | tab z => obtain ⟨us, q, _⟩ := q; rw [h] at q; cases q
theorem RVk.get {K : PySem.W.Frag} [GG K] {s : LS} {H : Hp} : ∀ {kvs : List (List Key × LV)} {us : List (List Key × V)} {i : Nat} {k : List Key} {v : V}, RVk K s H kvs us → us[i]? = some (k, v) → ∃ x, kvs[i]? = some (k, x) ∧ RV K s H x v
  | [], _, _, _, _, h, e => by simp only [RVk] at h; subst h; simp at e
  | (j, y) :: kvs, _, 0, k, v, h, e => by
    simp only [RVk] at h
    obtain ⟨u, r, rfl, h1, _⟩ := h
    simp at e
    obtain ⟨rfl, rfl⟩ := e
    exact ⟨y, rfl, h1⟩
  | (j, y) :: kvs, _, i + 1, k, v, h, e => by
    simp only [RVk] at h
    obtain ⟨u, r, rfl, _, h2⟩ := h
    obtain ⟨x, a, b⟩ := RVk.get (i := i) h2 (by simpa using e)
    exact ⟨x, by simpa using a, b⟩
def iKeysT (te : LTE) : LTI := fun σ s Q E => te σ s (fun x s1 => match x with
  | .dT kvs => Q (kvs.map fun p => keyT p.1) (fun _ => True) s1
  | _ => False) E
theorem it_keys {K : PySem.W.Frag} [GG K] {d : Addr} {od : Obj} {kvs : List (List Key × LV)} {us : List (List Key × V)} {s1 : LS} {H1 : Hp} (hd : H1 d = some (.frz od (.dT us))) (n : s1 d = none) (r : RVk K s1 H1 kvs us) : ItR K (Itkt d od us) (kvs.map fun p => keyT p.1) (fun _ => True) s1 H1 := by
  have at_ : ∀ s H, Step s1 H1 s H → H d = some (.frz od (.dT us)) := fun s H st => by
    obtain ⟨⟨o', h', e⟩, _⟩ := st d _ hd n
    rw [e.frz] at h'
    exact h'
  have ln : us.length = kvs.length := r.length
  refine ⟨fun i s H hi st hs _ => ⟨at_ s H st, by rw [ln]; simpa using hi⟩, fun s H st hs _ => ⟨at_ s H st, by rw [ln]; simp⟩, fun i s H x H' hi st hs _ y => ?_⟩
  obtain ⟨rfl, k, v, q, hk, rfl, hq⟩ := y
  obtain ⟨lx, e, _⟩ := r.get hk
  refine ⟨keyT k, by rw [List.getElem?_map, e]; rfl, ?_, .refl _ _, hs⟩
  simp only [keyT, RV]
  exact ⟨q, _, rfl, hs.tup0 hq, hq, RVs.keys k⟩
theorem li_keys (he : LE X e te) : LI X tg e (iKeysT te) := fun s0 H0 E tk => (pi_keys (pe_lockD (he s0 H0 E tk))).imp fun σ H R ⟨σl, s, Q0, E1, hσ, hs, st, hE, h, k⟩ => ⟨σl, s, _, E1, hσ, hs, st, hE, h, fun lx s1 x H1 h st1 hs1 rx => by
  cases lx with
  | dT kvs =>
    simp only [RV] at rx
    obtain ⟨d, us, o, rfl, n, hh, isd, r⟩ := rx
    rcases isd with rfl | ⟨od, rfl⟩
    · refine ⟨d, us, rfl, .inl ⟨hh, fun od => ⟨d, od, rfl, .inr ⟨us, upd_same, ?_⟩⟩⟩⟩
      obtain ⟨st2, hs2⟩ := locked od hs1 hh n
      exact k _ _ _ _ _ h (st1.trans st2) hs2 (it_keys upd_same n (r.mono st2))
    · exact ⟨d, us, rfl, .inr ⟨od, hh, d, od, rfl, .inr ⟨us, hh, k _ _ _ _ _ h st1 hs1 (it_keys hh n r)⟩⟩⟩
  | _ => exact False.elim h⟩
end
/-- each turn a new tuple of the key's own tuple and the value -/
def Itit (d : Addr) (o : Obj) (kvs : List (List Key × V)) : It :=
  ⟨fun i H => H d = some (.frz o (.dT kvs)) ∧ i < kvs.length, fun i H x H' => ∃ T k v q, kvs[i]? = some (k, v) ∧ x = .ref T ∧ H T = none ∧ H q = some (.tup (k.map kV)) ∧ H' = upd H T (.tup [.ref q, v]), fun i H => H d = some (.frz o (.dT kvs)) ∧ kvs.length ≤ i⟩
section
variable {P : Program} {w : World} {K : PySem.W.Frag} {d : Addr} {o : Obj} {es : Array DictEntry} {ep : Nat}
theorem frzT2 {X : Cx} {pins : List (Addr × Obj)} {σ : L2.St} {H : Hp} {s : Shared} {kvs : List (List Key × V)} (I : L2.Inv X pins σ H s) (h : H d = some (.frz o (.dT kvs))) :
    (d == sysModules) = false ∧ s.heap.get? d = some o ∧ o.ExactDict ∧ ∃ (es : Array DictEntry) (ep : Nat), o.data = .dict es ep ∧ es.size = kvs.length ∧
      ∀ (i : Nat) (k : List Key) (v : V), kvs[i]? = some (k, v) → ∃ (en : DictEntry) (q : Addr), es[i]? = some en ∧ en.key = .ref q ∧ H q = some (.tup (k.map kV)) ∧ L2.RelV v en.val := by
  obtain ⟨hd, z, hs, xs, pr, o', es, ep, ho, hx, hdt, he, _⟩ := I.hok d _ h
  rw [hd] at ho
  cases ho
  refine ⟨hs, hd, hx, es, ep, hdt, ?_, fun i k v e => ?_⟩
  · rw [size_of_entries he, Paired.length pr]
  · obtain ⟨b, hb, e1, e2, e3⟩ := paired_get pr e
    have q := entry_at he i
    rw [hb] at q
    exact ⟨_, b.2.1, q, rfl, e2, e3⟩
theorem turn_itemsT {kvs : List (List Key × V)} {elts : List Expr} {kk : Nat} {tpos : Pos} (it : Addr) (hod : o.data = .dict es ep) :
    Turn P w K (.Tuple elts kk tpos) (Itit d o kvs) [it] it (fun i h => ∃ ok ov, IsItemIter h it d i kvs.length ep ok ov) where
  mem := by simp
  obj := fun i h st b hb => by
    obtain rfl : b = it := by simpa using hb
    obtain ⟨ok, ov, e⟩ := st
    exact ⟨_, e, fun v z => (nomatch z)⟩
  keep := fun i h h' st k => st.elim fun ok ⟨ov, e⟩ => ⟨ok, ov, k it (by simp) _ e⟩
  item := by
    intro X hP hw hK hc i pins s σ H E I hf st ⟨hd, hi⟩
    subst hP hw hK
    obtain ⟨hs, hgd, hx, es', ep', hdt, hsz, ent⟩ := frzT2 I hd
    obtain ⟨rfl, rfl⟩ := dict_ep hod hdt
    obtain ⟨⟨k, v⟩, hkv⟩ : ∃ p, kvs[i]? = some p := ⟨kvs[i], List.getElem?_eq_getElem hi⟩
    obtain ⟨en, q, hen, hkey, hq, rv⟩ := ent i k v hkv
    obtain ⟨ok, ov, he⟩ := st
    rw [← hsz] at he
    have hlt : it < s.heap.objs.size := Heap.lt_size he
    have hie : i < es'.size := by rw [hsz]; exact hi
    rw [Array.getElem?_eq_getElem hie] at hen
    obtain rfl : es'[i] = en := Option.some.inj hen
    refine DT.nextI he ⟨o, hgd, hx, hdt⟩ hie fun h' ho hT hz hk => ⟨_, rfl, wpAny_letOwnedTupleGo_items (s := { s with heap := h' }) ho fun h2 he2 sb => ?_⟩
    have hT2 : h2.get? s.heap.objs.size = some { cls := .type "tuple", data := .seq #[es'[i].key, es'[i].val] } := (sb.2 _ (Nat.ne_of_gt hlt)).trans hT
    have new : ObjOk X.prog X.w (upd H s.heap.objs.size (.tup [.ref q, v])) h2 s.heap.objs.size (.tup [.ref q, v]) :=
      ⟨by show 2 ≤ sizeLine; decide, [es'[i].key, es'[i].val], .cons hkey (.cons rv .nil), ⟨_, hT2, rfl, _, rfl⟩⟩
    have J := I.turnedNew (t' := s.toks) (ch := [it]) (fun b ob hb e => (sb.2 b (by simpa using hb)).trans (hk b ob (by simpa using hb) e)) hf (Nat.le_refl _) new
    refine ⟨.ref s.heap.objs.size, _, J, rfl, ⟨_, k, v, q, hkv, rfl, I.hok.fresh (Nat.le_refl _), hq, rfl⟩, ⟨_, _, by rw [← hsz]; exact he2⟩, fun b hb => ?_⟩
    obtain rfl : b = it := by simpa using hb
    rw [upd_ne (Nat.ne_of_lt hlt)]
    exact (hf b (by simp)).1
  done := by
    intro X hP hw hK hc i pins s σ H E I hf st ⟨hd, hi⟩
    subst hP hw hK
    obtain ⟨f0, f1, f2, f3, f4, f5⟩ := hf it (by simp)
    obtain ⟨hs, hgd, hx, es', ep', hdt, hsz, ent⟩ := frzT2 I hd
    obtain ⟨rfl, rfl⟩ := dict_ep hod hdt
    obtain ⟨ok, ov, he⟩ := st
    rw [← hsz] at he
    exact DT.endI (I.ok.hd hc) he ⟨o, hgd, hx, hdt⟩ (by rw [hsz]; exact hi) fun h' eb => ⟨rfl, I.turned (t' := s.toks) (fun b ob hb e => eb b ob hb e) f0 f1 f3 f4 f5⟩
  self := fun A i s Q E st h => st.elim fun _ ⟨_, e⟩ => PySem.W.kcp_self e h
end
section
variable {X : Cx} {e : Expr} {td : TE} {apos cpos : Pos}
theorem pi_itemsT {elts : List Expr} {kk : Nat} {tpos : Pos} (he : PE X e td) (hbase : attributeBase e "items" X.env (eval e X.env) = eval e X.env := by rfl) (hline : (apos.endLine == cpos.line) = true := by rfl) :
    PI X (.Tuple elts kk tpos) (.Call (.Attribute e "items" apos) [] [] cpos) (fun σ H R => td σ H fun x H1 => ∃ d o kvs, x = .ref d ∧ H1 d = some (.frz o (.dT kvs)) ∧ R (Itit d o kvs) H1) := by
  refine ⟨fun pins s σ H R I h => ?_⟩
  refine wpAny_Call_method (T := "dict") (id := "dict.items") hbase rfl hline F.plainAttrs_dict F.slot_dict_items F.type_dict_items (thn (he.run pins s σ H _ I h) fun u s1 ⟨x, H1, J, rx, d, o, kvs, ex, hd, q⟩ => ?_)
  subst ex
  obtain rfl : u = Value.ref d := rx
  obtain ⟨hs, hgd, hx, es, ep, hdt, hsz, ent⟩ := frzT2 J hd
  have raw : DT.Raw s1.heap d es ep := ⟨o, hgd, hx, hdt⟩
  refine ⟨raw.typeIs, fun b q => ?_, ?_⟩
  · cases q
    exact ⟨o, hgd, hx.2.1⟩
  have J2 : L2.Inv X pins σ H1 { s1 with heap := s1.heap.push { cls := .type "dict_items", data := .fields #[.ref d] } } := J.kept (t' := s1.toks) fun b o q => Heap.get?_push_of_some _ q
  have fin : wpAny (model X.prog X.w) X.A (pyIter (.ref s1.heap.objs.size)) (PIE X pins σ (.Tuple elts kk tpos) R) X.xe { s1 with heap := s1.heap.push { cls := .type "dict_items", data := .fields #[.ref d] } } := by
    refine DT.iterI (d := d) ⟨_, Heap.get?_push_size _ rfl, rfl, rfl⟩ (raw.push _) (pi_one (tk := s1.toks) J2 _ (turn_itemsT _ hdt) ⟨.none, .none, ?_⟩ q)
    rw [hsz]
    exact Heap.get?_push_size _ rfl
  show wpAny _ _ (callWith cpos (.builtin "dict.items") [.ref d] [] []) _ X.xe s1
  exact method_meetsIn F.slot_dict_items F.entry_dict_items rfl (PySem.evalArgs_none ⟨rfl, raw.typeIs, F.args_dict_items_1 _, _, DT.meetsItems (es := es) (ep := ep) hs, raw, fin⟩)
end
section
variable {X : Cx} [GG X.K] {e : Expr} {te : LTE} {apos cpos : Pos}
def iItemsT (te : LTE) : LTI := fun σ s Q E => te σ s (fun x s1 => match x with
  | .dT kvs => Q (kvs.map fun p => .tup [keyT p.1, p.2]) (fun _ => True) s1
  | _ => False) E
theorem it_items {K : PySem.W.Frag} [GG K] {d : Addr} {od : Obj} {kvs : List (List Key × LV)} {us : List (List Key × V)} {s1 : LS} {H1 : Hp} (hd : H1 d = some (.frz od (.dT us))) (n : s1 d = none) (r : RVk K s1 H1 kvs us) : ItR K (Itit d od us) (kvs.map fun p => .tup [keyT p.1, p.2]) (fun _ => True) s1 H1 := by
  have at_ : ∀ s H, Step s1 H1 s H → H d = some (.frz od (.dT us)) := fun s H st => by
    obtain ⟨⟨o', h', e⟩, _⟩ := st d _ hd n
    rw [e.frz] at h'
    exact h'
  have ln : us.length = kvs.length := r.length
  refine ⟨fun i s H hi st hs _ => ⟨at_ s H st, by rw [ln]; simpa using hi⟩, fun s H st hs _ => ⟨at_ s H st, by rw [ln]; simp⟩, fun i s H x H' hi st hs _ y => ?_⟩
  obtain ⟨T, k, v, q, hk, rfl, nT, hq, rfl⟩ := y
  obtain ⟨lx, e, rv⟩ := (r.mono st).get hk
  have st2 : Step s H s (upd H T (.tup [.ref q, v])) := Step.new hs nT
  refine ⟨.tup [keyT k, lx], by rw [List.getElem?_map, e]; rfl, ?_, st2, RelS.new hs nT⟩
  refine RVs.tupAt hs nT (.cons ?_ (.cons rv .nil))
  simp only [keyT, RV]
  exact ⟨q, _, rfl, hs.tup0 hq, hq, RVs.keys k⟩
theorem li_items {elts : List Expr} {kk : Nat} {tpos : Pos} (he : LE X e te) (hbase : attributeBase e "items" X.env (eval e X.env) = eval e X.env := by rfl) (hline : (apos.endLine == cpos.line) = true := by rfl) :
    LI X (.Tuple elts kk tpos) (.Call (.Attribute e "items" apos) [] [] cpos) (iItemsT te) := fun s0 H0 E tk => (pi_itemsT (pe_lockD (he s0 H0 E tk)) hbase hline).imp fun σ H R ⟨σl, s, Q0, E1, hσ, hs, st, hE, h, k⟩ => ⟨σl, s, _, E1, hσ, hs, st, hE, h, fun lx s1 x H1 h st1 hs1 rx => by
  cases lx with
  | dT kvs =>
    simp only [RV] at rx
    obtain ⟨d, us, o, rfl, n, hh, isd, r⟩ := rx
    rcases isd with rfl | ⟨od, rfl⟩
    · refine ⟨d, us, rfl, .inl ⟨hh, fun od => ⟨d, od, us, rfl, upd_same, ?_⟩⟩⟩
      obtain ⟨st2, hs2⟩ := locked od hs1 hh n
      exact k _ _ _ _ _ h (st1.trans st2) hs2 (it_items upd_same n (r.mono st2))
    · exact ⟨d, us, rfl, .inr ⟨od, hh, d, od, us, rfl, hh, k _ _ _ _ _ h st1 hs1 (it_items hh n r)⟩⟩
  | _ => exact False.elim h⟩
end
end L3

namespace DTE
open PySem PySem.W PySem.Calls PyProof.Rows PyProof.V PySem.Spec
section
variable {prog : Program} {w : World} {κ : Type} [DecidableEq κ] {kd : HeapKind prog w κ} {A : Around} {E : Value → Shared → Prop} {s : Shared}
def Hit (prog : Program) (w : World) (A : Around) (s : Shared) (ys : List (κ × Addr × Value)) (x : κ × Addr × Value) (t : Bool) : Prop := match atKey ys x.1 with
  | none => t = false
  | some p => SeqAt.EqP prog w A s x.2.2 p.2 t
theorem same_tups {nm : String} {da db : Addr} {xs ys : List (κ × Addr × Value)} {tell : κ → Bool} {Q : Bool → Shared → Prop} (hu : kd.room A) (sa : (da == sysModules) = false) (sb : (db == sysModules) = false)
    (dA : s.heap.DictOfH kd da xs) (dB : s.heap.DictOfH kd db ys) (hits : ∀ x ∈ xs, Hit prog w A s ys x (tell x.1)) (h : Q (xs.length == ys.length && xs.all fun x => tell x.1) s) :
    wpAny (model prog w) A (Builtin.Dict.samePairs nm da db) Q E s := by
  obtain ⟨o1, e1, p1, g1, _, t1, l1, k1, _⟩ := dA
  obtain ⟨o2, e2, p2, g2, _, t2, l2, k2, n2⟩ := dB
  have z1 := size_of_entries l1
  have z2 := size_of_entries l2
  have no1 : ¬(da == sysModules) = true := fun q => by rw [sa] at q; cases q
  have no2 : ¬(db == sysModules) = true := fun q => by rw [sb] at q; cases q
  unfold Builtin.Dict.samePairs Builtin.Dict.showsAll
  simp only [if_neg no1, if_neg no2]
  refine wpAny_bind (wpAny_pure (wpAny_bind (wpAny_pure (wpAny_bind (wpAny_dictEntries g1 t1 ?_)))))
  refine wpAny_bind (wpAny_dictEntries g2 t2 ?_)
  by_cases en : e1.size = e2.size
  · have hl : xs.length = ys.length := by omega
    rw [hl, beq_self_eq_true, Bool.true_and] at h
    rw [if_neg (fun q => by rw [en] at q; simp at q)]
    refine wpAny_bind (wpAny_dictEpoch g1 t1 (wpAny_bind ?_))
    simp only [Std.Legacy.Range.forIn_eq_forIn_range', Std.Legacy.Range.size, Nat.sub_zero, Nat.add_sub_cancel, Nat.div_one]
    refine wpAny_forIn_list _ (fun rest q s' => s' = s ∧ q = (none, ()) ∧ ∃ i, rest = List.range' i (xs.length - i) ∧ i ≤ xs.length ∧ (xs.take i).all (fun x => tell x.1) = true) _ (fun j rest q s' ⟨es, eq, i, er, hi, al⟩ => ?_) (fun q s' ⟨es, eq, i, er, hi, al⟩ => ?_) _ _ ⟨rfl, rfl, 0, by simp [z1], Nat.zero_le _, by simp⟩
    · subst es eq
      obtain ⟨m, hm⟩ : ∃ m, xs.length - i = m + 1 := ⟨xs.length - i - 1, by
        cases q : xs.length - i with
        | zero => rw [q] at er; simp at er
        | succ m => rfl⟩
      rw [hm, List.range'_succ] at er
      obtain ⟨rfl, rr⟩ := List.cons.inj er
      have lt : j < xs.length := by omega
      obtain ⟨x, hx⟩ : ∃ x, xs[j]? = some x := ⟨xs[j], List.getElem?_eq_getElem lt⟩
      have mx : x ∈ xs := List.mem_of_getElem? hx
      have ej : e1[j]? = some (entryOfKey kd x) := by rw [entry_at l1 j, hx]; rfl
      have hit := hits x mx
      unfold Hit at hit
      have split : xs = xs.take j ++ x :: xs.drop (j + 1) := by
        obtain ⟨lt', rfl⟩ := List.getElem?_eq_some_iff.mp hx
        rw [← List.drop_eq_getElem_cons lt', List.take_append_drop]
      have stop : tell x.1 = false → xs.all (fun x => tell x.1) = false := fun t => by rw [split, List.all_append, List.all_cons, t, Bool.false_and, Bool.and_false]
      have go : tell x.1 = true → (xs.take (j + 1)).all (fun x => tell x.1) = true := fun t => by
        rw [List.take_add_one, hx, List.all_append, al]; simp [t]
      refine wpAny_bind (wpAny_dictEntries g1 t1 ?_)
      rw [ej]
      refine wpAny_bind (wpAny_holding (wpAny_bind (wpAny_dictFind_heap hu (k1 x mx) g2 t2 l2 k2 n2 (fun no => ?_) fun m p hp => ?_)))
      · rw [atKey_none_of_get no] at hit
        refine wpAny_pure ?_
        show wpAny _ _ (if (!false) = true then _ else _) _ _ _
        rw [stop hit] at h
        exact wpAny_pure (wpAny_pure h)
      · rw [atKey_of_get n2 hp] at hit
        have em : e2[m]? = some (entryOfKey kd (x.1, p)) := by rw [entry_at l2 m, hp]; rfl
        refine wpAny_bind (wpAny_dictEntries g2 t2 ?_)
        rw [em]
        refine wpAny_holding (hit _ _ ?_)
        cases t : tell x.1 with
        | false =>
          show wpAny _ _ (if (!false) = true then _ else _) _ _ _
          rw [stop t] at h
          exact wpAny_pure (wpAny_pure h)
        | true =>
          show wpAny _ _ (if (!true) = true then _ else _) _ _ _
          rw [if_neg (fun z => by cases z)]
          refine wpAny_bind (wpAny_dictEpoch g1 t1 ?_)
          rw [if_neg (fun z => by simp at z)]
          exact wpAny_pure ⟨rfl, rfl, j + 1, by rw [rr]; congr 1; omega, lt, go t⟩
    · subst es eq
      have e : i = xs.length := by
        rcases Nat.lt_or_ge i xs.length with lt | ge
        · obtain ⟨m, hm⟩ : ∃ m, xs.length - i = m + 1 := ⟨xs.length - i - 1, by omega⟩
          rw [hm, List.range'_succ] at er; cases er
        · omega
      subst e
      rw [List.take_length] at al
      rw [al] at h
      exact wpAny_pure h
  · have hl : (xs.length == ys.length) = false := by rw [beq_eq_false_iff_ne]; omega
    rw [hl, Bool.false_and] at h
    rw [if_pos (by simpa using en)]
    exact wpAny_bind (wpAny_rule (wpAny_pure h))
theorem eq_tups {da db : Addr} {xs ys : List (κ × Addr × Value)} {tell : κ → Bool} {Q : Value → Shared → Prop} (hk : kd.room A.in1) (hu : A.units < cLine) (sa : (da == sysModules) = false) (sb : (db == sysModules) = false)
    (dA : s.heap.DictOfH kd da xs) (dB : s.heap.DictOfH kd db ys) (hits : ∀ x ∈ xs, Hit prog w A.in1 s ys x (tell x.1)) (h : Q (.bool (xs.length == ys.length && xs.all fun x => tell x.1)) s) :
    wpAny (model prog w) A (compareOp .Eq (.ref da) (.ref db)) Q E s := by
  refine wpAny_richCompare_same_room (op := .Eq) dA.typeIs dB.typeIs F.slot_dict_eq (wpAny_call_entry F.slot_dict_eq dA.typeIs F.entry_dict_eq ?_ (F.args_dict_eq_2 _ _)) hu
  show wpAny _ _ (Builtin.Dict.dictSlotArgs "__eq__" ⟨[.ref da, .ref db], []⟩ >>= _) _ _ s
  unfold Builtin.Dict.dictSlotArgs
  refine wpAny_bind (wpAny_bind (wpAny_notOrdered_dict dA.typeIs ?_))
  show wpAny _ _ (pure (Value.ref da, Value.ref db)) _ _ s
  refine wpAny_pure (wpAny_bind (wpAny_isInstance (T := "dict") dB.typeIs F.sub_dict_dict ?_))
  simp only [Bool.not_true, Bool.false_eq_true, if_false]
  refine wpAny_bind (wpAny_pure (wpAny_bind (wpAny_pure (wpAny_bind (same_tups hk sa sb dA dB hits ?_)))))
  exact wpAny_pure ⟨_, rfl, (fun x => by cases x), by simpa using h⟩
theorem ne_tups {da db : Addr} {xs ys : List (κ × Addr × Value)} {tell : κ → Bool} {Q : Value → Shared → Prop} (hk : kd.room A.in1) (hu : A.units < cLine) (sa : (da == sysModules) = false) (sb : (db == sysModules) = false)
    (dA : s.heap.DictOfH kd da xs) (dB : s.heap.DictOfH kd db ys) (hits : ∀ x ∈ xs, Hit prog w A.in1 s ys x (tell x.1)) (h : Q (.bool (!(xs.length == ys.length && xs.all fun x => tell x.1))) s) :
    wpAny (model prog w) A (compareOp .NotEq (.ref da) (.ref db)) Q E s := by
  refine wpAny_richCompare_same_room (op := .NotEq) dA.typeIs dB.typeIs F.slot_dict_ne (wpAny_call_entry F.slot_dict_ne dA.typeIs F.entry_dict_ne ?_ (F.args_dict_ne_2 _ _)) hu
  show wpAny _ _ (Builtin.Dict.dictSlotArgs "__ne__" ⟨[.ref da, .ref db], []⟩ >>= _) _ _ s
  unfold Builtin.Dict.dictSlotArgs
  refine wpAny_bind (wpAny_bind (wpAny_notOrdered_dict dA.typeIs ?_))
  show wpAny _ _ (pure (Value.ref da, Value.ref db)) _ _ s
  refine wpAny_pure (wpAny_bind (wpAny_isInstance (T := "dict") dB.typeIs F.sub_dict_dict ?_))
  simp only [Bool.not_true, Bool.false_eq_true, if_false]
  refine wpAny_bind (wpAny_pure (wpAny_bind (wpAny_pure (wpAny_bind (same_tups hk sa sb dA dB hits ?_)))))
  exact wpAny_pure ⟨_, rfl, (fun x => by cases x), by simpa using h⟩
end
end DTE
namespace L2
open PySem PySem.Spec PyProof.Rows DTE
/-- == of two dicts with tuple keys: tell says of each key of the first whether the second holds the same there -/
def rEqTe (neg : Bool) (K : PySem.W.Frag) : R2 := fun x y H Q => ∃ a b us vs, ∃ tell : List Key → Bool, x = .ref a ∧ y = .ref b ∧ Rd H a (.dT us) ∧ Rd H b (.dT vs) ∧
  (∀ p ∈ us, match valV vs p.1 with
    | none => tell p.1 = false
    | some v => ∃ d e, Dp K H p.2 d ∧ Dp K H v e ∧ SeqAt.shaped d = true ∧ SeqAt.shaped e = true ∧ tell p.1 = PyData.eqv d e) ∧
  Q (.bl (neg.xor (us.length == vs.length && us.all fun p => tell p.1))) H
theorem KT.alls {H : Hp} {tell : List Key → Bool} : ∀ {us : List (List Key × V)} {xs : List (List Key × Addr × Value)}, KT H us xs → (xs.all fun x => tell x.1) = us.all fun p => tell p.1
  | _, _, .nil => rfl
  | _, _, .cons h t => by rw [List.all_cons, List.all_cons, KT.alls t, h.1]
theorem KT.mem {H : Hp} : ∀ {us : List (List Key × V)} {xs : List (List Key × Addr × Value)} {x : List Key × Addr × Value}, KT H us xs → x ∈ xs → ∃ v, (x.1, v) ∈ us ∧ RelV v x.2.2
  | _, _, _, .nil, h => by cases h
  | (k, v) :: _, y :: _, x, .cons h t, m => by
    rcases List.mem_cons.mp m with rfl | m
    · obtain ⟨e, _, r⟩ := h
      simp only at e r
      exact ⟨v, by rw [← e]; exact List.mem_cons_self, r⟩
    · obtain ⟨v, a, b⟩ := KT.mem t m
      exact ⟨v, List.mem_cons_of_mem _ a, b⟩
section
variable {X : Cx}
theorem hits_of {pins : List (Addr × Obj)} {σ : L2.St} {H : Hp} {s : Shared} {us vs : List (List Key × V)} {xs ys : List (List Key × Addr × Value)} {tell : List Key → Bool} (hu : X.A.in1.units + 64 < cLine) (I : Inv X pins σ H s) (r1 : KT H us xs) (r2 : KT H vs ys)
    (h : ∀ p ∈ us, match valV vs p.1 with
      | none => tell p.1 = false
      | some v => ∃ d e, Dp X.K H p.2 d ∧ Dp X.K H v e ∧ SeqAt.shaped d = true ∧ SeqAt.shaped e = true ∧ tell p.1 = PyData.eqv d e) : ∀ x ∈ xs, Hit X.prog X.w X.A.in1 s ys x (tell x.1) := fun x m => by
  obtain ⟨v, mv, rv⟩ := r1.mem m
  have q := h _ mv
  have r := r2.val x.1
  unfold Hit
  cases e : atKey ys x.1 with
  | none =>
    rw [e] at r
    cases e2 : valV vs x.1 with
    | none => simp only [e2] at q; exact q
    | some z => rw [e2] at r; exact r.elim
  | some p =>
    rw [e] at r
    cases e2 : valV vs x.1 with
    | none => rw [e2] at r; exact r.elim
    | some z =>
      rw [e2] at r
      simp only [e2] at q
      obtain ⟨d, f, hd, hf, sd, sf, et⟩ := q
      obtain ⟨as, q1⟩ := Dp.reads I d v _ hd rv
      obtain ⟨bs, q2⟩ := Dp.reads I f z _ hf r
      show SeqAt.EqP X.prog X.w X.A.in1 s x.2.2 p.2 (tell x.1)
      rw [et]
      exact (PySem.W.keq_at q1 q2 sd sf hu).eqP
theorem op_eqTe (hu : X.A.units + 65 < cLine) : OpR X (compareOp .Eq) (rEqTe false X.K) := by
  intro pins s σ H x y v u Q I rx ry ⟨a, b, us, vs, tell, ex, ey, ea, eb, h, q⟩
  subst ex ey
  obtain rfl : v = Value.ref a := rx
  obtain rfl : u = Value.ref b := ry
  obtain ⟨_, sa, xs, r1, dA⟩ := dt_rd I.hok ea
  obtain ⟨_, sb, ys, r2, dB⟩ := dt_rd I.hok eb
  refine eq_tups (tell := tell) (tupleKind_room_in1 (by omega)) (by omega) sa sb dA dB (hits_of (show X.A.units + 1 + 64 < cLine by omega) I r1 r2 h) ?_
  rw [r1.alls, ← r1.length, ← r2.length]
  exact ⟨.bl _, H, I, rfl, by simpa using q⟩
theorem op_neTe (hu : X.A.units + 65 < cLine) : OpR X (compareOp .NotEq) (rEqTe true X.K) := by
  intro pins s σ H x y v u Q I rx ry ⟨a, b, us, vs, tell, ex, ey, ea, eb, h, q⟩
  subst ex ey
  obtain rfl : v = Value.ref a := rx
  obtain rfl : u = Value.ref b := ry
  obtain ⟨_, sa, xs, r1, dA⟩ := dt_rd I.hok ea
  obtain ⟨_, sb, ys, r2, dB⟩ := dt_rd I.hok eb
  refine ne_tups (tell := tell) (tupleKind_room_in1 (by omega)) (by omega) sa sb dA dB (hits_of (show X.A.units + 1 + 64 < cLine by omega) I r1 r2 h) ?_
  rw [r1.alls, ← r1.length, ← r2.length]
  exact ⟨.bl _, H, I, rfl, by simpa using q⟩
end
def rSortedD {α : Type} (K : PySem.W.Frag) (den : α → PyData) : List V → Hp → VK → Prop := fun vs H Q => ∃ (a : Addr) (bs : List (α × V)), vs = [.ref a] ∧ SqL K H a (bs.map (·.2)) ∧ (∀ p ∈ bs, Dp K H p.2 (den p.1)) ∧
  ∀ p, H p = none → Q (.ref p) (upd H p (.lst ((bs.mergeSort (PySem.W.dataLe false fun p => den p.1)).map (·.2))))
section
open PySem.W
variable {X : Cx} {α : Type} {den : α → PyData}
theorem eachOf {R : Value → α × V → Prop} : ∀ {bs : List (α × V)} {its : List Value}, Vals (bs.map (·.2)) its → (∀ p ∈ bs, ∀ u, RelV p.2 u → R u p) → EachIs R its bs
  | [], _, .nil, _ => .nil
  | p :: bs, _, .cons r t, h => .cons (h p List.mem_cons_self _ r) (eachOf t fun q m => h q (List.mem_cons_of_mem _ m))
theorem valsOf : ∀ {bs : List (α × V)} {its : List Value}, EachIs (fun u p => RelV p.2 u) its bs → Vals (bs.map (·.2)) its
  | _, _, .nil => .nil
  | _, _, .cons r t => .cons r (valsOf t)
theorem cr_sortedD (hal : ∀ a b, alike (den a) (den b) = true) (htu : ∀ a, ∃ x r, den a = .tuple (x :: r)) (hdp : ∀ a, (den a).depth ≤ 62) (hu : X.A.units + 64 < cLine) : CallR X (.builtin "sorted") (rSortedD X.K den) := by
  intro pins s σ H vs us Q I r ⟨a, bs, ev, hs, hd, q⟩
  subst ev
  obtain ⟨its, rv, hl, hz⟩ := I.list hs
  obtain ⟨u, rfl, ru⟩ := vals1 r
  obtain rfl : u = Value.ref a := ru
  refine sorted_data (enc := fun p : α × V => den p.1) (R := fun u p => RelV p.2 u) (bs := bs) hl.isList (eachOf rv fun p _ u r => r) (eachOf rv fun p m u r => Dp.reads I _ _ _ (hd p m) r) (AllAlike.of fun p p' => hal _ _) (Sortable.tuples fun p => htu _) (by simpa using hz) (fun p _ => by have := hdp p.1; omega) fun out h1 h2 => ?_
  obtain ⟨ep, he'⟩ := PyProof.Rows.sortedAll_at s.heap its (List.toArray out)
  refine ⟨.ref _, upd H (s.heap.objs.size + 1) (.lst ((bs.mergeSort (dataLe false fun p => den p.1)).map (·.2))), I.laid (t' := s.toks) (fun _ _ => PyProof.Rows.sortedAll_old) (Nat.le_succ _) ⟨?_, out, ep, valsOf h2, he'⟩, rfl, q _ (I.hok.fresh (Nat.le_succ _))⟩
  rw [List.length_map, List.length_mergeSort]
  simpa using hz
end
end L2
namespace L3
open PySem PySem.Spec PyProof.Rows L2
def datK : List (List Key × LV) → Option (List (List Key × PyData))
  | [] => some []
  | (k, x) :: r => (datV x).bind fun d => (datK r).map ((k, d) :: ·)
def lookD (ds : List (List Key × PyData)) (k : List Key) : Option PyData := (ds.find? fun p => decide (p.1 = k)).map (·.2)
def eqD (ds es : List (List Key × PyData)) : Bool := ds.length == es.length && ds.all fun p => match lookD es p.1 with
  | none => false
  | some e => PyData.eqv p.2 e
def shD (ds : List (List Key × PyData)) : Prop := ∀ p ∈ ds, SeqAt.shaped p.2 = true
def rEqT (neg : Bool) : LR2 := fun x y s Q => opt (dicT x s) fun as => opt (dicT y s) fun bs => opt (datK as) fun ds => opt (datK bs) fun es => (shD ds ∧ shD es ∧ (ds.map (·.1)).Nodup) ∧ Q (.bl (neg.xor (eqD ds es))) s
section
variable {K : PySem.W.Frag} [GG K] {s : LS} {H : Hp}
/-- what is read of a dict's values -/
theorem datK_dp (hs : RelS K s H) : ∀ {as : List (List Key × LV)} {us : List (List Key × V)} {ds : List (List Key × PyData)}, RVk K s H as us → datK as = some ds → ds.length = us.length ∧ us.map (·.1) = ds.map (·.1) ∧ ∀ k, match valV us k with
    | none => lookD ds k = none
    | some v => ∃ d, lookD ds k = some d ∧ Dp K H v d
  | [], us, ds, r, e => by
    simp only [RVk] at r
    cases e
    subst r
    exact ⟨rfl, rfl, fun k => by simp [valV, lookD]⟩
  | (j, x) :: as, us, ds, r, e => by
    simp only [RVk] at r
    obtain ⟨u, r', rfl, h1, h2⟩ := r
    simp only [datK, Option.bind_eq_some_iff, Option.map_eq_some_iff] at e
    obtain ⟨d, ed, ds', e2, rfl⟩ := e
    obtain ⟨a, b, c⟩ := datK_dp hs h2 e2
    refine ⟨by simp [a], by simp [b], fun k => ?_⟩
    have ck := c k
    by_cases q : j = k
    · subst q
      have e1 : valV ((j, u) :: r') j = some u := by simp [valV]
      rw [e1]
      exact ⟨d, by simp [lookD], Isd.dp hs (isd_of_dat ed) h1⟩
    · have e1 : valV ((j, u) :: r') k = valV r' k := by simp [valV, q]
      have e2 : lookD ((j, d) :: ds') k = lookD ds' k := by simp [lookD, q]
      rw [e1, e2]
      exact ck
theorem lookD_mem {ds : List (List Key × PyData)} {k : List Key} {d : PyData} (h : lookD ds k = some d) : (k, d) ∈ ds := by
  simp only [lookD, Option.map_eq_some_iff] at h
  obtain ⟨p, h, rfl⟩ := h
  have e := List.find?_some h
  have e' : p.1 = k := by simpa using e
  have m := List.mem_of_find?_eq_some h
  rw [← e']
  exact m
theorem lookD_of {ds : List (List Key × PyData)} (n : (ds.map (·.1)).Nodup) {p : List Key × PyData} (m : p ∈ ds) : lookD ds p.1 = some p.2 := by
  induction ds with
  | nil => cases m
  | cons q ds ih =>
    rw [List.map_cons, List.nodup_cons] at n
    rcases List.mem_cons.mp m with rfl | m
    · simp [lookD]
    · have ne : q.1 ≠ p.1 := fun e => n.1 (by rw [e]; exact List.mem_map_of_mem m)
      have := ih n.2 m
      simpa [lookD, ne] using this
theorem up_eqTe {neg : Bool} : Up2 K (rEqTe neg K) (rEqT neg) := fun x y s H lx ly Q0 Q hs rx ry h k => by
  obtain ⟨as, e1, h⟩ := opt_ok h
  obtain ⟨bs, e2, h⟩ := opt_ok h
  obtain ⟨ds, e3, h⟩ := opt_ok h
  obtain ⟨es, e4, ⟨h1, h2, nd⟩, h⟩ := opt_ok h
  obtain ⟨da, us, o, rfl, hh, hd, r⟩ := dicT_ok hs rx e1
  obtain ⟨db, vs, o', rfl, hh', hd', r'⟩ := dicT_ok hs ry e2
  obtain ⟨l1, m1, c1⟩ := datK_dp hs r e3
  obtain ⟨l2, m2, c2⟩ := datK_dp hs r' e4
  let tell : List Key → Bool := fun j => match lookD ds j, lookD es j with
    | some d, some e => PyData.eqv d e
    | _, _ => false
  refine ⟨da, db, us, vs, tell, rfl, rfl, hd.rd hh, hd'.rd hh', fun p hp => ?_, ?_⟩
  · have q1 : valV us p.1 = some p.2 := by
      have nd' : (us.map (·.1)).Nodup := by rw [m1]; exact nd
      clear c1 m1 l1 r e3 hd hh
      induction us with
      | nil => cases hp
      | cons q us ih =>
        rw [List.map_cons, List.nodup_cons] at nd'
        rcases List.mem_cons.mp hp with rfl | hp
        · simp [valV]
        · have ne : q.1 ≠ p.1 := fun e => nd'.1 (by rw [e]; exact List.mem_map_of_mem hp)
          have := ih hp nd'.2
          simpa [valV, ne] using this
    have a1 := c1 p.1
    rw [q1] at a1
    obtain ⟨d, ed, dd⟩ := a1
    have a2 := c2 p.1
    cases q2 : valV vs p.1 with
    | none =>
      rw [q2] at a2
      simp only [tell, ed, a2]
    | some v =>
      rw [q2] at a2
      obtain ⟨e, ee, de⟩ := a2
      exact ⟨d, e, dd, de, h1 _ (lookD_mem ed), h2 _ (lookD_mem ee), by simp only [tell, ed, ee]⟩
  · have e : (us.length == vs.length && us.all fun p => tell p.1) = eqD ds es := by
      unfold eqD
      rw [l1, l2]
      congr 1
      have q : (us.all fun p => tell p.1) = (us.map (·.1)).all tell := by rw [List.all_map]; rfl
      rw [q, m1, List.all_map, Bool.eq_iff_iff, List.all_eq_true, List.all_eq_true]
      refine forall_congr' fun p => forall_congr' fun hp => ?_
      have z := lookD_of nd hp
      simp only [Function.comp, tell, z]
      cases lookD es p.1 <;> exact Iff.rfl
    rw [e]
    exact k _ _ _ _ h (.refl _ _) hs .bl
variable {X : Cx} [GG X.K] {e a b : Expr} {te ta tb : LTE} {pos p : Pos} {es : List Expr} {tas : LTA}
theorem le_eqT (hu : X.A.units + 65 < cLine) (ha : LE X a ta) (hb : LE X b tb) : LE X (.Compare a [.Eq] [b] pos) (lOp (rEqT false) ta tb) := le_cmp (op_eqTe hu) up_eqTe ha hb (nomark _)
theorem le_neT (hu : X.A.units + 65 < cLine) (ha : LE X a ta) (hb : LE X b tb) : LE X (.Compare a [.NotEq] [b] pos) (lOp (rEqT true) ta tb) := le_cmp (op_neTe hu) up_eqTe ha hb (nomark _)
theorem lt_eqT (hu : X.A.units + 65 < cLine) (ha : LE X a ta) (hb : LE X b tb) : LT X (.Compare a [.Eq] [b] pos) (lB (lOp (rEqT false) ta tb)) := lt_cmp (op_eqTe hu) up_eqTe ha hb (nomark _)
theorem lt_neT (hu : X.A.units + 65 < cLine) (ha : LE X a ta) (hb : LE X b tb) : LT X (.Compare a [.NotEq] [b] pos) (lB (lOp (rEqT true) ta tb)) := lt_cmp (op_neTe hu) up_eqTe ha hb (nomark _)
class Sor (α : Type) [Cod α] where
  ali : ∀ a b : α, PySem.W.alike (Cod.den a) (Cod.den b) = true
  tup : ∀ a : α, ∃ x r, Cod.den a = .tuple (x :: r)
  shal : Cod.dep α ≤ 62
def sortD {α : Type} [Cod α] (xs : List α) : List α := xs.mergeSort (PySem.W.dataLe false Cod.den)
def rSortD (α : Type) [Cod α] : List LV → LS → (List LV → LS → Prop) → Prop := fun vs s Q => one1 vs fun x => opt (seqL x s) fun xs => ∃ bs : List α, xs = bs.map Cod.enc ∧ Q ((sortD bs).map Cod.enc) s
theorem pairUp {α : Type} [Cod α] : ∀ {bs : List α} {us : List V}, RVs K s H (bs.map Cod.enc) us → ∃ ps : List (α × V), ps.map (·.1) = bs ∧ ps.map (·.2) = us ∧ ∀ p ∈ ps, RV K s H (Cod.enc p.1) p.2
  | [], us, h => ⟨[], rfl, by simp only [List.map_nil, RVs] at h; simp [h], fun _ m => by cases m⟩
  | b :: bs, us, h => by
    simp only [List.map_cons, RVs] at h
    obtain ⟨u, r, rfl, h1, h2⟩ := h
    obtain ⟨ps, e1, e2, q⟩ := pairUp h2
    exact ⟨(b, u) :: ps, by simp [e1], by simp [e2], fun p m => by
      rcases List.mem_cons.mp m with rfl | m
      · exact h1
      · exact q p m⟩
theorem pairDown {α : Type} [Cod α] : ∀ {ps : List (α × V)}, (∀ p ∈ ps, RV K s H (Cod.enc p.1) p.2) → RVs K s H ((ps.map (·.1)).map Cod.enc) (ps.map (·.2))
  | [], _ => .nil
  | p :: ps, h => .cons (h p List.mem_cons_self) (pairDown fun q m => h q (List.mem_cons_of_mem _ m))
theorem up_sortD {α : Type} [Cod α] : UpCL K (rSortedD K (Cod.den (α := α))) (rSortD α) := fun vs s H lvs Q0 Q hs r h k => by
  obtain ⟨x, rfl, h⟩ := one1_ok h
  obtain ⟨xs, e1, bs, rfl, h⟩ := opt_ok h
  obtain ⟨v, rfl, r1⟩ := r.one
  obtain ⟨q, us, rfl, hh, r2⟩ := seqL_ok hs r1 e1
  obtain ⟨ps, rfl, rfl, al⟩ := pairUp r2
  refine ⟨q, ps, rfl, SqL.of hh, fun p m => Isd.dp hs (isd_enc s p.1) (al p m), fun l np => ?_⟩
  have e : sortD (ps.map (·.1)) = (ps.mergeSort (PySem.W.dataLe false fun p => Cod.den p.1)).map (·.1) := by
    unfold sortD
    rw [List.map_mergeSort]
    exact fun a _ b _ => rfl
  rw [e] at h
  exact k _ _ _ _ h (.refl _ _) hs (pairDown fun p m => al p ((List.mergeSort_perm _ _).mem_iff.mp m)) l np
theorem ll_sortedD (α : Type) [Cod α] [S : Sor α] (hu : X.A.units + 64 < cLine) (hg : Gl X "sorted") (hm : X.mg "sorted" = none) (ha : LA X (e :: es) tas) (he : starEach (e :: es) X.env = (false, eval e X.env) :: starEach es X.env := by rfl) (hpl : (backTo pos (starEach es X.env)).any (·.1) = false := by rfl) :
    LL X (.Call (.Name "sorted" p) (e :: es) [] pos) (lCBL (rSortD α) tas) := ll_cb (cr_sortedD S.ali S.tup (fun a => Nat.le_trans (Cod.hdep a) S.shal) hu) up_sortD hg hm (by decide +kernel) ha (by decide) (by decide) he hpl
end
instance : Sor Nm := ⟨fun a b => by simp [Cod.den, nmD, PySem.W.alike, PySem.W.alikeAll], fun a => ⟨_, _, rfl⟩, by decide⟩
instance : Sor (Int × Nm) := ⟨fun a b => by simp [Cod.den, nmD, PySem.W.alike, PySem.W.alikeAll], fun a => ⟨_, _, rfl⟩, by decide⟩
end L3

namespace L3
open PySem PySem.Spec PyProof.Rows L2
def nmK (n : Nm) : List Key := [.inl n.hand, .inl n.place, .inl n.k]
theorem nmK_inj {a b : Nm} : nmK a = nmK b ↔ a = b := by
  cases a; cases b
  simp [nmK]
theorem keyT_nm (n : Nm) : keyT (nmK n) = nmL n := rfl
theorem keysL_nm (n : Nm) : keysL [.int n.hand, .int n.place, .int n.k] = some (nmK n) := rfl
section
variable {β : Type}
def encM (v : β → LV) (m : List (Nm × β)) : List (List Key × LV) := m.map fun p => (nmK p.1, v p.2)
def getA : List (Nm × β) → Nm → Option β
  | [], _ => none
  | (j, x) :: r, k => if j = k then some x else getA r k
def putA (m : List (Nm × β)) (k : Nm) (x : β) : List (Nm × β) := if (m.any fun p => decide (p.1 = k)) = true then m.map (fun p => if p.1 = k then (p.1, x) else p) else m ++ [(k, x)]
def putAll (m : List (Nm × β)) (l : List (Nm × β)) : List (Nm × β) := l.foldl (fun m p => putA m p.1 p.2) m
theorem putAll_snoc (m l : List (Nm × β)) (p : Nm × β) : putAll m (l ++ [p]) = putA (putAll m l) p.1 p.2 := by simp [putAll]
theorem valL_enc (v : β → LV) (m : List (Nm × β)) (n : Nm) : valL (encM v m) (nmK n) = (getA m n).map v := by
  induction m with
  | nil => rfl
  | cons p m ih =>
    obtain ⟨j, x⟩ := p
    show (if nmK j = nmK n then some (v x) else valL (encM v m) (nmK n)) = Option.map v (if j = n then some x else getA m n)
    by_cases h : j = n
    · rw [if_pos h, if_pos (by rw [h])]; rfl
    · rw [if_neg h, if_neg (fun e => h (nmK_inj.mp e)), ih]
theorem putD_enc (v : β → LV) (m : List (Nm × β)) (n : Nm) (x : β) : putD (encM v m) (nmK n) (v x) = encM v (putA m n x) := by
  have e : ((encM v m).any fun p => decide (p.1 = nmK n)) = m.any fun p => decide (p.1 = n) := by
    unfold encM
    rw [List.any_map]
    congr 1
    funext p
    simp [nmK_inj]
  unfold putD putA
  rw [e]
  split
  · unfold encM
    rw [List.map_map, List.map_map]
    refine List.map_congr_left fun p _ => ?_
    by_cases h : p.1 = n
    · simp [h]
    · simp [h, nmK_inj]
  · unfold encM
    rw [List.map_append]
    rfl
theorem encM_len (v : β → LV) (m : List (Nm × β)) : (encM v m).length = m.length := by simp [encM]
theorem putA_len (m : List (Nm × β)) (k : Nm) (x : β) : (putA m k x).length ≤ m.length + 1 := by
  unfold putA
  split <;> simp
theorem putAll_len (l : List (Nm × β)) : ∀ m : List (Nm × β), (putAll m l).length ≤ m.length + l.length := by
  induction l with
  | nil => intro m; simp [putAll]
  | cons p l ih =>
    intro m
    have := ih (putA m p.1 p.2)
    have := putA_len m p.1 p.2
    have e : putAll m (p :: l) = putAll (putA m p.1 p.2) l := rfl
    rw [e, List.length_cons]
    omega
theorem encM_keys (v : β → LV) (m : List (Nm × β)) : ((encM v m).map fun p => keyT p.1) = (m.map (·.1)).map nmL := by
  unfold encM
  rw [List.map_map, List.map_map]
  rfl
theorem encM_items (v : β → LV) (m : List (Nm × β)) : ((encM v m).map fun p => LV.tup [keyT p.1, p.2]) = m.map fun p => .tup [nmL p.1, v p.2] := by
  unfold encM
  rw [List.map_map]
  rfl
theorem putA_mem {m : List (Nm × β)} {k j : Nm} {x : β} : j ∈ (putA m k x).map (·.1) ↔ j ∈ m.map (·.1) ∨ j = k := by
  unfold putA
  split
  · next h =>
    have e : (m.map fun p => if p.1 = k then (p.1, x) else p).map (·.1) = m.map (·.1) := by
      rw [List.map_map]
      refine List.map_congr_left fun p _ => ?_
      by_cases q : p.1 = k <;> simp [q]
    rw [e]
    constructor
    · exact .inl
    · rintro (h' | rfl)
      · exact h'
      · rw [List.any_eq_true] at h
        obtain ⟨p, hp, q⟩ := h
        have q : p.1 = j := by simpa using q
        rw [← q]
        exact List.mem_map_of_mem hp
  · rw [List.map_append, List.mem_append]
    simp
theorem putA_nodup {m : List (Nm × β)} {k : Nm} {x : β} (h : (m.map (·.1)).Nodup) : ((putA m k x).map (·.1)).Nodup := by
  unfold putA
  split
  · have e : (m.map fun p => if p.1 = k then (p.1, x) else p).map (·.1) = m.map (·.1) := by
      rw [List.map_map]
      refine List.map_congr_left fun p _ => ?_
      by_cases q : p.1 = k <;> simp [q]
    rw [e]
    exact h
  · next n =>
    rw [List.map_append, List.map_cons, List.map_nil]
    rw [List.nodup_append]
    refine ⟨h, by simp, ?_⟩
    rintro a ha b hb rfl
    rw [List.mem_singleton] at hb
    apply n
    rw [List.any_eq_true]
    obtain ⟨p, hp, q⟩ := List.mem_map.mp ha
    exact ⟨p, hp, by rw [q, hb]; simp⟩
theorem putAll_nodup {l : List (Nm × β)} : ∀ {m : List (Nm × β)}, (m.map (·.1)).Nodup → ((putAll m l).map (·.1)).Nodup := by
  induction l with
  | nil => exact fun h => h
  | cons p l ih => exact fun h => ih (putA_nodup h)
theorem getA_none {m : List (Nm × β)} {n : Nm} : getA m n = none ↔ n ∉ m.map (·.1) := by
  induction m with
  | nil => simp [getA]
  | cons p m ih =>
    obtain ⟨j, x⟩ := p
    simp only [getA, List.map_cons, List.mem_cons, not_or]
    by_cases h : j = n
    · rw [if_pos h]; simp [h]
    · rw [if_neg h, ih]; exact ⟨fun q => ⟨fun e => h e.symm, q⟩, fun q => q.2⟩
theorem getA_isSome {m : List (Nm × β)} {n : Nm} : (getA m n).isSome = decide (n ∈ m.map (·.1)) := by
  cases e : getA m n with
  | none => rw [decide_eq_false (getA_none.mp e)]; rfl
  | some x =>
    rw [decide_eq_true]; rfl
    exact Decidable.of_not_not fun h => by rw [getA_none.mpr h] at e; cases e
theorem getA_mem {m : List (Nm × β)} {n : Nm} {x : β} (h : getA m n = some x) : (n, x) ∈ m := by
  induction m with
  | nil => cases h
  | cons p m ih =>
    obtain ⟨j, y⟩ := p
    simp only [getA] at h
    by_cases e : j = n
    · rw [if_pos e] at h; cases h; subst e; exact List.mem_cons_self
    · rw [if_neg e] at h; exact List.mem_cons_of_mem _ (ih h)
theorem getA_of {m : List (Nm × β)} (nd : (m.map (·.1)).Nodup) {n : Nm} {x : β} (h : (n, x) ∈ m) : getA m n = some x := by
  induction m with
  | nil => cases h
  | cons p m ih =>
    obtain ⟨j, y⟩ := p
    rw [List.map_cons, List.nodup_cons] at nd
    rcases List.mem_cons.mp h with e | h
    · cases e; simp [getA]
    · have ne : j ≠ n := by rintro rfl; exact nd.1 (List.mem_map_of_mem (f := (·.1)) h)
      simp only [getA, if_neg ne]
      exact ih nd.2 h
theorem putA_new {m : List (Nm × β)} {k : Nm} {x : β} (h : k ∉ m.map (·.1)) : putA m k x = m ++ [(k, x)] := by
  unfold putA
  rw [if_neg]
  rw [List.any_eq_true]
  rintro ⟨p, hp, q⟩
  have q : p.1 = k := by simpa using q
  exact h (q ▸ List.mem_map_of_mem hp)
theorem putAll_new {l : List (Nm × β)} : ∀ {m : List (Nm × β)}, ((m ++ l).map (·.1)).Nodup → putAll m l = m ++ l := by
  induction l with
  | nil => intro m _; simp [putAll]
  | cons p l ih =>
    intro m h
    have e : putAll m (p :: l) = putAll (putA m p.1 p.2) l := rfl
    have n : p.1 ∉ m.map (·.1) := by
      rw [List.map_append, List.map_cons, List.nodup_append] at h
      exact fun q => h.2.2 _ q _ List.mem_cons_self rfl
    rw [e, putA_new n, ih (by simpa using h)]
    simp
variable [Cod β]
def denM (m : List (Nm × β)) : List (List Key × PyData) := m.map fun p => (nmK p.1, Cod.den p.2)
theorem datK_enc (m : List (Nm × β)) : datK (encM Cod.enc m) = some (denM m) := by
  induction m with
  | nil => rfl
  | cons p m ih =>
    show ((datV (Cod.enc p.2)).bind fun d => (datK (encM Cod.enc m)).map ((nmK p.1, d) :: ·)) = _
    rw [Cod.datV, ih]
    rfl
theorem shD_enc (h : Cod.dep β ≤ 64) (m : List (Nm × β)) : shD (denM m) := fun p hp => by
  obtain ⟨q, _, rfl⟩ := List.mem_map.mp hp
  exact shaped_cod h q.2
theorem nodup_den {m : List (Nm × β)} (h : (m.map (·.1)).Nodup) : ((denM m).map (·.1)).Nodup := by
  have e : (denM m).map (·.1) = (m.map (·.1)).map nmK := by unfold denM; rw [List.map_map, List.map_map]; rfl
  rw [e]
  exact List.pairwise_map.mpr (h.imp fun {a b} n q => n (nmK_inj.mp q))
theorem eqD_self [DecidableEq β] {m : List (Nm × β)} (nd : (m.map (·.1)).Nodup) : eqD (denM m) (denM m) = true := by
  unfold eqD
  rw [beq_self_eq_true, Bool.true_and, List.all_eq_true]
  intro p hp
  have := lookD_of (nodup_den nd) hp
  rw [this]
  obtain ⟨q, _, rfl⟩ := List.mem_map.mp hp
  show PyData.eqv (Cod.den q.2) (Cod.den q.2) = true
  rw [Cod.eqv]
/-- == of a dict with itself, as it were -/
theorem eqT_same [DecidableEq β] {neg : Bool} {x y : LV} {s : LS} {Q : LVK} {m : List (Nm × β)} (hd : Cod.dep β ≤ 64) (nd : (m.map (·.1)).Nodup) (hx : dicT x s = some (encM Cod.enc m)) (hy : dicT y s = some (encM Cod.enc m)) (q : Q (.bl (!neg)) s) : rEqT neg x y s Q := by
  unfold rEqT
  simp only [hx, hy, datK_enc, opt_some]
  refine ⟨⟨shD_enc hd m, shD_enc hd m, nodup_den nd⟩, ?_⟩
  rw [eqD_self nd, Bool.xor_true]
  exact q
end
theorem lift_mono (g : CTg) {v : LV} {σ : LSt} {s : LS} {Y Y' : LSt → LS → Prop} {E : LX} (h : ∀ σ2 s2, Y σ2 s2 → Y' σ2 s2) (q : g.lift v σ s Y E) : g.lift v σ s Y' E := by
  cases g with
  | one i => exact h _ _ q
  | many is =>
    unfold CTg.lift lgTup at q ⊢
    cases v with
    | tup xs =>
      simp only at q ⊢
      cases e : lSets is xs σ with
      | some σ' => rw [e] at q; exact h _ _ q
      | none => rw [e] at q; exact q.elim
    | _ => exact q
theorem lc_inv {α : Type} {enc : α → LV} {Da : Addr} {g : CTg} {te : LTE} {stb : LS → Prop} {σw : LSt} {Q : List LV → LS → Prop} {s : LS} {xs : List α} (I : List α → List LV → LS → Prop) (h0 : I [] [] (put s Da (.lst [])))
    (hst : ∀ q acc s', I q acc s' → stb s') (hlen : xs.length < 16777216)
    (hs : ∀ q x r acc s' (Y : LVK), xs = q ++ x :: r → I q acc s' → s' Da = some (.lst acc) → (∀ y s4, s4 Da = some (.lst acc) → I (q ++ [x]) (acc ++ [y]) (put s4 Da (.lst (acc ++ [y]))) → Y y s4) → g.lift (enc x) σw s' (fun σ2 s2 => te σ2 s2 Y fun _ _ => False) fun _ _ => False)
    (hle : ∀ q acc s', I q acc s' → acc.length = q.length) (hQ : ∀ acc s', I xs acc s' → s' Da = some (.lst acc) → Q acc (del s' Da))
    : lcLoop Da g lYes te stb σw Q (xs.map enc) (put s Da (.lst [])) := by
  have go : ∀ (r q : List α) (acc : List LV) (s' : LS), xs = q ++ r → I q acc s' → s' Da = some (.lst acc) → lcLoop Da g lYes te stb σw Q (r.map enc) s' := by
    intro r
    induction r with
    | nil =>
      intro q acc s' e i z
      rw [List.append_nil] at e
      subst e
      refine ⟨hst _ _ _ i, ?_⟩
      rw [z]
      exact hQ acc s' i z
    | cons x r ih =>
      intro q acc s' e i z
      refine ⟨hst _ _ _ i, ?_⟩
      refine lift_mono g (fun σ2 s2 h => ⟨fun _ => h, fun q => by cases q⟩) (hs q x r acc s' _ e i z fun y s4 z4 i4 => ?_)
      show match s4 Da with
        | some (.lst acc) => acc.length < 16777216 ∧ lcLoop Da g lYes te stb σw Q (r.map enc) (put s4 Da (.lst (acc ++ [y])))
        | _ => False
      rw [z4]
      have l := hle _ _ _ i
      have l2 := congrArg List.length e
      rw [List.length_append, List.length_cons] at l2
      exact ⟨by omega, ih (q ++ [x]) _ _ (by rw [e]; simp) i4 put_same⟩
  exact go xs [] [] _ rfl h0 put_same
theorem enum_eq {α : Type} (f : α → LV) (xs : List α) : ((rgL 0 (xs.map f).length).zip (xs.map f) |>.map fun p => LV.tup [p.1, p.2]) = xs.zipIdx.map fun p => .tup [.int ((p.2 : Nat) : Int), f p.1] := by
  apply List.ext_getElem?
  intro i
  simp only [List.getElem?_map, List.getElem?_zip_eq_some, List.getElem?_zipIdx, rgL, List.length_map, Int.sub_zero, Int.toNat_natCast]
  by_cases h : i < xs.length
  · have e : (((List.range xs.length).map fun i => LV.int (0 + (i : Nat))).zip (xs.map f))[i]? = some (.int ((i : Nat) : Int), f xs[i]) := by
      rw [List.getElem?_zip_eq_some]
      simp [h]
    rw [e]
    simp [h]
  · have e : (((List.range xs.length).map fun i => LV.int (0 + (i : Nat))).zip (xs.map f))[i]? = none := by
      rw [List.getElem?_eq_none]
      simp
      omega
    rw [e]
    simp [Nat.le_of_not_lt h]
theorem sub_of {s s' : LS} {p : Addr} {o : LO} (h : Ext s s') (e : s' p = some o) : Sub (put s p o) s' := fun a => by
  by_cases q : a = p
  · subst q; rw [put_same, e]; exact .inr rfl
  · rw [put_ne q]
    exact h.sub a
end L3

namespace L3
open PySem PySem.Spec PyProof.Rows L2 LamX NdefX
@[irreducible] def CloGo (sp : List LV → LSp) (xs vs : List LV) (s1 : LS) (Q : LVK) : Prop := ncls vs = true ∧ ∃ sv, Sub sv s1 ∧ (∀ a o, sv a = some o → nclO o = true) ∧ sp xs vs sv (fun v s2 => (∀ a, sv a = none → s1 a ≠ none → s2 a = none) → Q v (mergeS s1 sv s2)) fun _ _ => False
theorem CloGo.mk {sp : List LV → LSp} {xs vs : List LV} {s1 sv : LS} {Q : LVK} (n : ncls vs = true) (h : Sub sv s1) (c : ∀ a o, sv a = some o → nclO o = true) (q : sp xs vs sv (fun v s2 => (∀ a, sv a = none → s1 a ≠ none → s2 a = none) → Q v (mergeS s1 sv s2)) fun _ _ => False) : CloGo sp xs vs s1 Q := by
  unfold CloGo
  exact ⟨n, sv, h, c, q⟩
def lClo2 (ck : Ck) (sp : List LV → LSp) (i : Nat) (t : LTA) : LTE := fun σ s Q E => match σ[i]? with
  | some (some (.clo k xs)) => k = ck ∧ ncls xs = true ∧ t σ s (fun vs s1 => CloGo sp xs vs s1 Q) E
  | _ => False
theorem lClo2_eq (ck : Ck) (sp : List LV → LSp) (i : Nat) (t : LTA) : lClo2 ck sp i t = lClo ck sp i t := by
  funext σ s Q E
  unfold lClo2 lClo CloGo
  rfl
theorem le_clo2 {X : Cx} [GG X.K] {ck : Ck} {ps : List Str} {sp : List LV → LSp} {i k : Nat} {x : Str} {e : Expr} {es : List Expr} {p pos : Pos} {t : LTA} (F : CloOk X.prog X.w X.K X.mg X.base k ck ps sp) (hr : Room k X.A) (hG : GIn X.K X.base) (nfr : ck.fr.Nodup)
    (hN : X.N[i]? = some x) (hv : Vis X.env.scope x) (ha : LA X (e :: es) t) (hd : (x == ("__debug__" : Str)) = false := by decide) (hcd : (x == ("__classdict__" : Str)) = false := by decide)
    (he : starEach (e :: es) X.env = (false, eval e X.env) :: starEach es X.env := by rfl) (hpl : (backTo pos (starEach es X.env)).any (·.1) = false := by rfl) : LE X (.Call (.Name x p) (e :: es) [] pos) (lClo2 ck sp i t) := by
  rw [lClo2_eq]
  exact le_clo (p := p) F hr hG nfr hN hv ha hd hcd he hpl
theorem lLoop_rg0 {b : Int} {g : LTG} {tb : LTS} {stb : LS → Prop} {D : LEnds} (I : Nat → LSt → LS → Prop) {σ : LSt} {s : LS} (h0 : I 0 σ s) (hst : ∀ i σ s, I i σ s → stb s)
    (hs : ∀ (i : Nat) σ s N, i < b.toNat → I i σ s → (∀ σ' s', I (i + 1) σ' s' → N σ' s') → g (.int ((i : Nat) : Int)) σ s (fun σ2 s2 => tb (D.wlp N) σ2 s2) (fun C s1 => D.ex C σ s1))
    (hn : ∀ σ s, I b.toNat σ s → D.nx σ s) : lLoop g tb stb D (rgL 0 b) σ s := by
  refine lLoop_rg I h0 hst (fun i σ s N hi i0 k => ?_) (fun σ s h => ?_)
  · rw [Int.sub_zero] at hi
    have := hs i σ s N hi i0 k
    rw [Int.zero_add]
    exact this
  · rw [Int.sub_zero] at h
    exact hn σ s h
theorem stb_lst (xs : List LV) (ys : List LV) (s : LS) : stbOf (.lst xs) ys s := trivial
end L3

namespace L3
open PySem PySem.Spec PyProof.Rows L2
section
variable {X : Cx} {pins : List (Addr × Obj)} {σ : L2.St} {H : Hp} {s : Shared} {a : Addr} {A : Around} {E : Value → Shared → Prop}
theorem d_clearT {kvs : List (List Key × V)} {Q : Value → Shared → Prop} (I : Inv X pins σ H s) (e : H a = some (.dT kvs)) (h : ∀ s', Inv X pins σ (upd H a (.dT [])) s' → Q .none s') : wpAny (model X.prog X.w) A (call (.builtin "dict.clear") [.ref a]) Q E s := by
  obtain ⟨z, hd, xs, rel, dd⟩ := dt_of I.hok e
  obtain ⟨es, ep, hr, hsz, he⟩ := dd.raw
  refine call_meetsIn PySem.F.slot_dict_clear hr.typeIs PySem.F.entry_dict_clear (PySem.F.args_dict_clear_1 _) (meets_dict_clear_raw a) ⟨es, ep, hr, by rw [hsz, ← Paired.length rel]; exact z, fun h' hr' hs => h _ ?_⟩
  have he : ∃ q, h'.get? a = some q := by obtain ⟨q, hq, _⟩ := hr'; exact ⟨q, hq⟩
  obtain ⟨o, ho, hc, hdat⟩ := hr'
  exact d_write (t' := s.toks) I (by rw [e]; exact True.intro) hs he ⟨Nat.zero_le _, hd, [], .nil, o, #[], ep + 1, ho, hc, hdat, rfl, List.nodup_nil⟩
end
def rDClearT : V → List V → Hp → VK → Prop := fun x vs H Q => ∃ (a : Addr) (kvs : List (List Key × V)), x = .ref a ∧ vs = [] ∧ H a = some (.dT kvs) ∧ Q .non (upd H a (.dT []))
theorem mtd_clearT {X : Cx} : MtR X "dict.clear" rDClearT := by
  intro pins s σ H x vs v us Q I rx rv h
  obtain ⟨a, kvs, ex, ev, e, q⟩ := h
  subst ex
  subst ev
  obtain rfl : v = Value.ref a := rx
  have hus := rv.zero
  subst hus
  exact d_clearT I e fun s' I' => ⟨.non, _, I', rfl, q⟩
/-- the dict with tuples as keys in the store at a -/
def atT (x : LV) (s : LS) (k : Addr → List (List Key × LV) → Prop) : Prop := match x with
  | .ref a => (match s a with
    | some (.dT xs) => k a xs
    | _ => False)
  | _ => False
def lDClear (to : LTE) : LTE := fun σ s Q E => to σ s (fun x s1 => atT x s1 fun a _ => Q .non (put s1 a (.dT []))) E
@[simp] theorem lDClear_ap (to : LTE) (σ : LSt) (s : LS) (Q : LVK) (E : LX) : lDClear to σ s Q E = (to σ s (fun x s1 => atT x s1 fun a _ => Q .non (put s1 a (.dT []))) E) := rfl
section
variable {X : Cx} [GG X.K] {o : Expr} {to : LTE} {apos cpos : Pos}
theorem le_dclear (ho : LE X o to) (hbase : attributeBase o "clear" X.env (eval o X.env) = eval o X.env := by rfl) (hline : (apos.endLine == cpos.line) = true := by rfl) :
    LE X (.Call (.Attribute o "clear" apos) [] [] cpos) (lDClear to) := fun s0 H0 E tk => (pe_bm0 PySem.F.plainAttrs_dict PySem.F.slot_dict_clear PySem.F.type_dict_clear mtd_clearT (ho s0 H0 E tk) hbase hline).imp fun σ H Q ⟨σl, s, Q0, E1, hσ, hs, st, hE, h, k⟩ => by
  refine ⟨σl, s, _, E1, hσ, hs, st, hE, h, fun lx s1 x H1 h st1 hs1 rx => ?_⟩
  cases lx with
  | ref a =>
    simp only [atT] at h
    split at h
    · next kvs e =>
      obtain ⟨us, hh, q⟩ := hs1 a _ e
      have nn : s1 a ≠ none ∨ H1 a = none := .inl (by rw [e]; simp)
      have ex := rx.ref'
      subst ex
      exact ⟨.inr (.inr (.inl ⟨rfl, .inr ⟨us, hh⟩⟩)), a, us, rfl, rfl, hh, k _ _ _ _ h (st1.trans (.put nn)) (hs1.put nn ⟨[], upd_same, by simp only [RVk]⟩) .non⟩
    · exact h.elim
  | _ => exact h.elim
end
end L3

namespace L3
open PySem PySem.Spec PyProof.Rows L2
/-- x, read in s1, is y, read in s2 -/
def Dz (s1 s2 : LS) (x y : LV) : Prop := ∀ (K : PySem.W.Frag) [GG K] H v, RelS K s1 H → RV K s1 H x v → RV K s2 H y v
def Dzs (s1 s2 : LS) (xs ys : List LV) : Prop := ∀ (K : PySem.W.Frag) [GG K] H us, RelS K s1 H → RVs K s1 H xs us → RVs K s2 H ys us
section
variable {s1 s2 : LS}
theorem Frz.of {x y : LV} (h : Sub s2 s1) (d : Dz s1 s2 x y) : Frz x s1 y s2 := fun K _ H v hs r => ⟨d K H v hs r, h.rel hs, h.step⟩
theorem Dz.same (h : Sub s2 s1) (x : LV) : Dz s1 s2 x x := fun K _ H v hs r => r.mono h.step
theorem Dzs.nil : Dzs s1 s2 [] [] := fun K _ H us hs r => by simp only [RVs] at r ⊢; exact r
theorem Dzs.cons {x y : LV} {xs ys : List LV} (d : Dz s1 s2 x y) (ds : Dzs s1 s2 xs ys) : Dzs s1 s2 (x :: xs) (y :: ys) := fun K _ H us hs r => by
  simp only [RVs] at r ⊢
  obtain ⟨u, us, rfl, r1, r2⟩ := r
  exact ⟨u, us, rfl, d K H u hs r1, ds K H us hs r2⟩
theorem Dzs.map {α : Type} {f g : α → LV} : ∀ {xs : List α}, (∀ x ∈ xs, Dz s1 s2 (f x) (g x)) → Dzs s1 s2 (xs.map f) (xs.map g)
  | [], _ => .nil
  | x :: xs, h => by
    rw [List.map_cons, List.map_cons]
    exact .cons (h x List.mem_cons_self) (Dzs.map fun y hy => h y (List.mem_cons_of_mem _ hy))
theorem Dzs.same (h : Sub s2 s1) : ∀ xs : List LV, Dzs s1 s2 xs xs
  | [] => .nil
  | x :: xs => .cons (.same h x) (Dzs.same h xs)
theorem Dz.lst {a : Addr} {xs ys : List LV} (e : s1 a = some (.lst xs)) (n : s2 a = none) (d : Dzs s1 s2 xs ys) : Dz s1 s2 (.ref a) (.lst ys) := fun K _ H v hs r => by
  obtain ⟨us, hh, q⟩ := hs.lst e
  simp only [RV]
  exact ⟨a, us, r.ref', n, hh, d K H us hs q⟩
theorem Dz.dT {a : Addr} {kvs : List (List Key × LV)} (h : Sub s2 s1) (e : s1 a = some (.dT kvs)) (n : s2 a = none) : Dz s1 s2 (.ref a) (.dT kvs) := fun K _ H v hs r => by
  obtain ⟨us, hh, q⟩ := hs a _ e
  simp only [RV]
  exact ⟨a, us, _, r.ref', n, hh, .inl rfl, q.mono h.step⟩
theorem Dz.tup {xs ys : List LV} (h : Sub s2 s1) (d : Dzs s1 s2 xs ys) : Dz s1 s2 (.tup xs) (.tup ys) := fun K _ H v hs r => by
  simp only [RV] at r ⊢
  obtain ⟨a, us, e, n, hh, q⟩ := r
  refine ⟨a, us, e, ?_, hh, d K H us hs q⟩
  rcases h a with z | z
  · exact z
  · rw [z]; exact n
theorem fin_of {Q : LVK} {x y : LV} (h : Sub s2 s1) (d : Dz s1 s2 x y) (q : Q y s2) : ∃ y s2, Frz x s1 y s2 ∧ Q y s2 := ⟨y, s2, .of h d, q⟩
/-- a list of new lists -/
theorem fin_lists {Q : LVK} {p : Addr} {β : Type} {f : β → LV} {prs : List (Addr × List β)} (e : s1 p = some (.lst (prs.map fun q => .ref q.1))) (he : ∀ q ∈ prs, s1 q.1 = some (.lst (q.2.map f))) (n : s2 p = none) (ne : ∀ q ∈ prs, s2 q.1 = none) (h : Sub s2 s1) (q : Q (.lst (prs.map fun q => .lst (q.2.map f))) s2) : ∃ y s2, Frz (.ref p) s1 y s2 ∧ Q y s2 :=
  fin_of h (.lst e n (.map fun z hz => .lst (he z hz) (ne z hz) (.same h _))) q
end
end L3

namespace L3
open PySem PySem.Spec PyProof.Rows L2
def rSetdT : V → List V → Hp → VK → Prop := fun x vs H Q => ∃ (a : Addr) (kvs : List (List Key × V)) (k : List Key) (b : Addr) (d : V), x = .ref a ∧ vs = [.ref b, d] ∧ H a = some (.dT kvs) ∧ H b = some (.tup (k.map kV)) ∧ kvs.length < sizeLine ∧
  (∀ v, valV kvs k = some v → Q v H) ∧ (valV kvs k = none → Q d (upd H a (.dT (putK kvs k d))))
theorem mt_setdT {X : Cx} (hu : X.A.units + 1 < cLine) : MtR X "dict.setdefault" rSetdT := by
  intro pins s σ H x vs v us Q I rx rv h
  obtain ⟨a, kvs, k, b, d, rfl, rfl, ha, hb, hl, q1, q2⟩ := h
  cases rx
  obtain ⟨u1, u2, rfl, r1, r2⟩ := vals2 rv
  cases r1
  obtain ⟨z, hd, xs, rel, dd⟩ := dt_of I.hok ha
  have hz : xs.length ≤ sizeLine := by rw [← Paired.length rel]; exact z
  have hl2 : (putK kvs k d).length ≤ sizeLine := by have := length_putK kvs k d; omega
  refine call_setdefault_heap (hsz := hz) (tupleKind_room_in1 hu) (key_of I.hok hb) hd dd (fun p hp => ?_) fun hn h' dd' hs => ?_
  · have r := rel.val k
    rw [hp] at r
    obtain ⟨v0, ev, rv⟩ : ∃ v0, valV kvs k = some v0 ∧ RelV v0 p.2 := by
      cases ev : valV kvs k with
      | none =>
        rw [ev] at r
        exact (show False from r).elim
      | some v0 =>
        rw [ev] at r
        exact ⟨v0, rfl, r⟩
    exact ⟨v0, H, I.tok _, rv, q1 v0 ev⟩
  · have r := rel.val k
    rw [hn] at r
    have e : valV kvs k = none := by
      cases ev : valV kvs k with
      | none => rfl
      | some v0 =>
        rw [ev] at r
        exact (show False from r).elim
    obtain ⟨o, es, ep, hq, h2, h3, h4, _, h5⟩ := dd'
    have I2 : Inv X pins σ (upd H a (.dT (putK kvs k d))) { s with heap := h', toks := s.toks + (tupleKind (mixKind X.prog X.w)).draws k } :=
      d_write I (by rw [ha]; exact True.intro) hs ⟨o, hq⟩ ⟨hl2, hd, _, (rel.put k hb r2).keeps (fun c ys ec => (by rw [upd_ne (ne_of ec ha (fun z => nomatch z))]; exact ec)), o, es, ep, hq, h2, h3, h4, h5⟩
    exact ⟨d, _, I2, r2, q2 e⟩
def rSetdL : LRm := fun x vs s Q => match vs with
  | [.tup ks, d] => atT x s fun a kvs => opt (keysL ks) fun k => kvs.length < 16777216 ∧ (∀ v, valL kvs k = some v → Q v s) ∧ (valL kvs k = none → Q d (put s a (.dT (putD kvs k d))))
  | _ => False
def lBMT (r : LRm) (to : LTE) (t : LTA) : LTE := fun σ s Q E => to σ s (fun x s1 => atT x s1 (fun _ _ => True) ∧ t σ s1 (fun vs s2 => r x vs s2 Q) E) E
theorem atT_ok {x : LV} {s : LS} {k : Addr → List (List Key × LV) → Prop} (h : atT x s k) : ∃ a kvs, x = .ref a ∧ s a = some (.dT kvs) ∧ k a kvs := by
  cases x with
  | ref a =>
    simp only [atT] at h
    split at h
    · next xs e => exact ⟨a, xs, rfl, e, h⟩
    · exact h.elim
  | _ => exact h.elim
section
variable {X : Cx} [GG X.K] {o e : Expr} {es : List Expr} {to : LTE} {tas : LTA} {apos cpos : Pos}
theorem up_setd {K : PySem.W.Frag} [GG K] : UpM K rSetdT rSetdL := fun x vs s H lx lvs Q0 Q hs rx rs h k => by
  unfold rSetdL at h
  split at h
  · next ks d =>
    obtain ⟨a, kvs, rfl, e, h⟩ := atT_ok h
    obtain ⟨kk, ek, hl, h1, h2⟩ := opt_ok h
    obtain ⟨us, hh, q⟩ := hs a _ e
    have nn : s a ≠ none ∨ H a = none := .inl (by rw [e]; simp)
    simp only [RVs] at rs
    obtain ⟨u1, _, rfl, r1, u2, _, rfl, r2, rfl⟩ := rs
    simp only [RV] at r1
    obtain ⟨b, us1, rfl, nb, hb, rk⟩ := r1
    rw [keysL_ok ek rk] at hb
    have hv := q.val kk
    refine ⟨a, us, kk, b, u2, rx.ref', rfl, hh, hb, by rw [q.length, sizeLine_eq]; exact hl, fun v ev => ?_, fun ev => ?_⟩
    · cases e1 : valL kvs kk with
      | none => rw [e1] at hv; rw [hv] at ev; cases ev
      | some lv =>
        rw [e1] at hv
        obtain ⟨u, eu, ru⟩ := hv
        rw [eu] at ev
        cases ev
        exact k _ _ _ _ (h1 _ e1) (.refl _ _) hs ru
    · cases e1 : valL kvs kk with
      | some lv =>
        rw [e1] at hv
        obtain ⟨u, eu, ru⟩ := hv
        rw [eu] at ev
        cases ev
      | none => exact k _ _ _ _ (h2 e1) (.put nn) (hs.put nn ⟨_, upd_same, (q.put kk r2).mono (.put nn)⟩) (r2.mono (.put nn))
  · exact h.elim
theorem le_setd (hu : X.A.units + 1 < cLine) (ho : LE X o to) (ha : LA X (e :: es) tas)
    (hbase : attributeBase o "setdefault" X.env (eval o X.env) = eval o X.env := by rfl)
    (hfew : ((backTo cpos (starEach (e :: es) X.env)).all (fun x => !x.1) && (backToKw cpos (keywordEach [] X.env)).all (fun x => x.1.isSome)
      && decide ((e :: es).length + ([] : List Keyword).length + (if ([] : List Keyword).isEmpty then 0 else 1) < 30)) = true := by rfl)
    (hline : (apos.endLine == cpos.line) = true := by rfl) (hs : starEach (e :: es) X.env = (false, eval e X.env) :: starEach es X.env := by rfl) (hplain : (backTo cpos (starEach es X.env)).any (·.1) = false := by rfl) :
    LE X (.Call (.Attribute o "setdefault" apos) (e :: es) [] cpos) (lBMT rSetdL to tas) := fun s0 H0 E tk => (pe_bm PySem.F.plainAttrs_dict PySem.F.slot_dict_setdefault PySem.F.type_dict_setdefault (mt_setdT hu) (ho s0 H0 E tk) (ha s0 H0 E tk) hbase hfew hline hs hplain).imp fun σ H Q ⟨σl, s, Q0, E1, hσ, hs, st, hE, h, k⟩ =>
  ⟨σl, s, _, E1, hσ, hs, st, hE, h, fun lx s1 x H1 h st1 hs1 rx => by
    obtain ⟨a, kvs, rfl, e, _⟩ := atT_ok h.1
    obtain ⟨us, hh, q⟩ := hs1 a _ e
    have ex := rx.ref'
    subst ex
    exact ⟨.inr (.inr (.inl ⟨rfl, .inr ⟨us, hh⟩⟩)), σl, s1, _, E1, hσ.mono st1, hs1, st.trans st1, hE, h.2, fun lvs s2 vs H2 h st2 hs2 rs => up_setd _ vs s2 H2 _ lvs Q0 Q hs2 (rx.mono st2) rs h fun lv s3 v H3 q st3 => k lv s3 v H3 q ((st1.trans st2).trans st3)⟩⟩
end
/-- a dict of new lists -/
theorem dzk {s1 s2 : LS} {β : Type} {k : β → List Key} {f g : β → LV} : ∀ {xs : List β}, (∀ x ∈ xs, Dz s1 s2 (f x) (g x)) → ∀ (K : PySem.W.Frag) [GG K] H us, RelS K s1 H → RVk K s1 H (xs.map fun x => (k x, f x)) us → RVk K s2 H (xs.map fun x => (k x, g x)) us
  | [], _, K, _, H, us, hs, r => by simp only [List.map_nil, RVk] at r ⊢; exact r
  | x :: xs, h, K, _, H, us, hs, r => by
    simp only [List.map_cons, RVk] at r ⊢
    obtain ⟨u, us, rfl, r1, r2⟩ := r
    exact ⟨u, us, rfl, h x List.mem_cons_self K H u hs r1, dzk (fun y hy => h y (List.mem_cons_of_mem _ hy)) K H us hs r2⟩
theorem Dz.dTm {s1 s2 : LS} {a : Addr} {β : Type} {k : β → List Key} {f g : β → LV} {xs : List β} (e : s1 a = some (.dT (xs.map fun x => (k x, f x)))) (n : s2 a = none) (d : ∀ x ∈ xs, Dz s1 s2 (f x) (g x)) : Dz s1 s2 (.ref a) (.dT (xs.map fun x => (k x, g x))) := fun K _ H v hs r => by
  obtain ⟨us, hh, q⟩ := hs a _ e
  simp only [RV]
  exact ⟨a, us, _, r.ref', n, hh, .inl rfl, dzk d K H us hs q⟩
theorem look_relabel (g : Str → NameKind → Bool) : ∀ {names : List (Str × NameKind)} {x : Str}, (names.lookup x = some .cell ∨ names.lookup x = some .free) →
    (names.map fun (n, k) => if g n k then (n, NameKind.cell) else (n, k)).lookup x = some .cell ∨ (names.map fun (n, k) => if g n k then (n, NameKind.cell) else (n, k)).lookup x = some .free
  | [], x, h => by rcases h with h | h <;> cases h
  | (n, k) :: r, x, h => by
    have ih := @look_relabel g r x
    rw [List.map_cons]
    by_cases e : x = n
    · subst e
      simp only [List.lookup_cons, beq_self_eq_true] at h
      by_cases q : g x k = true
      · left; simp [q]
      · simp only [q]
        rcases h with h | h <;> cases h
        · left; simp
        · right; simp
    · have e2 : (x == n) = false := beq_eq_false_iff_ne.mpr e
      simp only [List.lookup_cons, e2] at h
      have := ih h
      by_cases q : g n k = true
      · simpa [q, List.lookup_cons, e2] using this
      · simpa [q, List.lookup_cons, e2] using this
theorem blkOk_nest {N : List Str} {sc scope : Scope} {own : List (Str × Nat)} {env : Env} (h : blkC N sc scope own = true) : BlkOk N (relabel sc env) scope own := by
  have b := blkOk_by h
  exact ⟨b.kind, b.uniq, b.ix, fun y hy e => look_relabel (fun n k => k == NameKind.free && env.scope.kind == .function && env.kindOf n == some .cell) (b.free y hy e), b.own⟩
end L3

namespace L3
open PySem PySem.Spec PyProof.Rows L2
section
variable {X : Cx} [GG X.K] {a b : Expr} {ta tb : LTE} {pos p cpos : Pos}
def lgUnl (is : List Nat) : LTG := fun v σ s Q _ => opt (seqL v s) fun xs => match lSets is xs σ with
  | some σ' => Q σ' s
  | none => False
theorem lg_unl {es : List Expr} {k : Nat} {is : List Nat} (hc : X.calm = true) (h : PGs X es (gNames is)) (hn : (assignEach es X.env).length = is.length := by rfl) (hst : (assignEach es X.env).findIdx? (·.1) = none := by rfl) :
    LG X (.Tuple es k pos) (lgUnl is) := fun s0 H0 E tk => (pg_unl hc h hn hst).imp fun v σ H Q ⟨lv, σl, s, Q0, E1, hσ, hs, st, rv, hE, h, k⟩ => by
  obtain ⟨xs, e, h⟩ := opt_ok h
  obtain ⟨a, us, rfl, hh, r⟩ := seqL_ok hs rv e
  split at h
  · next σ' e2 => exact ⟨a, us, rfl, SqL.of hh, by rw [r.length, lSets_len e2], gNames_ok hσ r e2 fun σ2 q => k _ _ _ _ h (.refl _ _) hs q⟩
  · exact h.elim
def rRange1 : List V → Hp → VK → Prop := fun vs H Q => ∃ n : Int, vs = [V.int n] ∧ ∀ p, H p = none → Q (.ref p) (upd H p (.rng 0 n))
theorem cr_range1 {X : Cx} : CallR X (.type "range") rRange1 := by
  intro pins s σ H vs us Q I r h
  obtain ⟨n, rfl, q⟩ := h
  obtain ⟨u1, rfl, ri⟩ := vals1 r
  obtain ⟨t, rfl⟩ := ri
  refine call_range_1 ⟨.ref s.heap.objs.size, upd H s.heap.objs.size (.rng 0 n), I.laid (fun b o e => Heap.get?_push_of_some _ e) (Nat.le_refl _) ?_, rfl, q _ (I.hok.fresh (Nat.le_refl _))⟩
  exact ⟨_, _, _, Heap.get?_push_size _ rfl⟩
def rNinRg : R2 := fun x y H Q => ∃ i a lo hi, x = V.int i ∧ y = V.ref a ∧ H a = some (.rng lo hi) ∧ Q (.bl (!decide (lo ≤ i ∧ i < hi))) H
theorem op_nin_rng {X : Cx} : OpR X (compareOp .NotIn) rNinRg := by
  intro pins s σ H x y v u Q I rx ry h
  obtain ⟨i, a, lo, hi, rfl, rfl, ha, q⟩ := h
  obtain ⟨k, rfl⟩ := rx
  obtain rfl : u = Value.ref a := ry
  obtain ⟨t1, t2, t3, ho⟩ := I.hok a _ ha
  show wpAny _ _ (do return Value.bool (!(← contains (Value.ref a) (Value.int i k)))) _ _ s
  refine wpAny_bind (wpAny_contains_slot (T := "range") ⟨_, ho, rfl⟩ F.slot_range_contains (call_meets F.slot_range_contains ⟨_, ho, rfl⟩ F.entry_range_contains (F.args_range_contains_2 _ _) (q_contains a lo hi i t1 t2 t3 k)
    ⟨ho, wpAny_truthy_bool (wpAny_pure ⟨.bl _, H, I, rfl, ?_⟩)⟩))
  rw [place1]
  exact q
def lNinRg (ta tb : LTE) : LTT := fun σ s Q E => ta σ s (fun x s1 => lCons tb lNil σ s1 (fun vs s2 => one1 vs fun y => isInt x fun i => isInt y fun n => Q (!decide (0 ≤ i ∧ i < n)) s2) E) E
theorem lt_ninRg (hg : Gl X "range") (hm : X.mg "range" = none) (ha : LE X a ta) (hb : LE X b tb) (hmk : behindInMarks CmpOp.NotIn (.Call (.Name "range" p) [b] [] cpos) = false := by rfl)
    (he : starEach (b :: []) X.env = (false, eval b X.env) :: starEach [] X.env := by rfl) (hpl : (backTo cpos (starEach [] X.env)).any (·.1) = false := by rfl) : LT X (.Compare a [.NotIn] [.Call (.Name "range" p) [b] [] cpos] pos) (lNinRg ta tb) := fun s0 H0 E tk =>
  (pt_cmpR op_nin_rng (ha s0 H0 E tk) (pe_callTy cr_range1 hg hm boot_range (la_cons hb la_nil he s0 H0 E tk) (by decide) (by decide) he hpl) hmk).imp fun σ H Q ⟨σl, s, Q0, E1, hσ, hs, st, hE, h, k⟩ => by
    refine ⟨σl, s, _, E1, hσ, hs, st, hE, h, fun lx s1 x H1 h st1 hs1 rx => ?_⟩
    refine ⟨σl, s1, _, E1, hσ.mono st1, hs1, st.trans st1, hE, h, fun lvs s2 vs H2 h st2 hs2 rs => ?_⟩
    obtain ⟨y, rfl, h⟩ := one1_ok h
    obtain ⟨v, rfl, ry⟩ := rs.one
    cases lx with
    | int i =>
      cases y with
      | int n =>
        have e1 := (rx.mono st2).int'
        have e2 := ry.int'
        subst e1 e2
        exact ⟨n, rfl, fun q hq => ⟨i, q, 0, n, rfl, rfl, upd_same, _, rfl, k _ _ _ h ((st1.trans st2).trans (.new hs2 hq)) (hs2.new hq)⟩⟩
      | _ => exact False.elim h
    | _ => exact False.elim h
end
end L3

namespace L3
open PySem PySem.Spec PyProof.Rows L2
section
variable {X : Cx} [GG X.K] {a b e : Expr} {es : List Expr} {ta tb : LTE} {tas : LTA} {pos p : Pos}
def rNotBL : LR2 := fun x y s Q => match x, y with
  | .bl a, .bl b => Q (.bl (!decide (a = b))) s
  | _, _ => False
theorem up_notBL {K : PySem.W.Frag} [GG K] : Up2 K (fun x y H Q => ∃ a b, x = .bl a ∧ y = .bl b ∧ Q (.bl (!decide (a = b))) H) rNotBL := fun x y s H lx ly Q0 Q hs rx ry h k => by
  cases lx with
  | bl a =>
    cases ly with
    | bl b => exact ⟨a, b, rx.bl', ry.bl', k _ _ _ _ h (.refl _ _) hs .bl⟩
    | _ => exact False.elim h
  | _ => exact False.elim h
theorem lt_notB (ha : LE X a ta) (hb : LE X b tb) : LT X (.Compare a [.IsNot] [b] pos) (lB (lOp rNotBL ta tb)) := lt_cmp op_isnot_bl up_notBL ha hb (nomark _)
theorem le_isiB {K : PySem.W.Frag} (hK : X.K = K) (hg : Gl X "isinstance") (hm : X.mg "isinstance" = none) (ha : LA X (e :: es) tas) (he : starEach (e :: es) X.env = (false, eval e X.env) :: starEach es X.env := by rfl) (hpl : (backTo pos (starEach es X.env)).any (·.1) = false := by rfl) :
    LE X (.Call (.Name "isinstance" p) (e :: es) [] pos) (lCB (rIsiL K) tas) := by
  subst hK
  exact le_isi hg hm ha he hpl
end
end L3

namespace L2
open PySem PySem.Spec PySem.W PyProof.Rows
section
variable {X : Cx} {α : Type} {den : α → PyData} {e : Expr} {td : TE} {p pos apos cpos : Pos}
def rSortedKs {α : Type} (K : PySem.W.Frag) (den : α → PyData) (kvs : List (List Key × V)) (H : Hp) (Q : VK) : Prop :=
  ∀ us : List V, us.length = kvs.length → (∀ (j : Nat) v, us[j]? = some v → ∃ q k x, v = .ref q ∧ kvs[j]? = some (k, x) ∧ H q = some (.tup (k.map kV))) →
    ∃ bs : List (α × V), us = bs.map (·.2) ∧ (∀ p ∈ bs, Dp K H p.2 (den p.1)) ∧ ∀ l, H l = none → Q (.ref l) (upd H l (.lst ((bs.mergeSort (dataLe false fun p => den p.1)).map (·.2))))
theorem pe_sortedKs (hal : ∀ a b, alike (den a) (den b) = true) (htu : ∀ a, ∃ x r, den a = .tuple (x :: r)) (hdp : ∀ a, (den a).depth ≤ 62) (hu : X.A.units + 64 < cLine)
    (hc : X.calm = true) (hg : Gl X "sorted") (hm : X.mg "sorted" = none) (he : PE X e td)
    (hbase : attributeBase e "keys" X.env (eval e X.env) = eval e X.env := by rfl) (hline : (apos.endLine == cpos.line) = true := by rfl)
    (na : starEach [.Call (.Attribute e "keys" apos) [] [] cpos] X.env = (false, eval (.Call (.Attribute e "keys" apos) [] [] cpos) X.env) :: starEach [] X.env := by rfl) :
    PE X (.Call (.Name "sorted" p) [.Call (.Attribute e "keys" apos) [] [] cpos] [] pos) (fun σ H Q => td σ H fun x H1 => ∃ d kvs, x = .ref d ∧ Rd H1 d (.dT kvs) ∧ rSortedKs X.K den kvs H1 Q) := by
  refine ⟨fun pins s σ H Q I h => ?_⟩
  refine wpAny_Call_Name_kw (ld_blt (u := .builtin "sorted") I hg hm (by decide +kernel) ?_ (by decide) (by decide))
  refine PyProof.Rows.callWith_builtin1 (args_cons ?_ na) na (by rfl)
  refine wpAny_Call_method (T := "dict") (id := "dict.keys") hbase rfl hline PySem.F.plainAttrs_dict PySem.F.slot_dict_keys PySem.F.type_dict_keys (thn (he.run pins s σ H _ I h) fun u s1 ⟨x, H1, I1, rx, d, kvs, ex, hd, q⟩ => ?_)
  subst ex
  obtain rfl : u = Value.ref d := rx
  obtain ⟨z, hs, xs, rel, dd⟩ := dt_rd I1.hok hd
  obtain ⟨es, ep, raw, hsz, hent⟩ := dd.raw
  refine ⟨raw.typeIs, fun b qq => by cases qq; obtain ⟨o, ho, hx, _⟩ := raw; exact ⟨o, ho, hx.2.1⟩, ?_⟩
  show wpAny _ _ (callWith cpos (.builtin "dict.keys") [.ref d] [] []) _ X.xe s1
  refine method_meetsIn PySem.F.slot_dict_keys PySem.F.entry_dict_keys rfl (PySem.evalArgs_none ⟨rfl, raw.typeIs, PySem.F.args_dict_keys_1 _, _, meets_dict_keys_raw d hs, ⟨es, ep, raw⟩, ?_⟩)
  refine args_nil ?_
  have hh : X.A.handled = none := I1.ok.hd hc
  have hl0 : kvs.length = es.size := by rw [hsz]; exact Paired.length rel
  have h64 : es.size ≤ sizeLine := by rw [← hl0]; exact z
  have view : KdlKeysView (s1.heap.push { cls := .type "dict_keys", data := .fields #[.ref d] }) s1.heap.objs.size d := ⟨_, Heap.get?_push_size _ rfl, rfl, rfl⟩
  have raw2 : (s1.heap.push { cls := .type "dict_keys", data := .fields #[.ref d] }).DictRaw d es ep := raw.at fun o e => Heap.get?_push_of_some _ e
  have k12 : ∀ b o, s1.heap.get? b = some o → (s1.heap.push { cls := .type "dict_keys", data := .fields #[.ref d] }).get? b = some o := fun b o e => Heap.get?_push_of_some _ e
  generalize hv2 : s1.heap.objs.size = v2 at view ⊢
  generalize s1.heap.push { cls := .type "dict_keys", data := .fields #[.ref d] } = h2 at view raw2 k12 ⊢
  refine Calls.call_function_entry kind_sorted plain_sorted entry_sorted (args_sorted1 _) ?_
  unfold Builtin.«sorted»
  refine wpAny_bind (m := checkCount "sorted" 1 1 _) (wpAny_pure ?_)
  refine wpAny_bind (kdu_collect (A := X.A.in1) KdlSrc.rawKeys hh ⟨view, raw2⟩ h64 fun h' tk acc hk hacc => ?_)
  have hl : acc.toList.length = es.size := by rw [Array.length_toList]; exact hacc.1
  refine wpAny_bind (wpAny_newList ?_ (by rw [hl]; exact h64))
  -- what was collected
  have k1 : ∀ b o, s1.heap.get? b = some o → h'.get? b = some o := fun b o e => hk b o (k12 b o e)
  obtain ⟨us, hul, hus⟩ : ∃ us : List V, us.length = acc.toList.length ∧ ∀ (j : Nat) v, us[j]? = some v → ∃ q k x, v = .ref q ∧ acc.toList[j]? = some (.ref q) ∧ kvs[j]? = some (k, x) ∧ H1 q = some (.tup (k.map kV)) := by
    have key : ∀ j, j < acc.toList.length → ∃ q k x, acc.toList[j]? = some (.ref q) ∧ kvs[j]? = some (k, x) ∧ H1 q = some (.tup (k.map kV)) := fun j hj => by
      have hj2 : j < kvs.length := by omega
      obtain ⟨⟨k, x⟩, hkv⟩ : ∃ y, kvs[j]? = some y := ⟨_, List.getElem?_eq_getElem hj2⟩
      obtain ⟨y, hy, e1, e2, e3⟩ := paired_get rel hkv
      have ha : acc.toList[j]? = some acc.toList[j] := List.getElem?_eq_getElem hj
      obtain ⟨hi, hv⟩ := hacc.2 j _ (by rw [← Array.getElem?_toList]; exact ha)
      obtain ⟨y', hy', q1, _⟩ := hent j hi
      rw [hy] at hy'
      cases hy'
      refine ⟨y.2.1, k, x, ?_, hkv, e2⟩
      rw [ha, hv, q1]
    refine ⟨acc.toList.map fun u => match u with | .ref q => V.ref q | _ => V.int 0, by simp, fun j v hj => ?_⟩
    have hj2 : j < acc.toList.length := by
      have := (List.getElem?_eq_some_iff.mp hj).1
      simpa using this
    obtain ⟨q, k, x, h1, h2, h3⟩ := key j hj2
    rw [List.getElem?_map, h1] at hj
    cases hj
    exact ⟨q, k, x, rfl, h1, h2, h3⟩
  obtain ⟨bs, rfl, hdp2, hq⟩ := q us (by omega) fun j v hj => by
    obtain ⟨q, k, x, e1, _, e2, e3⟩ := hus j v hj
    exact ⟨q, k, x, e1, e2, e3⟩
  have hvals : Vals (bs.map (·.2)) acc.toList := by
    refine vals_of_at hul fun j x u hx hu => ?_
    obtain ⟨q, k, y, rfl, e2, _⟩ := hus j x hx
    rw [e2] at hu
    cases hu
    rfl
  have I2 : Inv X pins σ H1 { s1 with heap := h', toks := tk } := I1.kept k1
  have hob : (h'.push { cls := .type "list", data := .seq acc.toList.toArray }).get? h'.objs.size = some (seqObj "list" acc.toList.toArray 0) := Heap.get?_push_size _ rfl
  have kb : ∀ b o, h'.get? b = some o → (h'.push { cls := .type "list", data := .seq acc.toList.toArray }).get? b = some o := fun b o e => Heap.get?_push_of_some _ e
  have ne0 : ∀ b o, h'.get? b = some o → b ≠ h'.objs.size := fun b o e => Nat.ne_of_lt (Heap.lt_size e)
  have hlt : s1.heap.objs.size ≤ h'.objs.size := by
    rcases Nat.lt_or_ge h'.objs.size s1.heap.objs.size with hlt | hge
    · exfalso
      obtain ⟨o, ho, _⟩ := view
      have q1 : v2 < h'.objs.size := Heap.lt_size (hk _ _ ho)
      exact absurd q1 (by omega)
    · exact hge
  generalize hh2 : h'.push { cls := .type "list", data := .seq acc.toList.toArray } = h3 at hob kb ⊢
  have er' : EachIs (fun v (b : α × V) => ∃ as, Reads (sortingHeap h3 h'.objs.size acc.toList) v (den b.1) as) acc.toList bs := eachOf hvals fun p m u r => by
    obtain ⟨as, rd⟩ := Dp.reads I2 _ _ _ (hdp2 p m) r
    exact ⟨as, PyProof.Rows.Reads.keeps (fun b o e => sortingHeap_old (ne0 _ _ e) (kb _ _ e)) rd⟩
  have er : EachIs (fun v (b : α × V) => RelV b.2 v) acc.toList bs := eachOf hvals fun p _ u r => r
  have hbl : bs.length ≤ sizeLine := by rw [List.length_map] at hul; omega
  have hgo : wpAny (model X.prog X.w) X.A.in1 (call (.builtin "list.sort") [.ref h'.objs.size]) (fun _ s' => EP X pins σ Q (.ref h'.objs.size) s') X.xe { s1 with heap := h3, toks := tk } := by
    refine wpAny_call_entry slot_list_sort ⟨_, hob, rfl⟩ entry_list_sort (list_sort_vals (s := { s1 with heap := h3, toks := tk }) (κ := dataKind (sortingHeap h3 h'.objs.size acc.toList) (bs.map fun b => den b.1)) hob
      (SortsAt.data (s := { s1 with heap := sortingHeap h3 h'.objs.size acc.toList, toks := tk }) (each_map (R := fun v d => ∃ as, Reads (sortingHeap h3 h'.objs.size acc.toList) v d as) (fun b : α × V => den b.1) er') (AllAlike.of fun p p' => hal _ _) (Sortable.tuples fun p => htu _) (bound_map fun b _ => by have := hdp b.1; show X.A.units + 1 + 1 + _ < _; omega)) (by rw [er.length]; exact hbl) ⟨.none, rfl, ?_⟩) (args_list_sort _)
    obtain ⟨out, eo⟩ : ∃ z, z = sortVals (dataKind (sortingHeap h3 h'.objs.size acc.toList) (bs.map fun b => den b.1)) false acc.toList acc.toList := ⟨_, rfl⟩
    have ho2 := sortVals_data (enc := fun b : α × V => den b.1) false er er' (AllAlike.of fun p p' => hal _ _)
    rw [← eo] at ho2 ⊢
    have rv : Vals ((bs.mergeSort (dataLe false fun p => den p.1)).map (·.2)) out := valsOf ho2
    obtain ⟨eF, heF⟩ := PyProof.Rows.sortedHeap_at (vs := acc.toList) (out := out.toArray) hob
    have kF : ∀ b o, h'.get? b = some o → (sortedHeap h3 h'.objs.size acc.toList out.toArray).get? b = some o := fun b o e => (PyProof.Rows.sortedHeap_old (ne0 _ _ e) (Heap.lt_size (kb b o e))).trans (kb b o e)
    have I3 : Inv X pins σ H1 { s1 with heap := sortedHeap h3 h'.objs.size acc.toList out.toArray, toks := tk } := I1.kept (t' := tk) fun b o e => kF b o (k1 b o e)
    have hn0 : H1 h'.objs.size = none := I1.hok.fresh hlt
    have I4 : Inv X pins σ (upd H1 h'.objs.size (.lst ((bs.mergeSort (dataLe false fun p => den p.1)).map (·.2)))) { s1 with heap := sortedHeap h3 h'.objs.size acc.toList out.toArray, toks := tk } :=
      I3.take (h' := sortedHeap h3 h'.objs.size acc.toList out.toArray) (t' := tk) (fun b ob _ e => e) (I1.fpOk hlt hn0) ⟨by rw [List.length_map, List.length_mergeSort]; exact hbl, out, eF, rv, heF⟩
    exact ⟨.ref h'.objs.size, _, I4, rfl, hq _ hn0⟩
  refine wpAny_bind (wpAny_holding (wpAny_mono hgo (fun _ s' x => ?_) fun _ _ e => e))
  exact wpAny_pure ⟨_, rfl, x⟩
end
end L2
namespace L3
open PySem PySem.Spec PyProof.Rows L2
section
variable {X : Cx} [GG X.K] {o : Expr} {to : LTE} {p pos apos cpos : Pos}
def lSrtK (α : Type) [Cod α] (to : LTE) : LTL := fun σ s Q E => to σ s (fun x s1 => match x with
  | .dT kvs => ∃ bs : List α, (kvs.map fun p => keyT p.1) = bs.map Cod.enc ∧ Q ((sortD bs).map Cod.enc) s1
  | _ => False) E
theorem ll_sortedKeys (α : Type) [Cod α] [S : Sor α] (hu : X.A.units + 64 < cLine) (hc : X.calm = true) (hg : Gl X "sorted") (hm : X.mg "sorted" = none) (ho : LE X o to)
    (hbase : attributeBase o "keys" X.env (eval o X.env) = eval o X.env := by rfl) (hline : (apos.endLine == cpos.line) = true := by rfl)
    (na : starEach [.Call (.Attribute o "keys" apos) [] [] cpos] X.env = (false, eval (.Call (.Attribute o "keys" apos) [] [] cpos) X.env) :: starEach [] X.env := by rfl) :
    LL X (.Call (.Name "sorted" p) [.Call (.Attribute o "keys" apos) [] [] cpos] [] pos) (lSrtK α to) := fun s0 H0 E tk =>
  (pe_sortedKs (den := Cod.den (α := α)) S.ali S.tup (fun a => Nat.le_trans (Cod.hdep a) S.shal) hu hc hg hm (ho s0 H0 E tk) hbase hline na).imp fun σ H Q ⟨σl, s, Q0, E1, hσ, hs, st, hE, h, k⟩ => ⟨σl, s, _, E1, hσ, hs, st, hE, h, fun lx s1 x H1 h st1 hs1 rx => by
    cases lx with
    | dT kvs =>
      obtain ⟨bs, ek, h⟩ := h
      simp only [RV] at rx
      obtain ⟨d, us, ob, rfl, n, hh, isd, r⟩ := rx
      refine ⟨d, us, rfl, isd.rd hh, fun vs hl hv => ?_⟩
      have hl2 : us.length = kvs.length := r.length
      have hl3 : kvs.length = bs.length := by have := congrArg List.length ek; simpa using this
      have al : ∀ q ∈ bs.zip vs, RV X.K s1 H1 (Cod.enc q.1) q.2 := fun q hq => by
        obtain ⟨j, hj⟩ := List.mem_iff_getElem?.mp hq
        obtain ⟨h1, h2⟩ := List.getElem?_zip_eq_some.mp hj
        obtain ⟨a, kk, x, e1, e2, e3⟩ := hv j _ h2
        obtain ⟨lx, e4, _⟩ := r.get e2
        have e5 : (bs.map Cod.enc)[j]? = some (keyT kk) := by rw [← ek, List.getElem?_map, e4]; rfl
        rw [List.getElem?_map, h1] at e5
        have e6 : Cod.enc q.1 = keyT kk := Option.some.inj e5
        rw [e6, e1]
        simp only [keyT, RV]
        exact ⟨a, _, rfl, hs1.tup0 e3, e3, RVs.keys kk⟩
      have z1 : (bs.zip vs).map (·.1) = bs := List.map_fst_zip (by omega)
      have z2 : (bs.zip vs).map (·.2) = vs := List.map_snd_zip (by omega)
      refine ⟨bs.zip vs, z2.symm, fun q hq => Isd.dp hs1 (isd_enc s1 q.1) (al q hq), fun l np => ?_⟩
      have e : sortD bs = ((bs.zip vs).mergeSort (PySem.W.dataLe false fun p => Cod.den p.1)).map (·.1) := by
        unfold sortD
        conv => lhs; rw [← z1]
        rw [List.map_mergeSort]
        exact fun a _ b _ => rfl
      rw [e] at h
      exact k _ _ _ _ h st1 hs1 (pairDown fun q m => al q ((List.mergeSort_perm _ _).mem_iff.mp m)) l np
    | _ => exact False.elim h⟩
end
end L3

namespace L3
open PySem PySem.Spec L2
/-- what the clauses wish of an exception, one after the other -/
def lxMany (K : PySem.W.Frag) (D : LEnds) : List (Value × (Addr → LTS)) → Addr → LSt → LS → Prop
  | [] => fun C σ s => D.ex C σ s
  | (c, ts) :: r => fun C σ s => ∃ b, PySem.W.exmOne K (.ref C) c = some b ∧ (b = true → ts C (D.wex noX) σ s) ∧ (b = false → lxMany K D r C σ s)
def lTryM (K : PySem.W.Frag) (l : List (Value × (Addr → LTS))) (tb : LTS) : LTS := fun D σ s => tb (D.wex (lxMany K D l)) σ s
inductive LHds (X : Cx) [GG X.K] : List ExceptHandler → List (Value × (Addr → LTS)) → Prop
  | nil : LHds X [] []
  | cons {x : Str} {c : Value} {ts : Addr → LTS} {b₀ : Stmt} {suite : List Stmt} {np pos' : Pos} {hds : List ExceptHandler} {l : List (Value × (Addr → LTS))} (hc : Names X x c)
      (hsu : ∀ (a : Addr) (oe : Obj) (C : Addr) (pn : List (Addr × Obj)), Zc (.ref C) none oe → (∃ vs, oe.data = .fields vs) → LPs (X.suite a ((a, oe) :: pn)) (b₀ :: suite) (ts C)) (r : LHds X hds l) :
      LHds X (.ExceptHandler (some (.Name x np)) none (b₀ :: suite) pos' :: hds) ((c, ts) :: l)
section
variable {X : Cx} [GG X.K] {body : List Stmt} {h₀ : ExceptHandler} {hds : List ExceptHandler} {l : List (Value × (Addr → LTS))} {pos : Pos} {tbd : LTS}
def tsUp (X : Cx) [GG X.K] (ts : Addr → LTS) : Addr → Value → Option Addr → TS := fun _ cls d D σ H => ∃ C s1 H1, cls = .ref C ∧ d = none ∧ upS X.K s1 H1 noX (ts C) D σ H
theorem LHds.ok (h : LHds X hds l) : HdsOk X hds (l.map fun q => (q.1, tsUp X q.2)) := by
  induction h with
  | nil => exact .nil
  | cons hc hsu _ ih =>
    refine .cons hc (fun a oe cls d pn hz hv => ⟨fun pins si σ H D I ⟨C, s1, H1, e1, e2, h⟩ => ?_⟩) ih
    subst e1 e2
    exact (hsu a oe C pn hz hv s1 H1 noX takes_no PassesOwn.never).run pins si σ H D I h
theorem lp_try_many (hs' : X.stack = X.env :: X.outer) (hf : X.env.frame = some X.env.locals)
    (hb : ∀ (pn : List (Addr × Obj)) (xe : Value → Shared → Prop), LPs (X.tr pn xe) body tbd)
    (hh : LHds X (h₀ :: hds) l) :
    LP X (.Try body (h₀ :: hds) [] [] pos) (lTryM X.K l tbd) := fun s0 H0 E tk hp => by
  refine (ps_try_many (tb := fun W D σ H => ∃ s1 H1 E', (∀ cls d σ H, WL X.K s1 H1 E' cls d σ H → W cls d σ H) ∧ upS X.K s1 H1 E' tbd D σ H)
    hs' hf tk (fun W pn xe tk' po => ⟨fun pins si σ H D I ⟨s1, H1, E', hw, h⟩ => ?_⟩) hh.ok).imp ?_
  · exact (hb pn xe s1 H1 E' (tk'.imp hw) po).run pins si σ H D I h
  · intro D σ H ⟨σl, s, Dl, hσ, hs, st, h, d⟩
    refine ⟨s, H, lxMany X.K Dl l, fun cls dd σ' H' ⟨C, σl', s', e1, e2, hσ', hs1, st1, w⟩ => ?_, σl, s, _, hσ, hs, .refl _ _, h, ⟨d.nx, d.rt, d.bk, d.ct, fun _ _ _ q => q⟩⟩
    subst e1 e2
    have key : ∀ l2 : List (Value × (Addr → LTS)), lxMany X.K Dl l2 C σl' s' → wMany X.K (WL X.K s0 H0 E) D (l2.map fun q => (q.1, tsUp X q.2)) (Value.ref C) none σ' H' := fun l2 => ?_
    · exact key l w
    clear w
    intro w
    induction l2 with
    | nil => exact ⟨C, σl', s', rfl, rfl, hσ', hs1, st.trans st1, d.ex _ _ _ w⟩
    | cons q r ih =>
      obtain ⟨b, eb, h1, h2⟩ := w
      exact ⟨b, eb, fun z a na => ⟨C, s', H', rfl, rfl, σl', s', _, hσ', hs1, .refl _ _, h1 z, (d.mono st1).noX⟩, fun z => ih (h2 z)⟩
end
end L3

namespace L3
open PySem PySem.Spec PyProof.Rows L2 LamX NdefX
/-- the words of a lambda, as a function's -/
abbrev lamF (q : Str) (L : Arguments × Expr × Scope) (cl : List (Str × Addr)) (c : Addr) : NF := ⟨"<lambda>", q, L.1, [], L.2.2, cl, c⟩
section
variable {CX : CXT} {P : Program} {w : World} {K : PySem.W.Frag} {mg : Str → Option Value} {base : Heap} {N ps fr : List Str} {q : Str} {L : Arguments × Expr × Scope} {cl : List (Str × Addr)} {f c : Addr} {k : Nat} {sp : List (Option V) → Sp}
theorem foLam_of (S : CScope N ps fr L.2.2) (hb : ∀ (pm ctv : Value) (us : List Value), us.length = ps.length → bindArgs (PySem.W.kla_fn "<lambda>" q L.1 L.2.1 L.2.2 cl pm (.ref c) ctv) ⟨us, []⟩ = pure (ps.zip us)) (len : ∀ ws vs H Q E, sp ws vs H Q E → vs.length = ps.length)
    (body : ∀ (A : Around) (outer : List Env) (s : Shared) (H : Hp) (vs : List V) (ws : List (Option V)) (Q : VK) (E : XK), Room k (A.deeper (envC (lamF q L cl c) f s.heap.objs.size)) → Env0 P w K mg base A outer s H → ws.length = fr.length → sp ws vs H Q E →
      ∃ t, PE (ccx CX P w K mg base N (lamF q L cl c) f A outer s H E) L.2.1 t ∧ t (startF N vs ws) H Q) : FoOk P w K mg base CX (k + 1) f (.ext (LamP f q L cl c)) c q cl ps fr sp := by
  refine ⟨len, fun A outer s H us vs ws Q E hr e0 hf hc C r hsp => ?_⟩
  have ha := len _ _ _ _ _ hsp
  have nl : s.heap.NoLimit := e0.mod.nolimit.keeps fun b o e => (e0.bs b o e).1
  obtain ⟨⟨od, sl, pm, ctv, ho⟩, _, _⟩ := e0.hok f _ hf
  refine PySem.W.kla_callFunE hr.depth ho rfl S.co S.gen rfl (codeO_at e0.hok hc) ?_
  rw [hb pm ctv us (by rw [← r.length]; exact ha)]
  refine wpAny_pure (newEnv_clo S.kind (fun ⟨n, _⟩ hy => S.par n (List.of_mem_zip hy).1) (fun h₁ tk hns hsb => ?_))
  have kp : ∀ b o, s.heap.get? b = some o → h₁.get? b = some o := fun b o e => hsb.extBut b o (Nat.ne_of_lt (Heap.lt_size e)) (pushCells_keeps _ _ b o (Heap.get?_push_of_some _ e))
  refine ⟨nl.keeps kp, show codeAny _ _ (.expr L.2.1 (envC (lamF q L cl c) f s.heap.objs.size)) _ _ from ?_⟩
  obtain ⟨t, ht, hq⟩ := body A outer s H vs ws Q E (hr.deeper _) e0 C.len hsp
  have J : Inv (ccx CX P w K mg base N (lamF q L cl c) f A outer s H E) [] (startF N vs ws) H { s with heap := h₁, toks := tk } := inv_startC S hr.hd e0 ha r C hns hsb
  refine PySem.W.kla_codeExpr (wpAny_mono (ht.run [] _ _ H Q J hq) (fun v s' hq => ?_) fun e s' hq => hq)
  obtain ⟨w', H', J', rv, q⟩ := hq
  exact ⟨w', H', J'.os, J'.bare, J'.base, J'.hok, rv, q⟩
end
section
variable {P : Program} {w : World} {K : PySem.W.Frag} [GG K] {mg : Str → Option Value} {base : Heap}
theorem cloOk_lam {ck : Ck} {L : Arguments × Expr × Scope} {N ps : List Str} {k : Nat} {sp : List LV → LSp} (hl : lamOf ck.st = some L) (S : CScope N ps ck.fr L.2.2)
    (hb : ∀ (cl : List (Str × Addr)) (c : Addr) (pm ctv : Value) (us : List Value), us.length = ps.length → bindArgs (PySem.W.kla_fn "<lambda>" ck.qual L.1 L.2.1 L.2.2 cl pm (.ref c) ctv) ⟨us, []⟩ = pure (ps.zip us))
    (len : ∀ xs vs s Q E, sp xs vs s Q E → vs.length = ps.length)
    (hbody : ∀ (f c : Addr) (cl : List (Str × Addr)) (A : Around) (outer : List Env) (si : Shared) (H : Hp) (E : XK), Room k (A.deeper (envC (lamF ck.qual L cl c) f si.heap.objs.size)) →
      ∃ t : LTE, LE (ccx (L2.CX P w) P w K mg base N (lamF ck.qual L cl c) f A outer si H E) L.2.1 t ∧ ∀ xs vs s Q E, sp xs vs s Q E → t (cstart N vs xs) s (fun lv s' => ∃ y s2, Frz lv s' y s2 ∧ Q y s2) fun C s' => ∃ s2, Sub s2 s' ∧ E C s2) : CloOk P w K mg base (k + 1) ck ps sp := fun f c cl => by
  rw [ck.fo_lam hl]
  refine foLam_of S (hb cl c) (fun ws vs H Q E ⟨_, _, lvs, s, Q0, E0, _, _, r, _, h, _⟩ => by rw [r.length]; exact len _ _ _ _ _ h) fun A outer si H vs ws Q E hr e0 hf h => ?_
  obtain ⟨lws, wv, lvs, s, Q0, E0, rfl, rw_, r, hs, h, kq, ke⟩ := h
  obtain ⟨t, ht, hb⟩ := hbody f c cl A outer si H E hr
  have tk := takes_of (X := ccx (L2.CX P w) P w K mg base N (lamF ck.qual L cl c) f A outer si H E) (E := E) rfl rfl rfl rfl
  refine ⟨_, ht s H (fun C σl s' => ∃ s2, Sub s2 s' ∧ E0 C s2) (tk.imp fun cls d σ H' w => ?_), ?_⟩
  · obtain ⟨C, σl, s', rfl, rfl, _, hs', st', s2, sb, q⟩ := w
    exact ke C s2 H' q (st'.trans sb.step) (sb.rel hs')
  · refine ⟨cstart N lvs lws, s, fun lv s' => ∃ y s2, Frz lv s' y s2 ∧ Q0 y s2, fun C s' => ∃ s2, Sub s2 s' ∧ E0 C s2, ?_, hs, .refl _ _, fun C s' z => z, hb lws lvs s Q0 E0 h, fun lv s' v H' ⟨y, s2, fz, q⟩ st' hs' rv => ?_⟩
    · unfold cstart
      rw [show startF N vs (wv.map some) = vs.map some ++ (wv.map some ++ List.replicate (N.length - vs.length - (wv.map some).length) none) from rfl, List.length_map, r.length, rw_.length]
      exact (RSt.vals r).append ((RSt.vals rw_).append (.nones _))
    · obtain ⟨a, b, c⟩ := fz K H' v hs' rv
      exact kq y s2 v H' q (st'.trans c) b a
end
end L3

namespace L3
open PySem PySem.Spec PyProof.Rows L2 LamX NdefX
open Classical in
noncomputable def keepH (h : Heap) (P : Addr → Prop) : Heap := ⟨h.objs.mapIdx fun i o => if P i then o else ⟨o.cls, o.dict, .freed, o.slots⟩, h.life⟩
section
variable {h : Heap} {Pd : Addr → Prop} {b : Addr}
theorem keepH_size : (keepH h Pd).objs.size = h.objs.size := by simp [keepH]
theorem keepH_in (hp : Pd b) : (keepH h Pd).get? b = h.get? b := by
  unfold Heap.get? keepH
  simp only [Array.getElem?_mapIdx]
  cases e : h.objs[b]? with
  | none => rfl
  | some o => simp only [Option.map_some, if_pos hp]
theorem keepH_out (hp : ¬ Pd b) : (keepH h Pd).get? b = none := by
  unfold Heap.get? keepH
  simp only [Array.getElem?_mapIdx]
  cases e : h.objs[b]? with
  | none => rfl
  | some o => simp only [Option.map_some, if_neg hp]
end
theorem modKeeps {K : PySem.W.Frag} {mg : Str → Option Value} {base base' : Heap} (m : Mod K mg base) (k : ∀ b o, base.get? b = some o → base'.get? b = some o) : Mod K mg base' := by
  obtain ⟨h1, h2, ⟨mb, h3, h4⟩, h5⟩ := m
  exact ⟨h1.keeps k, h2.keeps k, ⟨mb, h3.keeps k, h4⟩, h5.keeps k⟩
theorem env0_more {P : Program} {w : World} {K : PySem.W.Frag} {mg : Str → Option Value} {base : Heap} {A : Around} {outer : List Env} {s : Shared} {H : Hp} {C : Addr → Prop} (e0 : Env0 P w K mg base A outer s H) (hC : ∀ c, C c → H c = none ∧ c ∉ frs outer) :
    Env0 P w K mg (keepH s.heap fun b => (∃ o, base.get? b = some o) ∨ C b) A outer s H := by
  refine ⟨e0.frames, modKeeps e0.mod fun b o e => ?_, fun b o e => ?_, by rw [keepH_size]; exact Nat.le_refl _, ?_, e0.frf, e0.hok, e0.bare⟩
  · rw [keepH_in (.inl ⟨o, e⟩)]
    exact (e0.bs b o e).1
  · by_cases hp : (∃ o, base.get? b = some o) ∨ C b
    · rw [keepH_in hp] at e
      refine ⟨e, ?_⟩
      rcases hp with ⟨o', e'⟩ | hc
      · exact (e0.bs b o' e').2
      · exact (hC b hc).1
    · rw [keepH_out hp] at e
      cases e
  · have fu := e0.funs
    have hn : ∀ c, C c → c ∉ frs outer := fun c hc => (hC c hc).2
    clear hC
    revert fu hn
    generalize outer = l
    induction l with
    | nil => exact fun _ _ => trivial
    | cons env rest ih =>
      rintro ⟨h1, ⟨L, o, h2, h3, h4, h5⟩, h6⟩ hn
      have hL : frs (env :: rest) = L :: frs rest := by unfold frs; rw [List.filterMap_cons, h2]
      refine ⟨h1, ⟨L, o, h2, keepH_out ?_, h4, h5⟩, ih h6 fun c hc z => hn c hc (by rw [hL]; exact List.mem_cons_of_mem _ z)⟩
      rintro (⟨o', e'⟩ | hc)
      · rw [h3] at e'; cases e'
      · exact hn L hc (by rw [hL]; exact List.mem_cons_self)
section
variable {K : PySem.W.Frag} {s : LS} {H H2 : Hp} (g g' : GG K) (hH : ∀ a (o : HO), H a = Option.some o → H2 a = Option.some o) (hc : ∀ c v, @CelH K g s H c v → @CelH K g' s H2 c v)
omit g g' in
include hH in
theorem ScrAt.conv {a : Addr} {ns : List Int} (h : ScrAt K s H a ns) : ScrAt K s H2 a ns := by
  rcases h with ⟨n, h | ⟨o, h⟩⟩ | h
  · exact .inl ⟨n, .inl (hH _ _ h)⟩
  · exact .inl ⟨n, .inr ⟨o, hH _ _ h⟩⟩
  · exact .inr h
include hH hc in
mutual
theorem RV.conv : ∀ {x : LV} {v : V}, @RV K g s H x v → @RV K g' s H2 x v
  | .non, _, h => by simpa only [RV] using h
  | .bl _, _, h => by simpa only [RV] using h
  | .int _, _, h => by simpa only [RV] using h
  | .str _, _, h => by simpa only [RV] using h
  | .ty _, _, h => by simpa only [RV] using h
  | .ref _, _, h => by simpa only [RV] using h
  | .scr _, _, h => by
    simp only [RV] at h ⊢
    obtain ⟨a, e, h⟩ := h
    exact ⟨a, e, ScrAt.conv hH h⟩
  | .tup xs, _, h => by
    simp only [RV] at h ⊢
    obtain ⟨a, us, e, n, h, r⟩ := h
    exact ⟨a, us, e, n, hH _ _ h, RVs.conv r⟩
  | .lst xs, _, h => by
    simp only [RV] at h ⊢
    obtain ⟨a, us, e, n, h, r⟩ := h
    exact ⟨a, us, e, n, hH _ _ h, RVs.conv r⟩
  | .dT kvs, _, h => by
    simp only [RV] at h ⊢
    obtain ⟨a, us, o, e, n, h, d, r⟩ := h
    exact ⟨a, us, o, e, n, hH _ _ h, d, RVk.conv r⟩
  | .ins C fs, _, h => by
    simp only [RV] at h ⊢
    obtain ⟨a, dx, us, e, n, h, r⟩ := h
    exact ⟨a, dx, us, e, n, hH _ _ h, RVf.conv r⟩
  | .clo k xs, _, h => by
    simp only [RV] at h ⊢
    obtain ⟨f, c, cl, e, n, h, n2, h2, k, nd, r⟩ := h
    exact ⟨f, c, cl, e, n, hH _ _ h, n2, hH _ _ h2, k, nd, RVc.conv r⟩
theorem RVc.conv : ∀ {xs : List LV} {us : List Addr}, @RVc K g s H xs us → @RVc K g' s H2 xs us
  | [], _, h => by simp only [RVc] at h ⊢; exact h
  | x :: xs, _, h => by
    simp only [RVc] at h ⊢
    obtain ⟨c, r, u, e, h1, h2, h3⟩ := h
    exact ⟨c, r, u, e, hc _ _ h1, RV.conv h2, RVc.conv h3⟩
theorem RVs.conv : ∀ {xs : List LV} {us : List V}, @RVs K g s H xs us → @RVs K g' s H2 xs us
  | [], _, h => by simp only [RVs] at h ⊢; exact h
  | x :: xs, _, h => by
    simp only [RVs] at h ⊢
    obtain ⟨u, r, e, h1, h2⟩ := h
    exact ⟨u, r, e, RV.conv h1, RVs.conv h2⟩
theorem RVk.conv : ∀ {xs : List (List Key × LV)} {us : List (List Key × V)}, @RVk K g s H xs us → @RVk K g' s H2 xs us
  | [], _, h => by simp only [RVk] at h ⊢; exact h
  | (k, x) :: xs, _, h => by
    simp only [RVk] at h ⊢
    obtain ⟨u, r, e, h1, h2⟩ := h
    exact ⟨u, r, e, RV.conv h1, RVk.conv h2⟩
theorem RVf.conv : ∀ {xs : List (Str × LV)} {us : List (Str × V)}, @RVf K g s H xs us → @RVf K g' s H2 xs us
  | [], _, h => by simp only [RVf] at h ⊢; exact h
  | (k, x) :: xs, _, h => by
    simp only [RVf] at h ⊢
    obtain ⟨u, r, e, h1, h2⟩ := h
    exact ⟨u, r, e, RV.conv h1, RVf.conv h2⟩
end
include hH hc in
theorem RVd.conv : ∀ {xs : List (Key × LV)} {us : List (Key × V)}, @RVd K g s H xs us → @RVd K g' s H2 xs us
  | [], _, h => by simp only [RVd] at h ⊢; exact h
  | (k, x) :: xs, _, h => by
    simp only [RVd] at h ⊢
    obtain ⟨u, r, e, h1, h2⟩ := h
    exact ⟨u, r, e, RV.conv g g' hH hc h1, RVd.conv h2⟩
include hH hc in
theorem RelS.conv (hs : @RelS K g s H) : @RelS K g' s H2 := fun a o e => by
  have q := hs a o e
  cases o with
  | lst xs => obtain ⟨us, h, r⟩ := q; exact ⟨us, hH _ _ h, RVs.conv g g' hH hc r⟩
  | dK xs => obtain ⟨us, h, r⟩ := q; exact ⟨us, hH _ _ h, RVd.conv g g' hH hc r⟩
  | dT xs => obtain ⟨us, h, r⟩ := q; exact ⟨us, hH _ _ h, RVk.conv g g' hH hc r⟩
  | ins C xs => obtain ⟨dx, us, h, r⟩ := q; exact ⟨dx, us, hH _ _ h, RVf.conv g g' hH hc r⟩
  | tab z =>
    obtain ⟨ps, h1, h2, h3⟩ := q
    refine ⟨ps, hH _ _ h1, h2, fun pos cv z => ?_⟩
    obtain ⟨c, e1, e2, e3⟩ := h3 pos cv z
    exact ⟨c, e1, e2, hH _ _ e3⟩
end
/-- the cells cs hold the ints ws, too -/
@[reducible] def gOf {K : PySem.W.Frag} (g : GG K) (cs : List Addr) (ws : List Int) : GG K := ⟨fun c => match g.cell c with
  | some v => some v
  | none => (cs.zip (ws.map V.int)).lookup c⟩
section
variable {K : PySem.W.Frag} {g : GG K} {cs : List Addr} {ws : List Int} {c : Addr} {v : V}
theorem gOf_old (h : g.cell c = some v) : (gOf g cs ws).cell c = some v := by
  show (match g.cell c with | some v => some v | none => (cs.zip (ws.map V.int)).lookup c) = some v
  rw [h]
theorem gOf_new (n : g.cell c = none) : (gOf g cs ws).cell c = (cs.zip (ws.map V.int)).lookup c := by
  show (match g.cell c with | some v => some v | none => (cs.zip (ws.map V.int)).lookup c) = _
  rw [n]
theorem mem_lookA {l : List (Addr × V)} {c : Addr} {v : V} (h : l.lookup c = some v) : (c, v) ∈ l := by
  induction l with
  | nil => cases h
  | cons p r ih =>
    obtain ⟨a, b⟩ := p
    rw [List.lookup_cons] at h
    by_cases e : c = a
    · subst e
      rw [beq_self_eq_true] at h
      cases h
      exact List.mem_cons_self
    · rw [beq_eq_false_iff_ne.mpr e] at h
      exact List.mem_cons_of_mem _ (ih h)
theorem gOf_cases (h : (gOf g cs ws).cell c = some v) : g.cell c = some v ∨ (g.cell c = none ∧ (c, v) ∈ cs.zip (ws.map V.int)) := by
  cases e : g.cell c with
  | some u =>
    rw [gOf_old e] at h
    exact .inl h
  | none =>
    rw [gOf_new e] at h
    exact .inr ⟨rfl, mem_lookA h⟩
theorem CelH.up {s : LS} {H : Hp} (h : @CelH K g s H c v) : @CelH K (gOf g cs ws) s H c v := by
  rcases h with h | h
  · exact .inl h
  · exact .inr (gOf_old h)
theorem CelH.down {s : LS} {H H2 : Hp} (hH : ∀ a o, H a = some o → H2 a = some o) (hn : ∀ p ∈ cs.zip (ws.map V.int), s p.1 = none ∧ H2 p.1 = some (CelO p.1 p.2)) (h : @CelH K (gOf g cs ws) s H c v) : @CelH K g s H2 c v := by
  rcases h with ⟨n, h⟩ | h
  · exact .inl ⟨n, hH _ _ h⟩
  · rcases gOf_cases h with h | ⟨_, h⟩
    · exact .inr h
    · exact .inl (hn _ h)
end
/-- the promise, over each base that holds these cells, too -/
abbrev LFnG (X : Cx) (g : GG X.K) (k : Nat) (f : Addr) (fd : FuncData) (ps : List Str) (sp : LSp) : Prop :=
  ∀ base', (∀ b o, X.base.get? b = some o → base'.get? b = some o) → @GIn X.K g base' → @LFn X.prog X.w X.K g X.mg base' k f fd ps sp
/-- what g knows of cells: they stand in the base, or are the frame's own, as they stand -/
def GSt (X : Cx) (g : GG X.K) (js : List Nat) (ws : List Int) : Prop := ∀ c v, g.cell c = some v → (∃ o u, X.base.get? c = some o ∧ o.data = .cell (some u) ∧ RelV v u) ∨
  ∃ (i j : Nat) (y : Str) (n : Int), js[i]? = some j ∧ X.N[j]? = some y ∧ X.env.scope.names.lookup y = some .cell ∧ X.fn y = true ∧ X.env.cells.lookup y = some c ∧ ws[i]? = some n ∧ v = .int n
/-- the captured slots hold ws -/
def Hld (js : List Nat) (ws : List Int) (σ : LSt) : Prop := js.map (fun j => σ[j]?) = ws.map fun n => some (some (LV.int n))
theorem Hld.get {js : List Nat} {ws : List Int} {σ : LSt} (h : Hld js ws σ) {i j : Nat} {n : Int} (ej : js[i]? = some j) (en : ws[i]? = some n) : σ[j]? = some (some (.int n)) := by
  have := congrArg (fun l => l[i]?) h
  simp only [List.getElem?_map, ej, en, Option.map_some] at this
  exact Option.some.inj this
section
variable {X : Cx} {pins : List (Addr × Obj)} {σ : L2.St} {σl : LSt} {H : Hp} {si : Shared} {s : LS} {js : List Nat} {ws : List Int}
theorem no_frame {y : Str} {c : Addr} (I : Inv X pins σ H si) (hf : X.fn y = true) (hy : X.env.cells.lookup y = some c) : c ∉ frs X.stack := fun hb => by
  have h1 : X.s_0.heap.objs.size ≤ c := I.ok.cab y c hf hy
  rcases List.mem_cons.mp (I.stkSub _ hb) with e | e
  · obtain ⟨m, hn, _⟩ := I.loc
    obtain ⟨v, o, ho, hd⟩ := I.cell y c hy
    obtain ⟨ob, es, ep, ho', r⟩ := hn
    subst e
    rw [ho] at ho'
    cases ho'
    have := r.1
    rw [hd] at this
    cases this
  · obtain ⟨_, o, ho, _⟩ := I.ok.funs.mem e
    exact Nat.not_lt.mpr h1 (Heap.lt_size ho)
/-- the same, of the abstract slots -/
def HldV (js : List Nat) (ws : List Int) (σ : L2.St) : Prop := js.map (fun j => σ[j]?) = ws.map fun n => some (some (V.int n))
theorem HldV.get {js : List Nat} {ws : List Int} {σ : L2.St} (h : HldV js ws σ) {i j : Nat} {n : Int} (ej : js[i]? = some j) (en : ws[i]? = some n) : σ[j]? = some (some (.int n)) := by
  have := congrArg (fun l => l[i]?) h
  simp only [List.getElem?_map, ej, en, Option.map_some] at this
  exact Option.some.inj this
theorem Hld.vals {K : PySem.W.Frag} [GG K] : ∀ {js : List Nat} {ws : List Int}, RSt K s H σl σ → Hld js ws σl → HldV js ws σ
  | [], [], _, _ => rfl
  | [], _ :: _, _, h => by cases h
  | _ :: _, [], _, h => by cases h
  | j :: js, n :: ws, hσ, h => by
    unfold Hld at h
    rw [List.map_cons, List.map_cons, List.cons.injEq] at h
    obtain ⟨v, e, r⟩ := hσ.get h.1
    simp only [RV] at r
    subst r
    unfold HldV
    rw [List.map_cons, List.map_cons, e]
    exact congrArg (List.cons _) (Hld.vals (js := js) (ws := ws) hσ h.2)
theorem base_more (g : GG X.K) (hg : GSt X g js ws) (I : Inv X pins σ H si) (hv : HldV js ws σ) :
    ∃ base', (∀ b o, X.base.get? b = some o → base'.get? b = some o) ∧ @GIn X.K g base' ∧ Env0 X.prog X.w X.K X.mg base' X.A X.stack si H := by
  let C : Addr → Prop := fun c => ∃ y, X.fn y = true ∧ X.env.cells.lookup y = some c
  refine ⟨keepH si.heap fun b => (∃ o, X.base.get? b = some o) ∨ C b, fun b o e => ?_, fun c v e => ?_, env0_more I.env0 fun c ⟨y, hf, hy⟩ => ⟨I.freeC y c hy, no_frame I hf hy⟩⟩
  · rw [keepH_in (.inl ⟨o, e⟩)]
    exact I.bk b o e
  · rcases hg c v e with ⟨o, u, h1, h2, h3⟩ | ⟨i, j, y, n, e1, e2, e3, ef, e4, e5, rfl⟩
    · exact ⟨o, u, by rw [keepH_in (.inl ⟨o, h1⟩)]; exact I.bk c o h1, h2, h3⟩
    · obtain ⟨m, _, hl⟩ := I.loc
      obtain ⟨u, ru, q⟩ := hl j y _ e2 (hv.get e1 e5) (.inr (.inl e3))
      rcases q with ⟨k, _⟩ | ⟨_, c', e', o, ho, hd⟩
      · have k' : X.env.scope.names.lookup y = some .local := k
        rw [e3] at k'
        cases k'
      · rw [e4] at e'
        cases e'
        exact ⟨o, u, by rw [keepH_in (.inr ⟨y, ef, e4⟩)]; exact ho, hd, ru⟩
end
end L3

namespace L3
open PySem PySem.Spec PyProof.Rows L2 LamX NdefX
section
variable {X : Cx} {CX : CXT} {k : Nat} {f C : Addr} {fd : FuncData} {ps : List Str} {x m : Str} {p pos apos : Pos} {e o : Expr} {es : List Expr} {base' : Heap}
theorem run_fnG {spr : Sp} {E : L2.St → XK} {pins : List (Addr × Obj)} {σ : L2.St} {H : Hp} {s : Shared} {Q : VK} {us : List Value} {vs : List V} (F : FnOk X.prog X.w X.K X.mg base' CX k f fd ps spr) (hr : Room k X.A) (hb : Binds X.K fd ps []) (hx : PassesAt CX X σ (E σ))
    (I : Inv X pins σ H s) (e0 : Env0 X.prog X.w X.K X.mg base' X.A X.stack s H) (r : Vals vs us) (h : spr vs H Q (E σ)) : wpAny (model X.prog X.w) X.A (call (.ref f) us) (EP X pins σ Q) X.xe s := by
  have hl : us.length = ps.length := by rw [← r.length]; exact F.len _ _ _ _ h
  have b := hb s us I.kIn (by rw [List.append_nil]; exact hl)
  rw [List.append_nil] at b
  refine wpAny_call (codeAny_mono (F.run X.A X.stack s H ⟨us, []⟩ us vs Q (E σ) hr e0 b r h) fun r s' hq => ?_)
  cases r with
  | error e => exact hx pins H s e s' I hq
  | ok fl =>
    cases fl with
    | ret u => exact I.after hq
    | next => exact False.elim hq
    | brk => exact False.elim hq
    | cont => exact False.elim hq
theorem run_makeG {pins : List (Addr × Obj)} {σ : L2.St} {H : Hp} {s : Shared} {Q : VK} {us : List Value} {vs : List V} {spr : Sp} {E : XK} (M : Mk X.K C f) (hr : Room (k + 1) X.A) (hb : Binds X.K fd ps [])
    (hx : PassesAt (L2.CX X.prog X.w) X σ E) (I : Inv X pins σ H s)
    (hF : ∀ (H' : Hp) (s' : Shared), Inv X pins σ H' s' → ∃ base', FnOk X.prog X.w X.K X.mg base' (L2.CX X.prog X.w) k f fd ps spr ∧ Env0 X.prog X.w X.K X.mg base' X.A X.stack s' H')
    (r : Vals vs us) (h : ∀ x dx, H x = none → H dx = none → dx ≠ x → spr (.ref x :: vs) (upd (upd H dx (.own x)) x (.ins C dx [])) (fun v H2 => v = .non ∧ Q (.ref x) H2) E) :
    wpAny (model X.prog X.w) X.A (call (.ref C) us) (EP X pins σ Q) X.xe s := by
  have q0 := h (s.heap.objs.size + 1) s.heap.objs.size (I.hok.fresh (Nat.le_succ _)) (I.hok.fresh (Nat.le_refl _)) (Nat.ne_of_lt (Nat.lt_succ_self _))
  have J := Inv.made (C := C) I
  obtain ⟨base', F, e0⟩ := hF _ _ J
  have r1 : Vals (V.ref (s.heap.objs.size + 1) :: vs) (Value.ref (s.heap.objs.size + 1) :: us) := .cons rfl r
  have hl : (Value.ref (s.heap.objs.size + 1) :: us).length = ps.length := r1.length.symm.trans (F.len _ _ _ _ q0)
  have bb := hb { s with heap := _ } (Value.ref (s.heap.objs.size + 1) :: us) J.kIn (by rw [List.append_nil]; exact hl)
  rw [List.append_nil] at bb
  refine wpAny_call (make_map (f := f) I.kIn M.makes M.init (beq_iff_eq.mp M.fn) (codeAny_mono (F.run _ X.stack _ _ ⟨Value.ref (s.heap.objs.size + 1) :: us, []⟩ _ _ _ E (hr.make C us []) (e0.make C us []) bb r1 q0) fun r s' hq => ?_))
  cases r with
  | error e => exact hx pins _ _ e s' J hq
  | ok fl =>
    cases fl with
    | ret u =>
      obtain ⟨v, H', I3, rv, ev, q3⟩ := J.after hq
      subst ev
      exact ⟨rv, ⟨V.ref (s.heap.objs.size + 1), H', I3, rfl, q3⟩⟩
    | next => exact hq.elim
    | brk => exact hq.elim
    | cont => exact hq.elim
end
section
variable {X : Cx} [g : GG X.K] {k : Nat} {f C : Addr} {fd : FuncData} {ps : List Str} {sp : LSp} {x m : Str} {p pos apos : Pos} {e o : Expr} {es : List Expr} {tas : LTA} {js : List Nat} {ws : List Int}
def lCallG (js : List Nat) (ws : List Int) (sp : LSp) (t : LTA) : LTE := fun σ s Q E => Hld js ws σ ∧ t σ s (fun vs s1 => sp vs s1 Q E) E
theorem le_callG (hG : GSt X g js ws) (F : LFnG X g k f fd ps sp) (hr : Room k X.A) (hg : Gl X x) (hm : X.mg x = some (.ref f)) (hk : PySem.W.keepIn X.K (.ref f) = true) (hb : Binds X.K fd ps []) (ha : LA X (e :: es) tas)
    (hdb : (x == ("__debug__" : Str)) = false := by decide) (he : starEach (e :: es) X.env = (false, eval e X.env) :: starEach es X.env := by rfl) (hpl : (backTo pos (starEach es X.env)).any (·.1) = false := by rfl) :
    LE X (.Call (.Name x p) (e :: es) [] pos) (lCallG js ws sp tas) := fun s0 H0 E tk => ⟨fun pins si σ H Q I ⟨σl, s, Q0, E1, hσ, hs, st, hE, ⟨hh, h⟩, kk⟩ => by
  refine wpAny_Call_Name_kw (ld_glob I hg hm ?_ hdb)
  refine PySem.W.callWith_K (h₀ := X.base) I.ok.mod.kin hk (thn (ha.go tk pos I hσ hs st hE h) fun us si1 hx => ?_) he hpl
  obtain ⟨vs, H1, I1, rvs, lvs, s1, st1, hs1, r, h⟩ := hx
  obtain ⟨base', kb, gi, e0⟩ := base_more g hG I1 (hh.vals hσ)
  exact ⟨I1.kIn, run_fnG (E := fun _ => WE (WL X.K s0 H0 E) σ) (F base' kb gi) hr hb (passAt tk σ) I1 e0 rvs (dn_call (hσ.mono st1) hs1 (st.trans st1) hE r h fun lv s3 v H3 q st3 => kk lv s3 v H3 q (st1.trans st3))⟩⟩
def lMakeG (js : List Nat) (ws : List Int) (C : Addr) (sp : LSp) (t : LTA) : LTE := fun σ s Q E => Hld js ws σ ∧ lMake C sp t σ s Q E
theorem le_makeG (hG : GSt X g js ws) (M : Mk X.K C f) (F : LFnG X g k f fd ps sp) (hr : Room (k + 1) X.A) (hg : Gl X x) (hm : X.mg x = some (.ref C)) (hb : Binds X.K fd ps []) (ha : LA X (e :: es) tas)
    (hdb : (x == ("__debug__" : Str)) = false := by decide) (he : starEach (e :: es) X.env = (false, eval e X.env) :: starEach es X.env := by rfl) (hpl : (backTo pos (starEach es X.env)).any (·.1) = false := by rfl) :
    LE X (.Call (.Name x p) (e :: es) [] pos) (lMakeG js ws C sp tas) := fun s0 H0 E tk => ⟨fun pins si σ H Q I ⟨σl, s, Q0, E1, hσ, hs, st, hE, ⟨hh, h⟩, kk⟩ => by
  refine wpAny_Call_Name_kw (ld_glob I hg hm ?_ hdb)
  refine PySem.W.callWith_K (h₀ := X.base) I.ok.mod.kin M.kp (thn (ha.go tk pos I hσ hs st hE h) fun us si1 hx => ?_) he hpl
  obtain ⟨vs, H1, I1, rvs, lvs, s1, st1, hs1, r, h⟩ := hx
  refine ⟨I1.kIn, run_makeG (spr := dn X.K sp) M hr hb (passAt tk σ) I1 (fun H' s' J => ?_) rvs fun y dx ny nd ne => ?_⟩
  · obtain ⟨base', kb, gi, e0⟩ := base_more g hG J (hh.vals hσ)
    exact ⟨base', F base' kb gi, e0⟩
  · obtain ⟨stm, hsm⟩ := made_step (C := C) hs1 ny nd ne
    have st2 := st1.trans stm
    exact dn_call (hσ.mono st2) hsm (st.trans st2) hE (.cons .ref (r.mono stm)) (h y (hs1.free ny)) fun lv s3 v H3 q st3 hs3 rv => ⟨by rw [q.1] at rv; exact rv.non', kk _ s3 _ H3 q.2 (st2.trans st3) hs3 .ref⟩⟩
end
structure MadeO (P : Addr) (q : Str) (f c : Addr) (fo : HO) (H H1 : Hp) : Prop where
  nf : H f = none
  tab : TabQ H1 P q
  fn : H1 f = some fo
  code : H1 c = some (CodeO c q)
  rest : ∀ b, b ≠ P → H b ≠ none → H1 b = H b
theorem MadeO.up {K : PySem.W.Frag} [GG K] {P : Addr} {q : Str} {f c : Addr} {fo : HO} {s : LS} {H H1 : Hp} (m : MadeO P q f c fo H H1) (hs : RelS K s H) (hP : s P = some (.tab q)) : Step s H s H1 ∧ RelS K s H1 ∧ s f = none ∧ s c = none := by
  have st : Step s H s H1 := fun a o e n => ⟨⟨o, by rw [m.rest a (by rintro rfl; rw [hP] at n; cases n) (by rw [e]; simp)]; exact e, .refl o⟩, n⟩
  have c0 : ∀ d, H1 d = some (CodeO d q) → s d = none := fun d e => by
    cases z : H d with
    | none => exact hs.free z
    | some o =>
      by_cases hd : d = P
      · subst hd
        obtain ⟨ps, e2, _⟩ := m.tab
        rw [e] at e2
        exact absurd (Option.some.inj e2) (codeO_ne ps)
      · have := m.rest d hd (by rw [z]; simp)
        rw [e] at this
        exact hs.ext0 this.symm
  refine ⟨st, fun a o e => ?_, hs.free m.nf, c0 c m.code⟩
  by_cases ha : a = P
  · subst ha
    rw [hP] at e
    cases e
    obtain ⟨ps, e1, e2, e3⟩ := m.tab
    refine ⟨ps, e1, e2, fun pos cv z => ?_⟩
    obtain ⟨d, z1, z2⟩ := e3 pos cv z
    exact ⟨d, z1, c0 d z2, z2⟩
  · exact (hs a o e).mono st fun u z => by rw [m.rest a ha (by rw [z]; simp)]; exact z
section
variable {X : Cx} {pins : List (Addr × Obj)} {σ : L2.St} {H : Hp} {s : Shared}
theorem inv_lam {q : Str} {L : Arguments × Expr × Scope} {cl : List (Str × Addr)} {c : Addr} {o : Obj} {t' : Nat} {pm ctv : Value} (I : Inv X pins σ H s) (ho : o = PySem.W.kla_obj "<lambda>" q L.1 L.2.1 L.2.2 cl pm c ctv) :
    Inv X pins σ (upd H s.heap.objs.size (.ext (LamP s.heap.objs.size q L cl c))) { s with heap := s.heap.push o, toks := t' } := by
  subst ho
  refine I.laid (a := s.heap.objs.size) (fun b u e => Heap.get?_push_of_some _ e) (Nat.le_refl _) ?_
  have e : (s.heap.push (PySem.W.kla_obj "<lambda>" q L.1 L.2.1 L.2.2 cl pm c ctv)).get? s.heap.objs.size = some (PySem.W.kla_obj "<lambda>" q L.1 L.2.1 L.2.2 cl pm c ctv) := Heap.get?_push_size _ rfl
  exact ⟨⟨_, _, pm, ctv, e⟩, ⟨_, e⟩, fun h1 h2 ⟨od, sl, p, t, z⟩ st => ⟨od, sl, p, t, st _ z⟩⟩
theorem lamX {c P : Addr} {q : Str} {L : Arguments × Expr × Scope} {pos : Pos} {E Q : Value → Shared → Prop} (I : Inv X pins σ H s) (TB : TabB X.base X.mg c P) (hcode : X.env.code = .ref c) (hq : X.env.qual ++ "<lambda>" = q)
    (hT : TabQ H P q) (hdef : defaultsOf L.1 X.env = ([], [])) (hfree : ∀ y ∈ L.2.2.names, y.2 = .free → ∃ c, X.env.cells.lookup y.1 = some c)
    (h : ∀ (f c' : Addr) (H1 : Hp) (s' : Shared), Inv X pins σ H1 s' → MadeO P q f c' (.ext (LamP f q L (cloFrom X.env.cells L.2.2.names []) c')) H H1 → Q (.ref f) s') :
    wpAny (model X.prog X.w) X.A (eval (.Lambda L.1 L.2.1 L.2.2 pos) X.env) Q E s := by
  subst hq
  refine PySem.W.kla_eval hdef ?_
  obtain ⟨ps, hP, tr, cs⟩ := hT
  have hP' : s.heap.get? P = some { cls := .none, data := .fields ps } := (I.hok P _ hP : _)
  have bP : s.heap.BuiltinsAt X.mg P := (TB.bm.keeps I.bk : _)
  cases hc : codeAmong pos ps.toList with
  | some cv =>
    obtain ⟨c', rfl, ho⟩ := cs pos _ hc
    refine PySem.W.kla_makeFunctionHit (mg := X.mg) (c := c) (P := P) (ps := ps) (closure_ok hfree) I.ok.glob (I.mod.glob.keeps I.bk) hcode (TB.code.keeps I.bk) hP' tr hc bP fun ctv h' tk hx hsz => ?_
    have J : Inv X pins σ H { s with heap := h', toks := tk } := (I.kept hx : _)
    have nF : H h'.objs.size = none := J.hok.fresh (Nat.le_refl _)
    have J2 := inv_lam (q := X.env.qual ++ "<lambda>") (L := L) (cl := cloFrom X.env.cells L.2.2.names []) (c := c') (t' := tk) (pm := (X.mg "__name__").getD .none) (ctv := ctv) J rfl
    have st : ∀ b o, H b = some o → upd H h'.objs.size (.ext (LamP h'.objs.size (X.env.qual ++ "<lambda>") L (cloFrom X.env.cells L.2.2.names []) c')) b = some o := fun b o e => by rw [upd_ne (ne_of_none e nF)]; exact e
    exact h _ c' _ _ J2 ⟨nF, ⟨ps, st _ _ hP, tr, fun p v e => by obtain ⟨d, e1, e2⟩ := cs p v e; exact ⟨d, e1, st _ _ e2⟩⟩, upd_same, st _ _ ho, fun b _ hb => upd_ne (by rintro rfl; exact hb nF)⟩
  | none =>
    refine PySem.W.kla_makeFunction (mg := X.mg) (c := c) (P := P) (ps := ps) (closure_ok hfree) I.ok.glob (I.mod.glob.keeps I.bk) hcode (TB.code.keeps I.bk) hP' tr hc TB.gP bP fun c' ctv h' tk hx hge hlt hrec htb => ?_
    obtain ⟨c2, oc, vs, t, e2, hoc, hd, hv⟩ := hrec
    cases e2
    have nC : H c' = none := I.hok.fresh hge
    have J := inv_table (t' := tk) (more := #[rawInt pos.line, rawInt pos.col, .ref c']) (h' := h') I hP (fun b o hb e => hx b o hb e) htb hge ⟨oc, vs, t, hoc, hd, hv⟩
    have J2 := inv_lam (q := X.env.qual ++ "<lambda>") (L := L) (cl := cloFrom X.env.cells L.2.2.names []) (c := c') (t' := tk) (pm := (X.mg "__name__").getD .none) (ctv := ctv) J rfl
    have nF : H h'.objs.size = none := I.hok.fresh (Nat.le_trans hge (Nat.le_of_lt hlt))
    have cf : c' ≠ h'.objs.size := Nat.ne_of_lt hlt
    have pc : P ≠ c' := ne_of_none hP nC
    have pf : P ≠ h'.objs.size := ne_of_none hP nF
    refine h _ c' _ _ J2 ⟨nF, ⟨_, by rw [upd_ne pf, upd_ne pc, upd_same], ?_, fun p v e => ?_⟩, upd_same, by rw [upd_ne cf, upd_same], fun b hb hn => ?_⟩
    · rw [show (ps ++ #[rawInt pos.line, rawInt pos.col, .ref c']).toList = ps.toList ++ [rawInt pos.line, rawInt pos.col, .ref c'] by simp]
      exact PySem.TriplesOk_snoc _ _ _ _ tr
    · rw [show (ps ++ #[rawInt pos.line, rawInt pos.col, .ref c']).toList = ps.toList ++ [rawInt pos.line, rawInt pos.col, .ref c'] by simp] at e
      rcases among_app2 _ tr e with z | ⟨z, _, _⟩
      · obtain ⟨d, e1, e2⟩ := cs p v z
        refine ⟨d, e1, ?_⟩
        have nd : d ≠ P := by
          rintro rfl
          rw [hP] at e2
          exact codeO_ne ps (Option.some.inj e2).symm
        rw [upd_ne (ne_of_none e2 nF), upd_ne (ne_of_none e2 nC), upd_ne nd]
        exact e2
      · exact ⟨c', z, by rw [upd_ne cf, upd_same]⟩
    · rw [upd_ne (by rintro rfl; exact hn nF), upd_ne (by rintro rfl; exact hn nC), upd_ne hb]
end
structure CapX (X : Cx) (fr : List Str) (scope : Scope) (js : List Nat) : Prop where
  hfr : frOf scope.names = fr
  nfr : fr.Nodup
  kfr : ∀ y ∈ fr, X.env.scope.names.lookup y = some .cell
  hjs : js.map (fun j => X.N[j]?) = fr.map some
  fn : ∀ y ∈ fr, X.fn y = true
  has : ∀ y ∈ fr, ∃ c, X.env.cells.lookup y = some c
abbrev clX (X : Cx) (scope : Scope) : List (Str × Addr) := cloFrom X.env.cells scope.names []
section
variable {X : Cx} {fr : List Str} {scope : Scope} {js : List Nat}
theorem CapX.keys (c : CapX X fr scope js) : (clX X scope).map (·.1) = fr := by
  rw [show (clX X scope).map (·.1) = frOf scope.names ++ [] from clo_keys _ _ _, List.append_nil, c.hfr]
theorem CapX.ecl (c : CapX X fr scope js) {y : Str} {a : Addr} (hm : (y, a) ∈ clX X scope) : X.env.cells.lookup y = some a ∧ y ∈ fr := by
  have hy : y ∈ fr := by rw [← c.keys]; exact List.mem_map_of_mem (f := (·.1)) hm
  refine ⟨?_, hy⟩
  rcases cloFrom_mem hm with z | ⟨_, z⟩
  · cases z
  · obtain ⟨b, hb⟩ := c.has y hy
    rw [hb] at z ⊢
    rw [z]; rfl
theorem CapX.nd (c : CapX X fr scope js) (ok : X.Ok) : ((clX X scope).map (·.2)).Nodup := by
  rw [List.Nodup, List.pairwise_iff_getElem]
  intro i j hi hj2 hij
  rw [List.getElem_map, List.getElem_map]
  rw [List.length_map] at hi hj2
  intro z
  obtain ⟨z1, _⟩ := c.ecl (y := (clX X scope)[i].1) (a := (clX X scope)[i].2) (List.getElem_mem hi)
  obtain ⟨z2, _⟩ := c.ecl (y := (clX X scope)[j].1) (a := (clX X scope)[j].2) (List.getElem_mem hj2)
  rw [z] at z1
  have e := ok.inj _ _ _ z1 z2
  have nf := c.nfr
  rw [← c.keys, List.Nodup, List.pairwise_iff_getElem] at nf
  have := nf i j (by rw [List.length_map]; exact hi) (by rw [List.length_map]; exact hj2) hij
  rw [List.getElem_map, List.getElem_map] at this
  exact this e
theorem CapX.len (c : CapX X fr scope js) {ws : List Int} {σ : L2.St} (h : HldV js ws σ) : (clX X scope).length = ws.length := by
  have e1 := congrArg List.length h
  have e2 := congrArg List.length c.hjs
  have e3 := congrArg List.length c.keys
  simp only [List.length_map] at e1 e2 e3
  omega
theorem CapX.len' (c : CapX X fr scope js) : (clX X scope).length = js.length := by
  have e2 := congrArg List.length c.hjs
  have e3 := congrArg List.length c.keys
  simp only [List.length_map] at e2 e3
  omega
/-- what g knows then -/
theorem CapX.gst (c : CapX X fr scope js) (g : GG X.K) (hg : @GIn X.K g X.base) (ws : List Int) : GSt X (gOf g ((clX X scope).map (·.2)) ws) js ws := fun a v e => by
  rcases gOf_cases e with h | ⟨_, h⟩
  · exact .inl (hg a v h)
  · obtain ⟨i, hi, e2⟩ := List.mem_iff_getElem.mp h
    rw [List.length_zip, List.length_map, List.length_map] at hi
    have hi1 : i < (clX X scope).length := by omega
    have hi2 : i < ws.length := by omega
    rw [List.getElem_zip] at e2
    simp only [List.getElem_map, Prod.mk.injEq] at e2
    obtain ⟨z1, z2⟩ := c.ecl (y := (clX X scope)[i].1) (a := (clX X scope)[i].2) (List.getElem_mem hi1)
    have ey : fr[i]? = some (clX X scope)[i].1 := by rw [← c.keys, List.getElem?_map, List.getElem?_eq_getElem hi1]; rfl
    have e3 : (js.map fun j => X.N[j]?)[i]? = some (some (clX X scope)[i].1) := by rw [c.hjs, List.getElem?_map, ey]; rfl
    rw [List.getElem?_map] at e3
    cases ej : js[i]? with
    | none => rw [ej] at e3; cases e3
    | some j =>
      rw [ej] at e3
      exact .inr ⟨i, j, (clX X scope)[i].1, ws[i], ej, Option.some.inj e3, c.kfr _ z2, c.fn _ z2, by rw [z1, e2.1], List.getElem?_eq_getElem hi2, e2.2.symm⟩
theorem CapX.gst' {g gw : GG X.K} {ws : List Int} (c : CapX X fr scope js) (e : gw = gOf g ((clX X scope).map (·.2)) ws) (hg : @GIn X.K g X.base) : GSt X gw js ws := by
  subst e
  exact c.gst g hg ws
theorem gOf_at {K : PySem.W.Frag} {g : GG K} {cs : List Addr} {ws : List Int} (nd : cs.Nodup) (fresh : ∀ c ∈ cs, g.cell c = none) {i : Nat} {c : Addr} {n : Int} (e1 : cs[i]? = some c) (e2 : ws[i]? = some n) : (gOf g cs ws).cell c = some (.int n) := by
  rw [gOf_new (fresh c (List.mem_of_getElem? e1))]
  clear fresh
  induction cs generalizing i ws with
  | nil => cases e1
  | cons a r ih =>
    cases ws with
    | nil => cases e2
    | cons m r2 =>
      rw [List.map_cons, List.zip_cons_cons, List.lookup_cons]
      cases i with
      | zero =>
        cases e1
        cases e2
        rw [beq_self_eq_true]
      | succ i =>
        rw [List.getElem?_cons_succ] at e1 e2
        rw [List.nodup_cons] at nd
        rw [beq_eq_false_iff_ne.mpr fun z => nd.1 (by rw [← z]; exact List.mem_of_getElem? e1)]
        exact ih nd.2 e1 e2
end
end L3

namespace L3
open PySem PySem.Spec PyProof.Rows L2 LamX NdefX
def lamE : Stmt → Expr
  | .Assign _ v _ => v
  | .Expr v _ => v
  | _ => .Name "" ⟨0, 0, 0, 0⟩
theorem tabB_keeps {base base' : Heap} {mg : Str → Option Value} {c P : Addr} (t : LamX.TabB base mg c P) (k : ∀ b o, base.get? b = some o → base'.get? b = some o) : LamX.TabB base' mg c P := ⟨t.code.keeps k, t.bm.keeps k, t.gP⟩
theorem RSt.conv {K : PySem.W.Frag} {s : LS} {H H2 : Hp} (g g' : GG K) (hH : ∀ a (o : HO), H a = Option.some o → H2 a = Option.some o) (hc : ∀ c v, @CelH K g s H c v → @CelH K g' s H2 c v) : ∀ {xs : LSt} {vs : L2.St}, @RSt K g s H xs vs → @RSt K g' s H2 xs vs
  | [], _, h => by simp only [RSt] at h ⊢; exact h
  | none :: xs, _, h => by
    simp only [RSt] at h ⊢
    obtain ⟨v, r, e, h⟩ := h
    exact ⟨v, r, e, RSt.conv g g' hH hc h⟩
  | some x :: xs, _, h => by
    simp only [RSt] at h ⊢
    obtain ⟨v, r, e, h1, h⟩ := h
    exact ⟨v, r, e, RV.conv g g' hH hc h1, RSt.conv g g' hH hc h⟩
structure DnH (K : PySem.W.Frag) (g : GG K) (js : List Nat) (ws : List Int) (s : LS) (H : Hp) (Dl : LEnds) (R : L2.St → V → Hp → Prop) : Prop where
  rt : ∀ (lv : LV) (s' : LS) (σ : L2.St) (H' : Hp) (v : V), Dl.rt lv s' → Step s H s' H' → @RelS K g s' H' → @RV K g s' H' lv v → HldV js ws σ → R σ v H'
theorem DnH.mono {K : PySem.W.Frag} {g : GG K} {js : List Nat} {ws : List Int} {s s1 : LS} {H H1 : Hp} {Dl : LEnds} {R : L2.St → V → Hp → Prop} (d : DnH K g js ws s H Dl R) (st : Step s H s1 H1) : DnH K g js ws s1 H1 Dl R :=
  ⟨fun lv s' σ H' v q st' => d.rt lv s' σ H' v q (st.trans st')⟩
def upC2 (K : PySem.W.Frag) (g : GG K) (js : List Nat) (ws : List Int) (s0 : LS) (H0 : Hp) (t : LTS) : (L2.St → V → Hp → Prop) → L2.St → Hp → Prop := fun R σ H => ∃ σl s Dl, @RSt K g s H σl σ ∧ @RelS K g s H ∧ Step s0 H0 s H ∧ Hld js ws σl ∧ t Dl σl s ∧ DnH K g js ws s H Dl R
def LP2 (X : Cx) (g : GG X.K) (js : List Nat) (ws : List Int) (sts : List Stmt) (t : LTS) : Prop := ∀ s0 H0, PassesOwn (model X.prog X.w) X.A X.env X.xe → PSM X sts (upC2 X.K g js ws s0 H0 t)
def lSeq2 (js : List Nat) (ws : List Int) (t u : LTS) : LTS := fun D σ s => t ⟨fun σ' s' => Hld js ws σ' ∧ u D σ' s', fun _ _ => False, fun _ _ => False, fun _ _ => False, noX⟩ σ s
def lRet2 (te : LTE) : LTS := fun D σ s => te σ s D.rt fun _ _ => False
section
variable {X : Cx} {g : GG X.K} {st : Stmt} {rest : List Stmt} {t u : LTS} {js : List Nat} {ws : List Int} {e : Expr} {te : LTE} {pos : Pos}
theorem lp2_cons (h1 : @LP X g st t) (h2 : LP2 X g js ws rest u) : LP2 X g js ws (st :: rest) (lSeq2 js ws t u) := fun s0 H0 hp =>
  (psm_cons (h1 s0 H0 noX takes_no hp) (h2 s0 H0 hp)).imp fun R σ H ⟨σl, s, Dl, hσ, hs, st, _, h, d⟩ =>
    ⟨σl, s, _, hσ, hs, st, h, ⟨fun σl1 s1 σ1 H1 h1 st1 hs1 r1 => ⟨σl1, s1, Dl, r1, hs1, st.trans st1, h1.1, h1.2, d.mono st1⟩, fun _ _ _ _ z => z.elim, fun _ _ _ _ z => z.elim, fun _ _ _ _ z => z.elim, fun _ _ _ z => z⟩⟩
theorem lp2_ret (he : @LE X g e te) : LP2 X g js ws [.Return (some e) pos] (lRet2 te) := fun s0 H0 hp =>
  (psm_ret (he s0 H0 noX takes_no)).imp fun R σ H ⟨σl, s, Dl, hσ, hs, st, hh, h, d⟩ =>
    ⟨σl, s, Dl.rt, fun _ _ => False, hσ, hs, st, fun _ _ z => z.elim, h, fun lv s' v H' q st' hs' rv => d.rt lv s' σ H' v q st' hs' rv (@Hld.vals _ _ _ _ _ g _ _ hσ hh)⟩
end
structure DnG (K : PySem.W.Frag) (g : GG K) (js : List Nat) (cs : List Addr) (E : LXS) (s : LS) (H : Hp) (Dl : LEnds) (R : L2.St → V → Hp → Prop) : Prop where
  rt : ∀ (ws : List Int) (lv : LV) (s' : LS) (σ : L2.St) (H' : Hp) (v : V), Dl.rt lv s' → Step s H s' H' → @RelS K (gOf g cs ws) s' H' → @RV K (gOf g cs ws) s' H' lv v → HldV js ws σ → R σ v H'
  ex : ∀ C σl s', Dl.ex C σl s' → E C σl s'
theorem DnG.mono {K : PySem.W.Frag} {g : GG K} {js : List Nat} {cs : List Addr} {E : LXS} {s s1 : LS} {H H1 : Hp} {Dl : LEnds} {R : L2.St → V → Hp → Prop} (d : DnG K g js cs E s H Dl R) (st : Step s H s1 H1) : DnG K g js cs E s1 H1 Dl R :=
  ⟨fun ws lv s' σ H' v q st' => d.rt ws lv s' σ H' v q (st.trans st'), d.ex⟩
def upC1 (K : PySem.W.Frag) (g : GG K) (js : List Nat) (cs : List Addr) (s0 : LS) (H0 : Hp) (E : LXS) (t : LTS) : (L2.St → V → Hp → Prop) → L2.St → Hp → Prop := fun R σ H => ∃ σl s Dl, @RSt K g s H σl σ ∧ @RelS K g s H ∧ Step s0 H0 s H ∧ t Dl σl s ∧ DnG K g js cs E s H Dl R
def LP1 (X : Cx) [g : GG X.K] (js : List Nat) (cs : List Addr) (sts : List Stmt) (t : LTS) : Prop := ∀ s0 H0 E, Takes X (WL X.K s0 H0 E) → PassesOwn (model X.prog X.w) X.A X.env X.xe → PSM X sts (upC1 X.K g js cs s0 H0 E t)
/-- from here on the captured names hold what they hold now -/
def lSw (js : List Nat) (u : List Int → LTS) : LTS := fun D σ s => ∃ ws, Hld js ws σ ∧ u ws D σ s
section
variable {X : Cx} [g : GG X.K] {st : Stmt} {rest : List Stmt} {t u : LTS} {js : List Nat} {cs : List Addr}
theorem lp1_cons (h1 : LP X st t) (h2 : LP1 X js cs rest u) : LP1 X js cs (st :: rest) (lSeqM t u) := fun s0 H0 E tk hp =>
  (psm_cons (h1 s0 H0 E tk hp) (h2 s0 H0 E tk hp)).imp fun R σ H ⟨σl, s, Dl, hσ, hs, st, h, d⟩ =>
    ⟨σl, s, _, hσ, hs, st, h, ⟨fun σl1 s1 σ1 H1 h1 st1 hs1 r1 => ⟨σl1, s1, Dl, r1, hs1, st.trans st1, h1, d.mono st1⟩, fun _ _ _ _ z => z.elim, fun _ _ _ _ z => z.elim, fun _ _ _ _ z => z.elim, d.ex⟩⟩
theorem lp1_sw {u : List Int → LTS} (h : ∀ ws, ws.length = js.length → ∀ gw : GG X.K, gw = gOf g cs ws → LP2 X gw js ws rest (u ws)) : LP1 X js cs rest (lSw js u) := fun s0 H0 E tk hp =>
  ⟨fun pins si σ H R I ⟨σl, s, Dl, hσ, hs, st, ⟨ws, hh, h'⟩, d⟩ => (h ws (by have := congrArg List.length hh; simpa using this.symm) _ rfl s0 H0 hp).run pins si σ H R I
    ⟨σl, s, Dl, RSt.conv g (gOf g cs ws) (fun _ _ z => z) (fun _ _ z => z.up) hσ, RelS.conv g (gOf g cs ws) (fun _ _ z => z) (fun _ _ z => z.up) hs, st, hh, h', ⟨fun lv s' σ H' v q st' hs' rv hv => d.rt ws lv s' σ H' v q st' hs' rv hv⟩⟩⟩
end
def lLam (P : Addr) (k : Ck) (ws : List Int) : LTE := fun σ s Q E => s P = some (.tab k.qual) ∧ Q (.clo k (ws.map LV.int)) s
theorem le_lam {X : Cx} {g : GG X.K} [gw : GG X.K] {k : Ck} {js : List Nat} {ws : List Int} {L : Arguments × Expr × Scope} {c P : Addr} {pos : Pos} (hl : lamOf k.st = some L) (TB : TabB X.base X.mg c P) (hcode : X.env.code = .ref c) (hq : X.env.qual ++ "<lambda>" = k.qual)
    (hdef : defaultsOf L.1 X.env = ([], [])) (cp : CapX X k.fr L.2.2 js) (hlw : (clX X L.2.2).length = ws.length) (hfree : ∀ y ∈ L.2.2.names, y.2 = .free → X.env.scope.names.lookup y.1 = some .cell ∨ X.env.scope.names.lookup y.1 = some .free) (hg : @GIn X.K g X.base) (hgw : gw = gOf g ((clX X L.2.2).map (·.2)) ws) : LE X (.Lambda L.1 L.2.1 L.2.2 pos) (lLam P k ws) := by
  subst hgw
  refine @fun s0 H0 E tk => ⟨fun pins si σ H Q I ⟨σl, s, Q0, E1, hσ, hs, st, hE, ⟨hP, h⟩, kk⟩ => ?_⟩
  letI : GG X.K := gOf g ((clX X L.2.2).map (·.2)) ws
  refine lamX I TB hcode hq (tabQ_of hs hP) hdef (fun y hy e => I.ok.has y.1 (hfree y hy e)) fun f c' H1 s' I1 m => ?_
  obtain ⟨st1, hs1, sf, sc⟩ := m.up hs hP
  refine ⟨.ref f, H1, I1, rfl, kk _ s _ H1 h st1 hs1 ?_⟩
  simp only [RV]
  have fresh : ∀ a ∈ (clX X L.2.2).map (·.2), g.cell a = none := fun a ha => by
    cases e : g.cell a with
    | none => rfl
    | some v =>
      exfalso
      obtain ⟨o, u, hb, _, _⟩ := hg a v e
      obtain ⟨⟨y, b⟩, hm, rfl⟩ := List.mem_map.mp ha
      obtain ⟨z1, z2⟩ := cp.ecl hm
      have h1 := I.ok.cab y b (cp.fn y z2) z1
      have h2 := Heap.lt_size (I.ok.bs _ _ hb).1
      exact Nat.not_lt.mpr h1 h2
  refine ⟨f, c', clX X L.2.2, rfl, sf, by rw [k.fo_lam hl]; exact m.fn, sc, m.code, cp.keys, cp.nd I.ok, ?_⟩
  have rx : RVs X.K s H1 (ws.map LV.int) (ws.map V.int) := RVs.ints ws
  refine RVc.of rx (by rw [List.length_map, List.length_map]; exact hlw) fun p hp => .inr ?_
  obtain ⟨i, hi, e⟩ := List.mem_iff_getElem.mp hp
  rw [List.length_zip, List.length_map, List.length_map] at hi
  rw [List.getElem_zip] at e
  simp only [List.getElem_map] at e
  subst e
  exact gOf_at (cp.nd I.ok) fresh (i := i) (by rw [List.getElem?_map, List.getElem?_eq_getElem (by omega)]; rfl) (List.getElem?_eq_getElem (by omega))
section
variable {P : Program} {w : World} {K : PySem.W.Frag} [g : GG K] {mg : Str → Option Value} {base : Heap}
theorem FunG.ok {x qual : Str} {st : Stmt} {f c : Addr} {fd : FuncData} {N ps fr : List Str} {k : Nat} {sp : LSp} {js : List Nat} {lsc : Scope} (F : FunC K x qual st f fd c) (S : FnScope N ps (defScope st)) (len : ∀ vs s Q E, sp vs s Q E → vs.length = ps.length)
    (hfr : frOf lsc.names = fr) (nfr : fr.Nodup) (kfr : ∀ y ∈ fr, (defScope st).names.lookup y = some .cell) (hjs : js.map (fun j => N[j]?) = fr.map some)
    (hbody : ∀ (A : Around) (outer : List Env) (si : Shared) (H : Hp) (E : XK), Room k (A.deeper (PyProof.Rows.envOfC qual (defScope st) si.heap.objs.size f (.ref c))) → CapX (cxOf (L2.CX P w) P w K mg base N qual (defScope st) f (.ref c) A outer si H E) fr lsc js →
      ∃ t, LP1 (cxOf (L2.CX P w) P w K mg base N qual (defScope st) f (.ref c) A outer si H E) js ((clX (cxOf (L2.CX P w) P w K mg base N qual (defScope st) f (.ref c) A outer si H E) lsc).map (·.2)) (defBody st) t ∧ ∀ vs s Q E, sp vs s Q E → t (mEnds Q E) (lstart N vs) s) : LFn P w K mg base (k + 1) f fd ps sp := by
  obtain ⟨oc, od, kV, doc, pm, an, ct, osl, rfl, lk, hcd⟩ := F.ex
  have len' : ∀ vs H Q E, dn K sp vs H Q E → vs.length = ps.length := fun vs H Q E ⟨lvs, s, Q0, E0, r, _, h, _⟩ => by rw [r.length]; exact len _ _ _ _ h
  refine ⟨len', fun A outer s H args us vs Q E hr e0 hb r hsp => ?_⟩
  have hl := len' _ _ _ _ hsp
  have KX : K.In s.heap := e0.mod.kin.keeps fun b o e => (e0.bs b o e).1
  have nl : s.heap.NoLimit := e0.mod.nolimit.keeps fun b o e => (e0.bs b o e).1
  refine codeAny_call_function hr.depth (KX _ _ lk) rfl S.co S.gen rfl (PySem.W.codeRec_of KX hcd) (hb _ _ _ _ ?_)
  refine wpAny_newFunctionEnv_cells S.kind (fun ⟨n, v⟩ hy => ?_) fun env he s1 x => ?_
  · rcases S.par n (List.of_mem_zip hy).1 with q | q
    · exact .inl q
    · exact .inr ⟨q, PySem.W.cellsFrom_some _ _ _ (.inl q)⟩
  subst he
  refine ⟨nl.keeps x.toInCall.keep, codeAny_func (show wpAny _ _ (execs (defBody st) _) _ _ _ from ?_)⟩
  obtain ⟨lvs, ls, Q0, E0, rl, hs, h, kq, ke⟩ := hsp
  have cp : CapX (cxOf (L2.CX P w) P w K mg base N qual (defScope st) f (.ref c) A outer s H E) fr lsc js := ⟨hfr, nfr, kfr, hjs, fun _ _ => rfl, fun y hy => cell_has (kfr y hy)⟩
  obtain ⟨t, ht, hbd⟩ := hbody A outer s H E (hr.deeper _) cp
  have tk := takes_of (X := cxOf (L2.CX P w) P w K mg base N qual (defScope st) f (.ref c) A outer s H E) (E := E) rfl rfl rfl rfl
  have I : Inv (cxOf (L2.CX P w) P w K mg base N qual (defScope st) f (.ref c) A outer s H E) [] (start N vs) H s1 := inv_start S hr.hd e0 hl r x
  have M := ht ls H (fun C σl s' => ∃ s2, Sub s2 s' ∧ E0 C s2) (tk.imp fun cls d σ H' w => by
    obtain ⟨C, σl, s', rfl, rfl, _, hs', st', s2, sb, q⟩ := w
    exact ke C s2 H' q (st'.trans sb.step) (sb.rel hs')) (passes_of rfl)
  obtain ⟨cl, ecl0⟩ : ∃ z, z = clX (cxOf (L2.CX P w) P w K mg base N qual (defScope st) f (.ref c) A outer s H E) lsc := ⟨_, rfl⟩
  rw [← ecl0] at M
  have start_ok : RSt K ls H (lstart N lvs) (start N vs) := by
    unfold lstart
    rw [show start N vs = vs.map some ++ List.replicate (N.length - vs.length) none from rfl, rl.length]
    exact (RSt.vals rl).append (.nones _)
  refine wpAny_mono (M.run [] s1 (start N vs) H (fun σ' v H' => ∃ ws : List Int, HldV js ws σ' ∧ ∀ H2, (∀ a ∈ cl.map (·.2), H' a = none) → (∀ p ∈ (cl.map (·.2)).zip (ws.map V.int), H2 p.1 = some (CelO p.1 p.2)) →
    (∀ b, b ∉ cl.map (·.2) → H2 b = H' b) → Q v H2) I ⟨lstart N lvs, ls, mEnds Q0 E0, start_ok, hs, .refl _ _, hbd lvs ls Q0 E0 h, fun ws lv s' σ H' v hrt st' hs' rv hv => ?_, fun _ _ _ z => z⟩) (fun fl s' hfl => ?_) fun e s' he => he
  · refine ⟨ws, hv, fun H2 h0 h2 r2 => ?_⟩
    have hs1 : @RelS K (gOf g (cl.map (fun q : Str × Addr => q.2)) ws) s' H' := hs'
    have rv1 : @RV K (gOf g (cl.map (fun q : Str × Addr => q.2)) ws) s' H' lv v := rv
    have hH : ∀ a (o : HO), H' a = Option.some o → H2 a = Option.some o := fun a o e => by rw [r2 a fun ha => by rw [h0 a ha] at e; cases e]; exact e
    have hc : ∀ c v, @CelH K (gOf g (cl.map (fun q : Str × Addr => q.2)) ws) s' H' c v → @CelH K g s' H2 c v := fun c v z => CelH.down hH (fun p hp => ⟨@RelS.free K (gOf g (cl.map (fun q : Str × Addr => q.2)) ws) _ _ _ hs1 (h0 _ (List.of_mem_zip hp).1), h2 p hp⟩) z
    have hs2 := RelS.conv (gOf g (cl.map (fun q : Str × Addr => q.2)) ws) g hH hc hs1
    have rv2 := RV.conv (gOf g (cl.map (fun q : Str × Addr => q.2)) ws) g hH hc rv1
    have st2 : Step s' H' s' H2 := fun a o e n => ⟨⟨o, hH a o e, .refl o⟩, n⟩
    obtain ⟨y, s2, fz, q⟩ := hrt
    obtain ⟨a1, a2, a3⟩ := fz K H2 v hs2 rv2
    exact kq y s2 v H2 q ((st'.trans st2).trans a3) a2 a1
  · obtain ⟨u, rfl, v, σ', H', J, rv, ws, hv, q⟩ := hfl
    have nd : (cl.map (·.2)).Nodup := by rw [ecl0]; exact cp.nd J.ok
    have h0 : ∀ a ∈ cl.map (·.2), H' a = none := fun a ha => by
      obtain ⟨⟨y, b⟩, hm, rfl⟩ := List.mem_map.mp ha
      exact J.freeC y b (cp.ecl (by rw [← ecl0]; exact hm)).1
    have l1 : cl.length = ws.length := by rw [ecl0]; exact cp.len hv
    have cells : ∀ p ∈ (cl.map (·.2)).zip (ws.map V.int), H' p.1 = none ∧ ∃ u, RelV p.2 u ∧ s'.heap.IsCell p.1 (some u) := fun p hp => by
      refine ⟨h0 _ (List.of_mem_zip hp).1, ?_⟩
      obtain ⟨i, hi, rfl⟩ := List.mem_iff_getElem.mp hp
      rw [List.length_zip, List.length_map, List.length_map, l1, Nat.min_self] at hi
      rw [List.getElem_zip]
      simp only [List.getElem_map]
      have hi' : i < cl.length := by omega
      obtain ⟨z1, z2⟩ := cp.ecl (y := cl[i].1) (a := cl[i].2) (by rw [← ecl0]; exact List.getElem_mem hi')
      have ey : fr[i]? = some cl[i].1 := by
        have := cp.keys
        rw [← ecl0] at this
        rw [← this, List.getElem?_map, List.getElem?_eq_getElem hi']; rfl
      have e2 : (js.map fun j => N[j]?)[i]? = some (some cl[i].1) := by rw [hjs, List.getElem?_map, ey]; rfl
      rw [List.getElem?_map] at e2
      cases ej : js[i]? with
      | none => rw [ej] at e2; cases e2
      | some j =>
        rw [ej] at e2
        have hN : N[j]? = some cl[i].1 := Option.some.inj e2
        obtain ⟨m, hn, hlk⟩ := J.loc
        obtain ⟨u, ru, l⟩ := hlk j cl[i].1 (.int ws[i]) hN (hv.get ej (List.getElem?_eq_getElem hi)) (.inr (.inl (kfr _ z2)))
        refine ⟨u, ru, ?_⟩
        rcases l with ⟨z, _⟩ | ⟨_, b, hb, hc⟩
        · have z' : (defScope st).names.lookup cl[i].1 = some .local := z
          rw [kfr _ z2] at z'
          cases z'
        · rw [z1] at hb
          cases hb
          exact hc
    have zf : ((cl.map (·.2)).zip (ws.map V.int)).map (·.1) = cl.map (·.2) := List.map_fst_zip (by rw [List.length_map, List.length_map]; omega)
    obtain ⟨H2, k2, h2, r2⟩ := cells_add _ (by rw [zf]; exact nd) J.hok cells
    rw [zf] at r2
    refine ⟨v, H2, J.os, J.bare, un_add J.base r2 h0 (fun a ha => ?_), k2, rv, q H2 h0 h2 r2⟩
    obtain ⟨⟨y, b⟩, hm, rfl⟩ := List.mem_map.mp ha
    exact Heap.get?_none_of_le (J.ok.cab y b rfl (cp.ecl (by rw [← ecl0]; exact hm)).1)
end
end L3

namespace PySem
open Sem (wp)
/-- a zip, whatever it says of the tuple that it gave out -/
abbrev IsZipF (h : Heap) (z TI TO : Addr) (f0 : Value) (ff : Bool) : Prop :=
  h.get? z = some { cls := .type "zip", dict := none, data := .fields #[f0, .bool ff, .bool false, .ref TI, .ref TO], slots := #[] }
section
variable {prog : Program} {w : World} {A : Around} {E : Value → Shared → Prop} {s : Shared}
def ZFree (prog : Program) (w : World) (z : Addr) (s : Shared) : Prop := ∀ (A : Around) (Q : Bool → Shared → Prop) (E : Value → Shared → Prop), Q true s → wpAny (model prog w) A (Builtin.SmallTypes.ownedTupleIsFree (.ref z)) Q E s
theorem zipF_none {z TI TO : Addr} {ff : Bool} (hz : IsZipF s.heap z TI TO .none ff) : ZFree prog w z s := fun A Q E h => by
  unfold Builtin.SmallTypes.ownedTupleIsFree
  exact wpAny_bind (wpAny_field hz rfl (x := .none) rfl (wpAny_pure h))
theorem zipF_dead {z TI TO T : Addr} {ff : Bool} (hz : IsZipF s.heap z TI TO (rawInt T) ff) (hT : s.heap.get? T = none) : ZFree prog w z s := fun A Q E h => by
  unfold Builtin.SmallTypes.ownedTupleIsFree
  refine wpAny_bind (wpAny_field hz rfl (x := rawInt T) rfl ?_)
  show wpAny _ _ (loadIfAlive ((T : Int).toNat) >>= _) _ _ _
  rw [Int.toNat_natCast]
  have al : ∀ {Q : Option Obj → Shared → Prop} {E : Value → Shared → Prop}, Q none s → wpAny (model prog w) A (loadIfAlive T) Q E s := fun {Q E} h => by
    have h' : Q (s.heap.get? T) s := by rw [hT]; exact h
    exact fun _ _ _ => h'
  refine wpAny_bind (al ?_)
  simp only [Option.isNone_none, if_true]
  exact wpAny_pure h
theorem zipF_next_item {z TI TO i1 i2 l1 l2 : Addr} {f0 : Value} {ff : Bool} {k1 k2 : Nat} {xs ys : Array Value} {x y a b : Value} {Q : Value → Shared → Prop} (D : ZipApart z TI TO i1 i2 l1 l2)
    (hz : IsZipF s.heap z TI TO f0 ff) (hfr : ZFree prog w z s) (hTI : IsPair s.heap TI (.ref i1) (.ref i2)) (hTO : IsPair s.heap TO a b)
    (h1 : s.heap.IsListIter i1 l1 k1) (h2 : s.heap.IsListIter i2 l2 k2) (hl1 : s.heap.IsList l1 xs) (hl2 : s.heap.IsList l2 ys) (hx : xs[k1]? = some x) (hy : ys[k2]? = some y)
    (hQ : ∀ h', IsZip h' z TI TO (rawInt s.heap.objs.size) → IsPair h' TO x y → h'.IsListIter i1 l1 (k1 + 1) → h'.IsListIter i2 l2 (k2 + 1) → IsPair h' s.heap.objs.size x y → h'.objs.size = s.heap.objs.size + 1 →
      (∀ c o, c ≠ z → c ≠ TO → c ≠ i1 → c ≠ i2 → s.heap.get? c = some o → h'.get? c = some o) → Q (.ref s.heap.objs.size) { s with heap := h' }) :
    wpAny (model prog w) A (Builtin.«zip.__next__» ⟨[.ref z], []⟩) (fun fin s' => ∃ v, fin = .done (.ret v) ∧ Q v s') E s := by
  show wpAny _ _ (field (.ref z) 2 >>= _) _ _ _
  refine wpAny_bind (wpAny_field hz rfl (x := .bool false) rfl ?_)
  show wpAny _ _ (field (.ref z) 3 >>= _) _ _ _
  refine wpAny_bind (wpAny_field hz rfl (x := .ref TI) rfl ?_)
  refine wpAny_bind (wpAny_seqItems hTI rfl ?_)
  show wpAny _ _ (Builtin.SmallTypes.ownedTupleIsFree (.ref z) >>= _) _ _ _
  refine wpAny_bind (hfr _ _ _ ?_)
  simp only [if_true]
  refine wpAny_bind (wpAny_rule ?_)
  refine wpAny_bind (wpAny_field hz rfl (x := .ref TO) rfl ?_)
  refine wpAny_bind (wpAny_setField_rec hz (by simp) fun h₁ hz₁ hs₁ => ?_)
  replace hz₁ : IsZipF h₁ z TI TO .ellipsis ff := hz₁
  refine wpAny_bind ?_
  simp only [List.zipIdx_cons, List.zipIdx_nil, List.forIn_cons, List.forIn_nil]

  refine wpAny_bind (wpAny_bind (wpAny_onRaise ?_))
  show wpAny _ _ (Builtin.SmallTypes.nextOf (.ref i1) >>= _) _ _ _
  refine wpAny_bind (wpAny_nextOf_list_item (h1.extBut hs₁.extBut D.i1z) (hl1.extBut hs₁.extBut D.l1z) hx fun h₂ h1₂ hs₂ => wpAny_pure ?_)
  have hTO₂ : IsPair h₂ TO a b := hs₂.extBut _ _ D.TOi1 (hs₁.extBut _ _ D.TOz hTO)
  refine wpAny_bind (wpAny_seqItems hTO₂ rfl ?_)
  refine wpAny_bind (wpAny_updateSeq_pair hTO₂ fun h₃ hTO₃ hs₃ => ?_)
  replace hTO₃ : IsPair h₃ TO x b := hTO₃
  refine wpAny_bind (wpAny_letGo (wpAny_pure ?_))

  refine wpAny_bind (wpAny_bind (wpAny_onRaise ?_))
  show wpAny _ _ (Builtin.SmallTypes.nextOf (.ref i2) >>= _) _ _ _
  refine wpAny_bind (wpAny_nextOf_list_item (((h2.extBut hs₁.extBut D.i2z).extBut hs₂.extBut D.i12.symm).extBut hs₃.extBut D.TOi2.symm)
    (((hl2.extBut hs₁.extBut D.l2z).extBut hs₂.extBut D.l2i1).extBut hs₃.extBut D.l2TO) hy fun h₄ h2₄ hs₄ => wpAny_pure ?_)
  have hTO₄ : IsPair h₄ TO x b := hs₄.extBut _ _ D.TOi2 hTO₃
  refine wpAny_bind (wpAny_seqItems hTO₄ rfl ?_)
  refine wpAny_bind (wpAny_updateSeq_pair hTO₄ fun h₅ hTO₅ hs₅ => ?_)
  replace hTO₅ : IsPair h₅ TO x y := hTO₅
  refine wpAny_bind (wpAny_letGo (wpAny_pure (wpAny_pure ?_)))

  refine wpAny_bind (wpAny_seqItems hTO₅ rfl ?_)
  refine wpAny_bind (wpAny_newTuple ?_)
  have hsz : h₅.objs.size = s.heap.objs.size := by rw [hs₅.1, hs₄.1, hs₃.1, hs₂.1, hs₁.1]
  have hz₅ : IsZipF h₅ z TI TO .ellipsis ff := hs₅.extBut _ _ D.TOz.symm (hs₄.extBut _ _ D.i2z.symm (hs₃.extBut _ _ D.TOz.symm (hs₂.extBut _ _ D.i1z.symm hz₁)))
  have hk₅ : ∀ c o, c ≠ z → c ≠ TO → c ≠ i1 → c ≠ i2 → s.heap.get? c = some o → h₅.get? c = some o := fun c o c1 c2 c3 c4 e =>
    hs₅.extBut _ _ c2 (hs₄.extBut _ _ c4 (hs₃.extBut _ _ c2 (hs₂.extBut _ _ c3 (hs₁.extBut _ _ c1 e))))
  have h1₅ : h₅.IsListIter i1 l1 (k1 + 1) := ((h1₂.extBut hs₃.extBut D.TOi1.symm).extBut hs₄.extBut D.i12).extBut hs₅.extBut D.TOi1.symm
  have h2₅ : h₅.IsListIter i2 l2 (k2 + 1) := h2₄.extBut hs₅.extBut D.TOi2.symm
  have hzlt : z < h₅.objs.size := Heap.lt_size hz₅
  have hTOlt : TO < h₅.objs.size := Heap.lt_size hTO₅
  have hi1lt : i1 < h₅.objs.size := by obtain ⟨_, e, _⟩ := h1₅; exact Heap.lt_size e
  have hi2lt : i2 < h₅.objs.size := by obtain ⟨_, e, _⟩ := h2₅; exact Heap.lt_size e
  show wpAny _ _ (Builtin.SmallTypes.ownedTupleHandOut (.ref z) (.ref h₅.objs.size) >>= _) _ _ _
  refine wpAny_bind ?_
  unfold Builtin.SmallTypes.ownedTupleHandOut
  have hz₆ : IsZipF (h₅.push { cls := .type "tuple", data := .seq #[x, y] }) z TI TO .ellipsis ff := Heap.get?_push_of_some _ hz₅
  refine wpAny_bind (wpAny_setField_rec hz₆ (by simp) fun h₇ hz₇ hs₇ => ?_)
  replace hz₇ : IsZipF h₇ z TI TO (rawInt h₅.objs.size) ff := hz₇
  refine wpAny_setField_rec hz₇ (by simp) fun h₈ hz₈ hs₈ => ?_
  replace hz₈ : IsZip h₈ z TI TO (rawInt h₅.objs.size) := hz₈
  have up : ∀ c o, c ≠ z → h₅.get? c = some o → h₈.get? c = some o := fun c o c1 e => hs₈.extBut _ _ c1 (hs₇.extBut _ _ c1 (Heap.get?_push_of_some _ e))
  have hT₈ : IsPair h₈ h₅.objs.size x y := hs₈.extBut _ _ (Nat.ne_of_gt hzlt) (hs₇.extBut _ _ (Nat.ne_of_gt hzlt) (Heap.get?_push_size _ rfl))
  have hz8 : h₈.objs.size = h₅.objs.size + 1 := by rw [hs₈.1, hs₇.1, Heap.size_push]
  rw [hsz] at hz₈ hT₈ hz8
  refine wpAny_pure ⟨_, rfl, ?_⟩
  show Q (.ref h₅.objs.size) _
  rw [hsz]
  exact hQ h₈ hz₈ (up _ _ D.TOz hTO₅) (h1₅.at fun o e => up _ o D.i1z e) (h2₅.at fun o e => up _ o D.i2z e) hT₈ hz8 fun c o c1 c2 c3 c4 e => up c o c1 (hk₅ c o c1 c2 c3 c4 e)

theorem zipF_next_end {z TI TO i1 i2 l1 l2 : Addr} {f0 : Value} {ff : Bool} {k1 k2 : Nat} {xs ys : Array Value} {a b : Value} {Q : Fin → Shared → Prop} (hh : A.handled = none) (D : ZipApart z TI TO i1 i2 l1 l2)
    (hz : IsZipF s.heap z TI TO f0 ff) (hfr : ZFree prog w z s) (hTI : IsPair s.heap TI (.ref i1) (.ref i2)) (hTO : IsPair s.heap TO a b)
    (h1 : s.heap.IsListIter i1 l1 k1) (h2 : s.heap.IsListIter i2 l2 k2) (hl1 : s.heap.IsList l1 xs) (hl2 : s.heap.IsList l2 ys) (hend : xs[k1]? = none ∨ ys[k2]? = none)
    (hE : ∀ h' e, (∀ c o, c ≠ z → c ≠ TO → c ≠ i1 → c ≠ i2 → s.heap.get? c = some o → h'.get? c = some o) → (∃ o, h'.get? e = some o ∧ o.cls = .type "StopIteration") → E (.ref e) { s with heap := h' }) :
    wpAny (model prog w) A (Builtin.«zip.__next__» ⟨[.ref z], []⟩) Q E s := by
  show wpAny _ _ (field (.ref z) 2 >>= _) _ _ _
  refine wpAny_bind (wpAny_field hz rfl (x := .bool false) rfl ?_)
  show wpAny _ _ (field (.ref z) 3 >>= _) _ _ _
  refine wpAny_bind (wpAny_field hz rfl (x := .ref TI) rfl ?_)
  refine wpAny_bind (wpAny_seqItems hTI rfl ?_)
  show wpAny _ _ (Builtin.SmallTypes.ownedTupleIsFree (.ref z) >>= _) _ _ _
  refine wpAny_bind (hfr _ _ _ ?_)
  simp only [if_true]
  refine wpAny_bind (wpAny_rule ?_)
  refine wpAny_bind (wpAny_field hz rfl (x := .ref TO) rfl ?_)
  refine wpAny_bind (wpAny_setField_rec hz (by simp) fun h₁ hz₁ hs₁ => ?_)
  replace hz₁ : IsZipF h₁ z TI TO .ellipsis ff := hz₁
  refine wpAny_bind ?_
  simp only [List.zipIdx_cons, List.zipIdx_nil, List.forIn_cons, List.forIn_nil]
  refine wpAny_bind (wpAny_bind (wpAny_onRaise ?_))
  show wpAny _ _ (Builtin.SmallTypes.nextOf (.ref i1) >>= _) _ _ _
  cases hx : xs[k1]? with
  | none =>
    refine wpAny_bind (wpAny_nextOf_list_end hh (h1.extBut hs₁.extBut D.i1z) (hl1.extBut hs₁.extBut D.l1z) hx fun h₂ e hs₂ he => ?_)
    obtain ⟨oe, hoe, hce⟩ := he
    have hz₂ : IsZipF h₂ z TI TO .ellipsis ff := hs₂ _ _ D.i1z.symm hz₁
    have hez : e ≠ z := fun x => by subst x; rw [hz₂] at hoe; cases hoe; simp at hce
    refine wpAny_setField_rec hz₂ (by simp) fun h₃ _ hs₃ => hE h₃ e (fun c o c1 _ c3 _ x => hs₃.extBut _ _ c1 (hs₂ _ _ c3 (hs₁.extBut _ _ c1 x))) ⟨oe, hs₃.extBut _ _ hez hoe, hce⟩
  | some x =>
    have hy : ys[k2]? = none := by rcases hend with h | h; rw [hx] at h; cases h; exact h
    refine wpAny_bind (wpAny_nextOf_list_item (h1.extBut hs₁.extBut D.i1z) (hl1.extBut hs₁.extBut D.l1z) hx fun h₂ h1₂ hs₂ => wpAny_pure ?_)
    have hTO₂ : IsPair h₂ TO a b := hs₂.extBut _ _ D.TOi1 (hs₁.extBut _ _ D.TOz hTO)
    refine wpAny_bind (wpAny_seqItems hTO₂ rfl ?_)
    refine wpAny_bind (wpAny_updateSeq_pair hTO₂ fun h₃ hTO₃ hs₃ => ?_)
    refine wpAny_bind (wpAny_letGo (wpAny_pure ?_))
    refine wpAny_bind (wpAny_bind (wpAny_onRaise ?_))
    show wpAny _ _ (Builtin.SmallTypes.nextOf (.ref i2) >>= _) _ _ _
    refine wpAny_bind (wpAny_nextOf_list_end hh (((h2.extBut hs₁.extBut D.i2z).extBut hs₂.extBut D.i12.symm).extBut hs₃.extBut D.TOi2.symm)
      (((hl2.extBut hs₁.extBut D.l2z).extBut hs₂.extBut D.l2i1).extBut hs₃.extBut D.l2TO) hy fun h₄ e hs₄ he => ?_)
    obtain ⟨oe, hoe, hce⟩ := he
    have hz₄ : IsZipF h₄ z TI TO .ellipsis ff := hs₄ _ _ D.i2z.symm (hs₃.extBut _ _ D.TOz.symm (hs₂.extBut _ _ D.i1z.symm hz₁))
    have hez : e ≠ z := fun x => by subst x; rw [hz₄] at hoe; cases hoe; simp at hce
    refine wpAny_setField_rec hz₄ (by simp) fun h₅ _ hs₅ => hE h₅ e (fun c o c1 c2 c3 c4 x => hs₅.extBut _ _ c1 (hs₄ _ _ c4 (hs₃.extBut _ _ c2 (hs₂.extBut _ _ c3 (hs₁.extBut _ _ c1 x))))) ⟨oe, hs₅.extBut _ _ hez hoe, hce⟩

theorem wpAny_pyNext_zipF_item {z TI TO i1 i2 l1 l2 : Addr} {f0 : Value} {ff : Bool} {k1 k2 : Nat} {xs ys : Array Value} {x y a b : Value} {Q : Option Value → Shared → Prop} (D : ZipApart z TI TO i1 i2 l1 l2)
    (hz : IsZipF s.heap z TI TO f0 ff) (hfr : ZFree prog w z s) (hTI : IsPair s.heap TI (.ref i1) (.ref i2)) (hTO : IsPair s.heap TO a b)
    (h1 : s.heap.IsListIter i1 l1 k1) (h2 : s.heap.IsListIter i2 l2 k2) (hl1 : s.heap.IsList l1 xs) (hl2 : s.heap.IsList l2 ys) (hx : xs[k1]? = some x) (hy : ys[k2]? = some y)
    (hQ : ∀ h', IsZip h' z TI TO (rawInt s.heap.objs.size) → IsPair h' TO x y → h'.IsListIter i1 l1 (k1 + 1) → h'.IsListIter i2 l2 (k2 + 1) → IsPair h' s.heap.objs.size x y → h'.objs.size = s.heap.objs.size + 1 →
      (∀ c o, c ≠ z → c ≠ TO → c ≠ i1 → c ≠ i2 → s.heap.get? c = some o → h'.get? c = some o) → Q (some (.ref s.heap.objs.size)) { s with heap := h' }) :
    wpAny (model prog w) A (pyNext (.ref z)) Q E s := by
  have hT : s.TypeIs (.ref z) "zip" := ⟨_, hz, rfl⟩
  unfold pyNext
  exact wpAny_bind (wpAny_attempt (wpAny_callSpecial?_slot (name := Str.ofString "__next__") hT F.slot_zip_next
    (wpAny_call_entry F.slot_zip_next hT F.entry_zip_next
      (zipF_next_item D hz hfr hTI hTO h1 h2 hl1 hl2 hx hy fun h' a1 a2 a3 a4 a5 a6 a7 => wpAny_pure (hQ h' a1 a2 a3 a4 a5 a6 a7)) (F.args_zip_next_1 _))))

theorem wpAny_pyNext_zipF_end {z TI TO i1 i2 l1 l2 : Addr} {f0 : Value} {ff : Bool} {k1 k2 : Nat} {xs ys : Array Value} {a b : Value} {Q : Option Value → Shared → Prop} (hh : A.handled = none) (D : ZipApart z TI TO i1 i2 l1 l2)
    (hz : IsZipF s.heap z TI TO f0 ff) (hfr : ZFree prog w z s) (hTI : IsPair s.heap TI (.ref i1) (.ref i2)) (hTO : IsPair s.heap TO a b)
    (h1 : s.heap.IsListIter i1 l1 k1) (h2 : s.heap.IsListIter i2 l2 k2) (hl1 : s.heap.IsList l1 xs) (hl2 : s.heap.IsList l2 ys) (hend : xs[k1]? = none ∨ ys[k2]? = none)
    (hQ : ∀ h', (∀ c o, c ≠ z → c ≠ TO → c ≠ i1 → c ≠ i2 → s.heap.get? c = some o → h'.get? c = some o) → Q none { s with heap := h' }) : wpAny (model prog w) A (pyNext (.ref z)) Q E s := by
  have hT : s.TypeIs (.ref z) "zip" := ⟨_, hz, rfl⟩
  unfold pyNext
  refine wpAny_bind (wpAny_attempt (wpAny_callSpecial?_slot (name := Str.ofString "__next__") hT F.slot_zip_next
    (wpAny_call_entry F.slot_zip_next hT F.entry_zip_next (zipF_next_end hh D hz hfr hTI hTO h1 h2 hl1 hl2 hend fun h' e hk he => ?_) (F.args_zip_next_1 _))))
  obtain ⟨o, ho, hc⟩ := he
  refine wpAny_bind (wpAny_isInstance (T := "StopIteration") (b := true) ⟨o, ho, hc⟩ isSubtype_stop ?_)
  exact wpAny_pure (hQ _ hk)

theorem wpAny_pyIter_zipF {z TI TO : Addr} {f0 : Value} {ff : Bool} {Q : Value → Shared → Prop} (hz : IsZipF s.heap z TI TO f0 ff) (h : Q (.ref z) s) : wpAny (model prog w) A (pyIter (.ref z)) Q E s := by
  have hT : s.TypeIs (.ref z) "zip" := ⟨_, hz, rfl⟩
  refine wpAny_pyIter_slot hT F.slot_zip_iter (wpAny_call_entry F.slot_zip_iter hT F.entry_zip_iter ?_ (F.args_zip_iter_1 _))
  show wpAny _ _ (ret (.ref z)) _ _ s
  exact wpAny_pure ⟨_, rfl, "zip", _, hT, F.slot_zip_next.lookup, h⟩
end
end PySem
namespace L3
open PySem PySem.Spec PyProof.Rows L2
/-- no tuple is let go by a plain name -/
theorem goName {M : Model} {A : Around} {E : Value → Shared → Prop} {s : Shared} {n : Str} {p : Pos} {it u : Value} {Q : Unit → Shared → Prop} (hQ : Q () s) : wpAny M A (letOwnedTupleGo (.Name n p) it u) Q E s := by
  unfold letOwnedTupleGo
  exact wpAny_pure hQ
theorem turn_zipN {P : Program} {w : World} {K : PySem.W.Frag} {n : Str} {np : Pos} {a b z TI TO i1 i2 : Addr} (D : ZipApart z TI TO i1 i2 a b) :
    Turn P w K (.Name n np) (Itz K a b) [z, TI, TO, i1, i2] z (fun i h => (∃ f0 ff, IsZipF h z TI TO f0 ff ∧ (f0 = .none ∨ ∃ T : Nat, f0 = rawInt T)) ∧ IsPair h TI (.ref i1) (.ref i2) ∧ (∃ x y, IsPair h TO x y) ∧ h.IsListIter i1 a i ∧ h.IsListIter i2 b i) where
  mem := by simp
  obj := fun i h st c hc => by
    obtain ⟨⟨f0, ff, hz, _⟩, hTI, ⟨x, y, hTO⟩, ⟨o1, e1, _, d1⟩, ⟨o2, e2, _, d2⟩⟩ := st
    have e' : c = z ∨ c = TI ∨ c = TO ∨ c = i1 ∨ c = i2 := by simpa using hc
    rcases e' with q | q | q | q | q
    · rw [q]; exact ⟨_, hz, fun v q => nomatch q⟩
    · rw [q]; exact ⟨_, hTI, fun v q => nomatch q⟩
    · rw [q]; exact ⟨_, hTO, fun v q => nomatch q⟩
    · rw [q]; exact ⟨o1, e1, fun v q => by rw [d1] at q; cases q⟩
    · rw [q]; exact ⟨o2, e2, fun v q => by rw [d2] at q; cases q⟩
  keep := fun i h h' st k => by
    obtain ⟨⟨f0, ff, hz, hf⟩, hTI, ⟨x, y, hTO⟩, h1, h2⟩ := st
    exact ⟨⟨f0, ff, k z (by simp) _ hz, hf⟩, k TI (by simp) _ hTI, ⟨x, y, k TO (by simp) _ hTO⟩, h1.at fun o q => k i1 (by simp) o q, h2.at fun o q => k i2 (by simp) o q⟩
  item := by
    intro X hP hw hK hc i pins s σ H E I hf st hg
    subst hP hw hK
    obtain ⟨⟨f0, ff, hz, hf0⟩, hTI, ⟨x0, y0, hTO⟩, h1, h2⟩ := st
    obtain ⟨xs, ys, x, y, hqx, hqy, hx, hy⟩ := hg
    obtain ⟨its, rv, p, _⟩ := I.list hqx
    obtain ⟨its2, rv2, p2, _⟩ := I.list hqy
    obtain ⟨u, hu, ru⟩ := rv.get hx
    obtain ⟨u2, hu2, ru2⟩ := rv2.get hy
    have hzl : z < s.heap.objs.size := Heap.lt_size hz
    -- what a new pair leads to
    have fin : ∀ h' : Heap, (∃ f0 ff, IsZipF h' z TI TO f0 ff ∧ (f0 = .none ∨ ∃ T : Nat, f0 = rawInt T)) → IsPair h' TI (.ref i1) (.ref i2) → (∃ x y, IsPair h' TO x y) → h'.IsListIter i1 a (i + 1) → h'.IsListIter i2 b (i + 1) → IsPair h' s.heap.objs.size u u2 → h'.objs.size = s.heap.objs.size + 1 →
        (∀ c o, c ≠ z → c ≠ TO → c ≠ i1 → c ≠ i2 → s.heap.get? c = some o → h'.get? c = some o) →
        ∃ u', some (Value.ref s.heap.objs.size) = some u' ∧ wpAny (model X.prog X.w) X.A (letOwnedTupleGo (.Name n np) (.ref z) u') (fun _ s2 => ∃ x H', Inv X pins σ H' s2 ∧ RelV x u' ∧ (Itz X.K a b).yld i H x H' ∧ ((∃ f0 ff, IsZipF s2.heap z TI TO f0 ff ∧ (f0 = .none ∨ ∃ T : Nat, f0 = rawInt T)) ∧ IsPair s2.heap TI (.ref i1) (.ref i2) ∧ (∃ x y, IsPair s2.heap TO x y) ∧ s2.heap.IsListIter i1 a (i + 1) ∧ s2.heap.IsListIter i2 b (i + 1)) ∧ ∀ b ∈ [z, TI, TO, i1, i2], H' b = none) E { s with heap := h' } := by
      intro h' z' TI' TO' h1' h2' hT hsz hk
      refine ⟨_, rfl, goName ?_⟩
      have hT2 : h'.get? s.heap.objs.size = some { cls := .type "tuple", data := .seq #[u, u2] } := hT
      have new : ObjOk X.prog X.w (upd H s.heap.objs.size (.tup [x, y])) h' s.heap.objs.size (.tup [x, y]) :=
        ⟨by show 2 ≤ sizeLine; decide, [u, u2], .cons ru (.cons ru2 .nil), ⟨_, hT2, rfl, _, rfl⟩⟩
      have I1 : Inv X pins σ (upd H s.heap.objs.size (.tup [x, y])) { s with heap := h' } :=
        I.turnedNew (t' := s.toks) (ch := [z, TI, TO, i1, i2]) (fun c o hb q => hk c o (fun q' => hb (by simp [q'])) (fun q' => hb (by simp [q'])) (fun q' => hb (by simp [q'])) (fun q' => hb (by simp [q'])) q) hf (Nat.le_refl _) new
      refine ⟨.ref s.heap.objs.size, _, I1, rfl, ⟨_, x, y, rfl, I.hok.fresh (Nat.le_refl _), rfl, fun l hl => by rw [I.list_inj hl hqx]; exact hx, fun l hl => by rw [I.list_inj hl hqy]; exact hy⟩, ⟨z', TI', TO', h1', h2'⟩, fun c hcm => ?_⟩
      have hlt : c < s.heap.objs.size := by
        have e' : c = z ∨ c = TI ∨ c = TO ∨ c = i1 ∨ c = i2 := by simpa using hcm
        rcases e' with q | q | q | q | q
        · rw [q]; exact hzl
        · rw [q]; exact Heap.lt_size hTI
        · rw [q]; exact Heap.lt_size hTO
        · rw [q]; obtain ⟨_, e1, _⟩ := h1; exact Heap.lt_size e1
        · rw [q]; obtain ⟨_, e2, _⟩ := h2; exact Heap.lt_size e2
      rw [upd_ne (Nat.ne_of_lt hlt)]
      exact (hf c hcm).1
    have free : ZFree X.prog X.w z s → wpAny (model X.prog X.w) X.A (pyNext (.ref z)) (fun r s1 => ∃ u, r = some u ∧ wpAny (model X.prog X.w) X.A (letOwnedTupleGo (.Name n np) (.ref z) u) (fun _ s2 => ∃ x H', Inv X pins σ H' s2 ∧ RelV x u ∧ (Itz X.K a b).yld i H x H' ∧ ((∃ f0 ff, IsZipF s2.heap z TI TO f0 ff ∧ (f0 = .none ∨ ∃ T : Nat, f0 = rawInt T)) ∧ IsPair s2.heap TI (.ref i1) (.ref i2) ∧ (∃ x y, IsPair s2.heap TO x y) ∧ s2.heap.IsListIter i1 a (i + 1) ∧ s2.heap.IsListIter i2 b (i + 1)) ∧ ∀ b ∈ [z, TI, TO, i1, i2], H' b = none) E s1) E s := fun hfr =>
      wpAny_pyNext_zipF_item D hz hfr hTI hTO h1 h2 p.isList p2.isList (x := u) (y := u2) (by simpa using hu) (by simpa using hu2) fun h' z' TO' h1' h2' hT hsz hk =>
        fin h' ⟨_, _, z', .inr ⟨_, rfl⟩⟩ (hk _ _ D.TIz D.TITO D.TIi1 D.TIi2 hTI) ⟨_, _, TO'⟩ h1' h2' hT hsz hk
    rcases hf0 with rfl | ⟨T, rfl⟩
    · exact free (zipF_none hz)
    · cases hT : s.heap.get? T with
      | none => exact free (zipF_dead hz hT)
      | some oT =>
        exact wpAny_pyNext_zip_item_held D hz hT hTI h1 h2 p.isList p2.isList (x := u) (y := u2) (by simpa using hu) (by simpa using hu2) fun h' z' h1' h2' hT' hsz hk =>
          fin h' ⟨_, _, z', .inr ⟨_, rfl⟩⟩ (hk _ _ D.TIz D.TIi1 D.TIi2 hTI) ⟨_, _, hk _ _ D.TOz D.TOi1 D.TOi2 hTO⟩ h1' h2' hT' hsz fun c o c1 _ c3 c4 e => hk c o c1 c3 c4 e
  done := by
    intro X hP hw hK hc i pins s σ H E I hf st hg
    subst hP hw hK
    obtain ⟨⟨f0, ff, hz, hf0⟩, hTI, ⟨x0, y0, hTO⟩, h1, h2⟩ := st
    obtain ⟨xs, ys, hqx, hqy, hend⟩ := hg
    obtain ⟨its, rv, p, _⟩ := I.list hqx
    obtain ⟨its2, rv2, p2, _⟩ := I.list hqy
    have l1 := rv.length
    have l2 := rv2.length
    have he : its.toArray[i]? = none ∨ its2.toArray[i]? = none := by
      rcases hend with q | q
      · exact .inl (by simp; omega)
      · exact .inr (by simp; omega)
    have free : ZFree X.prog X.w z s → wpAny (model X.prog X.w) X.A (pyNext (.ref z)) (fun r s1 => r = none ∧ Inv X pins σ H s1) E s := fun hfr =>
      wpAny_pyNext_zipF_end (I.ok.hd hc) D hz hfr hTI hTO h1 h2 p.isList p2.isList he fun h' hk => ⟨rfl, I.turnedL (t' := s.toks) (ch := [z, TI, TO, i1, i2]) (fun c o hb q =>
        hk c o (fun q' => hb (by simp [q'])) (fun q' => hb (by simp [q'])) (fun q' => hb (by simp [q'])) (fun q' => hb (by simp [q'])) q) hf⟩
    rcases hf0 with rfl | ⟨T, rfl⟩
    · exact free (zipF_none hz)
    · cases hT : s.heap.get? T with
      | none => exact free (zipF_dead hz hT)
      | some oT =>
        exact wpAny_pyNext_zip_end_held (I.ok.hd hc) D hz hT hTI h1 h2 p.isList p2.isList he fun h' hk => ⟨rfl, I.turnedL (t' := s.toks) (ch := [z, TI, TO, i1, i2]) (fun c o hb q =>
          hk c o (fun q' => hb (by simp [q'])) (fun q' => hb (by simp [q'])) (fun q' => hb (by simp [q'])) q) hf⟩
  self := fun A i s Q E st h => by
    obtain ⟨⟨f0, ff, hz, _⟩, _⟩ := st
    exact wpAny_pyIter_zipF hz h
theorem pi_zipN {X : Cx} {e e2 : Expr} {ta : TA} {p pos np : Pos} {n : Str} (hg : Gl X "zip") (hm : X.mg "zip" = none) (ha : PA X [e, e2] ta)
    (hs : starEach [e, e2] X.env = (false, eval e X.env) :: starEach [e2] X.env := by rfl) (hpl : (backTo pos (starEach [e2] X.env)).any (·.1) = false := by rfl) :
    PI X (.Name n np) (.Call (.Name "zip" p) [e, e2] [] pos) (iZip X.K ta) := by
  refine ⟨fun pins s σ H R I h => ?_⟩
  refine Call_ (ld_blt I hg hm PyProof.Rows.boot_zip (PyProof.Rows.callWith_type1 (thn (ha.run pos pins s σ H _ I h) fun us s1 ⟨vs, H1, I1, r1, q1⟩ => ?_) hs hpl))
  obtain ⟨a, b, xs, ys, rfl, hqx, hqy, q⟩ := q1
  cases r1 with
  | cons r rr =>
    cases rr with
    | cons r' rr =>
      cases rr
      cases r
      cases r'
      obtain ⟨its, rv, p1, _⟩ := I1.list hqx
      obtain ⟨its2, rv2, p2, _⟩ := I1.list hqy
      refine call_zip_2 p1.isList p2.isList fun h' hz hTI hTO h1 h2 hsz hk => wpAny_pyIter_zip hz ?_
      have I2 : Inv X pins σ H1 { s1 with heap := h' } := I1.kept (t' := s1.toks) hk
      refine ⟨s1.heap.objs.size + 4, [s1.heap.objs.size + 4, s1.heap.objs.size + 2, s1.heap.objs.size + 3, s1.heap.objs.size, s1.heap.objs.size + 1], _, _, H1, rfl, I2, turn_zipN (PySem.W.ktu_apart s1.heap.objs.size a b p1.lt p2.lt), ⟨⟨_, _, hz, .inl rfl⟩, hTI, ⟨_, _, hTO⟩, h1, h2⟩, fun c hcm => ?_, q⟩
      have e' : c = s1.heap.objs.size + 4 ∨ c = s1.heap.objs.size + 2 ∨ c = s1.heap.objs.size + 3 ∨ c = s1.heap.objs.size ∨ c = s1.heap.objs.size + 1 := by simpa using hcm
      have hle : s1.heap.objs.size ≤ c := by
        rcases e' with z | z | z | z | z
        · rw [z]; exact Nat.le_add_right _ _
        · rw [z]; exact Nat.le_add_right _ _
        · rw [z]; exact Nat.le_add_right _ _
        · rw [z]; exact Nat.le_refl _
        · rw [z]; exact Nat.le_add_right _ _
      exact I1.fpOk hle (I1.hok.fresh hle)
section
variable {X : Cx} [GG X.K] {K : PySem.W.Frag} [GG K] {s : LS} {H : Hp} {a b e o i : Expr} {es : List Expr} {pos : Pos} {ta tb te to ti : LTE} {tas : LTA} {tg : Expr}
variable {x : Str} {p : Pos}
theorem li_zipN {n : Str} {np : Pos} (hg : Gl X "zip") (hm : X.mg "zip" = none) (ha : LA X [a, b] tas) (hs : starEach [a, b] X.env = (false, eval a X.env) :: starEach [b] X.env := by rfl) (hpl : (backTo pos (starEach [b] X.env)).any (·.1) = false := by rfl) :
    LI X (.Name n np) (.Call (.Name "zip" p) [a, b] [] pos) (iZipL tas) := fun s0 H0 E tk =>
  (pi_zipN hg hm (ha s0 H0 E tk) hs hpl).imp fun σ H R ⟨σl, s, Q0, E1, hσ, hs, st, hE, h, k⟩ => ⟨σl, s, _, E1, hσ, hs, st, hE, h, fun lvs s1 vs H1 h st1 hs1 rs => by
    obtain ⟨lx, ly, rfl, h⟩ := two2_ok h
    obtain ⟨xs, e1, h⟩ := opt_ok h
    obtain ⟨ys, e2, h⟩ := opt_ok h
    obtain ⟨v, w, rfl, rx, ry⟩ := rs.two
    obtain ⟨q, us, rfl, hh, r⟩ := seqR_ok hs1 rx e1
    obtain ⟨q2, us2, rfl, hh2, r2⟩ := seqR_ok hs1 ry e2
    refine ⟨q, q2, us, us2, rfl, hh, hh2, k _ _ _ _ _ h st1 hs1 (it_pairs (n := min xs.length ys.length) rfl (fun i s2 H2 hi st2 hs2 b => ?_) (fun s2 H2 st2 hs2 b => ?_) fun i s2 H2 v H' hi st2 hs2 b y => ?_)⟩
    · obtain ⟨q', us', eq, hh', r'⟩ := seq_later rx hs1 e1 st2 hs2 b.1
      cases eq
      obtain ⟨q', us2', eq, hh2', r2'⟩ := seq_later ry hs1 e2 st2 hs2 b.2
      cases eq
      exact ⟨us', us2', us'[i]'(by rw [r'.length]; omega), us2'[i]'(by rw [r2'.length]; omega), hh', hh2', by simp, by simp⟩
    · obtain ⟨q', us', eq, hh', r'⟩ := seq_later rx hs1 e1 st2 hs2 b.1
      cases eq
      obtain ⟨q', us2', eq, hh2', r2'⟩ := seq_later ry hs1 e2 st2 hs2 b.2
      cases eq
      exact ⟨us', us2', hh', hh2', by rw [r'.length, r2'.length]; omega⟩
    · obtain ⟨q', us', eq, hh', r'⟩ := seq_later rx hs1 e1 st2 hs2 b.1
      cases eq
      obtain ⟨q', us2', eq, hh2', r2'⟩ := seq_later ry hs1 e2 st2 hs2 b.2
      cases eq
      obtain ⟨T, x, z, rfl, nT, rfl, hx, hz⟩ := y
      obtain ⟨lx, f1, f2⟩ := r'.get' (hx us' hh')
      obtain ⟨lz, g1, g2⟩ := r2'.get' (hz us2' hh2')
      exact ⟨T, x, z, lx, lz, rfl, nT, rfl, f1, g1, f2, g2⟩⟩

end
def rMaxT (K : PySem.W.Frag) : List V → Hp → VK → Prop := fun vs H Q => ∃ (a : Addr) (i j : Int), vs = [V.ref a] ∧ SqT K H a [.int i, .int j] ∧ Q (.int (max i j)) H
def rMinT (K : PySem.W.Frag) : List V → Hp → VK → Prop := fun vs H Q => ∃ (a : Addr) (i j : Int), vs = [V.ref a] ∧ SqT K H a [.int i, .int j] ∧ Q (.int (min i j)) H
theorem two_ints {h : Heap} {its : List Value} {i j : Int} (rv : Vals [V.int i, V.int j] its) : PySem.ReadsAll h its [.int i, .int j] [] ∧ its.length = 2 := by
  cases rv with
  | cons r rr =>
    cases rr with
    | cons r2 rr =>
      cases rr
      obtain ⟨t, rfl⟩ := r
      obtain ⟨t2, rfl⟩ := r2
      exact ⟨.cons (as := []) (.int _ _) (.cons (as := []) (.int _ _) .nil), rfl⟩
theorem two_alike (i j : Int) : PySem.W.AlikeAll [.int i, .int j] := by
  refine ⟨fun x hx y hy => ?_, fun x hx => ?_⟩
  · simp only [List.mem_cons, List.not_mem_nil, or_false] at hx hy
    rcases hx with rfl | rfl <;> rcases hy with rfl | rfl <;> rfl
  · simp only [List.mem_cons, List.not_mem_nil, or_false] at hx
    rcases hx with rfl | rfl <;> simp
section
variable {X : Cx}
theorem cr_maxT (hc : X.calm = true) (hu : X.A.units + 65 < cLine) : CallR X (.builtin "max") (rMaxT X.K) := by
  intro pins s σ H vs us Q I r h
  obtain ⟨a, i, j, rfl, hs, q⟩ := h
  obtain ⟨its, rv, hl, _⟩ := I.tuple hs
  rw [Vals.ref1 r]
  obtain ⟨h1, _⟩ := two_ints (h := s.heap) rv
  refine PySem.W.max_tuple_data (I.ok.hd hc) (show s.heap.IsTuple a its.toArray from hl) h1 (two_alike i j) (by simp [PyData.depthAll, PyData.depth]; omega) fun k v h' tk bs _ hr hk => ?_
  have e : PySem.W.maxD (.int i) [.int j] = .int (max i j) := PySem.W.maxD_ints i [j]
  rw [e] at hr
  cases hr
  exact ⟨.int _, H, I.kept hk, ⟨_, rfl⟩, q⟩
theorem cr_minT (hc : X.calm = true) (hu : X.A.units + 65 < cLine) : CallR X (.builtin "min") (rMinT X.K) := by
  intro pins s σ H vs us Q I r h
  obtain ⟨a, i, j, rfl, hs, q⟩ := h
  obtain ⟨its, rv, hl, _⟩ := I.tuple hs
  rw [Vals.ref1 r]
  obtain ⟨h1, _⟩ := two_ints (h := s.heap) rv
  refine PySem.W.min_tuple_data (I.ok.hd hc) (show s.heap.IsTuple a its.toArray from hl) h1 (two_alike i j) (by simp [PyData.depthAll, PyData.depth]; omega) fun k v h' tk bs _ hr hk => ?_
  have e : PySem.W.minD (.int i) [.int j] = .int (min i j) := PySem.W.minD_ints i [j]
  rw [e] at hr
  cases hr
  exact ⟨.int _, H, I.kept hk, ⟨_, rfl⟩, q⟩
end
section
variable {X : Cx} [GG X.K] {K : PySem.W.Frag} [GG K] {s : LS} {H : Hp} {a b e o i : Expr} {es : List Expr} {pos : Pos} {ta tb te to ti : LTE} {tas : LTA} {tg : Expr}
variable {x : Str} {p : Pos}
def rMaxTL : LRc := fun vs s Q => match vs with
  | [.tup [.int i, .int j]] => Q (.int (max i j)) s
  | _ => False
def rMinTL : LRc := fun vs s Q => match vs with
  | [.tup [.int i, .int j]] => Q (.int (min i j)) s
  | _ => False
@[simp] theorem rMaxT_ap (i j : Int) (s : LS) (Q : LVK) : rMaxTL [.tup [.int i, .int j]] s Q = Q (.int (max i j)) s := rfl
@[simp] theorem rMinT_ap (i j : Int) (s : LS) (Q : LVK) : rMinTL [.tup [.int i, .int j]] s Q = Q (.int (min i j)) s := rfl
theorem rMaxT_ok {vs : List LV} {s : LS} {Q : LVK} (h : rMaxTL vs s Q) : ∃ i j, vs = [.tup [.int i, .int j]] ∧ Q (.int (max i j)) s := by
  unfold rMaxTL at h
  split at h
  · exact ⟨_, _, rfl, h⟩
  · exact h.elim
theorem rMinT_ok {vs : List LV} {s : LS} {Q : LVK} (h : rMinTL vs s Q) : ∃ i j, vs = [.tup [.int i, .int j]] ∧ Q (.int (min i j)) s := by
  unfold rMinTL at h
  split at h
  · exact ⟨_, _, rfl, h⟩
  · exact h.elim
theorem two_at {i j : Int} {v : V} (r : RV K s H (.tup [.int i, .int j]) v) : ∃ a, v = .ref a ∧ SqT K H a [.int i, .int j] := by
  simp only [RV] at r
  obtain ⟨a, us, rfl, n, h, r⟩ := r
  simp only [RVs] at r
  obtain ⟨u, us2, rfl, r1, u2, us3, rfl, r2, rfl⟩ := r
  simp only [RV] at r1 r2
  subst r1 r2
  exact ⟨a, rfl, SqT.of h⟩
theorem up_maxT : UpC K (rMaxT K) rMaxTL := fun vs s H lvs Q0 Q hs r h k => by
  obtain ⟨i, j, rfl, h⟩ := rMaxT_ok h
  obtain ⟨v, rfl, r1⟩ := r.one
  obtain ⟨a, rfl, hq⟩ := two_at r1
  exact ⟨a, i, j, rfl, hq, k _ _ _ _ h (.refl _ _) hs .int⟩
theorem up_minT : UpC K (rMinT K) rMinTL := fun vs s H lvs Q0 Q hs r h k => by
  obtain ⟨i, j, rfl, h⟩ := rMinT_ok h
  obtain ⟨v, rfl, r1⟩ := r.one
  obtain ⟨a, rfl, hq⟩ := two_at r1
  exact ⟨a, i, j, rfl, hq, k _ _ _ _ h (.refl _ _) hs .int⟩
theorem le_maxT (hc : X.calm = true) (hu : X.A.units + 65 < cLine) (hg : Gl X "max") (hm : X.mg "max" = none) (ha : LA X (e :: es) tas) (he : starEach (e :: es) X.env = (false, eval e X.env) :: starEach es X.env := by rfl) (hpl : (backTo pos (starEach es X.env)).any (·.1) = false := by rfl) :
    LE X (.Call (.Name "max" p) (e :: es) [] pos) (lCB rMaxTL tas) := le_cb (cr_maxT hc hu) up_maxT hg hm (by decide +kernel) ha (by decide) (by decide) he hpl
theorem le_minT (hc : X.calm = true) (hu : X.A.units + 65 < cLine) (hg : Gl X "min") (hm : X.mg "min" = none) (ha : LA X (e :: es) tas) (he : starEach (e :: es) X.env = (false, eval e X.env) :: starEach es X.env := by rfl) (hpl : (backTo pos (starEach es X.env)).any (·.1) = false := by rfl) :
    LE X (.Call (.Name "min" p) (e :: es) [] pos) (lCB rMinTL tas) := le_cb (cr_minT hc hu) up_minT hg hm (by decide +kernel) ha (by decide) (by decide) he hpl
end
def rGet2L (x y z : LV) (s : LS) (Q : LVK) : Prop := match y with
  | .tup ks => opt (dicT x s) fun kvs => opt (keysL ks) fun k => Q ((valL kvs k).getD z) s
  | _ => False
@[simp] theorem rGet2_tup (x z : LV) (ks : List LV) (s : LS) (Q : LVK) : rGet2L x (.tup ks) z s Q = opt (dicT x s) fun kvs => opt (keysL ks) fun k => Q ((valL kvs k).getD z) s := rfl
def lGet2 (td ty tx : LTE) : LTE := fun σ s Q E => td σ s (fun x s1 => (dicT x s1).isSome = true ∧ ty σ s1 (fun y s2 => tx σ s2 (fun z s3 => rGet2L x y z s3 Q) E) E) E
section
variable {X : Cx} [GG X.K] {o e f : Expr} {to ty tx : LTE} {apos cpos : Pos}
theorem le_get2 (hu : X.A.units + 1 < cLine) (ho : LE X o to) (he : LE X e ty) (hf : LE X f tx) 
    (h1 : attributeBase o "get" X.env (eval o X.env) = eval o X.env := by rfl)
    (h2 : ((backTo cpos (starEach [e, f] X.env)).all (fun x => !x.1) && (backToKw cpos (keywordEach [] X.env)).all (fun x => x.1.isSome)
      && decide (([e, f] : List Expr).length + ([] : List Keyword).length + (if ([] : List Keyword).isEmpty then 0 else 1) < 30)) = true := by rfl)
    (h3 : (apos.endLine == cpos.line) = true := by rfl) (h4 : backTo cpos (starEach [e, f] X.env) = [(false, eval e X.env), (false, eval f X.env)] := by rfl) :
    LE X (.Call (.Attribute o "get" apos) [e, f] [] cpos) (lGet2 to ty tx) := fun s0 H0 E tk => (pe_dget2 hu (ho s0 H0 E tk) (he s0 H0 E tk) (hf s0 H0 E tk) ⟨h1, h2, h3, h4⟩).imp fun σ H Q ⟨σl, s, Q0, E1, hσ, hs, st, hE, h, k⟩ =>
  ⟨σl, s, _, E1, hσ, hs, st, hE, h, fun lx s1 x H1 h st1 hs1 rx => by
    obtain ⟨kvs, ed⟩ := Option.isSome_iff_exists.mp h.1
    obtain ⟨p, us, ob, rfl, hh, d, r⟩ := dicT_ok hs1 rx ed
    have isd : IsD H1 p := by
      rcases d with rfl | ⟨_, rfl⟩
      · exact .inr ⟨us, .inl hh⟩
      · exact .inr ⟨us, .inr ⟨_, hh⟩⟩
    refine ⟨p, rfl, isd, σl, s1, _, E1, hσ.mono st1, hs1, st.trans st1, hE, h.2, fun ly s2 y H2 h st2 hs2 ry => ⟨σl, s2, _, E1, (hσ.mono st1).mono st2, hs2, (st.trans st1).trans st2, hE, h, fun lz s3 z H3 h st3 hs3 rz => ?_⟩⟩
    cases ly with
    | tup ks =>
      obtain ⟨kvs3, ed3, h⟩ := opt_ok h
      obtain ⟨kk, ek, h⟩ := opt_ok h
      obtain ⟨p3, us3, ob3, e3, hh3, d3, r3⟩ := dicT_ok hs3 ((rx.mono st2).mono st3) ed3
      cases e3
      have ry3 := ry.mono st3
      simp only [RV] at ry3
      obtain ⟨b, us1, rfl, nb, hb, rk⟩ := ry3
      rw [keysL_ok ek rk] at hb
      have hv := r3.val kk
      have hrd : Rd H3 p (.dT us3) := by
        rcases d3 with rfl | ⟨_, rfl⟩
        · exact .inl hh3
        · exact .inr ⟨_, hh3⟩
      refine ⟨_, .inr ⟨us3, kk, b, hrd, rfl, hb, rfl⟩, ?_⟩
      cases e1 : valL kvs3 kk with
      | none =>
        rw [e1] at hv h
        have hv : valV us3 kk = none := hv
        rw [hv]
        exact k _ _ _ _ h ((st1.trans st2).trans st3) hs3 rz
      | some lv =>
        rw [e1] at hv h
        obtain ⟨u, eu, ru⟩ := hv
        rw [eu]
        exact k _ _ _ _ h ((st1.trans st2).trans st3) hs3 ru
    | _ => exact h.elim⟩
end
def rIsBL : LR2 := fun x y s Q => match x, y with
  | .bl a, .bl b => Q (.bl (decide (a = b))) s
  | _, _ => False
@[simp] theorem rIsB_ap (a b : Bool) (s : LS) (Q : LVK) : rIsBL (.bl a) (.bl b) s Q = Q (.bl (decide (a = b))) s := rfl
theorem rIsB_ok {x y : LV} {s : LS} {Q : LVK} (h : rIsBL x y s Q) : ∃ a b, x = .bl a ∧ y = .bl b ∧ Q (.bl (decide (a = b))) s := by
  unfold rIsBL at h
  split at h
  · exact ⟨_, _, rfl, rfl, h⟩
  · exact h.elim
section
variable {X : Cx} [GG X.K] {a b : Expr} {ta tb : LTE} {pos : Pos}
theorem up_isB {K : PySem.W.Frag} [GG K] : Up2 K (fun x y H Q => ∃ a b, x = .bl a ∧ y = .bl b ∧ Q (.bl (decide (a = b))) H) rIsBL := fun x y s H lx ly Q0 Q hs rx ry h k => by
  obtain ⟨a, b, rfl, rfl, h⟩ := rIsB_ok h
  exact ⟨a, b, rx.bl', ry.bl', k _ _ _ _ h (.refl _ _) hs .bl⟩
theorem le_isB (ha : LE X a ta) (hb : LE X b tb) : LE X (.Compare a [.Is] [b] pos) (lOp rIsBL ta tb) := le_cmp op_is_bl up_isB ha hb (nomark _)
theorem lt_isB (ha : LE X a ta) (hb : LE X b tb) : LT X (.Compare a [.Is] [b] pos) (lB (lOp rIsBL ta tb)) := lt_cmp op_is_bl up_isB ha hb (nomark _)
end
end L3

namespace L3
open PySem PySem.Spec PyProof.Rows L2
instance : Sor (T3 Nm Int Int) := ⟨fun a b => by simp [Cod.den, nmD, PySem.W.alike, PySem.W.alikeAll], fun a => ⟨_, _, rfl⟩, by decide⟩
end L3


namespace Law
open PySem PySem.Spec L2 L3
local macro_rules
  | `(tactic| simp_arith) => `(tactic| ((conv => whnf); repeat ((first | with_reducible refine ifTT ?_ | with_reducible refine ifFF ?_ | with_reducible refine ifnT ?_ | with_reducible refine ifnF ?_ | with_reducible refine ifTr ?_ | with_reducible refine ifFr ?_ | (with_reducible refine And.intro ?_ ?_; · (first | with_reducible rfl | with_reducible exact ⟨rfl, rfl⟩ | decide | omega | (dsimp only; decide) | (dsimp only; omega) | (unfold CDiv; omega) | (unfold CPow; decide) | (unfold CMul; omega) | (simp only [List.length_cons, List.length_nil]; omega)))); conv => whnf)))
local macro_rules
  | `(tactic| simp_arith [$ls,*]) => `(tactic| ((conv => whnf); repeat ((first | with_reducible refine ifTT ?_ | with_reducible refine ifFF ?_ | with_reducible refine ifnT ?_ | with_reducible refine ifnF ?_ | with_reducible refine ifTr ?_ | with_reducible refine ifFr ?_ | (with_reducible refine And.intro ?_ ?_; · (first | with_reducible rfl | with_reducible exact ⟨rfl, rfl⟩ | decide | omega | (dsimp only; decide) | (dsimp only; omega) | (unfold CDiv; omega) | (unfold CPow; decide) | (unfold CMul; omega) | (simp only [List.length_cons, List.length_nil]; omega) | (simp only [Option.isSome_some]; done) | (simp only [meth_ref, put_same', seqL_ref, $ls,*]; first | done | exact ⟨rfl, rfl⟩ | exact ⟨trivial, rfl⟩ | rfl))) | (simp (decide := true) only [put_same', put_put, decF, decT, Bool.not_true, Bool.not_false, putL_nil, putL_cons, if_true, if_false, seqR_ref, seqL_ref, lenL_ref, dicK_ref, dicT_ref, dat_ref, dat_non, dat_bl, dat_int, dat_str, dat_lst, dat_tup, datV_non, datV_bl, datV_int, datV_str, datV_lst, datV_tup, datVs_nil, datVs_cons, tyAt_ref, opt_some, Option.map_some, Option.bind_some, dv_ints, dv_bls, dv_nms, dv_prs, dv_nm, dt_nm, dt_pr, dv_pr, sh_int, sh_bl, sh_none, sh_nil, eqv_nil, sh_ints, sh_bls, sh_nm, sh_nms, sh_pr, sh_prs, anyI, anyN, anyP, eqv_int, eqv_bl, eqv_ints, eqv_bls, eqv_nms, eqv_prs, eqv_nm, eqv_pr, $ls,*])); conv => whnf)))
def topS (i : Nat) : Stmt := PySem.Challenge.pw_backline_k33_whole_falls_together.main.body.getD i (.Pass ⟨0, 0, 0, 0⟩)
def inDef (st : Stmt) (j : Nat) : Stmt := (defBody st).getD j (.Pass ⟨0, 0, 0, 0⟩)
abbrev s_broken_by : Stmt := topS 2
abbrev s_allowed_points : Stmt := topS 4
abbrev s_point_ahead : Stmt := topS 5
abbrev s_greatest_line : Stmt := topS 6
abbrev s_Habit_writes_events : Stmt := inClass (topS 14) 0
abbrev s_Habit_piled_up : Stmt := inClass (topS 14) 1
abbrev s_Each_writes_events : Stmt := inClass (topS 16) 0
abbrev s_Each_piled_up : Stmt := inClass (topS 16) 1
abbrev s_Bundle_init : Stmt := inClass (topS 17) 0
abbrev s_Bundle_writes_events : Stmt := inClass (topS 17) 1
abbrev s_Bundle_piled_up : Stmt := inClass (topS 17) 2
abbrev s_Event_init : Stmt := inClass (topS 19) 0
abbrev s_Thread_init : Stmt := inClass (topS 20) 0
abbrev s_Thread_here : Stmt := inClass (topS 20) 1
abbrev s_Thread_events : Stmt := inClass (topS 20) 2
abbrev s_Thread_do : Stmt := inClass (topS 20) 3
abbrev s_Thread_write : Stmt := inClass (topS 20) 4
abbrev s_Thread_points : Stmt := inClass (topS 20) 5
abbrev s_Thread_state_at : Stmt := inClass (topS 20) 6
abbrev s_Loom_init : Stmt := inClass (topS 22) 0
abbrev s_Loom_thread_of : Stmt := inClass (topS 22) 1
abbrev s_Loom_add : Stmt := inClass (topS 22) 2
abbrev s_Loom_own : Stmt := inClass (topS 22) 3
abbrev s_Loom_use : Stmt := inClass (topS 22) 4
abbrev s_Loom_write : Stmt := inClass (topS 22) 5
abbrev s_Loom_places : Stmt := inClass (topS 22) 6
abbrev s_Loom_states : Stmt := inClass (topS 22) 7
abbrev s_Loom_letters_sent : Stmt := inClass (topS 22) 8
abbrev s_Loom_letters_used : Stmt := inClass (topS 22) 9
abbrev s_Loom_road : Stmt := inClass (topS 22) 10
abbrev s_Loom_points : Stmt := inClass (topS 22) 12
abbrev s_Loom_rows : Stmt := inClass (topS 22) 13
abbrev s_law_cell_at : Stmt := topS 24
abbrev s_law_digit : Stmt := topS 25
abbrev s_law_led : Stmt := topS 26
abbrev s_law_habits : Stmt := topS 27
abbrev s_law_deeds : Stmt := topS 28
abbrev s_law_woven : Stmt := topS 29
abbrev s_law_loom : Stmt := topS 30
abbrev s_law_fallen : Stmt := topS 31
abbrev s_law : Stmt := topS 32
abbrev s_law_loom_lambda : Stmt := inDef s_law_loom 3
theorem sc_broken_by : FnScope ["loom", "line", "sent", "found", "name", "place"] ["loom", "line"] (defScope s_broken_by) := ⟨rfl, rfl, rfl, by decide +kernel, rfl, by decide +kernel, by decide +kernel⟩
theorem sc_allowed_points : FnScope ["loom", "fallen", "places", "found", "hand", "points"] ["loom", "fallen"] (defScope s_allowed_points) := ⟨rfl, rfl, rfl, by decide +kernel, rfl, by decide +kernel, by decide +kernel⟩
theorem sc_point_ahead : FnScope ["points", "place", "point"] ["points", "place"] (defScope s_point_ahead) := ⟨rfl, rfl, rfl, by decide +kernel, rfl, by decide +kernel, by decide +kernel⟩
theorem sc_greatest_line : FnScope ["loom", "fallen", "allowed", "line", "points", "used", "sent", "paper", "names", "name", "user"] ["loom", "fallen"] (defScope s_greatest_line) := ⟨rfl, rfl, rfl, by decide +kernel, rfl, by decide +kernel, by decide +kernel⟩
theorem sc_Habit_writes_events : FnScope ["self"] ["self"] (defScope s_Habit_writes_events) := ⟨rfl, rfl, rfl, by decide +kernel, rfl, by decide +kernel, by decide +kernel⟩
theorem sc_Habit_piled_up : FnScope ["self", "pile"] ["self", "pile"] (defScope s_Habit_piled_up) := ⟨rfl, rfl, rfl, by decide +kernel, rfl, by decide +kernel, by decide +kernel⟩
theorem sc_Each_writes_events : FnScope ["self"] ["self"] (defScope s_Each_writes_events) := ⟨rfl, rfl, rfl, by decide +kernel, rfl, by decide +kernel, by decide +kernel⟩
theorem sc_Each_piled_up : FnScope ["self", "pile"] ["self", "pile"] (defScope s_Each_piled_up) := ⟨rfl, rfl, rfl, by decide +kernel, rfl, by decide +kernel, by decide +kernel⟩
theorem sc_Bundle_init : FnScope ["self", "size"] ["self", "size"] (defScope s_Bundle_init) := ⟨rfl, rfl, rfl, by decide +kernel, rfl, by decide +kernel, by decide +kernel⟩
theorem sc_Bundle_writes_events : FnScope ["self"] ["self"] (defScope s_Bundle_writes_events) := ⟨rfl, rfl, rfl, by decide +kernel, rfl, by decide +kernel, by decide +kernel⟩
theorem sc_Bundle_piled_up : FnScope ["self", "pile"] ["self", "pile"] (defScope s_Bundle_piled_up) := ⟨rfl, rfl, rfl, by decide +kernel, rfl, by decide +kernel, by decide +kernel⟩
theorem sc_Event_init : FnScope ["self", "used", "state", "sent", "said"] ["self", "used", "state", "sent", "said"] (defScope s_Event_init) := ⟨rfl, rfl, rfl, by decide +kernel, rfl, by decide +kernel, by decide +kernel⟩
theorem sc_Thread_init : FnScope ["self", "start", "habit"] ["self", "start", "habit"] (defScope s_Thread_init) := ⟨rfl, rfl, rfl, by decide +kernel, rfl, by decide +kernel, by decide +kernel⟩
theorem sc_Thread_here : FnScope ["self"] ["self"] (defScope s_Thread_here) := ⟨rfl, rfl, rfl, by decide +kernel, rfl, by decide +kernel, by decide +kernel⟩
theorem sc_Thread_events : FnScope ["self"] ["self"] (defScope s_Thread_events) := ⟨rfl, rfl, rfl, by decide +kernel, rfl, by decide +kernel, by decide +kernel⟩
theorem sc_Thread_do : FnScope ["self", "event"] ["self", "event"] (defScope s_Thread_do) := ⟨rfl, rfl, rfl, by decide +kernel, rfl, by decide +kernel, by decide +kernel⟩
theorem sc_Thread_write : FnScope ["self"] ["self"] (defScope s_Thread_write) := ⟨rfl, rfl, rfl, by decide +kernel, rfl, by decide +kernel, by decide +kernel⟩
theorem sc_Thread_points : FnScope ["self"] ["self"] (defScope s_Thread_points) := ⟨rfl, rfl, rfl, by decide +kernel, rfl, by decide +kernel, by decide +kernel⟩
theorem sc_Thread_state_at : FnScope ["self", "place"] ["self", "place"] (defScope s_Thread_state_at) := ⟨rfl, rfl, rfl, by decide +kernel, rfl, by decide +kernel, by decide +kernel⟩
theorem sc_Loom_init : FnScope ["self", "does", "starts", "habits", "ordered", "start", "habit"] ["self", "does", "starts", "habits", "ordered"] (defScope s_Loom_init) := ⟨rfl, rfl, rfl, by decide +kernel, rfl, by decide +kernel, by decide +kernel⟩
theorem sc_Loom_thread_of : FnScope ["self", "hand"] ["self", "hand"] (defScope s_Loom_thread_of) := ⟨rfl, rfl, rfl, by decide +kernel, rfl, by decide +kernel, by decide +kernel⟩
theorem sc_Loom_add : FnScope ["self", "hand", "name", "word", "thread", "does", "state", "letters", "words", "k"] ["self", "hand", "name", "word"] (defScope s_Loom_add) := ⟨rfl, rfl, rfl, by decide +kernel, rfl, by decide +kernel, by decide +kernel⟩
theorem sc_Loom_own : FnScope ["self", "hand"] ["self", "hand"] (defScope s_Loom_own) := ⟨rfl, rfl, rfl, by decide +kernel, rfl, by decide +kernel, by decide +kernel⟩
theorem sc_Loom_use : FnScope ["self", "hand", "name", "sent", "waiting", "one", "used"] ["self", "hand", "name"] (defScope s_Loom_use) := ⟨rfl, rfl, rfl, by decide +kernel, rfl, by decide +kernel, by decide +kernel⟩
theorem sc_Loom_write : FnScope ["self", "hand"] ["self", "hand"] (defScope s_Loom_write) := ⟨rfl, rfl, rfl, by decide +kernel, rfl, by decide +kernel, by decide +kernel⟩
theorem sc_Loom_places : FnScope ["self", "thread"] ["self"] (defScope s_Loom_places) := ⟨rfl, rfl, rfl, by decide +kernel, rfl, by decide +kernel, by decide +kernel⟩
theorem sc_Loom_states : FnScope ["self", "thread"] ["self"] (defScope s_Loom_states) := ⟨rfl, rfl, rfl, by decide +kernel, rfl, by decide +kernel, by decide +kernel⟩
theorem sc_Loom_letters_sent : FnScope ["self", "found", "hand", "place", "event", "k", "letter"] ["self"] (defScope s_Loom_letters_sent) := ⟨rfl, rfl, rfl, by decide +kernel, rfl, by decide +kernel, by decide +kernel⟩
theorem sc_Loom_letters_used : FnScope ["self", "found", "thread", "place", "event"] ["self"] (defScope s_Loom_letters_used) := ⟨rfl, rfl, rfl, by decide +kernel, rfl, by decide +kernel, by decide +kernel⟩
theorem sc_Loom_road : FnScope ["self", "used", "name"] ["self"] (defScope s_Loom_road) := ⟨rfl, rfl, rfl, by decide +kernel, rfl, by decide +kernel, by decide +kernel⟩
theorem sc_Loom_points : FnScope ["self", "hand"] ["self", "hand"] (defScope s_Loom_points) := ⟨rfl, rfl, rfl, by decide +kernel, rfl, by decide +kernel, by decide +kernel⟩
theorem sc_Loom_rows : FnScope ["self", "row", "place"] ["self"] (defScope s_Loom_rows) := ⟨rfl, rfl, rfl, by decide +kernel, rfl, by decide +kernel, by decide +kernel⟩
theorem sc_law_cell_at : FnScope ["_law_script", "_law_k"] ["_law_script", "_law_k"] (defScope s_law_cell_at) := ⟨rfl, rfl, rfl, by decide +kernel, rfl, by decide +kernel, by decide +kernel⟩
theorem sc_law_digit : FnScope ["_law_cell", "_law_k", "_law_base", "_law_rest", "_law_j", "_law_number"] ["_law_cell", "_law_k", "_law_base"] (defScope s_law_digit) := ⟨rfl, rfl, rfl, by decide +kernel, rfl, by decide +kernel, by decide +kernel⟩
theorem sc_law_led : FnScope ["_law_cell", "_law_many", "_law_hand", "_law_state", "_law_word", "_law_at", "_law_entry", "_law_letters", "_law_k"] ["_law_cell", "_law_many", "_law_hand", "_law_state", "_law_word"] (defScope s_law_led) := ⟨rfl, rfl, rfl, by decide +kernel, rfl, by decide +kernel, by decide +kernel⟩
theorem sc_law_habits : FnScope ["_law_cell", "_law_many", "_law_found", "_law_k", "_law_kind"] ["_law_cell", "_law_many"] (defScope s_law_habits) := ⟨rfl, rfl, rfl, by decide +kernel, rfl, by decide +kernel, by decide +kernel⟩
theorem sc_law_deeds : FnScope ["_law_loom_here", "_law_found", "_law_sent", "_law_ways", "_law_name", "_law_way", "_law_hand"] ["_law_loom_here"] (defScope s_law_deeds) := ⟨rfl, rfl, rfl, by decide +kernel, rfl, by decide +kernel, by decide +kernel⟩
theorem sc_law_woven : FnScope ["_law_loom_here", "_law_cell", "_law_size", "_law_k", "_law_deeds_here", "_law_deed"] ["_law_loom_here", "_law_cell", "_law_size"] (defScope s_law_woven) := ⟨rfl, rfl, rfl, by decide +kernel, rfl, by decide +kernel, by decide +kernel⟩
abbrev ck_law_loom_lambda : Ck := ⟨.Expr (lamE s_law_loom_lambda) ⟨0, 0, 0, 0⟩, "<lambda>", "_law_loom.<locals>.<lambda>", ["_law_many", "_law_cell"]⟩
abbrev L_law_loom_lambda : Arguments × Expr × Scope := (lamOf ck_law_loom_lambda.st).get rfl
theorem sc_law_loom_lambda : CScope ["_law_hand", "_law_state", "_law_word", "_law_many", "_law_cell"] ["_law_hand", "_law_state", "_law_word"] ck_law_loom_lambda.fr L_law_loom_lambda.2.2 := cscope_by (by decide +kernel)
theorem fr_law_loom_lambda : ∀ y ∈ L_law_loom_lambda.2.2.names, y.2 = .free → (defScope s_law_loom).names.lookup y.1 = some .cell ∨ (defScope s_law_loom).names.lookup y.1 = some .free := by decide +kernel
theorem sc_law_loom : FnScope ["_law_script", "_law_first", "_law_cell", "_law_many", "_law_does", "_law_habits_here", "_law_loom_here", "_law_k"] ["_law_script"] (defScope s_law_loom) := ⟨rfl, rfl, rfl, by decide +kernel, rfl, by decide +kernel, by decide +kernel⟩
theorem sc_law_fallen : FnScope ["_law_cell", "_law_many", "_law_found", "_law_k", "_law_hand"] ["_law_cell", "_law_many"] (defScope s_law_fallen) := ⟨rfl, rfl, rfl, by decide +kernel, rfl, by decide +kernel, by decide +kernel⟩
theorem sc_law : FnScope ["_law_script", "_law_loom_here", "_law_places", "_law_before", "_law_hand", "_law_one", "_law_other", "_law_first", "_law_second", "_law_both", "_law_whole", "_law_habits_here", "_law_sure"] ["_law_script"] (defScope s_law) := ⟨rfl, rfl, rfl, by decide +kernel, rfl, by decide +kernel, by decide +kernel⟩
structure Ad where
  c_Habit : Addr
  c_Never : Addr
  c_Each : Addr
  c_Bundle : Addr
  c_Event : Addr
  c_Thread : Addr
  c_Loom : Addr
  c_WeaveError : Addr
  c_NoSize : Addr
  c_NoPoint : Addr
  c_NoHand : Addr
  c_NoLetter : Addr
  f_broken_by : Addr
  f_allowed_points : Addr
  f_point_ahead : Addr
  f_greatest_line : Addr
  f_Habit_writes_events : Addr
  f_Habit_piled_up : Addr
  f_Each_writes_events : Addr
  f_Each_piled_up : Addr
  f_Bundle_init : Addr
  f_Bundle_writes_events : Addr
  f_Bundle_piled_up : Addr
  f_Event_init : Addr
  f_Thread_init : Addr
  f_Thread_here : Addr
  f_Thread_events : Addr
  f_Thread_do : Addr
  f_Thread_write : Addr
  f_Thread_points : Addr
  f_Thread_state_at : Addr
  f_Loom_init : Addr
  f_Loom_thread_of : Addr
  f_Loom_add : Addr
  f_Loom_own : Addr
  f_Loom_use : Addr
  f_Loom_write : Addr
  f_Loom_places : Addr
  f_Loom_states : Addr
  f_Loom_letters_sent : Addr
  f_Loom_letters_used : Addr
  f_Loom_road : Addr
  f_Loom_points : Addr
  f_Loom_rows : Addr
  f_law_cell_at : Addr
  f_law_digit : Addr
  f_law_led : Addr
  f_law_habits : Addr
  f_law_deeds : Addr
  f_law_woven : Addr
  f_law_loom : Addr
  f_law_fallen : Addr
  f_law : Addr
  t_law_loom : Addr
  p_law_loom : Addr
structure Fd where
  d_broken_by : FuncData
  d_allowed_points : FuncData
  d_point_ahead : FuncData
  d_greatest_line : FuncData
  d_Habit_writes_events : FuncData
  d_Habit_piled_up : FuncData
  d_Each_writes_events : FuncData
  d_Each_piled_up : FuncData
  d_Bundle_init : FuncData
  d_Bundle_writes_events : FuncData
  d_Bundle_piled_up : FuncData
  d_Event_init : FuncData
  d_Thread_init : FuncData
  d_Thread_here : FuncData
  d_Thread_events : FuncData
  d_Thread_do : FuncData
  d_Thread_write : FuncData
  d_Thread_points : FuncData
  d_Thread_state_at : FuncData
  d_Loom_init : FuncData
  d_Loom_thread_of : FuncData
  d_Loom_add : FuncData
  d_Loom_own : FuncData
  d_Loom_use : FuncData
  d_Loom_write : FuncData
  d_Loom_places : FuncData
  d_Loom_states : FuncData
  d_Loom_letters_sent : FuncData
  d_Loom_letters_used : FuncData
  d_Loom_road : FuncData
  d_Loom_points : FuncData
  d_Loom_rows : FuncData
  d_law_cell_at : FuncData
  d_law_digit : FuncData
  d_law_led : FuncData
  d_law_habits : FuncData
  d_law_deeds : FuncData
  d_law_woven : FuncData
  d_law_loom : FuncData
  d_law_fallen : FuncData
  d_law : FuncData
abbrev spTop (A : Ad) : LSp := spLaw [(A.p_law_loom, "_law_loom.<locals>.<lambda>")]
structure Txt (K : PySem.W.Frag) (mg : Str → Option Value) (A : Ad) (D : Fd) : Prop where
  F_broken_by : Fun K "broken_by" "broken_by" s_broken_by A.f_broken_by D.d_broken_by
  q_broken_by : Binds K D.d_broken_by ["loom", "line"] []
  m_broken_by : mg "broken_by" = some (.ref A.f_broken_by)
  k_broken_by : PySem.W.keepIn K (.ref A.f_broken_by) = true
  F_allowed_points : Fun K "allowed_points" "allowed_points" s_allowed_points A.f_allowed_points D.d_allowed_points
  q_allowed_points : Binds K D.d_allowed_points ["loom", "fallen"] []
  m_allowed_points : mg "allowed_points" = some (.ref A.f_allowed_points)
  k_allowed_points : PySem.W.keepIn K (.ref A.f_allowed_points) = true
  F_point_ahead : Fun K "point_ahead" "point_ahead" s_point_ahead A.f_point_ahead D.d_point_ahead
  q_point_ahead : Binds K D.d_point_ahead ["points", "place"] []
  m_point_ahead : mg "point_ahead" = some (.ref A.f_point_ahead)
  k_point_ahead : PySem.W.keepIn K (.ref A.f_point_ahead) = true
  F_greatest_line : Fun K "greatest_line" "greatest_line" s_greatest_line A.f_greatest_line D.d_greatest_line
  q_greatest_line : Binds K D.d_greatest_line ["loom", "fallen"] []
  m_greatest_line : mg "greatest_line" = some (.ref A.f_greatest_line)
  k_greatest_line : PySem.W.keepIn K (.ref A.f_greatest_line) = true
  F_Habit_writes_events : Fun K "writes_events" "Habit.writes_events" s_Habit_writes_events A.f_Habit_writes_events D.d_Habit_writes_events
  q_Habit_writes_events : Binds K D.d_Habit_writes_events ["self"] []
  F_Habit_piled_up : Fun K "piled_up" "Habit.piled_up" s_Habit_piled_up A.f_Habit_piled_up D.d_Habit_piled_up
  q_Habit_piled_up : Binds K D.d_Habit_piled_up ["self", "pile"] []
  F_Each_writes_events : Fun K "writes_events" "Each.writes_events" s_Each_writes_events A.f_Each_writes_events D.d_Each_writes_events
  q_Each_writes_events : Binds K D.d_Each_writes_events ["self"] []
  F_Each_piled_up : Fun K "piled_up" "Each.piled_up" s_Each_piled_up A.f_Each_piled_up D.d_Each_piled_up
  q_Each_piled_up : Binds K D.d_Each_piled_up ["self", "pile"] []
  F_Bundle_init : Fun K "__init__" "Bundle.__init__" s_Bundle_init A.f_Bundle_init D.d_Bundle_init
  q_Bundle_init : Binds K D.d_Bundle_init ["self", "size"] []
  F_Bundle_writes_events : Fun K "writes_events" "Bundle.writes_events" s_Bundle_writes_events A.f_Bundle_writes_events D.d_Bundle_writes_events
  q_Bundle_writes_events : Binds K D.d_Bundle_writes_events ["self"] []
  F_Bundle_piled_up : Fun K "piled_up" "Bundle.piled_up" s_Bundle_piled_up A.f_Bundle_piled_up D.d_Bundle_piled_up
  q_Bundle_piled_up : Binds K D.d_Bundle_piled_up ["self", "pile"] []
  F_Event_init : Fun K "__init__" "Event.__init__" s_Event_init A.f_Event_init D.d_Event_init
  q_Event_init : Binds K D.d_Event_init ["self", "used", "state", "sent", "said"] []
  F_Thread_init : Fun K "__init__" "Thread.__init__" s_Thread_init A.f_Thread_init D.d_Thread_init
  q_Thread_init : Binds K D.d_Thread_init ["self", "start", "habit"] []
  F_Thread_here : Fun K "here" "Thread.here" s_Thread_here A.f_Thread_here D.d_Thread_here
  q_Thread_here : Binds K D.d_Thread_here ["self"] []
  F_Thread_events : Fun K "events" "Thread.events" s_Thread_events A.f_Thread_events D.d_Thread_events
  q_Thread_events : Binds K D.d_Thread_events ["self"] []
  F_Thread_do : Fun K "do" "Thread.do" s_Thread_do A.f_Thread_do D.d_Thread_do
  q_Thread_do : Binds K D.d_Thread_do ["self", "event"] []
  F_Thread_write : Fun K "write" "Thread.write" s_Thread_write A.f_Thread_write D.d_Thread_write
  q_Thread_write : Binds K D.d_Thread_write ["self"] []
  F_Thread_points : Fun K "points" "Thread.points" s_Thread_points A.f_Thread_points D.d_Thread_points
  q_Thread_points : Binds K D.d_Thread_points ["self"] []
  F_Thread_state_at : Fun K "state_at" "Thread.state_at" s_Thread_state_at A.f_Thread_state_at D.d_Thread_state_at
  q_Thread_state_at : Binds K D.d_Thread_state_at ["self", "place"] []
  F_Loom_init : Fun K "__init__" "Loom.__init__" s_Loom_init A.f_Loom_init D.d_Loom_init
  q_Loom_init : Binds K D.d_Loom_init ["self", "does", "starts", "habits", "ordered"] []
  F_Loom_thread_of : Fun K "thread_of" "Loom.thread_of" s_Loom_thread_of A.f_Loom_thread_of D.d_Loom_thread_of
  q_Loom_thread_of : Binds K D.d_Loom_thread_of ["self", "hand"] []
  F_Loom_add : Fun K "add" "Loom.add" s_Loom_add A.f_Loom_add D.d_Loom_add
  q_Loom_add : Binds K D.d_Loom_add ["self", "hand", "name", "word"] []
  F_Loom_own : Fun K "own" "Loom.own" s_Loom_own A.f_Loom_own D.d_Loom_own
  q_Loom_own : Binds K D.d_Loom_own ["self", "hand"] []
  F_Loom_use : Fun K "use" "Loom.use" s_Loom_use A.f_Loom_use D.d_Loom_use
  q_Loom_use : Binds K D.d_Loom_use ["self", "hand", "name"] []
  F_Loom_write : Fun K "write" "Loom.write" s_Loom_write A.f_Loom_write D.d_Loom_write
  q_Loom_write : Binds K D.d_Loom_write ["self", "hand"] []
  F_Loom_places : Fun K "places" "Loom.places" s_Loom_places A.f_Loom_places D.d_Loom_places
  q_Loom_places : Binds K D.d_Loom_places ["self"] []
  F_Loom_states : Fun K "states" "Loom.states" s_Loom_states A.f_Loom_states D.d_Loom_states
  q_Loom_states : Binds K D.d_Loom_states ["self"] []
  F_Loom_letters_sent : Fun K "letters_sent" "Loom.letters_sent" s_Loom_letters_sent A.f_Loom_letters_sent D.d_Loom_letters_sent
  q_Loom_letters_sent : Binds K D.d_Loom_letters_sent ["self"] []
  F_Loom_letters_used : Fun K "letters_used" "Loom.letters_used" s_Loom_letters_used A.f_Loom_letters_used D.d_Loom_letters_used
  q_Loom_letters_used : Binds K D.d_Loom_letters_used ["self"] []
  F_Loom_road : Fun K "road" "Loom.road" s_Loom_road A.f_Loom_road D.d_Loom_road
  q_Loom_road : Binds K D.d_Loom_road ["self"] []
  F_Loom_points : Fun K "points" "Loom.points" s_Loom_points A.f_Loom_points D.d_Loom_points
  q_Loom_points : Binds K D.d_Loom_points ["self", "hand"] []
  F_Loom_rows : Fun K "rows" "Loom.rows" s_Loom_rows A.f_Loom_rows D.d_Loom_rows
  q_Loom_rows : Binds K D.d_Loom_rows ["self"] []
  F_law_cell_at : Fun K "_law_cell_at" "_law_cell_at" s_law_cell_at A.f_law_cell_at D.d_law_cell_at
  q_law_cell_at : Binds K D.d_law_cell_at ["_law_script", "_law_k"] []
  m_law_cell_at : mg "_law_cell_at" = some (.ref A.f_law_cell_at)
  k_law_cell_at : PySem.W.keepIn K (.ref A.f_law_cell_at) = true
  F_law_digit : Fun K "_law_digit" "_law_digit" s_law_digit A.f_law_digit D.d_law_digit
  q_law_digit : Binds K D.d_law_digit ["_law_cell", "_law_k", "_law_base"] []
  m_law_digit : mg "_law_digit" = some (.ref A.f_law_digit)
  k_law_digit : PySem.W.keepIn K (.ref A.f_law_digit) = true
  F_law_led : Fun K "_law_led" "_law_led" s_law_led A.f_law_led D.d_law_led
  q_law_led : Binds K D.d_law_led ["_law_cell", "_law_many", "_law_hand", "_law_state", "_law_word"] []
  m_law_led : mg "_law_led" = some (.ref A.f_law_led)
  k_law_led : PySem.W.keepIn K (.ref A.f_law_led) = true
  F_law_habits : Fun K "_law_habits" "_law_habits" s_law_habits A.f_law_habits D.d_law_habits
  q_law_habits : Binds K D.d_law_habits ["_law_cell", "_law_many"] []
  m_law_habits : mg "_law_habits" = some (.ref A.f_law_habits)
  k_law_habits : PySem.W.keepIn K (.ref A.f_law_habits) = true
  F_law_deeds : Fun K "_law_deeds" "_law_deeds" s_law_deeds A.f_law_deeds D.d_law_deeds
  q_law_deeds : Binds K D.d_law_deeds ["_law_loom_here"] []
  m_law_deeds : mg "_law_deeds" = some (.ref A.f_law_deeds)
  k_law_deeds : PySem.W.keepIn K (.ref A.f_law_deeds) = true
  F_law_woven : Fun K "_law_woven" "_law_woven" s_law_woven A.f_law_woven D.d_law_woven
  q_law_woven : Binds K D.d_law_woven ["_law_loom_here", "_law_cell", "_law_size"] []
  m_law_woven : mg "_law_woven" = some (.ref A.f_law_woven)
  k_law_woven : PySem.W.keepIn K (.ref A.f_law_woven) = true
  F_law_loom : Fun K "_law_loom" "_law_loom" s_law_loom A.f_law_loom D.d_law_loom
  q_law_loom : Binds K D.d_law_loom ["_law_script"] []
  G_law_loom : FunC K "_law_loom" "_law_loom" s_law_loom A.f_law_loom D.d_law_loom A.t_law_loom
  m_law_loom : mg "_law_loom" = some (.ref A.f_law_loom)
  k_law_loom : PySem.W.keepIn K (.ref A.f_law_loom) = true
  F_law_fallen : Fun K "_law_fallen" "_law_fallen" s_law_fallen A.f_law_fallen D.d_law_fallen
  q_law_fallen : Binds K D.d_law_fallen ["_law_cell", "_law_many"] []
  m_law_fallen : mg "_law_fallen" = some (.ref A.f_law_fallen)
  k_law_fallen : PySem.W.keepIn K (.ref A.f_law_fallen) = true
  F_law : Fun K "law" "law" s_law A.f_law D.d_law
  q_law : Binds K D.d_law ["_law_script"] []
  m_law : mg "law" = some (.ref A.f_law)
  k_law : PySem.W.keepIn K (.ref A.f_law) = true
  cl_Habit : Cls K A.c_Habit
  in_Habit : InsC K A.c_Habit
  m_Habit : mg "Habit" = some (.ref A.c_Habit)
  mkn_Habit : MkN K A.c_Habit
  cl_Never : Cls K A.c_Never
  in_Never : InsC K A.c_Never
  m_Never : mg "Never" = some (.ref A.c_Never)
  mkn_Never : MkN K A.c_Never
  cl_Each : Cls K A.c_Each
  in_Each : InsC K A.c_Each
  m_Each : mg "Each" = some (.ref A.c_Each)
  mkn_Each : MkN K A.c_Each
  cl_Bundle : Cls K A.c_Bundle
  in_Bundle : InsC K A.c_Bundle
  m_Bundle : mg "Bundle" = some (.ref A.c_Bundle)
  mk_Bundle : Mk K A.c_Bundle A.f_Bundle_init
  cl_Event : Cls K A.c_Event
  in_Event : InsC K A.c_Event
  m_Event : mg "Event" = some (.ref A.c_Event)
  mk_Event : Mk K A.c_Event A.f_Event_init
  cl_Thread : Cls K A.c_Thread
  in_Thread : InsC K A.c_Thread
  m_Thread : mg "Thread" = some (.ref A.c_Thread)
  mk_Thread : Mk K A.c_Thread A.f_Thread_init
  cl_Loom : Cls K A.c_Loom
  in_Loom : InsC K A.c_Loom
  m_Loom : mg "Loom" = some (.ref A.c_Loom)
  mk_Loom : Mk K A.c_Loom A.f_Loom_init
  mt_Habit_writes_events : Meth K A.c_Habit "writes_events" A.f_Habit_writes_events
  mt_Habit_piled_up : Meth K A.c_Habit "piled_up" A.f_Habit_piled_up
  mt_Never_writes_events : Meth K A.c_Never "writes_events" A.f_Habit_writes_events
  mt_Never_piled_up : Meth K A.c_Never "piled_up" A.f_Habit_piled_up
  mt_Each_writes_events : Meth K A.c_Each "writes_events" A.f_Each_writes_events
  mt_Each_piled_up : Meth K A.c_Each "piled_up" A.f_Each_piled_up
  mt_Bundle_writes_events : Meth K A.c_Bundle "writes_events" A.f_Bundle_writes_events
  mt_Bundle_piled_up : Meth K A.c_Bundle "piled_up" A.f_Bundle_piled_up
  mt_Thread_here : Meth K A.c_Thread "here" A.f_Thread_here
  mt_Thread_events : Meth K A.c_Thread "events" A.f_Thread_events
  mt_Thread_do : Meth K A.c_Thread "do" A.f_Thread_do
  mt_Thread_write : Meth K A.c_Thread "write" A.f_Thread_write
  mt_Thread_points : Meth K A.c_Thread "points" A.f_Thread_points
  mt_Thread_state_at : Meth K A.c_Thread "state_at" A.f_Thread_state_at
  mt_Loom_thread_of : Meth K A.c_Loom "thread_of" A.f_Loom_thread_of
  mt_Loom_add : Meth K A.c_Loom "add" A.f_Loom_add
  mt_Loom_own : Meth K A.c_Loom "own" A.f_Loom_own
  mt_Loom_use : Meth K A.c_Loom "use" A.f_Loom_use
  mt_Loom_write : Meth K A.c_Loom "write" A.f_Loom_write
  mt_Loom_places : Meth K A.c_Loom "places" A.f_Loom_places
  mt_Loom_states : Meth K A.c_Loom "states" A.f_Loom_states
  mt_Loom_letters_sent : Meth K A.c_Loom "letters_sent" A.f_Loom_letters_sent
  mt_Loom_letters_used : Meth K A.c_Loom "letters_used" A.f_Loom_letters_used
  mt_Loom_road : Meth K A.c_Loom "road" A.f_Loom_road
  mt_Loom_points : Meth K A.c_Loom "points" A.f_Loom_points
  mt_Loom_rows : Meth K A.c_Loom "rows" A.f_Loom_rows
  n_Bundle_size : NoAttr K A.c_Bundle "size"
  n_Event_said : NoAttr K A.c_Event "said"
  n_Event_sent : NoAttr K A.c_Event "sent"
  n_Event_state : NoAttr K A.c_Event "state"
  n_Event_used : NoAttr K A.c_Event "used"
  n_Loom_does : NoAttr K A.c_Loom "does"
  n_Loom_done : NoAttr K A.c_Loom "done"
  n_Loom_many : NoAttr K A.c_Loom "many"
  n_Loom_order : NoAttr K A.c_Loom "order"
  n_Loom_ordered : NoAttr K A.c_Loom "ordered"
  n_Loom_threads : NoAttr K A.c_Loom "threads"
  n_Thread_done : NoAttr K A.c_Thread "done"
  n_Thread_habit : NoAttr K A.c_Thread "habit"
  n_Thread_pile : NoAttr K A.c_Thread "pile"
  n_Thread_start : NoAttr K A.c_Thread "start"
  n_Thread_writings : NoAttr K A.c_Thread "writings"
  b_enumerate : mg "enumerate" = none
  b_int : mg "int" = none
  b_isinstance : mg "isinstance" = none
  b_len : mg "len" = none
  b_list : mg "list" = none
  b_max : mg "max" = none
  b_min : mg "min" = none
  b_range : mg "range" = none
  b_sorted : mg "sorted" = none
  b_zip : mg "zip" = none
  x_NoSize : ExK K mg "NoSize" A.c_NoSize
  e_NoSize : ExcC K A.c_NoSize
  x_NoPoint : ExK K mg "NoPoint" A.c_NoPoint
  e_NoPoint : ExcC K A.c_NoPoint
  x_NoHand : ExK K mg "NoHand" A.c_NoHand
  e_NoHand : ExcC K A.c_NoHand
  x_NoLetter : ExK K mg "NoLetter" A.c_NoLetter
  e_NoLetter : ExcC K A.c_NoLetter
  nd_Never_Each : A.c_Never ≠ A.c_Each
  nd_Never_Bundle : A.c_Never ≠ A.c_Bundle
  nd_Each_Bundle : A.c_Each ≠ A.c_Bundle
  kt_Never_Each : PySem.W.kitOne K (.ref A.c_Never) (.ref A.c_Each) = some false
  kt_Each_Each : PySem.W.kitOne K (.ref A.c_Each) (.ref A.c_Each) = some true
  kt_Bundle_Each : PySem.W.kitOne K (.ref A.c_Bundle) (.ref A.c_Each) = some false
structure Bs (K : PySem.W.Frag) [GG K] (mg : Str → Option Value) (base : Heap) (A : Ad) : Prop where
  hG : GIn K base
  tb_law_loom : LamX.TabB base mg A.t_law_loom A.p_law_loom
theorem Bs.more {K : PySem.W.Frag} {g g' : GG K} {mg : Str → Option Value} {base base' : Heap} {A : Ad} (B : @Bs K g mg base A) (kb : ∀ b o, base.get? b = some o → base'.get? b = some o) (gi : @GIn K g' base') : @Bs K g' mg base' A := @Bs.mk K g' mg base' A gi (tabB_keeps (@Bs.tb_law_loom K g mg base A B) kb)
/-- which addresses a deed may have touched: those of F; those of F' are F's or new -/
def Own (F F' : List Addr) (s s' : LS) : Prop := ∀ a, a ∉ F → s a ≠ none → s' a = s a ∧ a ∉ F'
theorem Own.refl (F : List Addr) (s : LS) : Own F F s s := fun a n _ => ⟨rfl, n⟩
theorem Own.trans {F F1 F2 : List Addr} {s s1 s2 : LS} (h : Own F F1 s s1) (h' : Own F1 F2 s1 s2) : Own F F2 s s2 := fun a n e => by
  obtain ⟨e1, n1⟩ := h a n e
  obtain ⟨e2, n2⟩ := h' a n1 (by rw [e1]; exact e)
  exact ⟨e2.trans e1, n2⟩
theorem Own.at {F F' : List Addr} {s s' : LS} (h : Own F F' s s') {a : Addr} {o : LO} (n : a ∉ F) (e : s a = some o) : s' a = some o := by
  rw [(h a n (by rw [e]; simp)).1, e]
theorem Own.out {F F' : List Addr} {s s' : LS} (h : Own F F' s s') {a : Addr} {o : LO} (n : a ∉ F) (e : s a = some o) : a ∉ F' := (h a n (by rw [e]; simp)).2
theorem Own.ext {F' : List Addr} {s s' : LS} (h : Own [] F' s s') : Ext s s' := fun a o e => h.at (by simp) e
theorem own_of {F F' : List Addr} {s s' : LS} (h : ∀ a, a ∉ F → s a ≠ none → s' a = s a) (hn : ∀ a ∈ F', a ∈ F ∨ s a = none) : Own F F' s s' := fun a n e => ⟨h a n e, fun m => (hn a m).elim n e⟩
structure Ev where
  used : Option Nm
  state : Int
  sent : List (Int × Int)
  said : List Int
deriving DecidableEq
def usedL : Option Nm → LV
  | none => .non
  | some n => nmL n
def evL (A : Ad) (e : Ev) : LV := .ins A.c_Event [("used", usedL e.used), ("state", .int e.state), ("sent", .lst (e.sent.map pairL)), ("said", .lst (e.said.map .int))]
inductive Hb where
  | never | each | bundle (n : Int)
deriving DecidableEq
def Hb.piled : Hb → Int → Int
  | .never, p => p + 1
  | .each, _ => 0
  | .bundle n, p => if p + 1 ≥ n then 0 else p + 1
def Hb.writes : Hb → Bool
  | .never => false
  | .each => true
  | .bundle _ => true
def hbC (A : Ad) : Hb → Addr
  | .never => A.c_Never
  | .each => A.c_Each
  | .bundle _ => A.c_Bundle
def hbF : Hb → List (Str × LV)
  | .never => []
  | .each => []
  | .bundle n => [("size", .int n)]
def hbL (A : Ad) (h : Hb) : LV := .ins (hbC A h) (hbF h)
structure Th where
  start : Int
  hab : Hb
  done : List Ev
  wr : List Int
  pile : Int
def Th.here (t : Th) : Int := t.done.length
def Th.points (t : Th) : List Int := if t.hab.writes then (List.range ((t.here - t.pile + 1) - t.wr.headD 0).toNat).map fun i => t.wr.headD 0 + (i : Nat) else t.wr
def Th.do (t : Th) (e : Ev) : Th := { t with done := t.done ++ [e], pile := t.hab.piled t.pile }
def Th.write (t : Th) : Th := { t with wr := if t.here ∈ t.wr then t.wr else t.wr ++ [t.here], pile := if t.hab.writes then 0 else t.pile }
structure Th.Ok (t : Th) : Prop where
  ne : t.wr ≠ []
  asc : t.wr.Pairwise (· < ·)
  rng : ∀ q ∈ t.wr, 0 ≤ q ∧ q ≤ t.here
  pile : t.hab.writes = true → 0 ≤ t.pile ∧ ∀ q ∈ t.wr, q ≤ t.here - t.pile
theorem Th.Ok.head {t : Th} (h : t.Ok) : t.wr.headD 0 ∈ t.wr := by
  have := h.ne
  cases e : t.wr with
  | nil => exact absurd e this
  | cons a r => simp
theorem Th.Ok.pt {t : Th} (h : t.Ok) {q : Int} (hq : q ∈ t.points) : 0 ≤ q ∧ q ≤ t.here := by
  unfold Th.points at hq
  have h0 := h.rng _ h.head
  split at hq
  · next hw =>
    have hp := (h.pile hw).1
    simp only [List.mem_map, List.mem_range] at hq
    obtain ⟨i, hi, rfl⟩ := hq
    omega
  · exact h.rng q hq
theorem Th.Ok.do {t : Th} (h : t.Ok) (e : Ev) (hb : ∀ n, t.hab = .bundle n → 1 ≤ n) : (t.do e).Ok := by
  have hh : (t.do e).here = t.here + 1 := by simp [Th.do, Th.here]
  refine ⟨h.ne, h.asc, fun q hq => ?_, fun hw => ?_⟩
  · have := h.rng q hq
    omega
  · have hp := h.pile hw
    have hd : ∀ q ∈ (t.do e).wr, q ≤ t.here - t.pile := hp.2
    show 0 ≤ t.hab.piled t.pile ∧ ∀ q ∈ (t.do e).wr, q ≤ (t.do e).here - t.hab.piled t.pile
    have hq0 : ∀ q ∈ (t.do e).wr, q ≤ t.here := fun q hq => (h.rng q hq).2
    cases e1 : t.hab with
    | never => rw [show (t.do e).hab = t.hab from rfl, e1] at hw; cases hw
    | each =>
      refine ⟨Int.le_refl 0, fun q hq => ?_⟩
      have := hq0 q hq
      show q ≤ (t.do e).here - 0
      omega
    | bundle n =>
      simp only [Hb.piled]
      split
      · exact ⟨Int.le_refl 0, fun q hq => by have := hq0 q hq; omega⟩
      · exact ⟨by omega, fun q hq => by have := hd q hq; omega⟩
theorem Th.Ok.write {t : Th} (h : t.Ok) : t.write.Ok := by
  have hh : t.write.here = t.here := rfl
  have h0 : (0 : Int) ≤ t.here := by unfold Th.here; omega
  have hr : ∀ q ∈ t.write.wr, 0 ≤ q ∧ q ≤ t.here := fun q hq => by
    simp only [Th.write] at hq
    split at hq
    · exact h.rng q hq
    · rw [List.mem_append] at hq
      rcases hq with hq | hq
      · exact h.rng q hq
      · rw [List.mem_singleton.mp hq]; omega
  refine ⟨?_, ?_, hr, fun hw => ?_⟩
  · simp only [Th.write]
    split
    · exact h.ne
    · simp
  · simp only [Th.write]
    split
    · exact h.asc
    · next hn =>
      rw [List.pairwise_append]
      refine ⟨h.asc, by simp, fun a ha b hb => ?_⟩
      rw [List.mem_singleton.mp hb]
      have := (h.rng a ha).2
      have hne : a ≠ t.here := by rintro rfl; exact hn ha
      omega
  · have e : t.write.pile = 0 := by
      have hw' : t.hab.writes = true := hw
      show (if t.hab.writes = true then 0 else t.pile) = 0
      rw [if_pos hw']
    rw [e, hh]
    exact ⟨Int.le_refl 0, fun q hq => by have := (hr q hq).2; omega⟩
def Th.states (t : Th) : List Int := t.start :: t.done.map Ev.state
def thF (A : Ad) (st : Int) (h : Hb) (d w : Addr) (p : Int) : List (Str × LV) := [("start", .int st), ("habit", hbL A h), ("done", .ref d), ("writings", .ref w), ("pile", .int p)]
/-- the thread t lies at x, its lists at d and w -/
structure IsTh (A : Ad) (s : LS) (x : Addr) (t : Th) (d w : Addr) : Prop where
  hx : s x = some (.ins A.c_Thread (thF A t.start t.hab d w t.pile))
  hd : s d = some (.lst (t.done.map (evL A)))
  hw : s w = some (.lst (t.wr.map .int))
  ne : d ≠ w
section
variable {A : Ad} {s s' : LS} {x d w : Addr} {t : Th}
theorem IsTh.xd (h : IsTh A s x t d w) : x ≠ d := by rintro rfl; have := h.hx.symm.trans h.hd; cases this
theorem IsTh.xw (h : IsTh A s x t d w) : x ≠ w := by rintro rfl; have := h.hx.symm.trans h.hw; cases this
theorem IsTh.own {F F' : List Addr} (h : IsTh A s x t d w) (o : Own F F' s s') (n1 : x ∉ F) (n2 : d ∉ F) (n3 : w ∉ F) : IsTh A s' x t d w := ⟨o.at n1 h.hx, o.at n2 h.hd, o.at n3 h.hw, h.ne⟩
theorem IsTh.ext (h : IsTh A s x t d w) (o : Ext s s') : IsTh A s' x t d w := ⟨o _ _ h.hx, o _ _ h.hd, o _ _ h.hw, h.ne⟩
end
section
variable {P : Program} {w : World} {K : PySem.W.Frag} [GG K] {mg : Str → Option Value} {base : Heap} {A : Ad} {D : Fd}
def spEvent (A : Ad) : LSp := fun vs s Q E => ∃ (x : Addr) (e : Ev) (se sa : LV), vs = [.ref x, usedL e.used, .int e.state, se, sa] ∧ seqL se s = some (e.sent.map pairL) ∧ seqL sa s = some (e.said.map .int) ∧ s x = some (.ins A.c_Event []) ∧
  Q .non (put s x (.ins A.c_Event [("used", usedL e.used), ("state", .int e.state), ("sent", .lst (e.sent.map pairL)), ("said", .lst (e.said.map .int))]))
theorem ok_Event_init (T : Txt K mg A D) (B : Bs K mg base A) : LFn P w K mg base 1 A.f_Event_init D.d_Event_init ["self", "used", "state", "sent", "said"] (spEvent A) := by
  refine T.F_Event_init.okL sc_Event_init (fun vs s Q E ⟨x, e, se, sa, h, _⟩ => by rw [h]; rfl) (fun cdv A' outer si H E hr => ⟨_, (lps_cons (lp_fld T.cl_Event T.n_Event_used (lv 0) (lv 1))
    (lps_cons (lp_fld T.cl_Event T.n_Event_state (lv 0) (lv 2))
    (lps_cons (lp_fld T.cl_Event T.n_Event_sent (lv 0) (le_fz (ll_list rfl T.b_list (la_cons (lv 3) la_nil))))
    (lps_one (lp_fld T.cl_Event T.n_Event_said (lv 0) (le_fz (ll_list rfl T.b_list (la_cons (lv 4) la_nil)))))))), fun vs s Q E h => ?_⟩)
  obtain ⟨x, e, se, sa, rfl, h1, h2, hx, h⟩ := h
  rcases seqL_cases h1 with rfl | ⟨a, rfl, ha⟩ <;> rcases seqL_cases h2 with rfl | ⟨b, rfl, hb⟩
  · simp_arith [hx]
    exact ⟨_, .refl _, h⟩
  · have nb : b ≠ x := by rintro rfl; rw [hx] at hb; cases hb
    simp_arith [hx, hb, put_ne nb]
    exact ⟨_, .refl _, h⟩
  · have na : a ≠ x := by rintro rfl; rw [hx] at ha; cases ha
    simp_arith [hx, ha, put_ne na]
    exact ⟨_, .refl _, h⟩
  · have na : a ≠ x := by rintro rfl; rw [hx] at ha; cases ha
    have nb : b ≠ x := by rintro rfl; rw [hx] at hb; cases hb
    simp_arith [hx, ha, hb, put_ne na, put_ne nb]
    exact ⟨_, .refl _, h⟩
def spInit (A : Ad) : LSp := fun vs s Q E => ∃ x n, vs = [.ref x, .int n] ∧ s x = some (.ins A.c_Bundle []) ∧ (n < 1 ∨ 20 < n → E A.c_NoSize s) ∧ (1 ≤ n ∧ n ≤ 20 → Q .non (put s x (.ins A.c_Bundle [("size", .int n)])))
theorem ok_Bundle_init (T : Txt K mg A D) (B : Bs K mg base A) : LFn P w K mg base 1 A.f_Bundle_init D.d_Bundle_init ["self", "size"] (spInit A) := by
  refine T.F_Bundle_init.okL sc_Bundle_init (fun vs s Q E ⟨x, n, h, _⟩ => by rw [h]; rfl) (fun cdv A' outer si H E hr => ⟨_, (lps_cons (lp_if (LW.lt (lw_or (lt_lt (lv 1) le_int) (lw_or1 (lt_gt (lv 1) le_int)))) (lps_one (lp_raise T.x_NoSize rfl rfl)) lps_nil)
    (lps_one (lp_fld T.cl_Bundle T.n_Bundle_size (lv 0) (lv 1)))), fun vs s Q E h => ?_⟩)
  obtain ⟨x, n, rfl, hx, h1, h2⟩ := h
  simp_arith
  refine ifD (fun h => ?_) (fun h => ?_)
  · simp_arith
    exact ⟨s, .refl s, h1 (.inl h)⟩
  · simp_arith
    refine ifD (fun h' => ?_) (fun h' => ?_)
    · simp_arith
      exact ⟨s, .refl s, h1 (.inr h')⟩
    · simp_arith [hx]
      exact ⟨_, .refl _, h2 ⟨by omega, by omega⟩⟩
def spHere (A : Ad) : LSp := fun vs s Q E => ∃ x t d w, vs = [.ref x] ∧ IsTh A s x t d w ∧ Q (.int t.here) s
theorem ok_Thread_here (T : Txt K mg A D) (B : Bs K mg base A) : LFn P w K mg base 1 A.f_Thread_here D.d_Thread_here ["self"] (spHere A) := by
  refine T.F_Thread_here.okL sc_Thread_here (fun vs s Q E ⟨x, t, d, w, h, _⟩ => by rw [h]; rfl) (fun cdv A' outer si H E hr => ⟨_, (lps_one (lp_ret (le_len rfl T.b_len (la_cons (le_fld T.cl_Thread T.n_Thread_done (lv 0)) la_nil)))), fun vs s Q E h => ?_⟩)
  obtain ⟨x, t, d, w, rfl, ht, h⟩ := h
  simp_arith [ht.hx, ht.hd, thF]
  rw [List.length_map]
  exact fin (.refl _) h
/-- a list told anew -/
def tells (l : List LV) (s : LS) (Q : LVK) : Prop := ∀ p, s p = none → Q (.ref p) (put s p (.lst l))
def spEvents (A : Ad) : LSp := fun vs s Q E => ∃ x t d w, vs = [.ref x] ∧ IsTh A s x t d w ∧ tells (t.done.map (evL A)) s Q
theorem ok_Thread_events (T : Txt K mg A D) (B : Bs K mg base A) : LFn P w K mg base 1 A.f_Thread_events D.d_Thread_events ["self"] (spEvents A) := by
  refine T.F_Thread_events.okL sc_Thread_events (fun vs s Q E ⟨x, t, d, w, h, _⟩ => by rw [h]; rfl) (fun cdv A' outer si H E hr => ⟨_, (lps_one (lp_ret (le_new (ll_list rfl T.b_list (la_cons (le_fld T.cl_Thread T.n_Thread_done (lv 0)) la_nil))))), fun vs s Q E h => ?_⟩)
  obtain ⟨x, t, d, w, rfl, ht, h⟩ := h
  simp_arith [ht.hx, ht.hd, thF]
  exact fun p hp => fin (.refl _) (h p hp)
def spThread (A : Ad) : LSp := fun vs s Q E => ∃ x st h, vs = [.ref x, .int st, hbL A h] ∧ s x = some (.ins A.c_Thread []) ∧
  ∀ s' d w, IsTh A s' x ⟨st, h, [], [0], 0⟩ d w → Own [x] [x, d, w] s s' → Q .non s'
theorem ok_Thread_init (T : Txt K mg A D) (B : Bs K mg base A) : LFn P w K mg base 1 A.f_Thread_init D.d_Thread_init ["self", "start", "habit"] (spThread A) := by
  refine T.F_Thread_init.okL sc_Thread_init (fun vs s Q E ⟨x, st, hb, h, _⟩ => by rw [h]; rfl) (fun cdv A' outer si H E hr => ⟨_, (lps_cons (lp_fld T.cl_Thread T.n_Thread_start (lv 0) (lv 1))
    (lps_cons (lp_fld T.cl_Thread T.n_Thread_habit (lv 0) (lv 2))
    (lps_cons (lp_fld T.cl_Thread T.n_Thread_done (lv 0) (le_new (ll_disp la_nil)))
    (lps_cons (lp_fld T.cl_Thread T.n_Thread_writings (lv 0) (le_new (ll_disp (la_cons le_int la_nil))))
    (lps_one (lp_fld T.cl_Thread T.n_Thread_pile (lv 0) le_int)))))), fun vs s Q E h => ?_⟩)
  obtain ⟨x, st, hb, rfl, hx, h⟩ := h
  simp_arith [hx]
  intro d hd
  obtain ⟨nd, hd⟩ := put_none hd
  simp_arith [put_ne (Ne.symm nd)]
  intro w hw
  obtain ⟨nw, hw⟩ := put_none hw
  obtain ⟨nwd, hw⟩ := put_none hw
  obtain ⟨_, hw⟩ := put_none hw
  simp_arith [put_ne (Ne.symm nw), put_ne (Ne.symm nd), put_ne (Ne.symm nwd)]
  refine ⟨_, .refl _, h _ d w ⟨?_, ?_, ?_, Ne.symm nwd⟩ ?_⟩
  · simp [put, nd, nw, nwd, thF]
  · simp [put, nd, nw, nwd, Ne.symm nwd]
  · simp [put, nd, nw, nwd]
  · (refine own_of (fun a ha hn => ?_) (by simp_all) ; simp only [put]; (repeat' split) <;> simp_all)
def spDo (A : Ad) : LSp := fun vs s Q E => ∃ x t d w e, vs = [.ref x, evL A e] ∧ IsTh A s x t d w ∧ t.done.length < 16777216 ∧ ∀ s', IsTh A s' x (t.do e) d w → Own [x, d, w] [x, d, w] s s' → Q .non s'
def spPiled (A : Ad) (C : Addr) : LSp := fun vs s Q E => ∃ h p, hbC A h = C ∧ vs = [hbL A h, .int p] ∧ Q (.int (h.piled p)) s
def spWrites (A : Ad) (C : Addr) : LSp := fun vs s Q E => ∃ h, hbC A h = C ∧ vs = [hbL A h] ∧ Q (.bl h.writes) s
/-- the three classes are three -/
structure Hb3 (A : Ad) : Prop where
  ne : A.c_Never ≠ A.c_Each
  nb : A.c_Never ≠ A.c_Bundle
  eb : A.c_Each ≠ A.c_Bundle
theorem hb3 (T : Txt K mg A D) : Hb3 A := ⟨T.nd_Never_Each, T.nd_Never_Bundle, T.nd_Each_Bundle⟩
theorem ok_Habit_piled_up (T : Txt K mg A D) (B : Bs K mg base A) : LFn P w K mg base 1 A.f_Habit_piled_up D.d_Habit_piled_up ["self", "pile"] (spPiled A A.c_Never) := by
  refine T.F_Habit_piled_up.okL sc_Habit_piled_up (fun vs s Q E ⟨_, _, _, h, _⟩ => by rw [h]; rfl) (fun cdv A' outer si H E hr => ⟨_, (lps_one (lp_ret (le_add (lv 1) le_int))), fun vs s Q E h => ?_⟩)
  have h3 := hb3 T
  obtain ⟨h, p, hc, rfl, q⟩ := h
  cases h with
  | never =>
    simp_arith
    exact fin (.refl _) q
  | each => exact absurd hc (Ne.symm h3.ne)
  | bundle n => exact absurd hc (Ne.symm h3.nb)
theorem ok_Each_piled_up (T : Txt K mg A D) (B : Bs K mg base A) : LFn P w K mg base 1 A.f_Each_piled_up D.d_Each_piled_up ["self", "pile"] (spPiled A A.c_Each) := by
  refine T.F_Each_piled_up.okL sc_Each_piled_up (fun vs s Q E ⟨_, _, _, h, _⟩ => by rw [h]; rfl) (fun cdv A' outer si H E hr => ⟨_, (lps_one (lp_ret le_int)), fun vs s Q E h => ?_⟩)
  have h3 := hb3 T
  obtain ⟨h, p, hc, rfl, q⟩ := h
  cases h with
  | never => exact absurd hc h3.ne
  | each =>
    simp_arith
    exact fin (.refl _) q
  | bundle n => exact absurd hc (Ne.symm h3.eb)
theorem ok_Bundle_piled_up (T : Txt K mg A D) (B : Bs K mg base A) : LFn P w K mg base 1 A.f_Bundle_piled_up D.d_Bundle_piled_up ["self", "pile"] (spPiled A A.c_Bundle) := by
  refine T.F_Bundle_piled_up.okL sc_Bundle_piled_up (fun vs s Q E ⟨_, _, _, h, _⟩ => by rw [h]; rfl) (fun cdv A' outer si H E hr => ⟨_, (lps_cons (lp_if (lt_ge (le_add (lv 1) le_int) (le_fld T.cl_Bundle T.n_Bundle_size (lv 0))) (lps_one (lp_ret le_int)) lps_nil)
    (lps_one (lp_ret (le_add (lv 1) le_int)))), fun vs s Q E h => ?_⟩)
  have h3 := hb3 T
  obtain ⟨h, p, hc, rfl, q⟩ := h
  cases h with
  | never => exact absurd hc h3.nb
  | each => exact absurd hc h3.eb
  | bundle n =>
    simp_arith
    refine ifD (fun hg => ?_) (fun hg => ?_)
    · simp_arith
      exact fin (.refl _) (by simpa [Hb.piled, hg] using q)
    · simp_arith
      exact fin (.refl _) (by simpa [Hb.piled, hg] using q)
theorem ok_Habit_writes_events (T : Txt K mg A D) (B : Bs K mg base A) : LFn P w K mg base 1 A.f_Habit_writes_events D.d_Habit_writes_events ["self"] (spWrites A A.c_Never) := by
  refine T.F_Habit_writes_events.okL sc_Habit_writes_events (fun vs s Q E ⟨_, _, h, _⟩ => by rw [h]; rfl) (fun cdv A' outer si H E hr => ⟨_, (lps_one (lp_ret le_bl)), fun vs s Q E h => ?_⟩)
  have h3 := hb3 T
  obtain ⟨h, hc, rfl, q⟩ := h
  cases h with
  | never =>
    simp_arith
    exact fin (.refl _) q
  | each => exact absurd hc (Ne.symm h3.ne)
  | bundle n => exact absurd hc (Ne.symm h3.nb)
theorem ok_Each_writes_events (T : Txt K mg A D) (B : Bs K mg base A) : LFn P w K mg base 1 A.f_Each_writes_events D.d_Each_writes_events ["self"] (spWrites A A.c_Each) := by
  refine T.F_Each_writes_events.okL sc_Each_writes_events (fun vs s Q E ⟨_, _, h, _⟩ => by rw [h]; rfl) (fun cdv A' outer si H E hr => ⟨_, (lps_one (lp_ret le_bl)), fun vs s Q E h => ?_⟩)
  have h3 := hb3 T
  obtain ⟨h, hc, rfl, q⟩ := h
  cases h with
  | never => exact absurd hc h3.ne
  | each =>
    simp_arith
    exact fin (.refl _) q
  | bundle n => exact absurd hc (Ne.symm h3.eb)
theorem ok_Bundle_writes_events (T : Txt K mg A D) (B : Bs K mg base A) : LFn P w K mg base 1 A.f_Bundle_writes_events D.d_Bundle_writes_events ["self"] (spWrites A A.c_Bundle) := by
  refine T.F_Bundle_writes_events.okL sc_Bundle_writes_events (fun vs s Q E ⟨_, _, h, _⟩ => by rw [h]; rfl) (fun cdv A' outer si H E hr => ⟨_, (lps_one (lp_ret le_bl)), fun vs s Q E h => ?_⟩)
  have h3 := hb3 T
  obtain ⟨h, hc, rfl, q⟩ := h
  cases h with
  | never => exact absurd hc h3.nb
  | each => exact absurd hc h3.eb
  | bundle n =>
    simp_arith
    exact fin (.refl _) q
def tbPiled (A : Ad) (C : Addr) (sp : LSp) : Prop := sp = spPiled A C ∧ (C = A.c_Never ∨ C = A.c_Each ∨ C = A.c_Bundle)
def tbWrites (A : Ad) (C : Addr) (sp : LSp) : Prop := sp = spWrites A C ∧ (C = A.c_Never ∨ C = A.c_Each ∨ C = A.c_Bundle)
theorem tab_piled_up {X : Cx} [GG X.K] {A : Ad} {D : Fd} (T : Txt X.K X.mg A D) (B : Bs X.K X.mg X.base A) (hr : Room 1 X.A) : MethT X "piled_up" (tbPiled A) := fun C sp ⟨e, h⟩ => by
  rcases h with rfl | rfl | rfl
  · exact ⟨T.cl_Never, _, _, _, _, T.mt_Never_piled_up, e ▸ ok_Habit_piled_up T B, hr.mono (by decide), T.q_Habit_piled_up⟩
  · exact ⟨T.cl_Each, _, _, _, _, T.mt_Each_piled_up, e ▸ ok_Each_piled_up T B, hr.mono (by decide), T.q_Each_piled_up⟩
  · exact ⟨T.cl_Bundle, _, _, _, _, T.mt_Bundle_piled_up, e ▸ ok_Bundle_piled_up T B, hr.mono (by decide), T.q_Bundle_piled_up⟩
theorem tab_writes_events {X : Cx} [GG X.K] {A : Ad} {D : Fd} (T : Txt X.K X.mg A D) (B : Bs X.K X.mg X.base A) (hr : Room 1 X.A) : MethT X "writes_events" (tbWrites A) := fun C sp ⟨e, h⟩ => by
  rcases h with rfl | rfl | rfl
  · exact ⟨T.cl_Never, _, _, _, _, T.mt_Never_writes_events, e ▸ ok_Habit_writes_events T B, hr.mono (by decide), T.q_Habit_writes_events⟩
  · exact ⟨T.cl_Each, _, _, _, _, T.mt_Each_writes_events, e ▸ ok_Each_writes_events T B, hr.mono (by decide), T.q_Each_writes_events⟩
  · exact ⟨T.cl_Bundle, _, _, _, _, T.mt_Bundle_writes_events, e ▸ ok_Bundle_writes_events T B, hr.mono (by decide), T.q_Bundle_writes_events⟩
theorem hb_cls (A : Ad) (h : Hb) : hbC A h = A.c_Never ∨ hbC A h = A.c_Each ∨ hbC A h = A.c_Bundle := by cases h <;> simp [hbC]
theorem hb_no (h : Hb) : List.lookup (("piled_up" : PySem.Str)) (hbF h) = none ∧ List.lookup (("writes_events" : PySem.Str)) (hbF h) = none := by cases h <;> exact ⟨rfl, rfl⟩
theorem ok_Thread_do (T : Txt K mg A D) (B : Bs K mg base A) : LFn P w K mg base 2 A.f_Thread_do D.d_Thread_do ["self", "event"] (spDo A) := by
  refine T.F_Thread_do.okL sc_Thread_do (fun vs s Q E ⟨x, t, d, w, e, h, _⟩ => by rw [h]; rfl) (fun cdv A' outer si H E hr => ⟨_, (lps_cons (lp_expr (le_append (le_fld T.cl_Thread T.n_Thread_done (lv 0)) (la_cons (lv 1) la_nil)))
    (lps_one (lp_fld T.cl_Thread T.n_Thread_pile (lv 0) (le_methD (le_fld T.cl_Thread T.n_Thread_habit (lv 0)) (tab_piled_up T B (hr.mono (by decide))) (la_cons (le_fld T.cl_Thread T.n_Thread_pile (lv 0)) la_nil))))), fun vs s Q E h => ?_⟩)
  obtain ⟨x, t, d, w, e, rfl, ht, hl, h⟩ := h
  have hl' : (t.done.map (evL A)).length < 16777216 := by rw [List.length_map]; exact hl
  simp_arith [ht.hx, ht.hd, put_ne ht.xd, thF, hbL]
  refine ⟨(hb_no _).1, _, ⟨rfl, hb_cls A _⟩, ?_⟩
  simp_arith [ht.hx, ht.hd, put_ne ht.xd, thF, hbL]
  refine ⟨t.hab, t.pile, rfl, rfl, ?_⟩
  simp_arith [ht.hx, ht.hd, put_ne ht.xd, thF, hbL]
  refine ⟨_, .refl _, h _ ⟨?_, ?_, ?_, ht.ne⟩ ?_⟩
  · simp [put, thF, Th.do, hbL]
  · simp [put, Ne.symm ht.xd, Th.do]
  · simp [put, Ne.symm ht.xw, Ne.symm ht.ne, Th.do, ht.hw]
  · (refine own_of (fun a ha hn => ?_) (by simp_all) ; simp only [put]; (repeat' split) <;> simp_all)
def spWrite (A : Ad) : LSp := fun vs s Q E => ∃ x t d w, vs = [.ref x] ∧ IsTh A s x t d w ∧ t.wr.length < 16777216 ∧ ∀ s', IsTh A s' x t.write d w → Own [x, d, w] [x, d, w] s s' → Q .non s'
theorem ok_Thread_write (T : Txt K mg A D) (B : Bs K mg base A) : LFn P w K mg base 2 A.f_Thread_write D.d_Thread_write ["self"] (spWrite A) := by
  refine T.F_Thread_write.okL sc_Thread_write (fun vs s Q E ⟨x, t, d, w, h, _⟩ => by rw [h]; rfl) (fun cdv A' outer si H E hr => ⟨_, (lps_cons (lp_cut (lp_if (lt_ninV (hu65 hr) (le_meth0 (lv 0) T.cl_Thread T.mt_Thread_here (ok_Thread_here T B) (hr.mono (by decide)) T.q_Thread_here) (le_fld T.cl_Thread T.n_Thread_writings (lv 0)) (by rfl)) (lps_one (lp_expr (le_append (le_fld T.cl_Thread T.n_Thread_writings (lv 0)) (la_cons (le_meth0 (lv 0) T.cl_Thread T.mt_Thread_here (ok_Thread_here T B) (hr.mono (by decide)) T.q_Thread_here) la_nil)))) lps_nil))
    (lps_one (lp_if (lt_val (le_methD0 (le_fld T.cl_Thread T.n_Thread_habit (lv 0)) (tab_writes_events T B (hr.mono (by decide))))) (lps_one (lp_fld T.cl_Thread T.n_Thread_pile (lv 0) le_int)) lps_nil))), fun vs s Q E h => ?_⟩)
  obtain ⟨x, t, d, w, rfl, ht, hl, h⟩ := h
  conv => whnf
  refine ⟨fun σ' s' => σ' = [some (.ref x)] ∧ IsTh A s' x { t with wr := t.write.wr } d w ∧ Own [x, d, w] [x, d, w] s s', ?_, ?_⟩
  · simp_arith [ht.hx, ht.hd, ht.hw, thF]
    refine ⟨x, t, d, w, rfl, ht, ?_⟩
    simp_arith [ht.hx, ht.hd, ht.hw, thF]
    refine ifNX (fun hn => ?_) (fun hn => ?_)
    · simp_arith [ht.hx, ht.hd, ht.hw, thF]
      refine ⟨x, t, d, w, rfl, ht, ?_⟩
      have hl' : (t.wr.map LV.int).length < 16777216 := by rw [List.length_map]; exact hl
      simp_arith [ht.hx, ht.hd, ht.hw, thF]
      refine ⟨rfl, ⟨?_, ?_, ?_, ht.ne⟩, ?_⟩
      · simp [put, ht.xw, ht.hx]
      · simp [put, ht.ne, ht.hd]
      · simp [put, Th.write, hn]
      · (refine own_of (fun a ha hn => ?_) (by simp_all) ; simp only [put]; (repeat' split) <;> simp_all)
    · simp_arith
      refine ⟨rfl, ?_, .refl _ _⟩
      have e : t.write.wr = t.wr := by simp [Th.write, hn]
      rw [e]
      exact ht
  · rintro σ' s1 ⟨rfl, h1, o1⟩
    simp_arith [h1.hx, thF, hbL]
    refine ⟨(hb_no _).2, _, ⟨rfl, hb_cls A _⟩, ?_⟩
    simp_arith [h1.hx, thF, hbL]
    refine ⟨t.hab, rfl, rfl, ?_⟩
    simp_arith [h1.hx, thF, hbL]
    refine ifB (fun hw => ?_) (fun hw => ?_)
    · simp_arith [h1.hx, thF, hbL]
      refine ⟨_, .refl _, h _ ⟨?_, ?_, ?_, ht.ne⟩ (o1.trans ?_)⟩
      · simp [put, thF, Th.write, hw, hbL]
      · simp [put, Ne.symm ht.xd, Th.write, h1.hd]
      · simp [put, Ne.symm ht.xw, h1.hw]
      · (refine own_of (fun a ha hn => ?_) (by simp_all) ; simp only [put]; (repeat' split) <;> simp_all)
    · simp_arith
      refine ⟨_, .refl _, h _ ?_ o1⟩
      have e : t.write = { t with wr := t.write.wr } := by
        cases t
        simp only [Th.write] at hw ⊢
        simp [hw]
      rw [e]
      exact h1
def spPoints (A : Ad) : LSp := fun vs s Q E => ∃ x t d w, vs = [.ref x] ∧ IsTh A s x t d w ∧ t.Ok ∧ t.done.length < 16777215 ∧ tells (t.points.map .int) s Q
theorem ok_Thread_points (T : Txt K mg A D) (B : Bs K mg base A) : LFn P w K mg base 2 A.f_Thread_points D.d_Thread_points ["self"] (spPoints A) := by
  refine T.F_Thread_points.okL sc_Thread_points (fun vs s Q E ⟨x, t, d, w, h, _⟩ => by rw [h]; rfl) (fun cdv A' outer si H E hr => ⟨_, (lps_cons (lp_if (lt_not (lt_val (le_methD0 (le_fld T.cl_Thread T.n_Thread_habit (lv 0)) (tab_writes_events T B (hr.mono (by decide)))))) (lps_one (lp_ret (le_new (ll_list rfl T.b_list (la_cons (le_fld T.cl_Thread T.n_Thread_writings (lv 0)) la_nil))))) lps_nil)
    (lps_one (lp_ret (le_new (ll_listRg2 rfl rfl T.b_list rfl T.b_range (le_item (hu_of hr) (le_fld T.cl_Thread T.n_Thread_writings (lv 0)) le_int) (le_add (le_sub (le_meth0 (lv 0) T.cl_Thread T.mt_Thread_here (ok_Thread_here T B) (hr.mono (by decide)) T.q_Thread_here) (le_fld T.cl_Thread T.n_Thread_pile (lv 0))) le_int)))))), fun vs s Q E h => ?_⟩)
  obtain ⟨x, t, d, w, rfl, ht, hok, hsm, h⟩ := h
  have hd := hok.head
  have h0 := hok.rng _ hd
  simp_arith [ht.hx, thF, hbL]
  refine ⟨(hb_no _).2, _, ⟨rfl, hb_cls A _⟩, ?_⟩
  simp_arith [ht.hx, thF, hbL]
  refine ⟨t.hab, rfl, rfl, ?_⟩
  simp_arith [ht.hx, thF, hbL]
  refine ⟨fun hw => ?_, fun hw => ?_⟩
  · have e : t.points = t.wr := by
      unfold Th.points
      rw [if_neg (by simpa using hw)]
    simp_arith [ht.hx, ht.hw, thF]
    rw [e] at h
    exact fun p hp => fin (.refl _) (h p hp)
  · have hw : t.hab.writes = true := by simpa using hw
    have hp := (hok.pile hw)
    have e : t.points.map LV.int = rgL (t.wr.headD 0) (t.here - t.pile + 1) := by
      unfold Th.points rgL
      rw [if_pos hw, List.map_map]
      rfl
    simp_arith [ht.hx, ht.hw, thF]
    rw [atI_mem (v := t.wr.headD 0) LV.int (by decide) (by cases q : t.wr with | nil => exact absurd q hok.ne | cons a r => rfl)]
    simp_arith [ht.hx, ht.hw, thF]
    refine ⟨x, t, d, w, rfl, ht, ?_⟩
    simp_arith [ht.hx, ht.hw, thF]
    have q1 := hp.2 _ hd
    have q2 : t.here < 16777215 := by unfold Th.here; omega
    refine ⟨RgOk.of_le h0.1 (by omega) (by omega) (by omega), ?_⟩
    simp_arith
    rw [e] at h
    exact fun p hp => fin (.refl _) (h p hp)
/-- a place that can be had, or where it stands -/
def Th.has (t : Th) (p : Int) : Prop := p = t.here ∨ p ∈ t.points
instance (t : Th) (p : Int) : Decidable (t.has p) := inferInstanceAs (Decidable (p = t.here ∨ p ∈ t.points))
def spState (A : Ad) : LSp := fun vs s Q E => ∃ x t d w p, vs = [.ref x, .int p] ∧ IsTh A s x t d w ∧ t.Ok ∧ t.done.length < 16777215 ∧ (t.has p → ∀ n, t.states[p.toNat]? = some n → 0 ≤ p → Q (.int n) s) ∧ (¬ t.has p → E A.c_NoPoint s)
theorem ok_Thread_state_at (T : Txt K mg A D) (B : Bs K mg base A) : LFn P w K mg base 3 A.f_Thread_state_at D.d_Thread_state_at ["self", "place"] (spState A) := by
  refine T.F_Thread_state_at.okL sc_Thread_state_at (fun vs s Q E ⟨x, t, d, w, p, h, _⟩ => by rw [h]; rfl) (fun cdv A' outer si H E hr => ⟨_, (lps_cons (lp_if (lt_cut (LW.lt (lw_and (lt_ne (lv 1) (le_meth0 (lv 0) T.cl_Thread T.mt_Thread_here (ok_Thread_here T B) (hr.mono (by decide)) T.q_Thread_here)) (lw_and1 (lt_ninV (hu65 hr) (lv 1) (le_frz (le_meth0 (lv 0) T.cl_Thread T.mt_Thread_points (ok_Thread_points T B) (hr.mono (by decide)) T.q_Thread_points)) (by rfl)))))) (lps_one (lp_raise T.x_NoPoint rfl rfl)) lps_nil)
    (lps_cons (lp_if (lt_eq (lv 1) le_int) (lps_one (lp_ret (le_fld T.cl_Thread T.n_Thread_start (lv 0)))) lps_nil)
    (lps_one (lp_ret (le_fld T.cl_Event T.n_Event_state (le_item (hu_of hr) (le_fld T.cl_Thread T.n_Thread_done (lv 0)) (le_sub (lv 1) le_int))))))), fun vs s Q E h => ?_⟩)
  obtain ⟨x, t, d, w, p, rfl, ht, hok, hsm, h1, h2⟩ := h
  conv => whnf
  refine ⟨decide (¬ t.has p), ?_, ?_⟩
  · simp_arith [ht.hx, thF]
    refine ⟨x, t, d, w, rfl, ht, ?_⟩
    simp_arith [ht.hx, thF]
    refine ifN (fun hn => ?_) (fun hn => ⟨by simp [Th.has, hn], trivial⟩)
    simp_arith [ht.hx, thF]
    refine ⟨x, t, d, w, rfl, ht, hok, hsm, fun q hq => fin_lst put_same hq (sub_put hq) ?_⟩
    simp_arith [ht.hx, thF]
    exact ⟨by simp [Th.has, hn], trivial⟩
  · refine ifD (fun hn => ?_) (fun hn => ?_)
    · simp_arith
      exact ⟨_, .refl _, h2 hn⟩
    · have hh : t.has p := Decidable.of_not_not hn
      have h1 := h1 hh
      have hp : 0 ≤ p ∧ p ≤ t.here := by
        rcases hh with rfl | hh
        · exact ⟨by unfold Th.here; omega, Int.le_refl _⟩
        · exact hok.pt hh
      simp_arith [ht.hx, thF]
      refine ifD (fun hz => ?_) (fun hz => ?_)
      · subst hz
        simp_arith [ht.hx, thF]
        exact fin (.refl _) (h1 _ rfl (Int.le_refl _))
      · have h3 : (p - 1).toNat < t.done.length := by have := hp.2; unfold Th.here at this; omega
        have h4 := List.getElem?_eq_getElem h3
        simp_arith [ht.hx, ht.hd, thF]
        rw [atI_mem (evL A) (by omega) h4]
        simp_arith [ht.hx, ht.hd, thF, evL]
        refine fin (.refl _) (h1 _ ?_ hp.1)
        have e : p.toNat = (p - 1).toNat + 1 := by omega
        unfold Th.states
        rw [e, List.getElem?_cons_succ, List.getElem?_map, h4]
        rfl
end
end Law

namespace Law
open PySem PySem.Spec L2 L3
local macro_rules
  | `(tactic| simp_arith) => `(tactic| ((conv => whnf); repeat ((first | with_reducible refine ifTT ?_ | with_reducible refine ifFF ?_ | with_reducible refine ifnT ?_ | with_reducible refine ifnF ?_ | with_reducible refine ifTr ?_ | with_reducible refine ifFr ?_ | (with_reducible refine And.intro ?_ ?_; · (first | with_reducible rfl | with_reducible exact ⟨rfl, rfl⟩ | decide | omega | (dsimp only; decide) | (dsimp only; omega) | (unfold CDiv; omega) | (unfold CPow; decide) | (unfold CMul; omega) | (simp only [List.length_cons, List.length_nil]; omega)))); conv => whnf)))
local macro_rules
  | `(tactic| simp_arith [$ls,*]) => `(tactic| ((conv => whnf); repeat ((first | with_reducible refine ifTT ?_ | with_reducible refine ifFF ?_ | with_reducible refine ifnT ?_ | with_reducible refine ifnF ?_ | with_reducible refine ifTr ?_ | with_reducible refine ifFr ?_ | (with_reducible refine And.intro ?_ ?_; · (first | with_reducible rfl | with_reducible exact ⟨rfl, rfl⟩ | decide | omega | (dsimp only; decide) | (dsimp only; omega) | (unfold CDiv; omega) | (unfold CPow; decide) | (unfold CMul; omega) | (simp only [List.length_cons, List.length_nil]; omega) | (simp only [Option.isSome_some]; done) | (simp only [meth_ref, put_same', seqL_ref, $ls,*]; first | done | exact ⟨rfl, rfl⟩ | exact ⟨trivial, rfl⟩ | rfl))) | (simp (decide := true) only [put_same', put_put, decF, decT, Bool.not_true, Bool.not_false, putL_nil, putL_cons, if_true, if_false, seqR_ref, seqL_ref, lenL_ref, dicK_ref, dicT_ref, dat_ref, dat_non, dat_bl, dat_int, dat_str, dat_lst, dat_tup, datV_non, datV_bl, datV_int, datV_str, datV_lst, datV_tup, datVs_nil, datVs_cons, tyAt_ref, opt_some, Option.map_some, Option.bind_some, dv_ints, dv_bls, dv_nms, dv_prs, dv_nm, dt_nm, dt_pr, dv_pr, sh_int, sh_bl, sh_none, sh_nil, eqv_nil, sh_ints, sh_bls, sh_nm, sh_nms, sh_pr, sh_prs, anyI, anyN, anyP, eqv_int, eqv_bl, eqv_ints, eqv_bls, eqv_nms, eqv_prs, eqv_nm, eqv_pr, $ls,*])); conv => whnf)))

theorem Own.new {F F' : List Addr} {s s' : LS} {x : Addr} {o : LO} (h : Own F F' s s') (hx : s' x = none) : Own F (x :: F') s (put s' x o) := fun a n e => by
  obtain ⟨e1, n1⟩ := h a n e
  have ne : a ≠ x := by rintro rfl; rw [hx] at e1; exact e e1.symm
  exact ⟨by rw [put_ne ne, e1], by simp [ne, n1]⟩
theorem Own.sub {F F' F2 : List Addr} {s s' : LS} (h : Own F F' s s') (hs : ∀ x ∈ F2, x ∈ F') : Own F F2 s s' := fun a n e => ⟨(h a n e).1, fun q => (h a n e).2 (hs a q)⟩
theorem Own.putM {F F' : List Addr} {s s' : LS} {x : Addr} {o : LO} (h : Own F F' s s') (hx : x ∈ F') : Own F F' s (put s' x o) := fun a n e => by
  obtain ⟨e1, n1⟩ := h a n e
  exact ⟨by rw [put_ne (by rintro rfl; exact n1 hx), e1], n1⟩
theorem eq_sorted : ∀ {xs ys : List Int}, xs.Pairwise (· < ·) → ys.Pairwise (· < ·) → (∀ x, x ∈ xs ↔ x ∈ ys) → xs = ys
  | [], [], _, _, _ => rfl
  | [], y :: ys, _, _, h => absurd ((h y).mpr (by simp)) (by simp)
  | x :: xs, [], _, _, h => absurd ((h x).mp (by simp)) (by simp)
  | x :: xs, y :: ys, hx, hy, h => by
    rw [List.pairwise_cons] at hx hy
    have e : x = y := by
      have h1 := (h x).mp (by simp)
      have h2 := (h y).mpr (by simp)
      rw [List.mem_cons] at h1 h2
      rcases h1 with h1 | h1
      · exact h1
      · rcases h2 with h2 | h2
        · exact h2.symm
        · have := hy.1 x h1
          have := hx.1 y h2
          omega
    subst e
    rw [eq_sorted hx.2 hy.2 fun z => ?_]
    constructor
    · intro hz
      have := (h z).mp (by simp [hz])
      rw [List.mem_cons] at this
      rcases this with rfl | q
      · exact absurd (hx.1 _ hz) (by omega)
      · exact q
    · intro hz
      have := (h z).mpr (by simp [hz])
      rw [List.mem_cons] at this
      rcases this with rfl | q
      · exact absurd (hy.1 _ hz) (by omega)
      · exact q
def Th.cut (t : Th) (p : Int) : Th := { t with done := t.done.take p.toNat, wr := t.wr.filter fun q => decide (q ≤ p), pile := 0 }
section
variable {P : Program} {w : World} {K : PySem.W.Frag} [GG K] {mg : Str → Option Value} {base : Heap} {A : Ad} {D : Fd}
def spCut (A : Ad) : LSp := fun vs s Q E => ∃ x t d w p st, vs = [.ref x, .int p, .bl st] ∧ IsTh A s x t d w ∧ t.Ok ∧ t.done.length < 16777215 ∧ t.wr.length ≤ 16777216 ∧ (st = true ∧ p = t.here → Q .non s) ∧ (¬ (st = true ∧ p = t.here) → p ∉ t.points → E A.c_NoPoint s) ∧
  (¬ (st = true ∧ p = t.here) → p ∈ t.points → ∀ s' d' w', IsTh A s' x (t.cut p) d' w' → Own [x, d, w] [x, d', w'] s s' → Q .non s')
end
end Law

namespace Law
open PySem PySem.Spec L2 L3
local macro_rules
  | `(tactic| simp_arith) => `(tactic| ((conv => whnf); repeat ((first | with_reducible refine ifTT ?_ | with_reducible refine ifFF ?_ | with_reducible refine ifnT ?_ | with_reducible refine ifnF ?_ | with_reducible refine ifTr ?_ | with_reducible refine ifFr ?_ | (with_reducible refine And.intro ?_ ?_; · (first | with_reducible rfl | with_reducible exact ⟨rfl, rfl⟩ | decide | omega | (dsimp only; decide) | (dsimp only; omega) | (unfold CDiv; omega) | (unfold CPow; decide) | (unfold CMul; omega) | (simp only [List.length_cons, List.length_nil]; omega)))); conv => whnf)))
local macro_rules
  | `(tactic| simp_arith [$ls,*]) => `(tactic| ((conv => whnf); repeat ((first | with_reducible refine ifTT ?_ | with_reducible refine ifFF ?_ | with_reducible refine ifnT ?_ | with_reducible refine ifnF ?_ | with_reducible refine ifTr ?_ | with_reducible refine ifFr ?_ | (with_reducible refine And.intro ?_ ?_; · (first | with_reducible rfl | with_reducible exact ⟨rfl, rfl⟩ | decide | omega | (dsimp only; decide) | (dsimp only; omega) | (unfold CDiv; omega) | (unfold CPow; decide) | (unfold CMul; omega) | (simp only [List.length_cons, List.length_nil]; omega) | (simp only [Option.isSome_some]; done) | (simp only [meth_ref, put_same', seqL_ref, $ls,*]; first | done | exact ⟨rfl, rfl⟩ | exact ⟨trivial, rfl⟩ | rfl))) | (simp (decide := true) only [put_same', put_put, decF, decT, Bool.not_true, Bool.not_false, putL_nil, putL_cons, if_true, if_false, seqR_ref, seqL_ref, lenL_ref, dicK_ref, dicT_ref, dat_ref, dat_non, dat_bl, dat_int, dat_str, dat_lst, dat_tup, datV_non, datV_bl, datV_int, datV_str, datV_lst, datV_tup, datVs_nil, datVs_cons, tyAt_ref, opt_some, Option.map_some, Option.bind_some, dv_ints, dv_bls, dv_nms, dv_prs, dv_nm, dt_nm, dt_pr, dv_pr, sh_int, sh_bl, sh_none, sh_nil, eqv_nil, sh_ints, sh_bls, sh_nm, sh_nms, sh_pr, sh_prs, anyI, anyN, anyP, eqv_int, eqv_bl, eqv_ints, eqv_bls, eqv_nms, eqv_prs, eqv_nm, eqv_pr, $ls,*])); conv => whnf)))

abbrev DoF := Int → Int → Option Int → Int × List (Int × Int) × List Int
inductive Row where
  | own (h : Int)
  | use (h : Int) (n : Nm)
  | write (h : Int)
deriving DecidableEq
def rowL : Row → LV
  | .own h => .tup [.str "own", .int h]
  | .use h n => .tup [.str "use", .int h, nmL n]
  | .write h => .tup [.str "write", .int h]
def rowD : Row → PyData
  | .own h => .tuple [.str "own", .int h]
  | .use h n => .tuple [.str "use", .int h, nmD n]
  | .write h => .tuple [.str "write", .int h]
theorem nOU : ¬ ("own" : Str) = "use" := by decide
theorem nOW : ¬ ("own" : Str) = "write" := by decide
theorem nUW : ¬ ("use" : Str) = "write" := by decide
theorem nUO : ¬ ("use" : Str) = "own" := by decide
theorem nWO : ¬ ("write" : Str) = "own" := by decide
theorem nWU : ¬ ("write" : Str) = "use" := by decide
theorem sO : PyData.strOk ("own" : Str) = true := by decide +kernel
theorem sU : PyData.strOk ("use" : Str) = true := by decide +kernel
theorem sW : PyData.strOk ("write" : Str) = true := by decide +kernel
instance : Cod Row := ⟨rowL, rowD, fun r => by cases r <;> simp [rowL, rowD, nmL, nmD], fun r => by cases r <;> simp [rowD, nmD, PyData.canLay0, PyData.canLayAll0, sO, sU, sW], 2, fun r => by cases r <;> simp [rowD, nmD, PyData.depth, PyData.depthAll], fun a b => by
  rcases a with h | ⟨h, ⟨n1, n2, n3⟩⟩ | h <;> rcases b with g | ⟨g, ⟨m1, m2, m3⟩⟩ | g <;> simp [rowD, nmD, PyData.eqv, PyData.eqvAll, nOU, nOW, nUW, nUO, nWO, nWU]⟩
def Row.hand : Row → Int
  | .own h => h
  | .use h _ => h
  | .write h => h
def doneL (p : Row × Int) : LV := .tup [rowL p.1, .int p.2]
theorem atI_last {β : Type} (xs : List β) (x : β) : atI (xs ++ [x]) (-1) = some x := by
  have e : ixN (xs ++ [x]).length (-1) = some xs.length := by
    unfold ixN
    simp
    omega
  unfold atI
  rw [e]
  simp
def Th.cur (t : Th) : Int := (t.states[t.done.length]?).getD 0
theorem Th.cur_at (t : Th) : t.states[t.here.toNat]? = some t.cur := by
  unfold Th.cur Th.here
  rw [Int.toNat_natCast]
  have : t.done.length < t.states.length := by simp [Th.states]
  rw [List.getElem?_eq_getElem this]
  rfl
theorem Th.cur_nil {t : Th} (h : t.done = []) : t.cur = t.start := by simp [Th.cur, Th.states, h]
theorem Th.cur_snoc {t : Th} {es : List Ev} {e : Ev} (h : t.done = es ++ [e]) : t.cur = e.state := by
  simp [Th.cur, Th.states, h]
structure Lm where
  f : DoF
  ths : List Th
  order : List Nm
  done : List (Row × Int)
  ord : Bool
def evOf (f : DoF) (t : Th) (i : Nat) (name : Option Nm) (word : Option Int) : Ev := ⟨name, (f i t.cur word).1, (f i t.cur word).2.1, (f i t.cur word).2.2⟩
def nmsOf (t : Th) (i n : Nat) : List Nm := (List.range n).map fun k => ⟨i, t.here + 1, (k : Nat)⟩
def Lm.add (L : Lm) (i : Nat) (t : Th) (name : Option Nm) (word : Option Int) : Lm :=
  { L with ths := L.ths.set i (t.do (evOf L.f t i name word)), order := L.order ++ nmsOf t i (L.f i t.cur word).2.1.length }
def Lm.own (L : Lm) (i : Nat) (t : Th) : Lm := { L.add i t none none with done := L.done ++ [(.own i, t.here + 1)] }
def Lm.use (L : Lm) (i : Nat) (t : Th) (n : Nm) (w : Int) : Lm := { L.add i t (some n) (some w) with done := L.done ++ [(.use i n, t.here + 1)] }
def Lm.write (L : Lm) (i : Nat) (t : Th) : Lm := { L with ths := L.ths.set i t.write, done := L.done ++ [(.write i, t.here)] }
theorem nmsOf_succ (t : Th) (i n : Nat) : nmsOf t i (n + 1) = nmsOf t i n ++ [⟨i, t.here + 1, (n : Nat)⟩] := by simp [nmsOf, List.range_succ]
theorem here_do (t : Th) (e : Ev) : (t.do e).here = t.here + 1 := by simp [Th.do, Th.here]
/-- sizes, and what holds of each thread -/
structure Th.Sm (t : Th) (n : Nat) : Prop where
  ok : t.Ok
  hb : ∀ m, t.hab = .bundle m → 1 ≤ m
  dn : t.done.length ≤ n
  wr : t.wr.length ≤ n + 1
  ev : ∀ e ∈ t.done, e.sent.length ≤ 3
  sd : ∀ e ∈ t.done, e.said.length ≤ 1000
structure Lm.Ok (L : Lm) (n : Nat) : Prop where
  th : ∀ t ∈ L.ths, t.Sm n
  od : L.order.length ≤ 3 * n
  dn : L.done.length ≤ n
  f3 : ∀ h s w, (L.f h s w).2.1.length ≤ 3
  mn : L.ths.length ≤ 16
  w3 : ∀ h s w, (L.f h s w).2.2.length ≤ 1000
theorem Th.Sm.mono {t : Th} {n : Nat} (h : t.Sm n) : t.Sm (n + 1) := ⟨h.ok, h.hb, by have := h.dn; omega, by have := h.wr; omega, h.ev, h.sd⟩
theorem Th.Sm.do {t : Th} {n : Nat} (h : t.Sm n) {e : Ev} (he : e.sent.length ≤ 3) (hs : e.said.length ≤ 1000) : (t.do e).Sm (n + 1) := ⟨h.ok.do e h.hb, h.hb, by have := h.dn; simp [Th.do]; omega, by have := h.wr; simp [Th.do]; omega, fun x hx => by
  simp only [Th.do, List.mem_append, List.mem_singleton] at hx
  rcases hx with hx | rfl
  · exact h.ev x hx
  · exact he, fun x hx => by
  simp only [Th.do, List.mem_append, List.mem_singleton] at hx
  rcases hx with hx | rfl
  · exact h.sd x hx
  · exact hs⟩
theorem Th.Sm.write {t : Th} {n : Nat} (h : t.Sm n) : t.write.Sm (n + 1) := ⟨h.ok.write, h.hb, by have := h.dn; simp [Th.write]; omega, by
  have := h.wr
  simp only [Th.write]
  split
  · omega
  · simp; omega, h.ev, h.sd⟩
theorem Lm.Ok.set {L : Lm} {n : Nat} (h : L.Ok n) {i : Nat} {t : Th} (ht : t.Sm (n + 1)) : ∀ u ∈ L.ths.set i t, u.Sm (n + 1) := fun u hu => by
  rcases List.mem_or_eq_of_mem_set hu with hu | rfl
  · exact (h.th u hu).mono
  · exact ht
theorem Lm.Ok.own {L : Lm} {n : Nat} (h : L.Ok n) {i : Nat} {t : Th} (ht : t ∈ L.ths) : (L.own i t).Ok (n + 1) := ⟨h.set ((h.th t ht).do (h.f3 _ _ _) (h.w3 _ _ _)), by
  have := h.od
  have := h.f3 i t.cur none
  simp [Lm.own, Lm.add, nmsOf]; omega, by have := h.dn; simp [Lm.own]; omega, h.f3, by simpa [Lm.own, Lm.add] using h.mn, h.w3⟩
theorem Lm.Ok.use {L : Lm} {n : Nat} (h : L.Ok n) {i : Nat} {t : Th} {m : Nm} {w : Int} (ht : t ∈ L.ths) : (L.use i t m w).Ok (n + 1) := ⟨h.set ((h.th t ht).do (h.f3 _ _ _) (h.w3 _ _ _)), by
  have := h.od
  have := h.f3 i t.cur (some w)
  simp [Lm.use, Lm.add, nmsOf]; omega, by have := h.dn; simp [Lm.use]; omega, h.f3, by simpa [Lm.use, Lm.add] using h.mn, h.w3⟩
theorem Lm.Ok.write {L : Lm} {n : Nat} (h : L.Ok n) {i : Nat} {t : Th} (ht : t ∈ L.ths) : (L.write i t).Ok (n + 1) := ⟨h.set (h.th t ht).write, by have := h.od; simp [Lm.write]; omega, by have := h.dn; simp [Lm.write]; omega, h.f3, by simpa [Lm.write] using h.mn, h.w3⟩
def newTh (p : Int × Hb) : Th := ⟨p.1, p.2, [], [0], 0⟩
def newLm (f : DoF) (sts : List Int) (hbs : List Hb) (o : Bool) : Lm := ⟨f, (sts.zip hbs).map newTh, [], [], o⟩
def sentE (i : Nat) (q : Ev × Nat) : List (Nm × (Int × Int)) := q.1.sent.zipIdx.map fun l => (⟨i, ((q.2 : Nat) : Int) + 1, ((l.2 : Nat) : Int)⟩, l.1)
def sentT (p : Th × Nat) : List (Nm × (Int × Int)) := p.1.done.zipIdx.flatMap (sentE p.2)
def Lm.sentR (L : Lm) : List (Nm × (Int × Int)) := L.ths.zipIdx.flatMap sentT
def Lm.sent (L : Lm) : List (Nm × (Int × Int)) := putAll [] L.sentR
def usedE (q : Ev × Nat) : List (Nm × Int) := match q.1.used with
  | none => []
  | some n => [(n, ((q.2 : Nat) : Int) + 1)]
def usedT (t : Th) : List (Nm × Int) := t.done.zipIdx.flatMap usedE
def Lm.usedR (L : Lm) : List (Nm × Int) := L.ths.flatMap usedT
def Lm.used (L : Lm) : List (Nm × Int) := putAll [] L.usedR
def Lm.road (L : Lm) : List Nm := sortD ((L.sent.map (·.1)).filter fun n => decide (n ∉ L.used.map (·.1)))
def Lm.wait1 (L : Lm) (h : Int) : List Nm := L.order.filter fun n => match getA L.sent n with
  | none => false
  | some l => decide (l.1 = h)
def Lm.wait (L : Lm) (h : Int) : List Nm := (L.wait1 h).filter fun n => decide (n ∉ L.used.map (·.1))
/-- a letter that may be used -/
def Lm.may (L : Lm) (h : Int) (n : Nm) : Prop := n ∈ L.wait h ∧ (L.ord = true → ((L.wait h).filter fun m => decide (m.hand = n.hand)).head? = some n)
instance (L : Lm) (h : Int) (n : Nm) : Decidable (L.may h n) := inferInstanceAs (Decidable (_ ∧ _))
theorem flat_len {α β : Type} {f : α → List β} {k : Nat} : ∀ {xs : List α}, (∀ x ∈ xs, (f x).length ≤ k) → (xs.flatMap f).length ≤ k * xs.length
  | [], _ => by simp
  | x :: xs, h => by
    have h1 := h x List.mem_cons_self
    have h2 := flat_len (f := f) (k := k) (xs := xs) fun y hy => h y (List.mem_cons_of_mem _ hy)
    rw [List.flatMap_cons, List.length_append, List.length_cons, Nat.mul_succ]
    omega
theorem sentT_len {t : Th} {n i : Nat} (h : t.Sm n) : (sentT (t, i)).length ≤ 3 * n := by
  have := flat_len (f := sentE i) (k := 3) (xs := t.done.zipIdx) fun x hx => by
    have : x.1 ∈ t.done := by
      obtain ⟨a, b⟩ := x
      exact List.fst_mem_of_mem_zipIdx hx
    have := h.ev _ this
    simpa [sentE] using this
  have h2 := h.dn
  rw [List.length_zipIdx] at this
  show (t.done.zipIdx.flatMap (sentE i)).length ≤ _
  omega
theorem Lm.Ok.sentR_len {L : Lm} {n : Nat} (h : L.Ok n) : L.sentR.length ≤ 48 * n := by
  have := flat_len (f := sentT) (k := 3 * n) (xs := L.ths.zipIdx) fun x hx => by
    obtain ⟨a, b⟩ := x
    exact sentT_len (h.th a (List.fst_mem_of_mem_zipIdx hx))
  rw [List.length_zipIdx] at this
  have h2 := h.mn
  have : 3 * n * L.ths.length ≤ 3 * n * 16 := Nat.mul_le_mul_left _ h2
  show (L.ths.zipIdx.flatMap sentT).length ≤ _
  omega
theorem usedT_len {t : Th} {n : Nat} (h : t.Sm n) : (usedT t).length ≤ n := by
  have := flat_len (f := usedE) (k := 1) (xs := t.done.zipIdx) fun x hx => by
    unfold usedE
    split <;> simp
  rw [List.length_zipIdx] at this
  have h2 := h.dn
  show (t.done.zipIdx.flatMap usedE).length ≤ _
  omega
theorem Lm.Ok.usedR_len {L : Lm} {n : Nat} (h : L.Ok n) : L.usedR.length ≤ 16 * n := by
  have := flat_len (f := usedT) (k := n) (xs := L.ths) fun x hx => usedT_len (h.th x hx)
  have h2 := h.mn
  have : n * L.ths.length ≤ n * 16 := Nat.mul_le_mul_left _ h2
  show (L.ths.flatMap usedT).length ≤ _
  omega
theorem flat_split {α β : Type} {f : α → List β} {xs : List α} {i : Nat} {x : α} (h : xs[i]? = some x) : xs.flatMap f = (xs.take i).flatMap f ++ f x ++ (xs.drop (i + 1)).flatMap f := by
  obtain ⟨hi, rfl⟩ := List.getElem?_eq_some_iff.mp h
  have e := (List.take_append_drop i xs).symm
  rw [List.drop_eq_getElem_cons hi] at e
  exact (congrArg (List.flatMap f) e).trans (by rw [List.flatMap_append, List.flatMap_cons, List.append_assoc])
theorem flat_take {α β : Type} {f : α → List β} {xs : List α} {i : Nat} {x : α} (h : xs[i]? = some x) : (xs.take (i + 1)).flatMap f = (xs.take i).flatMap f ++ f x := by
  rw [List.take_add_one, h]
  simp
abbrev Ta := Addr × Addr × Addr
def ta3 (f : Ta) : List Addr := [f.1, f.2.1, f.2.2]
structure Fp where
  d : Addr
  o : Addr
  ts : List Ta
def Fp.all (x : Addr) (F : Fp) : List Addr := x :: F.d :: F.o :: F.ts.flatMap ta3
def lmF (A : Ad) (dv : LV) (n : Nat) (ord : Bool) (ts : List Ta) (d o : Addr) : List (Str × LV) := [("does", dv), ("many", .int n), ("ordered", .bl ord), ("threads", .lst (ts.map fun f => LV.ref f.1)), ("done", .ref d), ("order", .ref o)]
structure ThsAt (A : Ad) (s : LS) (ths : List Th) (ts : List Ta) : Prop where
  len : ts.length = ths.length
  at_ : ∀ (i : Nat) (t : Th) (f : Ta), ths[i]? = some t → ts[i]? = some f → IsTh A s f.1 t f.2.1 f.2.2
structure IsLm (A : Ad) (s : LS) (x : Addr) (L : Lm) (dv : LV) (F : Fp) : Prop where
  hx : s x = some (.ins A.c_Loom (lmF A dv L.ths.length L.ord F.ts F.d F.o))
  hd : s F.d = some (.lst (L.done.map doneL))
  ho : s F.o = some (.lst (L.order.map nmL))
  ht : ThsAt A s L.ths F.ts
  nd : (F.all x).Nodup
section
variable {A : Ad} {s s' : LS} {x : Addr} {L : Lm} {dv : LV} {F : Fp}
theorem mem_ta {ts : List Ta} {i : Nat} {f : Ta} (h : ts[i]? = some f) {a : Addr} (ha : a ∈ ta3 f) : a ∈ ts.flatMap ta3 := List.mem_flatMap.mpr ⟨f, List.mem_of_getElem? h, ha⟩
theorem ThsAt.get {ths : List Th} {ts : List Ta} (h : ThsAt A s ths ts) {i : Nat} {t : Th} (e : ths[i]? = some t) : ∃ f, ts[i]? = some f ∧ IsTh A s f.1 t f.2.1 f.2.2 := by
  have hi : i < ths.length := (List.getElem?_eq_some_iff.mp e).1
  have hj : i < ts.length := by rw [h.len]; exact hi
  exact ⟨ts[i], List.getElem?_eq_getElem hj, h.at_ i t _ e (List.getElem?_eq_getElem hj)⟩
theorem ThsAt.own {ths : List Th} {ts : List Ta} {G G' : List Addr} (h : ThsAt A s ths ts) (o : Own G G' s s') (n : ∀ a ∈ ts.flatMap ta3, a ∉ G) : ThsAt A s' ths ts := ⟨h.len, fun i t f e1 e2 =>
  (h.at_ i t f e1 e2).own o (n _ (mem_ta e2 (by simp [ta3]))) (n _ (mem_ta e2 (by simp [ta3]))) (n _ (mem_ta e2 (by simp [ta3])))⟩
/-- threads lie apart -/
theorem apart {ts : List Ta} (nd : (ts.flatMap ta3).Nodup) {i j : Nat} {f g : Ta} (e1 : ts[i]? = some f) (e2 : ts[j]? = some g) (ne : i ≠ j) {a : Addr} (ha : a ∈ ta3 f) (hb : a ∈ ta3 g) : False := by
  induction ts generalizing i j with
  | nil => simp at e1
  | cons y ys ih =>
    rw [List.flatMap_cons, List.nodup_append] at nd
    cases i with
    | zero =>
      cases j with
      | zero => exact ne rfl
      | succ j =>
        simp at e1 e2
        subst e1
        exact nd.2.2 a ha a (mem_ta e2 hb) rfl
    | succ i =>
      cases j with
      | zero =>
        simp at e1 e2
        subst e2
        exact nd.2.2 a hb a (mem_ta e1 ha) rfl
      | succ j => exact ih nd.2.1 (by simpa using e1) (by simpa using e2) (fun q => ne (by rw [q]))
/-- one thread was dealt with -/
theorem ThsAt.set {ths : List Th} {ts : List Ta} (h : ThsAt A s ths ts) (nd : (ts.flatMap ta3).Nodup) {i : Nat} {f : Ta} {t' : Th} (e : ts[i]? = some f) (ht : IsTh A s' f.1 t' f.2.1 f.2.2) (o : Own (ta3 f) (ta3 f) s s') : ThsAt A s' (ths.set i t') ts := ⟨by rw [List.length_set]; exact h.len, fun j t g e1 e2 => by
  by_cases q : i = j
  · subst q
    rw [e] at e2
    cases e2
    have hi : i < ths.length := by rw [← h.len]; exact (List.getElem?_eq_some_iff.mp e).1
    rw [List.getElem?_set_self hi] at e1
    cases e1
    exact ht
  · rw [List.getElem?_set_ne q] at e1
    exact (h.at_ j t g e1 e2).own o (fun z => apart nd e e2 q z (by simp [ta3])) (fun z => apart nd e e2 q z (by simp [ta3])) (fun z => apart nd e e2 q z (by simp [ta3]))⟩
theorem IsLm.own {G G' : List Addr} (h : IsLm A s x L dv F) (o : Own G G' s s') (n : ∀ a ∈ F.all x, a ∉ G) : IsLm A s' x L dv F :=
  ⟨o.at (n _ (by simp [Fp.all])) h.hx, o.at (n _ (by simp [Fp.all])) h.hd, o.at (n _ (by simp [Fp.all])) h.ho, h.ht.own o fun a ha => n a (by simp only [Fp.all, List.mem_cons]; exact .inr (.inr (.inr ha))), h.nd⟩
theorem IsLm.ext (h : IsLm A s x L dv F) (o : Ext s s') : IsLm A s' x L dv F := ⟨o _ _ h.hx, o _ _ h.hd, o _ _ h.ho, ⟨h.ht.len, fun i t f e1 e2 => (h.ht.at_ i t f e1 e2).ext o⟩, h.nd⟩
theorem IsLm.nd3 (h : IsLm A s x L dv F) : (F.ts.flatMap ta3).Nodup := by
  have := h.nd
  simp only [Fp.all, List.nodup_cons] at this
  exact this.2.2.2
theorem IsLm.xd (h : IsLm A s x L dv F) : x ≠ F.d := by have := h.nd; simp only [Fp.all, List.nodup_cons, List.mem_cons, not_or] at this; exact this.1.1
theorem IsLm.xo (h : IsLm A s x L dv F) : x ≠ F.o := by have := h.nd; simp only [Fp.all, List.nodup_cons, List.mem_cons, not_or] at this; exact this.1.2.1
theorem IsLm.do' (h : IsLm A s x L dv F) : F.d ≠ F.o := by have := h.nd; simp only [Fp.all, List.nodup_cons, List.mem_cons, not_or] at this; exact this.2.1.1
theorem IsLm.xt (h : IsLm A s x L dv F) : x ∉ F.ts.flatMap ta3 := by have := h.nd; simp only [Fp.all, List.nodup_cons, List.mem_cons, not_or] at this; exact this.1.2.2
theorem IsLm.dt (h : IsLm A s x L dv F) : F.d ∉ F.ts.flatMap ta3 := by have := h.nd; simp only [Fp.all, List.nodup_cons, List.mem_cons, not_or] at this; exact this.2.1.2
theorem IsLm.ot (h : IsLm A s x L dv F) : F.o ∉ F.ts.flatMap ta3 := by have := h.nd; simp only [Fp.all, List.nodup_cons, List.mem_cons, not_or] at this; exact this.2.2.1
theorem Own.mono {F F' G G' : List Addr} (h : Own F F' s s') (h1 : ∀ a ∈ F, a ∈ G) (h2 : ∀ a ∈ G', a ∈ F' ∨ a ∈ G) : Own G G' s s' := fun a n e => by
  obtain ⟨e1, n1⟩ := h a (fun q => n (h1 a q)) e
  exact ⟨e1, fun q => (h2 a q).elim n1 n⟩
theorem Own.wide {F G G' : List Addr} (h : Own G G' s s') : Own (F ++ G) (F ++ G') s s' := fun a n e => by
  obtain ⟨e1, n1⟩ := h a (fun q => n (List.mem_append_right _ q)) e
  exact ⟨e1, fun q => (List.mem_append.mp q).elim (fun q => n (List.mem_append_left _ q)) n1⟩
theorem Own.grow {F G : List Addr} (h : Own F F s s') (i : ∀ a ∈ F, a ∈ G) : Own G G s s' := fun a n e => ⟨(h a (fun q => n (i a q)) e).1, n⟩
/-- a thread of a loom was dealt with -/
theorem IsLm.setT (h : IsLm A s x L dv F) {i : Nat} {f : Ta} {t' : Th} (e : F.ts[i]? = some f) (ht : IsTh A s' f.1 t' f.2.1 f.2.2) (o : Own (ta3 f) (ta3 f) s s') : IsLm A s' x { L with ths := L.ths.set i t' } dv F := by
  have n1 : x ∉ ta3 f := fun q => h.xt (mem_ta e q)
  have n2 : F.d ∉ ta3 f := fun q => h.dt (mem_ta e q)
  have n3 : F.o ∉ ta3 f := fun q => h.ot (mem_ta e q)
  refine ⟨?_, o.at n2 h.hd, o.at n3 h.ho, h.ht.set h.nd3 e ht o, h.nd⟩
  rw [o.at n1 h.hx]
  simp
theorem IsLm.put_o (h : IsLm A s x L dv F) (l : List Nm) : IsLm A (put s F.o (.lst (l.map nmL))) x { L with order := l } dv F := by
  have o : Own [F.o] [F.o] s (put s F.o (.lst (l.map nmL))) := own_of (fun a ha _ => put_ne (by simpa using ha)) (by simp)
  exact ⟨o.at (by simp; exact h.xo) h.hx, o.at (by simp; exact h.do') h.hd, put_same, h.ht.own o fun a ha q => h.ot (by simp at q; exact q ▸ ha), h.nd⟩
theorem IsLm.put_d (h : IsLm A s x L dv F) (l : List (Row × Int)) : IsLm A (put s F.d (.lst (l.map doneL))) x { L with done := l } dv F := by
  have o : Own [F.d] [F.d] s (put s F.d (.lst (l.map doneL))) := own_of (fun a ha _ => put_ne (by simpa using ha)) (by simp)
  exact ⟨o.at (by simp; exact h.xd) h.hx, put_same, o.at (by simp; exact Ne.symm h.do') h.ho, h.ht.own o fun a ha q => h.dt (by simp at q; exact q ▸ ha), h.nd⟩
theorem seqL_put {v : LV} {l : List LV} {y : Addr} {o : LO} (h : seqL v s = some l) (n : s y = none) : seqL v (put s y o) = some l := by
  rcases seqL_cases h with rfl | ⟨a, rfl, e⟩
  · rfl
  · have na : a ≠ y := by rintro rfl; rw [e] at n; cases n
    simp only [seqL, put_ne na, e]
theorem seqL_own {v : LV} {l : List LV} {G G' : List Addr} (h : seqL v s = some l) (o : Own G G' s s') (n : ∀ a, v = .ref a → a ∉ G) : seqL v s' = some l := by
  rcases seqL_cases h with rfl | ⟨a, rfl, e⟩
  · rfl
  · simp only [seqL, o.at (n a rfl) e]
theorem IsLm.ths (h : IsLm A s x L dv F) {i : Nat} {f : Ta} (e : F.ts[i]? = some f) {a : Addr} (ha : a ∈ ta3 f) : a ∈ F.all x := by
  simp only [Fp.all, List.mem_cons]
  exact .inr (.inr (.inr (mem_ta e ha)))
theorem ThsAt.held {ths : List Th} {ts : List Ta} (h : ThsAt A s ths ts) {a : Addr} (ha : a ∈ ts.flatMap ta3) : s a ≠ none := by
  obtain ⟨f, hf, ha⟩ := List.mem_flatMap.mp ha
  obtain ⟨i, hi⟩ := List.getElem?_of_mem hf
  have hl : i < ths.length := by rw [← h.len]; exact (List.getElem?_eq_some_iff.mp hi).1
  have ht := h.at_ i _ f (List.getElem?_eq_getElem hl) hi
  simp only [ta3, List.mem_cons, List.not_mem_nil, or_false] at ha
  rcases ha with rfl | rfl | rfl
  · rw [ht.hx]; simp
  · rw [ht.hd]; simp
  · rw [ht.hw]; simp
theorem IsLm.held (h : IsLm A s x L dv F) {a : Addr} (ha : a ∈ F.all x) : s a ≠ none := by
  simp only [Fp.all, List.mem_cons] at ha
  rcases ha with rfl | rfl | rfl | ha
  · rw [h.hx]; simp
  · rw [h.hd]; simp
  · rw [h.ho]; simp
  · exact h.ht.held ha
theorem own_fresh {G : List Addr} {p : Addr} {o : LO} (h : s p = none) : Own G G s (put s p o) := own_of (fun b _ hb => put_ne (by rintro rfl; exact hb h)) fun b hb => .inl hb
theorem sub_own {p : Addr} {o : LO} (n : s p = none) (h : Own [p] [p] s s') (e : s' p = some o) : Sub (put s p o) s' := fun a => by
  by_cases q : a = p
  · subst q; rw [put_same, e]; exact .inr rfl
  · rw [put_ne q]
    by_cases z : s a = none
    · exact .inl z
    · exact .inr (h a (by simpa using q) z).1.symm
theorem IsLm.fresh (h : IsLm A s x L dv F) {p : Addr} (n : s p = none) : ∀ a ∈ F.all x, a ∉ [p] := fun a ha q => by
  rw [List.mem_singleton] at q
  subst q
  exact h.held ha n
theorem ThsAt.zip {ths : List Th} {ts : List Ta} (h : ThsAt A s ths ts) : ts.map (fun f => LV.ref f.1) = (ts.zip ths).map fun p => LV.ref p.1.1 := by
  have e : (ts.zip ths).map (fun p => LV.ref p.1.1) = ((ts.zip ths).map Prod.fst).map fun f => LV.ref f.1 := by rw [List.map_map]; rfl
  rw [e, List.map_fst_zip (by rw [h.len]; exact Nat.le_refl _)]
theorem ThsAt.zip2 {ths : List Th} {ts : List Ta} (h : ThsAt A s ths ts) {β : Type} (g : Th → β) : (ts.zip ths).map (fun p => g p.2) = ths.map g := by
  have e : (ts.zip ths).map (fun p => g p.2) = ((ts.zip ths).map Prod.snd).map g := by rw [List.map_map]; rfl
  rw [e, List.map_snd_zip (by rw [h.len]; exact Nat.le_refl _)]
theorem ThsAt.mem {ths : List Th} {ts : List Ta} (h : ThsAt A s ths ts) {p : Ta × Th} (hp : p ∈ ts.zip ths) : IsTh A s p.1.1 p.2 p.1.2.1 p.1.2.2 ∧ p.2 ∈ ths := by
  obtain ⟨i, hi⟩ := List.getElem?_of_mem hp
  obtain ⟨f, t⟩ := p
  rw [List.getElem?_zip_eq_some] at hi
  exact ⟨h.at_ i t f hi.2 hi.1, List.mem_of_getElem? hi.2⟩
theorem own_put {G : List Addr} {a : Addr} {o : LO} (h : a ∈ G) : Own G G s (put s a o) := own_of (fun b hb _ => put_ne (by rintro rfl; exact hb h)) fun b hb => .inl hb
end
end Law

namespace Law
open PySem PySem.Spec L2 L3
local macro_rules
  | `(tactic| simp_arith) => `(tactic| ((conv => whnf); repeat ((first | with_reducible refine ifTT ?_ | with_reducible refine ifFF ?_ | with_reducible refine ifnT ?_ | with_reducible refine ifnF ?_ | with_reducible refine ifTr ?_ | with_reducible refine ifFr ?_ | (with_reducible refine And.intro ?_ ?_; · (first | with_reducible rfl | with_reducible exact ⟨rfl, rfl⟩ | decide | omega | (dsimp only; decide) | (dsimp only; omega) | (unfold CDiv; omega) | (unfold CPow; decide) | (unfold CMul; omega) | (simp only [List.length_cons, List.length_nil]; omega)))); conv => whnf)))
local macro_rules
  | `(tactic| simp_arith [$ls,*]) => `(tactic| ((conv => whnf); repeat ((first | with_reducible refine ifTT ?_ | with_reducible refine ifFF ?_ | with_reducible refine ifnT ?_ | with_reducible refine ifnF ?_ | with_reducible refine ifTr ?_ | with_reducible refine ifFr ?_ | (with_reducible refine And.intro ?_ ?_; · (first | with_reducible rfl | with_reducible exact ⟨rfl, rfl⟩ | decide | omega | (dsimp only; decide) | (dsimp only; omega) | (unfold CDiv; omega) | (unfold CPow; decide) | (unfold CMul; omega) | (simp only [List.length_cons, List.length_nil]; omega) | (simp only [Option.isSome_some]; done) | (simp only [meth_ref, put_same', seqL_ref, $ls,*]; first | done | exact ⟨rfl, rfl⟩ | exact ⟨trivial, rfl⟩ | rfl))) | (simp (decide := true) only [put_same', put_put, decF, decT, Bool.not_true, Bool.not_false, putL_nil, putL_cons, if_true, if_false, seqR_ref, seqL_ref, lenL_ref, dicK_ref, dicT_ref, dat_ref, dat_non, dat_bl, dat_int, dat_str, dat_lst, dat_tup, datV_non, datV_bl, datV_int, datV_str, datV_lst, datV_tup, datVs_nil, datVs_cons, tyAt_ref, opt_some, Option.map_some, Option.bind_some, dv_ints, dv_bls, dv_nms, dv_prs, dv_nm, dt_nm, dt_pr, dv_pr, sh_int, sh_bl, sh_none, sh_nil, eqv_nil, sh_ints, sh_bls, sh_nm, sh_nms, sh_pr, sh_prs, anyI, anyN, anyP, eqv_int, eqv_bl, eqv_ints, eqv_bls, eqv_nms, eqv_prs, eqv_nm, eqv_pr, $ls,*])); conv => whnf)))

section
variable {P : Program} {w : World} {K : PySem.W.Frag} [GG K] {mg : Str → Option Value} {base : Heap} {A : Ad} {D : Fd}
def Th.early (t : Th) (p : Int) : List Int := t.wr.filter fun q => decide (q ≤ p)
def Th.throw (t : Th) (p : Int) : Th := match (t.early p).getLast? with
  | none => t
  | some l => { t with wr := t.wr.filter fun q => decide (l ≤ q) }
def spThrow (A : Ad) : LSp := fun vs s Q E => ∃ x t d w p, vs = [.ref x, .int p] ∧ IsTh A s x t d w ∧ t.wr.length ≤ 16777216 ∧ ∀ s' w', IsTh A s' x (t.throw p) d w' → Own [x, d, w] [x, d, w'] s s' → Q .non s'
theorem last_cases (xs : List Int) : xs = [] ∨ ∃ ys l, xs = ys ++ [l] := by
  cases e : xs.getLast? with
  | none => exact .inl (List.getLast?_eq_none_iff.mp e)
  | some l =>
    obtain ⟨ys, h⟩ := List.getLast?_eq_some_iff.mp e
    exact .inr ⟨ys, l, h⟩
end

section
variable {t : Th}
theorem Th.Ok.min (h : t.Ok) : ∀ w ∈ t.wr, t.wr.headD 0 ≤ w := fun w hw => by
  have := h.asc
  cases e : t.wr with
  | nil => rw [e] at hw; cases hw
  | cons a l =>
    rw [e, List.pairwise_cons] at this
    rw [e, List.mem_cons] at hw
    rcases hw with rfl | hw
    · exact Int.le_refl _
    · have := this.1 w hw
      show a ≤ w
      omega
theorem Th.Ok.head_le (h : t.Ok) {p : Int} (hp : p ∈ t.points) : t.wr.headD 0 ≤ p := by
  unfold Th.points at hp
  split at hp
  · simp only [List.mem_map, List.mem_range] at hp
    obtain ⟨i, hi, rfl⟩ := hp
    omega
  · exact h.min p hp
theorem Th.memw (hw : t.hab.writes = true) (x : Int) : x ∈ t.points ↔ t.wr.headD 0 ≤ x ∧ x ≤ t.here - t.pile := by
  unfold Th.points
  rw [if_pos hw]
  simp only [List.mem_map, List.mem_range]
  constructor
  · rintro ⟨i, hi, rfl⟩; omega
  · intro h; exact ⟨(x - t.wr.headD 0).toNat, by omega, by omega⟩
theorem Th.memn (hw : ¬ t.hab.writes = true) (x : Int) : x ∈ t.points ↔ x ∈ t.wr := by
  unfold Th.points
  rw [if_neg hw]
theorem Th.Ok.pne (h : t.Ok) : t.points ≠ [] := by
  have hh := h.head
  by_cases hw : t.hab.writes = true
  · have := (h.pile hw).2 _ hh
    have := (Th.memw hw _).mpr ⟨Int.le_refl _, this⟩
    intro e; rw [e] at this; cases this
  · have := (Th.memn hw _).mpr hh
    intro e; rw [e] at this; cases this
theorem Th.Ok.pasc (h : t.Ok) : t.points.Pairwise (· < ·) := by
  unfold Th.points
  split
  · rw [List.pairwise_map]
    refine List.Pairwise.imp ?_ List.pairwise_lt_range
    intro a b hab
    omega
  · exact h.asc
theorem Th.Ok.plen (h : t.Ok) : t.points.length ≤ t.done.length + 1 + t.wr.length := by
  unfold Th.points
  split
  · next hw =>
    have h1 := (h.pile hw).1
    have h2 := (h.rng _ h.head).1
    rw [List.length_map, List.length_range]
    unfold Th.here
    omega
  · omega
theorem cut_ok (hok : t.Ok) {p : Int} (hp : p ∈ t.points ∨ p = t.here) : (t.cut p).Ok ∧ (t.cut p).here = p := by
  have h0 := hok.rng _ hok.head
  have hpp : 0 ≤ p ∧ p ≤ t.here := by
    rcases hp with hp | rfl
    · exact hok.pt hp
    · exact ⟨by unfold Th.here; omega, Int.le_refl _⟩
  have hhd : t.wr.headD 0 ≤ p := by
    rcases hp with hp | rfl
    · exact hok.head_le hp
    · exact h0.2
  have hh : (t.cut p).here = p := by
    show ((t.done.take p.toNat).length : Int) = p
    rw [List.length_take]
    have := hpp.2
    unfold Th.here at this
    omega
  have hmem : ∀ q, q ∈ (t.cut p).wr ↔ q ∈ t.wr ∧ q ≤ p := fun q => by
    show q ∈ t.wr.filter _ ↔ _
    rw [List.mem_filter]; simp
  refine ⟨⟨?_, hok.asc.sublist (List.filter_sublist ..), fun q hq => ?_, fun hw => ⟨Int.le_refl 0, fun q hq => ?_⟩⟩, hh⟩
  · intro e
    have := (hmem (t.wr.headD 0)).mpr ⟨hok.head, hhd⟩
    rw [e] at this; cases this
  · rw [hh]
    have h1 := (hmem q).mp hq
    exact ⟨(hok.rng q h1.1).1, h1.2⟩
  · rw [hh]
    show q ≤ p - 0
    have h1 := (hmem q).mp hq
    omega
theorem cut_head (hok : t.Ok) {p : Int} (h : t.wr.headD 0 ≤ p) : (t.cut p).wr.headD 0 = t.wr.headD 0 := by
  show (t.wr.filter fun q => decide (q ≤ p)).headD 0 = _
  cases e : t.wr with
  | nil => exact absurd e hok.ne
  | cons a r =>
    rw [e] at h
    rw [List.filter_cons_of_pos (by simpa using h)]
    rfl
/-- points stay behind deeds, writings, goings back beyond them, throwings away -/
theorem pts_do (hok : t.Ok) (hb : ∀ n, t.hab = .bundle n → 1 ≤ n) (e : Ev) {q : Int} (hq : q ∈ t.points) : q ∈ (t.do e).points := by
  by_cases hw : t.hab.writes = true
  · rw [Th.memw hw] at hq
    rw [Th.memw (t := t.do e) hw]
    refine ⟨hq.1, ?_⟩
    have hh : (t.do e).here = t.here + 1 := by simp [Th.do, Th.here]
    have hp := (hok.pile hw).1
    show q ≤ (t.do e).here - t.hab.piled t.pile
    rw [hh]
    cases e1 : t.hab with
    | never => rw [e1] at hw; cases hw
    | each => simp only [Hb.piled]; omega
    | bundle n => simp only [Hb.piled]; split <;> omega
  · rw [Th.memn hw] at hq
    rw [Th.memn (t := t.do e) hw]
    exact hq
theorem pts_write (hok : t.Ok) {q : Int} (hq : q ∈ t.points) : q ∈ t.write.points := by
  by_cases hw : t.hab.writes = true
  · rw [Th.memw hw] at hq
    rw [Th.memw (t := t.write) hw]
    have hp := (hok.pile hw).1
    refine ⟨?_, ?_⟩
    · have : t.write.wr.headD 0 = t.wr.headD 0 := by
        simp only [Th.write]
        split
        · rfl
        · cases e : t.wr with
          | nil => exact absurd e hok.ne
          | cons a r => rfl
      rw [this]; exact hq.1
    · show q ≤ t.here - (if t.hab.writes = true then 0 else t.pile)
      rw [if_pos hw]; omega
  · rw [Th.memn hw] at hq
    rw [Th.memn (t := t.write) hw]
    simp only [Th.write]
    split
    · exact hq
    · exact List.mem_append_left _ hq
theorem pts_cut (hok : t.Ok) {p q : Int} (hp : p ∈ t.points ∨ p = t.here) (hq : q ∈ t.points) (hle : q ≤ p) : q ∈ (t.cut p).points := by
  by_cases hw : t.hab.writes = true
  · rw [Th.memw (t := t.cut p) hw, (cut_ok hok hp).2, cut_head hok (Int.le_trans (hok.head_le hq) hle)]
    exact ⟨hok.head_le hq, by show q ≤ p - 0; omega⟩
  · rw [Th.memn hw] at hq
    rw [Th.memn (t := t.cut p) hw]
    show q ∈ t.wr.filter _
    rw [List.mem_filter]
    exact ⟨hq, by simpa using hle⟩
theorem throw_at (t : Th) (p : Int) : (t.early p = [] ∧ t.throw p = t) ∨ ∃ l, l ∈ t.early p ∧ (t.wr.Pairwise (· < ·) → ∀ q ∈ t.early p, q ≤ l) ∧ t.throw p = { t with wr := t.wr.filter fun q => decide (l ≤ q) } := by
  rcases last_cases (t.early p) with e | ⟨ys, l, e⟩
  · exact .inl ⟨e, by unfold Th.throw; rw [e]; rfl⟩
  · refine .inr ⟨l, by rw [e]; simp, fun ha q hq => ?_, by unfold Th.throw; rw [e]; simp⟩
    have h1 : (t.early p).Pairwise (· < ·) := ha.sublist (List.filter_sublist ..)
    rw [e] at h1 hq
    rw [List.pairwise_append] at h1
    rw [List.mem_append] at hq
    rcases hq with hq | hq
    · exact Int.le_of_lt (h1.2.2 q hq l (by simp))
    · simp at hq; omega
theorem early_mem {p q : Int} : q ∈ t.early p ↔ q ∈ t.wr ∧ q ≤ p := by unfold Th.early; rw [List.mem_filter]; simp
theorem throw_fields (t : Th) (p : Int) : (t.throw p).start = t.start ∧ (t.throw p).hab = t.hab ∧ (t.throw p).done = t.done ∧ (t.throw p).pile = t.pile := by
  rcases throw_at t p with ⟨_, e⟩ | ⟨l, _, _, e⟩ <;> rw [e] <;> exact ⟨rfl, rfl, rfl, rfl⟩
theorem throw_mem (hok : t.Ok) (p : Int) : ∀ q, q ∈ (t.throw p).wr ↔ q ∈ t.wr ∧ (t.throw p).wr.headD 0 ≤ q := fun q => by
  rcases throw_at t p with ⟨_, e⟩ | ⟨l, h1, h2, e⟩
  · rw [e]
    exact ⟨fun h => ⟨h, hok.min q h⟩, fun h => h.1⟩
  · rw [e]
    show q ∈ t.wr.filter _ ↔ q ∈ t.wr ∧ (t.wr.filter _).headD 0 ≤ q
    have hl : l ∈ t.wr := (early_mem.mp h1).1
    have hd : (t.wr.filter fun q => decide (l ≤ q)).headD 0 = l := by
      have hm : l ∈ t.wr.filter fun q => decide (l ≤ q) := by rw [List.mem_filter]; exact ⟨hl, by simp⟩
      have ha : (t.wr.filter fun q => decide (l ≤ q)).Pairwise (· < ·) := hok.asc.sublist (List.filter_sublist ..)
      cases e1 : t.wr.filter fun q => decide (l ≤ q) with
      | nil => rw [e1] at hm; cases hm
      | cons a r =>
        have h3 : a ∈ t.wr.filter fun q => decide (l ≤ q) := by rw [e1]; simp
        rw [List.mem_filter] at h3
        have h4 : l ≤ a := by simpa using h3.2
        rw [e1] at hm ha
        rw [List.pairwise_cons] at ha
        rw [List.mem_cons] at hm
        rcases hm with rfl | hm
        · rfl
        · have := ha.1 l hm
          omega
    rw [hd, List.mem_filter]
    simp
theorem throw_ok (hok : t.Ok) (p : Int) : (t.throw p).Ok := by
  obtain ⟨f1, f2, f3, f4⟩ := throw_fields t p
  have hm := throw_mem hok p
  have hh : (t.throw p).here = t.here := by unfold Th.here; rw [f3]
  refine ⟨?_, ?_, fun q hq => ?_, fun hw => ?_⟩
  · rcases throw_at t p with ⟨_, e⟩ | ⟨l, h1, h2, e⟩
    · rw [e]; exact hok.ne
    · rw [e]
      intro e1
      have : l ∈ t.wr.filter fun q => decide (l ≤ q) := by rw [List.mem_filter]; exact ⟨(early_mem.mp h1).1, by simp⟩
      rw [show (t.wr.filter fun q => decide (l ≤ q)) = [] from e1] at this
      cases this
  · rcases throw_at t p with ⟨_, e⟩ | ⟨l, h1, h2, e⟩
    · rw [e]; exact hok.asc
    · rw [e]; exact hok.asc.sublist (List.filter_sublist ..)
  · rw [hh]; exact hok.rng q ((hm q).mp hq).1
  · rw [f2] at hw
    rw [f4, hh]
    exact ⟨(hok.pile hw).1, fun q hq => (hok.pile hw).2 q ((hm q).mp hq).1⟩
theorem throw_pts (hok : t.Ok) (p : Int) : ∀ x, x ∈ (t.throw p).points ↔ x ∈ t.points ∧ (t.throw p).wr.headD 0 ≤ x := fun x => by
  obtain ⟨f1, f2, f3, f4⟩ := throw_fields t p
  have hh : (t.throw p).here = t.here := by unfold Th.here; rw [f3]
  have hok' := throw_ok hok p
  have hm := throw_mem hok p
  by_cases hw : t.hab.writes = true
  · rw [Th.memw (t := t.throw p) (by rw [f2]; exact hw), Th.memw hw, hh, f4]
    have := hok.min _ ((hm _).mp hok'.head).1
    constructor
    · intro h; exact ⟨⟨by omega, h.2⟩, h.1⟩
    · intro h; exact ⟨h.2, h.1.2⟩
  · rw [Th.memn (t := t.throw p) (by rw [f2]; exact hw), Th.memn hw]
    exact hm x
theorem throw_keep (hok : t.Ok) {p : Int} (hp : p ∈ t.points) : p ∈ (t.throw p).points := by
  rw [throw_pts hok p]
  refine ⟨hp, ?_⟩
  rcases throw_at t p with ⟨_, e⟩ | ⟨l, h1, h2, e⟩
  · rw [e]; exact hok.head_le hp
  · have hl := early_mem.mp h1
    have hlm : l ∈ (t.throw p).wr := by rw [e]; show l ∈ t.wr.filter _; rw [List.mem_filter]; exact ⟨hl.1, by simp⟩
    have := (throw_ok hok p).min l hlm
    omega
end
end Law

namespace Law
open PySem PySem.Spec L2 L3
local macro_rules
  | `(tactic| simp_arith) => `(tactic| ((conv => whnf); repeat ((first | with_reducible refine ifTT ?_ | with_reducible refine ifFF ?_ | with_reducible refine ifnT ?_ | with_reducible refine ifnF ?_ | with_reducible refine ifTr ?_ | with_reducible refine ifFr ?_ | (with_reducible refine And.intro ?_ ?_; · (first | with_reducible rfl | with_reducible exact ⟨rfl, rfl⟩ | decide | omega | (dsimp only; decide) | (dsimp only; omega) | (unfold CDiv; omega) | (unfold CPow; decide) | (unfold CMul; omega) | (simp only [List.length_cons, List.length_nil]; omega)))); conv => whnf)))
local macro_rules
  | `(tactic| simp_arith [$ls,*]) => `(tactic| ((conv => whnf); repeat ((first | with_reducible refine ifTT ?_ | with_reducible refine ifFF ?_ | with_reducible refine ifnT ?_ | with_reducible refine ifnF ?_ | with_reducible refine ifTr ?_ | with_reducible refine ifFr ?_ | (with_reducible refine And.intro ?_ ?_; · (first | with_reducible rfl | with_reducible exact ⟨rfl, rfl⟩ | decide | omega | (dsimp only; decide) | (dsimp only; omega) | (unfold CDiv; omega) | (unfold CPow; decide) | (unfold CMul; omega) | (simp only [List.length_cons, List.length_nil]; omega) | (simp only [Option.isSome_some]; done) | (simp only [meth_ref, put_same', seqL_ref, $ls,*]; first | done | exact ⟨rfl, rfl⟩ | exact ⟨trivial, rfl⟩ | rfl))) | (simp (decide := true) only [put_same', put_put, decF, decT, Bool.not_true, Bool.not_false, putL_nil, putL_cons, if_true, if_false, seqR_ref, seqL_ref, lenL_ref, dicK_ref, dicT_ref, dat_ref, dat_non, dat_bl, dat_int, dat_str, dat_lst, dat_tup, datV_non, datV_bl, datV_int, datV_str, datV_lst, datV_tup, datVs_nil, datVs_cons, tyAt_ref, opt_some, Option.map_some, Option.bind_some, dv_ints, dv_bls, dv_nms, dv_prs, dv_nm, dt_nm, dt_pr, dv_pr, sh_int, sh_bl, sh_none, sh_nil, eqv_nil, sh_ints, sh_bls, sh_nm, sh_nms, sh_pr, sh_prs, anyI, anyN, anyP, eqv_int, eqv_bl, eqv_ints, eqv_bls, eqv_nms, eqv_prs, eqv_nm, eqv_pr, $ls,*])); conv => whnf)))

def evAt (ths : List Th) (i j : Nat) : Option Ev := (ths[i]?).bind fun t => t.done[j]?
theorem evAt_some {ths : List Th} {i j : Nat} {e : Ev} : evAt ths i j = some e ↔ ∃ t, ths[i]? = some t ∧ t.done[j]? = some e := by
  unfold evAt
  cases h : ths[i]? with
  | none => simp
  | some t => simp
def SentL (ths : List Th) (n : Nm) (l : Int × Int) : Prop := ∃ (i j k : Nat) (e : Ev), evAt ths i j = some e ∧ e.sent[k]? = some l ∧ n = ⟨i, (j : Int) + 1, k⟩
def UsedAt (ths : List Th) (n : Nm) (i : Nat) (u : Int) : Prop := ∃ (j : Nat) (e : Ev), evAt ths i j = some e ∧ e.used = some n ∧ u = (j : Int) + 1
theorem SentL.fn {ths : List Th} {n : Nm} {l l' : Int × Int} (h : SentL ths n l) (h' : SentL ths n l') : l = l' := by
  obtain ⟨i, j, k, e, h1, h2, rfl⟩ := h
  obtain ⟨i', j', k', e', h1', h2', en⟩ := h'
  simp only [Nm.mk.injEq] at en
  obtain ⟨e1, e2, e3⟩ := en
  obtain rfl : i = i' := by omega
  obtain rfl : j = j' := by omega
  obtain rfl : k = k' := by omega
  rw [h1] at h1'; cases h1'
  rw [h2] at h2'; exact Option.some.inj h2'
theorem putA_val {β : Type} {m : List (Nm × β)} {k : Nm} {x : β} {p : Nm × β} (h : p ∈ putA m k x) : p ∈ m ∨ p = (k, x) := by
  unfold putA at h
  split at h
  · obtain ⟨q, hq, e⟩ := List.mem_map.mp h
    by_cases z : q.1 = k
    · rw [if_pos z] at e
      right
      rw [← e, z]
    · rw [if_neg z] at e
      left
      rw [← e]; exact hq
  · rw [List.mem_append, List.mem_singleton] at h
    exact h
theorem putAll_val {β : Type} {l : List (Nm × β)} : ∀ {m : List (Nm × β)} {p : Nm × β}, p ∈ putAll m l → p ∈ m ∨ p ∈ l := by
  induction l with
  | nil => intro m p h; exact .inl h
  | cons a l ih =>
    intro m p h
    have e : putAll m (a :: l) = putAll (putA m a.1 a.2) l := rfl
    rw [e] at h
    rcases ih h with h | h
    · rcases putA_val h with h | h
      · exact .inl h
      · right; rw [h]; exact List.mem_cons_self
    · exact .inr (List.mem_cons_of_mem _ h)
theorem putAll_keys {β : Type} {l : List (Nm × β)} {n : Nm} : ∀ {m : List (Nm × β)}, n ∈ (putAll m l).map (·.1) ↔ n ∈ m.map (·.1) ∨ n ∈ l.map (·.1) := by
  induction l with
  | nil => intro m; simp [putAll]
  | cons p l ih =>
    intro m
    have e : putAll m (p :: l) = putAll (putA m p.1 p.2) l := rfl
    rw [e, ih, putA_mem, List.map_cons, List.mem_cons]
    constructor
    · rintro ((h | h) | h)
      · exact .inl h
      · exact .inr (.inl h)
      · exact .inr (.inr h)
    · rintro (h | h | h)
      · exact .inl (.inl h)
      · exact .inl (.inr h)
      · exact .inr h
/-- where a name has one value, the dict tells it -/
theorem putAll_mem {β : Type} {xs : List (Nm × β)} (hf : ∀ n v v', (n, v) ∈ xs → (n, v') ∈ xs → v = v') {n : Nm} {v : β} : (n, v) ∈ putAll [] xs ↔ (n, v) ∈ xs := by
  constructor
  · intro h
    rcases putAll_val h with h | h
    · cases h
    · exact h
  · intro h
    have hk : n ∈ (putAll [] xs).map (·.1) := putAll_keys.mpr (.inr (List.mem_map_of_mem (f := (·.1)) h))
    obtain ⟨⟨n', v'⟩, hp, e⟩ := List.mem_map.mp hk
    dsimp only at e
    subst e
    rcases putAll_val hp with h' | h'
    · cases h'
    · rw [hf _ _ _ h h']; exact hp
theorem putAll_get {β : Type} {xs : List (Nm × β)} (hf : ∀ n v v', (n, v) ∈ xs → (n, v') ∈ xs → v = v') {n : Nm} {v : β} : getA (putAll [] xs) n = some v ↔ (n, v) ∈ xs := by
  constructor
  · intro h; exact (putAll_mem hf).mp (getA_mem h)
  · intro h; exact getA_of (putAll_nodup (by simp)) ((putAll_mem hf).mpr h)
theorem mem_zipIdx {α : Type} {xs : List α} {p : α × Nat} : p ∈ xs.zipIdx ↔ xs[p.2]? = some p.1 := by
  obtain ⟨x, i⟩ := p
  rw [List.mem_zipIdx_iff_getElem?]
theorem sentR_mem {L : Lm} {n : Nm} {l : Int × Int} : (n, l) ∈ L.sentR ↔ SentL L.ths n l := by
  unfold Lm.sentR
  constructor
  · intro h
    obtain ⟨⟨t, i⟩, h2, h3⟩ := List.mem_flatMap.mp h
    unfold sentT at h3
    obtain ⟨⟨e, j⟩, h4, h5⟩ := List.mem_flatMap.mp h3
    unfold sentE at h5
    obtain ⟨⟨l', k⟩, h6, e2⟩ := List.mem_map.mp h5
    have g1 := mem_zipIdx.mp h2
    have g2 := mem_zipIdx.mp h4
    have g3 := mem_zipIdx.mp h6
    obtain ⟨e3, rfl⟩ := Prod.mk.inj e2
    exact ⟨i, j, k, e, evAt_some.mpr ⟨t, g1, g2⟩, g3, e3.symm⟩
  · rintro ⟨i, j, k, e, h1, h2, rfl⟩
    obtain ⟨t, h3, h4⟩ := evAt_some.mp h1
    refine List.mem_flatMap.mpr ⟨(t, i), mem_zipIdx.mpr h3, ?_⟩
    unfold sentT
    refine List.mem_flatMap.mpr ⟨(e, j), mem_zipIdx.mpr h4, ?_⟩
    unfold sentE
    exact List.mem_map.mpr ⟨(l, k), mem_zipIdx.mpr h2, rfl⟩
theorem sent_get {L : Lm} {n : Nm} {l : Int × Int} : getA L.sent n = some l ↔ SentL L.ths n l := by
  unfold Lm.sent
  rw [putAll_get (fun n v v' h h' => (sentR_mem.mp h).fn (sentR_mem.mp h')), sentR_mem]
theorem sent_mem {L : Lm} {n : Nm} {l : Int × Int} : (n, l) ∈ L.sent ↔ SentL L.ths n l := by
  unfold Lm.sent
  rw [putAll_mem (fun n v v' h h' => (sentR_mem.mp h).fn (sentR_mem.mp h')), sentR_mem]
theorem sent_key {L : Lm} {n : Nm} : n ∈ L.sent.map (·.1) ↔ ∃ l, SentL L.ths n l := by
  constructor
  · intro h
    obtain ⟨⟨m, l⟩, h1, rfl⟩ := List.mem_map.mp h
    exact ⟨l, sent_mem.mp h1⟩
  · rintro ⟨l, h⟩
    exact List.mem_map_of_mem (f := (·.1)) (sent_mem.mpr h)
theorem usedR_mem {L : Lm} {n : Nm} {u : Int} : (n, u) ∈ L.usedR ↔ ∃ i, UsedAt L.ths n i u := by
  unfold Lm.usedR
  constructor
  · intro h
    obtain ⟨t, h2, h3⟩ := List.mem_flatMap.mp h
    obtain ⟨i, hi⟩ := List.getElem?_of_mem h2
    unfold usedT at h3
    obtain ⟨⟨e, j⟩, h4, h5⟩ := List.mem_flatMap.mp h3
    unfold usedE at h5
    cases eu : e.used with
    | none => dsimp only at h5; rw [eu] at h5; cases h5
    | some m =>
      dsimp only at h5
      rw [eu, List.mem_singleton] at h5
      obtain ⟨rfl, rfl⟩ := Prod.mk.inj h5
      exact ⟨i, j, e, evAt_some.mpr ⟨t, hi, mem_zipIdx.mp h4⟩, eu, rfl⟩
  · rintro ⟨i, j, e, h1, h2, rfl⟩
    obtain ⟨t, h3, h4⟩ := evAt_some.mp h1
    refine List.mem_flatMap.mpr ⟨t, List.mem_of_getElem? h3, ?_⟩
    unfold usedT
    refine List.mem_flatMap.mpr ⟨(e, j), mem_zipIdx.mpr h4, ?_⟩
    unfold usedE
    dsimp only
    rw [h2]
    exact List.mem_singleton.mpr rfl
/-- each letter used was sent, to its user; none is used twice -/
structure UsedOk (ths : List Th) : Prop where
  sn : ∀ n i u, UsedAt ths n i u → ∃ l, SentL ths n l ∧ l.1 = (i : Int)
  fn : ∀ n i u i' u', UsedAt ths n i u → UsedAt ths n i' u' → i = i' ∧ u = u'
section
variable {L : Lm} {n : Nm} {u : Int} {i : Nat}
theorem used_mem (h : UsedOk L.ths) : (n, u) ∈ L.used ↔ ∃ i, UsedAt L.ths n i u := by
  unfold Lm.used
  rw [putAll_mem (fun n v v' h1 h2 => by
    obtain ⟨i, h1⟩ := usedR_mem.mp h1
    obtain ⟨j, h2⟩ := usedR_mem.mp h2
    exact (h.fn _ _ _ _ _ h1 h2).2), usedR_mem]
theorem used_get (h : UsedOk L.ths) : getA L.used n = some u ↔ ∃ i, UsedAt L.ths n i u := by
  unfold Lm.used
  rw [putAll_get (fun n v v' h1 h2 => by
    obtain ⟨i, h1⟩ := usedR_mem.mp h1
    obtain ⟨j, h2⟩ := usedR_mem.mp h2
    exact (h.fn _ _ _ _ _ h1 h2).2), usedR_mem]
theorem used_key : n ∈ L.used.map (·.1) ↔ ∃ i u, UsedAt L.ths n i u := by
  unfold Lm.used
  rw [putAll_keys]
  simp only [List.map_nil, List.not_mem_nil, false_or]
  constructor
  · intro h
    obtain ⟨⟨m, u⟩, h1, rfl⟩ := List.mem_map.mp h
    obtain ⟨i, h2⟩ := usedR_mem.mp h1
    exact ⟨i, u, h2⟩
  · rintro ⟨i, u, h⟩
    exact List.mem_map_of_mem (f := (·.1)) (usedR_mem.mpr ⟨i, h⟩)
end
/-- the hand to which a letter goes -/
def Lm.toOf (L : Lm) (n : Nm) : Int := ((getA L.sent n).map (·.1)).getD 0
theorem toOf_eq {L : Lm} {n : Nm} {l : Int × Int} (h : SentL L.ths n l) : L.toOf n = l.1 := by
  unfold Lm.toOf
  rw [sent_get.mpr h]
  rfl
theorem used_to {L : Lm} (h : UsedOk L.ths) {n : Nm} {i : Nat} {u : Int} (hu : UsedAt L.ths n i u) : L.toOf n = i := by
  obtain ⟨l, h1, h2⟩ := h.sn _ _ _ hu
  rw [toOf_eq h1, h2]
theorem UsedAt.pos {ths : List Th} {n : Nm} {i : Nat} {u : Int} (h : UsedAt ths n i u) : 1 ≤ u ∧ i < ths.length := by
  obtain ⟨j, e, h1, _, rfl⟩ := h
  obtain ⟨t, h2, _⟩ := evAt_some.mp h1
  exact ⟨by omega, (List.getElem?_eq_some_iff.mp h2).1⟩
theorem SentL.pos {ths : List Th} {n : Nm} {l : Int × Int} (h : SentL ths n l) : 1 ≤ n.place ∧ 0 ≤ n.hand ∧ n.hand < ths.length ∧ 0 ≤ n.k := by
  obtain ⟨i, j, k, e, h1, _, rfl⟩ := h
  obtain ⟨t, h2, _⟩ := evAt_some.mp h1
  have := (List.getElem?_eq_some_iff.mp h2).1
  exact ⟨by dsimp only; omega, by dsimp only; omega, by dsimp only; omega, by dsimp only; omega⟩
/-- a line's place of a hand -/
def lnAt (l : List Int) (i : Int) : Int := l.getD i.toNat 0
theorem lnAt_nat (l : List Int) (i : Nat) : lnAt l i = l.getD i 0 := by simp [lnAt]
theorem lnAt_get {l : List Int} {i : Nat} {v : Int} (h : l[i]? = some v) : lnAt l i = v := by rw [lnAt_nat]; simp [h]
theorem get_lnAt {l : List Int} {i : Nat} (h : i < l.length) : l[i]? = some (lnAt l i) := by rw [lnAt_nat]; simp [h]
theorem lnAt_set (l : List Int) (i a : Nat) (p : Int) (h : i < l.length) : lnAt (l.set i p) a = if a = i then p else lnAt l a := by
  rw [lnAt_nat, lnAt_nat]
  by_cases q : a = i
  · subst q; simp [h]
  · rw [if_neg q]
    simp [List.getD, List.getElem?_set_ne (Ne.symm q)]
def Lm.brkP (L : Lm) (line : List Int) (p : Nm × Int) : Bool := decide (p.2 ≤ lnAt line (L.toOf p.1) ∧ p.1.place > lnAt line p.1.hand)
/-- the letters that break a line -/
def Lm.brk (L : Lm) (line : List Int) : List Nm := sortD ((L.used.filter (L.brkP line)).map (·.1))
/-- used at or ahead of the line: sent so -/
def Sound (ths : List Th) (line : List Int) : Prop := ∀ n i u, UsedAt ths n i u → u ≤ lnAt line i → n.place ≤ lnAt line n.hand
theorem brk_mem {L : Lm} (h : UsedOk L.ths) {line : List Int} {n : Nm} : n ∈ L.brk line ↔ ∃ i u, UsedAt L.ths n i u ∧ u ≤ lnAt line i ∧ n.place > lnAt line n.hand := by
  have e : n ∈ L.brk line ↔ n ∈ (L.used.filter (L.brkP line)).map (·.1) := by unfold Lm.brk sortD; exact (List.mergeSort_perm _ _).mem_iff
  rw [e]
  constructor
  · intro hm
    obtain ⟨⟨m, u⟩, h1, rfl⟩ := List.mem_map.mp hm
    rw [List.mem_filter] at h1
    obtain ⟨i, hu⟩ := (used_mem h).mp h1.1
    have h2 := of_decide_eq_true h1.2
    rw [used_to h hu] at h2
    exact ⟨i, u, hu, h2⟩
  · rintro ⟨i, u, hu, h2⟩
    refine List.mem_map.mpr ⟨(n, u), List.mem_filter.mpr ⟨(used_mem h).mpr ⟨i, hu⟩, ?_⟩, rfl⟩
    unfold Lm.brkP
    rw [used_to h hu]
    exact decide_eq_true h2
theorem brk_nil {L : Lm} (h : UsedOk L.ths) {line : List Int} : L.brk line = [] ↔ Sound L.ths line := by
  constructor
  · intro e n i u hu hle
    have : ¬ n ∈ L.brk line := by rw [e]; simp
    rw [brk_mem h] at this
    exact Classical.byContradiction fun z => this ⟨i, u, hu, hle, by omega⟩
  · intro hs
    rw [List.eq_nil_iff_forall_not_mem]
    intro n hn
    obtain ⟨i, u, hu, h1, h2⟩ := (brk_mem h).mp hn
    have := hs n i u hu h1
    omega
/-- the greatest of those ahead -/
structure IsAhead (pts : List Int) (u p : Int) : Prop where
  mem : p ∈ pts
  lt : p < u
  max : ∀ q ∈ pts, q < u → q ≤ p
inductive Pulls (ths : List Th) (al : List (List Int)) : List Int → List Nm → List Int → Prop
  | nil (line : List Int) : Pulls ths al line [] line
  | cons {line line' : List Int} {n : Nm} {i : Nat} {u p : Int} {ns : List Nm} : UsedAt ths n i u → u ≤ lnAt line i → n.place > lnAt line n.hand → IsAhead (al.getD i []) u p → Pulls ths al (line.set i p) ns line' → Pulls ths al line (n :: ns) line'
theorem Pulls.trans {ths : List Th} {al : List (List Int)} {a b c : List Int} {xs ys : List Nm} (h : Pulls ths al a xs b) (h' : Pulls ths al b ys c) : Pulls ths al a (xs ++ ys) c := by
  induction h with
  | nil => exact h'
  | cons h1 h2 h3 h4 _ ih => exact .cons h1 h2 h3 h4 (ih h')
theorem Pulls.snoc {ths : List Th} {al : List (List Int)} {a b : List Int} {xs : List Nm} (h : Pulls ths al a xs b) {n : Nm} {i : Nat} {u p : Int} (h1 : UsedAt ths n i u) (h2 : u ≤ lnAt b i) (h3 : n.place > lnAt b n.hand) (h4 : IsAhead (al.getD i []) u p) : Pulls ths al a (xs ++ [n]) (b.set i p) :=
  h.trans (.cons h1 h2 h3 h4 (.nil _))
/-- a line of allowed points -/
structure Allowed (al : List (List Int)) (line : List Int) : Prop where
  len : line.length = al.length
  mem : ∀ i : Nat, i < al.length → lnAt line i ∈ al.getD i []
theorem Allowed.set {al : List (List Int)} {line : List Int} (h : Allowed al line) {i : Nat} {p : Int} (hp : p ∈ al.getD i []) : Allowed al (line.set i p) := by
  refine ⟨by rw [List.length_set]; exact h.len, fun a ha => ?_⟩
  by_cases hi : i < line.length
  · rw [lnAt_set _ _ _ _ hi]
    split
    · next e => rw [e]; exact hp
    · exact h.mem a ha
  · rw [List.set_eq_of_length_le (by omega)]
    exact h.mem a ha
theorem Pulls.allowed {ths : List Th} {al : List (List Int)} {a b : List Int} {xs : List Nm} (h : Pulls ths al a xs b) (ha : Allowed al a) : Allowed al b := by
  induction h with
  | nil => exact ha
  | cons _ _ _ h4 _ ih => exact ih (ha.set h4.mem)
/-- at or ahead of, place by place -/
def Le (a b : List Int) : Prop := ∀ i : Nat, i < a.length → lnAt a i ≤ lnAt b i
/-- no pulling goes beyond a sound allowed line -/
theorem Pulls.ge {ths : List Th} {al : List (List Int)} {a b c : List Int} {xs : List Nm} (h : Pulls ths al a xs b) (hl : ths.length = al.length) (hc : Allowed al c) (hs : Sound ths c) (hla : a.length = c.length) (hle : Le c a) (hsn : ∀ n i u, UsedAt ths n i u → 0 ≤ n.hand ∧ n.hand < ths.length) : Le c b := by
  induction h with
  | nil => exact hle
  | @cons line line' n i u p ns h1 h2 h3 h4 _ ih =>
    refine ih (by rw [List.length_set]; exact hla) fun j hj => ?_
    have hi := h1.pos.2
    have hln := hc.len
    rw [lnAt_set _ _ _ _ (by omega)]
    split
    · next e =>
      subst e
      have hn := hsn _ _ _ h1
      obtain ⟨k, ek⟩ : ∃ k : Nat, n.hand = k := ⟨n.hand.toNat, by omega⟩
      have h5 := hle k (by omega)
      have h6 : lnAt c j < u := Classical.byContradiction fun z => by
        have := hs _ _ _ h1 (by omega)
        rw [ek] at this h3
        omega
      exact h4.max _ (hc.mem j (by omega)) h6
    · exact hle j hj
/-- a point ahead is there where a sound allowed line is -/
theorem ahead_there {ths : List Th} {al : List (List Int)} {line c : List Int} {n : Nm} {i : Nat} {u : Int} (h1 : UsedAt ths n i u) (h3 : n.place > lnAt line n.hand) (hl : ths.length = al.length) (hc : Allowed al c) (hs : Sound ths c) (hle : Le c line) (hn : 0 ≤ n.hand ∧ n.hand < ths.length) :
    lnAt c i ∈ al.getD i [] ∧ lnAt c i < u := by
  have hi := h1.pos.2
  have hln := hc.len
  refine ⟨hc.mem i (by omega), Classical.byContradiction fun z => ?_⟩
  obtain ⟨k, ek⟩ : ∃ k : Nat, n.hand = k := ⟨n.hand.toNat, by omega⟩
  have h5 := hle k (by omega)
  have := hs _ _ _ h1 (by omega)
  rw [ek] at this h3
  omega
/-- the greatest points -/
def tops (al : List (List Int)) : List Int := al.map fun pts => pts.getLastD 0
/-- the places to which a hand may go -/
def alwT (t : Th) (st : Bool) : List Int := if st = true ∧ t.here ∉ t.points then t.points ++ [t.here] else t.points
def alwS (ths : List Th) (fs : List Int) : List (List Int) := ths.zipIdx.map fun p => alwT p.1 (decide ((p.2 : Int) ∉ fs))
theorem alwS_get {ths : List Th} {fs : List Int} {i : Nat} {t : Th} (h : ths[i]? = some t) : (alwS ths fs).getD i [] = alwT t (decide ((i : Int) ∉ fs)) := by
  unfold alwS
  rw [List.getD_eq_getElem?_getD, List.getElem?_map, List.getElem?_zipIdx, h]
  simp
theorem alwS_len (ths : List Th) (fs : List Int) : (alwS ths fs).length = ths.length := by simp [alwS]
theorem alwT_pts {t : Th} {st : Bool} {q : Int} (h : q ∈ t.points) : q ∈ alwT t st := by
  unfold alwT
  split
  · exact List.mem_append_left _ h
  · exact h
theorem alwT_mem {t : Th} {st : Bool} {q : Int} : q ∈ alwT t st ↔ q ∈ t.points ∨ (st = true ∧ q = t.here) := by
  unfold alwT
  split
  · next h => rw [List.mem_append, List.mem_singleton]; constructor
              · rintro (q | q)
                · exact .inl q
                · exact .inr ⟨h.1, q⟩
              · rintro (q | q)
                · exact .inl q
                · exact .inr q.2
  · next h =>
    constructor
    · exact .inl
    · rintro (q | ⟨q1, q2⟩)
      · exact q
      · subst q2
        exact Classical.byContradiction fun z => h ⟨q1, z⟩
theorem alwT_le {t : Th} (hok : t.Ok) {st : Bool} {q : Int} (h : q ∈ alwT t st) : 0 ≤ q ∧ q ≤ t.here := by
  rcases alwT_mem.mp h with h | ⟨_, rfl⟩
  · exact hok.pt h
  · exact ⟨by unfold Th.here; omega, Int.le_refl _⟩
theorem alwT_asc {t : Th} (hok : t.Ok) (st : Bool) : (alwT t st).Pairwise (· < ·) := by
  unfold alwT
  split
  · next h =>
    rw [List.pairwise_append]
    refine ⟨hok.pasc, by simp, fun a ha b hb => ?_⟩
    rw [List.mem_singleton] at hb
    subst hb
    have := (hok.pt ha).2
    have : a ≠ t.here := by rintro rfl; exact h.2 ha
    omega
  · exact hok.pasc
theorem alwT_ne {t : Th} (hok : t.Ok) (st : Bool) : alwT t st ≠ [] := by
  have := hok.pne
  unfold alwT
  split
  · simp
  · exact this
theorem last_max {xs : List Int} (ha : xs.Pairwise (· < ·)) (hn : xs ≠ []) : xs.getLastD 0 ∈ xs ∧ ∀ q ∈ xs, q ≤ xs.getLastD 0 := by
  obtain ⟨ys, l, rfl⟩ : ∃ ys l, xs = ys ++ [l] := ⟨_, _, (List.dropLast_concat_getLast hn).symm⟩
  have e : (ys ++ [l]).getLastD 0 = l := by simp
  rw [e]
  refine ⟨by simp, fun q hq => ?_⟩
  rw [List.pairwise_append] at ha
  rw [List.mem_append, List.mem_singleton] at hq
  rcases hq with hq | rfl
  · exact Int.le_of_lt (ha.2.2 q hq l (by simp))
  · exact Int.le_refl _
theorem tops_at {al : List (List Int)} {i : Nat} (h : i < al.length) : lnAt (tops al) i = (al.getD i []).getLastD 0 := by
  rw [lnAt_nat]
  simp [tops, h]
theorem tops_top {ths : List Th} (hok : ∀ t ∈ ths, t.Ok) (fs : List Int) : Allowed (alwS ths fs) (tops (alwS ths fs)) ∧ ∀ c, Allowed (alwS ths fs) c → Le c (tops (alwS ths fs)) := by
  have key : ∀ i, i < (alwS ths fs).length → ((alwS ths fs).getD i []).getLastD 0 ∈ (alwS ths fs).getD i [] ∧ ∀ q ∈ (alwS ths fs).getD i [], q ≤ ((alwS ths fs).getD i []).getLastD 0 := fun i hi => by
    rw [alwS_len] at hi
    rw [alwS_get (List.getElem?_eq_getElem hi)]
    exact last_max (alwT_asc (hok _ (List.getElem_mem hi)) _) (alwT_ne (hok _ (List.getElem_mem hi)) _)
  refine ⟨⟨by simp [tops], fun i hi => by rw [tops_at hi]; exact (key i hi).1⟩, fun c hc i hi => ?_⟩
  have hi2 : i < (alwS ths fs).length := by rw [← hc.len]; exact hi
  rw [tops_at hi2]
  exact (key i hi2).2 _ (hc.mem i hi2)
/-- the greatest sound line of allowed points, and a paper -/
structure IsGr (ths : List Th) (fs : List Int) (line : List Int) (paper : List Nm) : Prop where
  pull : Pulls ths (alwS ths fs) (tops (alwS ths fs)) paper line
  snd : Sound ths line
/-- what lines need of threads -/
structure ThsOk (ths : List Th) : Prop where
  ok : ∀ t ∈ ths, t.Ok
  us : UsedOk ths
theorem ThsOk.hands {ths : List Th} (h : ThsOk ths) : ∀ n i u, UsedAt ths n i u → 0 ≤ n.hand ∧ n.hand < ths.length := fun n i u hu => by
  obtain ⟨l, h1, _⟩ := h.us.sn _ _ _ hu
  exact ⟨h1.pos.2.1, h1.pos.2.2.1⟩
theorem IsGr.allowed {ths : List Th} {fs : List Int} {line : List Int} {paper : List Nm} (g : IsGr ths fs line paper) (h : ThsOk ths) : Allowed (alwS ths fs) line := g.pull.allowed (tops_top h.ok fs).1
theorem IsGr.ge {ths : List Th} {fs : List Int} {line : List Int} {paper : List Nm} (g : IsGr ths fs line paper) (h : ThsOk ths) {c : List Int} (hc : Allowed (alwS ths fs) c) (hs : Sound ths c) : Le c line := by
  have ht := tops_top h.ok fs
  exact g.pull.ge (alwS_len _ _).symm hc hs (by rw [hc.len, ht.1.len]) (ht.2 c hc) h.hands
theorem le_anti {a b : List Int} (hl : a.length = b.length) (h : Le a b) (h' : Le b a) : a = b := by
  apply List.ext_getElem hl
  intro i h1 h2
  have e1 := h i h1
  have e2 := h' i h2
  have q1 := lnAt_get (l := a) (List.getElem?_eq_getElem h1)
  have q2 := lnAt_get (l := b) (List.getElem?_eq_getElem h2)
  omega
theorem IsGr.uniq {ths : List Th} {fs : List Int} {line line' : List Int} {paper paper' : List Nm} (g : IsGr ths fs line paper) (g' : IsGr ths fs line' paper') (h : ThsOk ths) : line = line' := by
  have a1 := g.allowed h
  have a2 := g'.allowed h
  exact le_anti (by rw [a1.len, a2.len]) (g'.ge h a1 g.snd) (g.ge h a2 g'.snd)
/-- a sound line of points -/
structure IsBase (ths : List Th) (b : List Int) : Prop where
  len : b.length = ths.length
  snd : Sound ths b
  pts : ∀ (i : Nat) t, ths[i]? = some t → lnAt b i ∈ t.points
theorem IsBase.allowed {ths : List Th} {b : List Int} (h : IsBase ths b) (fs : List Int) : Allowed (alwS ths fs) b :=
  ⟨by rw [h.len, alwS_len], fun i hi => by
    rw [alwS_len] at hi
    rw [alwS_get (List.getElem?_eq_getElem hi)]
    exact alwT_pts (h.pts i _ (List.getElem?_eq_getElem hi))⟩
/-- the sum of a line's places -/
def lnSum (l : List Int) : Nat := (l.map Int.toNat).sum
theorem lnSum_set (p : Int) : ∀ (l : List Int) (i : Nat), i < l.length → lnSum (l.set i p) + (lnAt l i).toNat = lnSum l + p.toNat
  | [], i, h => by cases h
  | a :: l, 0, _ => by simp [lnSum, lnAt]; omega
  | a :: l, i + 1, h => by
    have := lnSum_set p l i (by simpa using h)
    rw [lnAt_nat] at this ⊢
    simp only [lnSum, List.set_cons_succ, List.map_cons, List.sum_cons, List.getD_cons_succ] at this ⊢
    omega
theorem lnSum_le (k : Nat) : ∀ l : List Int, (∀ x ∈ l, x ≤ (k : Int)) → lnSum l ≤ k * l.length
  | [], _ => by simp [lnSum]
  | a :: l, h => by
    have h1 := h a List.mem_cons_self
    have h2 := lnSum_le k l fun x hx => h x (List.mem_cons_of_mem _ hx)
    simp only [lnSum, List.map_cons, List.sum_cons, List.length_cons] at h2 ⊢
    rw [Nat.mul_succ]
    omega

theorem evAt_set {ths : List Th} {i : Nat} {t t' : Th} (et : ths[i]? = some t) (a j : Nat) : evAt (ths.set i t') a j = if a = i then t'.done[j]? else evAt ths a j := by
  unfold evAt
  by_cases q : a = i
  · subst q
    rw [if_pos rfl, List.getElem?_set_self (List.getElem?_eq_some_iff.mp et).1]
    rfl
  · rw [if_neg q, List.getElem?_set_ne (Ne.symm q)]
theorem evAt_at {ths : List Th} {i : Nat} {t : Th} (et : ths[i]? = some t) (j : Nat) : evAt ths i j = t.done[j]? := by unfold evAt; rw [et]; rfl
theorem evAt_do {ths : List Th} {i : Nat} {t : Th} (et : ths[i]? = some t) (e : Ev) {a j : Nat} {x : Ev} : evAt (ths.set i (t.do e)) a j = some x ↔ evAt ths a j = some x ∨ (a = i ∧ j = t.done.length ∧ x = e) := by
  rw [evAt_set et]
  split
  · next q =>
    subst q
    rw [evAt_at et]
    show (t.done ++ [e])[j]? = some x ↔ _
    rw [List.getElem?_append]
    split
    · next h =>
      constructor
      · exact .inl
      · rintro (h2 | ⟨_, h2, _⟩)
        · exact h2
        · omega
    · next h =>
      have hn : t.done[j]? = none := List.getElem?_eq_none (by omega)
      rw [hn]
      cases e1 : j - t.done.length with
      | zero =>
        simp only [List.getElem?_cons_zero, Option.some.injEq]
        constructor
        · intro h2; exact .inr ⟨trivial, by omega, h2.symm⟩
        · rintro (h2 | ⟨_, _, h2⟩)
          · cases h2
          · exact h2.symm
      | succ k =>
        simp only [List.getElem?_cons_succ, List.getElem?_nil]
        constructor
        · intro h2; cases h2
        · rintro (h2 | ⟨_, h2, _⟩)
          · cases h2
          · omega
  · next q =>
    constructor
    · exact .inl
    · rintro (h | ⟨h, _⟩)
      · exact h
      · exact absurd h q
def EvSame (ths ths' : List Th) : Prop := ∀ i j, evAt ths' i j = evAt ths i j
theorem evSame_set {ths : List Th} {i : Nat} {t t' : Th} (et : ths[i]? = some t) (e : t'.done = t.done) : EvSame ths (ths.set i t') := fun a j => by
  rw [evAt_set et]
  split
  · next q => subst q; rw [evAt_at et, e]
  · rfl
theorem EvSame.used {ths ths' : List Th} (h : EvSame ths ths') {n : Nm} {i : Nat} {u : Int} : UsedAt ths' n i u ↔ UsedAt ths n i u := by
  unfold UsedAt
  simp only [h i]
theorem EvSame.sent {ths ths' : List Th} (h : EvSame ths ths') {n : Nm} {l : Int × Int} : SentL ths' n l ↔ SentL ths n l := by
  unfold SentL
  constructor
  · rintro ⟨i, j, k, e, h1, h2⟩; exact ⟨i, j, k, e, by rw [← h]; exact h1, h2⟩
  · rintro ⟨i, j, k, e, h1, h2⟩; exact ⟨i, j, k, e, by rw [h]; exact h1, h2⟩
theorem EvSame.usedOk {ths ths' : List Th} (h : EvSame ths ths') (u : UsedOk ths) : UsedOk ths' :=
  ⟨fun n i v hv => by obtain ⟨l, h1, h2⟩ := u.sn n i v (h.used.mp hv); exact ⟨l, h.sent.mpr h1, h2⟩, fun n i v i' v' h1 h2 => u.fn n i v i' v' (h.used.mp h1) (h.used.mp h2)⟩
theorem EvSame.sound {ths ths' : List Th} (h : EvSame ths ths') {line : List Int} (s : Sound ths line) : Sound ths' line := fun n i u hu => s n i u (h.used.mp hu)
section
variable {ths : List Th} {i : Nat} {t : Th}
theorem used_do (et : ths[i]? = some t) (e : Ev) {n : Nm} {a : Nat} {u : Int} : UsedAt (ths.set i (t.do e)) n a u ↔ UsedAt ths n a u ∨ (a = i ∧ e.used = some n ∧ u = t.here + 1) := by
  unfold UsedAt
  constructor
  · rintro ⟨j, x, h1, h2, h3⟩
    rcases (evAt_do et e).mp h1 with h1 | ⟨ha, hj, rfl⟩
    · exact .inl ⟨j, x, h1, h2, h3⟩
    · exact .inr ⟨ha, h2, by rw [h3, hj]; rfl⟩
  · rintro (⟨j, x, h1, h2, h3⟩ | ⟨rfl, h2, h3⟩)
    · exact ⟨j, x, (evAt_do et e).mpr (.inl h1), h2, h3⟩
    · exact ⟨t.done.length, e, (evAt_do et e).mpr (.inr ⟨rfl, rfl, rfl⟩), h2, h3⟩
theorem sent_do (et : ths[i]? = some t) (e : Ev) {n : Nm} {l : Int × Int} : SentL (ths.set i (t.do e)) n l ↔ SentL ths n l ∨ ∃ k : Nat, e.sent[k]? = some l ∧ n = ⟨i, t.here + 1, k⟩ := by
  unfold SentL
  constructor
  · rintro ⟨a, j, k, x, h1, h2, h3⟩
    rcases (evAt_do et e).mp h1 with h1 | ⟨rfl, rfl, rfl⟩
    · exact .inl ⟨a, j, k, x, h1, h2, h3⟩
    · exact .inr ⟨k, h2, h3⟩
  · rintro (⟨a, j, k, x, h1, h2, h3⟩ | ⟨k, h2, h3⟩)
    · exact ⟨a, j, k, x, (evAt_do et e).mpr (.inl h1), h2, h3⟩
    · exact ⟨i, t.done.length, k, e, (evAt_do et e).mpr (.inr ⟨rfl, rfl, rfl⟩), h2, h3⟩
theorem UsedOk.do (h : UsedOk ths) (et : ths[i]? = some t) (e : Ev) (hu : ∀ n, e.used = some n → (∃ l, SentL ths n l ∧ l.1 = (i : Int)) ∧ ∀ a u, ¬ UsedAt ths n a u) : UsedOk (ths.set i (t.do e)) := by
  refine ⟨fun n a u hh => ?_, fun n a u a' u' h1 h2 => ?_⟩
  · rcases (used_do et e).mp hh with h1 | ⟨rfl, h1, _⟩
    · obtain ⟨l, q1, q2⟩ := h.sn n a u h1
      exact ⟨l, (sent_do et e).mpr (.inl q1), q2⟩
    · obtain ⟨⟨l, q1, q2⟩, _⟩ := hu n h1
      exact ⟨l, (sent_do et e).mpr (.inl q1), q2⟩
  · rcases (used_do et e).mp h1 with k1 | ⟨q1, k1, q2⟩ <;> rcases (used_do et e).mp h2 with k2 | ⟨q3, k2, q4⟩
    · exact h.fn n a u a' u' k1 k2
    · exact absurd k1 ((hu n k2).2 _ _)
    · exact absurd k2 ((hu n k1).2 _ _)
    · exact ⟨q1.trans q3.symm, q2.trans q4.symm⟩
theorem IsBase.do {b : List Int} (h : IsBase ths b) (hok : t.Ok) (hb : ∀ n, t.hab = .bundle n → 1 ≤ n) (et : ths[i]? = some t) (e : Ev) : IsBase (ths.set i (t.do e)) b := by
  refine ⟨by rw [List.length_set]; exact h.len, fun n a u hu hle => ?_, fun a t2 e2 => ?_⟩
  · rcases (used_do et e).mp hu with h1 | ⟨rfl, _, rfl⟩
    · exact h.snd n a u h1 hle
    · have := (hok.pt (h.pts a t et)).2
      omega
  · by_cases q : a = i
    · subst q
      rw [List.getElem?_set_self (List.getElem?_eq_some_iff.mp et).1] at e2
      cases e2
      exact pts_do hok hb e (h.pts a t et)
    · rw [List.getElem?_set_ne (Ne.symm q)] at e2
      exact h.pts a t2 e2
theorem IsBase.same {b : List Int} {t' : Th} (h : IsBase ths b) (et : ths[i]? = some t) (e : t'.done = t.done) (hp : ∀ q ∈ t.points, q ∈ t'.points) : IsBase (ths.set i t') b := by
  refine ⟨by rw [List.length_set]; exact h.len, (evSame_set et e).sound h.snd, fun a t2 e2 => ?_⟩
  by_cases q : a = i
  · subst q
    rw [List.getElem?_set_self (List.getElem?_eq_some_iff.mp et).1] at e2
    cases e2
    exact hp _ (h.pts a t et)
  · rw [List.getElem?_set_ne (Ne.symm q)] at e2
    exact h.pts a t2 e2
end
def Th.back (t : Th) (st : Bool) (p : Int) : Th := if st = true ∧ p = t.here then t else t.cut p
def backS (ths : List Th) (fs line : List Int) : List Th := ths.zipIdx.map fun q => q.1.back (decide ((q.2 : Int) ∉ fs)) (lnAt line q.2)
theorem backS_get {ths : List Th} {fs line : List Int} {i : Nat} {t : Th} (h : ths[i]? = some t) : (backS ths fs line)[i]? = some (t.back (decide ((i : Int) ∉ fs)) (lnAt line i)) := by
  unfold backS
  rw [List.getElem?_map, List.getElem?_zipIdx, h]
  simp
theorem backS_len (ths : List Th) (fs line : List Int) : (backS ths fs line).length = ths.length := by simp [backS]
theorem backS_get' {ths : List Th} {fs line : List Int} {i : Nat} {t' : Th} (h : (backS ths fs line)[i]? = some t') : ∃ t, ths[i]? = some t ∧ t' = t.back (decide ((i : Int) ∉ fs)) (lnAt line i) := by
  have hi : i < ths.length := by rw [← backS_len ths fs line]; exact (List.getElem?_eq_some_iff.mp h).1
  refine ⟨ths[i], List.getElem?_eq_getElem hi, ?_⟩
  rw [backS_get (List.getElem?_eq_getElem hi)] at h
  exact (Option.some.inj h).symm
theorem back_done {t : Th} {st : Bool} {p : Int} (h : p ≤ t.here) : (t.back st p).done = t.done.take p.toNat := by
  unfold Th.back
  split
  · next q =>
    rw [q.2]
    unfold Th.here
    simp
  · rfl
theorem back_ok {t : Th} (hok : t.Ok) {st : Bool} {p : Int} (h : p ∈ alwT t st) : (t.back st p).Ok ∧ (t.back st p).here = p := by
  unfold Th.back
  split
  · next q => exact ⟨hok, q.2.symm⟩
  · exact cut_ok hok ((alwT_mem.mp h).imp id fun q => q.2)
section
variable {ths : List Th} {fs line : List Int}
theorem evAt_back (hok : ∀ t ∈ ths, t.Ok) (ha : Allowed (alwS ths fs) line) {i j : Nat} {e : Ev} : evAt (backS ths fs line) i j = some e ↔ evAt ths i j = some e ∧ (j : Int) + 1 ≤ lnAt line i := by
  rw [evAt_some, evAt_some]
  have key : ∀ t, ths[i]? = some t → lnAt line i ∈ alwT t (decide ((i : Int) ∉ fs)) := fun t et => by
    have hi := (List.getElem?_eq_some_iff.mp et).1
    have := ha.mem i (by rw [alwS_len]; exact hi)
    rwa [alwS_get et] at this
  have tk : ∀ t, ths[i]? = some t → ((t.back (decide ((i : Int) ∉ fs)) (lnAt line i)).done[j]? = some e ↔ t.done[j]? = some e ∧ (j : Int) + 1 ≤ lnAt line i) := fun t et => by
    have hp := alwT_le (hok t (List.mem_of_getElem? et)) (key t et)
    rw [back_done hp.2, List.getElem?_take]
    split
    · constructor
      · intro h; exact ⟨h, by omega⟩
      · exact fun h => h.1
    · constructor
      · intro h; cases h
      · intro h; omega
  constructor
  · rintro ⟨t', h1, h2⟩
    obtain ⟨t, et, rfl⟩ := backS_get' h1
    have := (tk t et).mp h2
    exact ⟨⟨t, et, this.1⟩, this.2⟩
  · rintro ⟨⟨t, et, h1⟩, h2⟩
    exact ⟨_, backS_get et, (tk t et).mpr ⟨h1, h2⟩⟩
theorem used_back (hok : ∀ t ∈ ths, t.Ok) (ha : Allowed (alwS ths fs) line) {n : Nm} {i : Nat} {u : Int} : UsedAt (backS ths fs line) n i u ↔ UsedAt ths n i u ∧ u ≤ lnAt line i := by
  unfold UsedAt
  constructor
  · rintro ⟨j, e, h1, h2, rfl⟩
    have := (evAt_back hok ha).mp h1
    exact ⟨⟨j, e, this.1, h2, rfl⟩, this.2⟩
  · rintro ⟨⟨j, e, h1, h2, rfl⟩, h3⟩
    exact ⟨j, e, (evAt_back hok ha).mpr ⟨h1, h3⟩, h2, rfl⟩
theorem sent_back (hok : ∀ t ∈ ths, t.Ok) (ha : Allowed (alwS ths fs) line) {n : Nm} {l : Int × Int} : SentL (backS ths fs line) n l ↔ SentL ths n l ∧ n.place ≤ lnAt line n.hand := by
  unfold SentL
  constructor
  · rintro ⟨i, j, k, e, h1, h2, rfl⟩
    have := (evAt_back hok ha).mp h1
    exact ⟨⟨i, j, k, e, this.1, h2, rfl⟩, this.2⟩
  · rintro ⟨⟨i, j, k, e, h1, h2, rfl⟩, h3⟩
    exact ⟨i, j, k, e, (evAt_back hok ha).mpr ⟨h1, h3⟩, h2, rfl⟩
theorem ThsOk.back (h : ThsOk ths) (ha : Allowed (alwS ths fs) line) (hs : Sound ths line) : ThsOk (backS ths fs line) := by
  refine ⟨fun t' ht => ?_, ⟨fun n i u hu => ?_, fun n i u i' u' h1 h2 => ?_⟩⟩
  · obtain ⟨i, hi⟩ := List.getElem?_of_mem ht
    obtain ⟨t, et, rfl⟩ := backS_get' hi
    have := ha.mem i (by rw [alwS_len]; exact (List.getElem?_eq_some_iff.mp et).1)
    rw [alwS_get et] at this
    exact (back_ok (h.ok t (List.mem_of_getElem? et)) this).1
  · have h1 := (used_back h.ok ha).mp hu
    obtain ⟨l, q1, q2⟩ := h.us.sn _ _ _ h1.1
    exact ⟨l, (sent_back h.ok ha).mpr ⟨q1, hs _ _ _ h1.1 h1.2⟩, q2⟩
  · exact h.us.fn _ _ _ _ _ ((used_back h.ok ha).mp h1).1 ((used_back h.ok ha).mp h2).1
theorem IsBase.back {b : List Int} (hb : IsBase ths b) (h : ∀ t ∈ ths, t.Ok) (ha : Allowed (alwS ths fs) line) (hle : Le b line) : IsBase (backS ths fs line) b := by
  refine ⟨by rw [backS_len]; exact hb.len, fun n i u hu => hb.snd n i u ((used_back h ha).mp hu).1, fun i t' e => ?_⟩
  obtain ⟨t, et, rfl⟩ := backS_get' e
  have hi := (List.getElem?_eq_some_iff.mp et).1
  have hp := ha.mem i (by rw [alwS_len]; exact hi)
  rw [alwS_get et] at hp
  have hbp := hb.pts i t et
  have hl := hle i (by rw [hb.len]; exact hi)
  unfold Th.back
  split
  · exact hbp
  · exact pts_cut (h t (List.mem_of_getElem? et)) ((alwT_mem.mp hp).imp id fun q => q.2) hbp hl
end
def Lm.back (L : Lm) (fs line : List Int) : Lm := { L with ths := backS L.ths fs line, done := L.done.filter (fun p => decide (p.2 ≤ lnAt line p.1.hand)), order := L.order.filter fun n => decide (n.place ≤ lnAt line n.hand) }
def nmLt (a b : Nm) : Prop := a.hand < b.hand ∨ (a.hand = b.hand ∧ (a.place < b.place ∨ (a.place = b.place ∧ a.k < b.k)))
instance (a b : Nm) : Decidable (nmLt a b) := inferInstanceAs (Decidable (_ ∨ _))
theorem nm_dataLt (n m : Nm) : PySem.W.dataLt (nmD n) (nmD m) = decide (nmLt n m) := by
  unfold nmD
  rw [PySem.W.dataLt_tuple, PySem.W.dataLt_cons (by simp [PySem.W.alike]), PySem.W.dataLt_cons (by simp [PySem.W.alike]), PySem.W.dataLt_cons (by simp [PySem.W.alike]), PySem.W.dataLt_int, PySem.W.dataLt_int, PySem.W.dataLt_int]
  have e : PyProof.Rows.lexLt PyProof.Rows.itemOrd (PySem.W.keyToksAll []) (PySem.W.keyToksAll []) = false := PyProof.Rows.lex_irrefl _
  rw [e]
  simp only [PyData.eqv, beq_iff_eq]
  unfold nmLt
  by_cases h1 : n.hand = m.hand <;> by_cases h2 : n.place = m.place <;> by_cases h3 : n.k = m.k <;> simp [h1, h2, h3]
theorem sortNm_pw (xs : List Nm) : (sortD xs).Pairwise fun a b => ¬ nmLt b a := by
  have h := PySem.W.sort_pairwise (PySem.W.sortLe_total (PyProof.Rows.listOrd PyProof.Rows.itemOrd) false fun b : Nm => PySem.W.keyToks (Cod.den b)) xs
  refine List.Pairwise.imp ?_ h
  intro a b hab
  have e : (!PySem.W.dataLt (nmD b) (nmD a)) = true := hab
  rw [nm_dataLt] at e
  simpa using e
theorem sortD_mem {α : Type} [Cod α] {xs : List α} {x : α} : x ∈ sortD xs ↔ x ∈ xs := by unfold sortD; exact (List.mergeSort_perm _ _).mem_iff
theorem sortD_len {α : Type} [Cod α] (xs : List α) : (sortD xs).length = xs.length := by unfold sortD; exact (List.mergeSort_perm _ _).length_eq
theorem road_mem {L : Lm} {n : Nm} : n ∈ L.road ↔ (∃ l, SentL L.ths n l) ∧ ∀ i u, ¬ UsedAt L.ths n i u := by
  unfold Lm.road
  rw [sortD_mem, List.mem_filter, sent_key]
  constructor
  · rintro ⟨h1, h2⟩
    exact ⟨h1, fun i u hu => of_decide_eq_true h2 (used_key.mpr ⟨i, u, hu⟩)⟩
  · rintro ⟨h1, h2⟩
    exact ⟨h1, decide_eq_true fun z => by obtain ⟨i, u, hu⟩ := used_key.mp z; exact h2 i u hu⟩
theorem SentL.le {ths : List Th} {n : Nm} {l : Int × Int} (h : SentL ths n l) {i : Nat} {t : Th} (et : ths[i]? = some t) (e : n.hand = (i : Int)) : n.place ≤ t.here := by
  obtain ⟨a, j, k, ev, h1, _, rfl⟩ := h
  obtain rfl : a = i := by dsimp only at e; omega
  obtain ⟨t2, h3, h4⟩ := evAt_some.mp h1
  rw [et] at h3
  cases h3
  have := (List.getElem?_eq_some_iff.mp h4).1
  unfold Th.here
  dsimp only
  omega
structure OrdOk (L : Lm) : Prop where
  os : L.order.Pairwise fun a b => a.hand = b.hand → nmLt a b
  so : ∀ n l, SentL L.ths n l → n ∈ L.order
def Lm.Wf (L : Lm) : Prop := ∀ n ∈ L.order, ∃ l, SentL L.ths n l
def ToR (n : Nat) (e : Ev) : Prop := ∀ l ∈ e.sent, 0 ≤ l.1 ∧ l.1 < (n : Int)
def Lm.To (L : Lm) : Prop := ∀ t ∈ L.ths, ∀ e ∈ t.done, ToR L.ths.length e
def DoTo (f : DoF) (n : Nat) : Prop := ∀ h s w, ∀ l ∈ (f h s w).2.1, 0 ≤ l.1 ∧ l.1 < (n : Int)
theorem Lm.To.get {L : Lm} (h : L.To) {n : Nm} {l : Int × Int} (hs : SentL L.ths n l) : 0 ≤ l.1 ∧ l.1 < (L.ths.length : Int) := by
  obtain ⟨i, j, k, e, h1, h2, _⟩ := hs
  obtain ⟨t, h3, h4⟩ := evAt_some.mp h1
  exact h t (List.mem_of_getElem? h3) e (List.mem_of_getElem? h4) l (List.mem_of_getElem? h2)
theorem Lm.To.set {L : Lm} (h : L.To) {i : Nat} {t' : Th} (ht : ∀ e ∈ t'.done, ToR L.ths.length e) {L' : Lm} (e : L'.ths = L.ths.set i t') : L'.To := by
  intro u hu ev hev
  rw [e, List.length_set]
  rw [e] at hu
  rcases List.mem_or_eq_of_mem_set hu with hu | rfl
  · exact h u hu ev hev
  · exact ht ev hev
/-- a row that can be done, and what it leads to -/
inductive Goes (L : Lm) : Row → Lm → Prop
  | own (i : Nat) (t : Th) : L.ths[i]? = some t → Goes L (.own i) (L.own i t)
  | write (i : Nat) (t : Th) : L.ths[i]? = some t → Goes L (.write i) (L.write i t)
  | use (i : Nat) (t : Th) (nm : Nm) (l : Int × Int) : L.ths[i]? = some t → L.may i nm → getA L.sent nm = some l → Goes L (.use i nm) (L.use i t nm l.2)
structure LmG (L : Lm) (n : Nat) : Prop where
  ok : L.Ok n
  wf : L.Wf
  to : L.To
  ft : DoTo L.f L.ths.length
  us : UsedOk L.ths
  dh : ∀ p ∈ L.done, 0 ≤ p.1.hand ∧ p.1.hand < (L.ths.length : Int)
  oo : OrdOk L
  bs : ∃ b, IsBase L.ths b
theorem dh_snoc {L : Lm} {n i : Nat} {t : Th} (h : LmG L n) (et : L.ths[i]? = some t) {row : Row} {p : Int} (e : row.hand = i) : ∀ q ∈ L.done ++ [(row, p)], 0 ≤ q.1.hand ∧ q.1.hand < (L.ths.length : Int) := fun q hq => by
  rw [List.mem_append, List.mem_singleton] at hq
  rcases hq with hq | rfl
  · exact h.dh q hq
  · have := (List.getElem?_eq_some_iff.mp et).1
    rw [e]
    omega
theorem LmG.tok {L : Lm} {n : Nat} (h : LmG L n) : ThsOk L.ths := ⟨fun t ht => (h.ok.th t ht).ok, h.us⟩
theorem may_use {L : Lm} {i : Nat} {nm : Nm} (h : L.may i nm) : (∃ l, SentL L.ths nm l ∧ l.1 = (i : Int)) ∧ ∀ a u, ¬ UsedAt L.ths nm a u := by
  have h1 := List.mem_filter.mp h.1
  have h2 := (List.mem_filter.mp h1.1).2
  refine ⟨?_, fun a u hu => ?_⟩
  · cases e : getA L.sent nm with
    | none => rw [e] at h2; cases h2
    | some l => rw [e] at h2; exact ⟨l, sent_get.mp e, of_decide_eq_true h2⟩
  · have h3 := of_decide_eq_true h1.2
    exact h3 (used_key.mpr ⟨a, u, hu⟩)
theorem LmG.do {L L' : Lm} {n : Nat} (h : LmG L n) {i : Nat} {t : Th} (et : L.ths[i]? = some t) (name : Option Nm) (word : Option Int) (hu : ∀ m, name = some m → (∃ l, SentL L.ths m l ∧ l.1 = (i : Int)) ∧ ∀ a u, ¬ UsedAt L.ths m a u) (hok : L'.Ok (n + 1))
    (e1 : L'.ths = L.ths.set i (t.do (evOf L.f t i name word))) (e2 : L'.order = L.order ++ nmsOf t i (L.f i t.cur word).2.1.length) (e3 : L'.f = L.f) (e4 : ∀ p ∈ L'.done, 0 ≤ p.1.hand ∧ p.1.hand < (L.ths.length : Int)) : LmG L' (n + 1) := by
  have htm := List.mem_of_getElem? et
  have hs := h.ok.th t htm
  refine ⟨hok, fun m hm => ?_, h.to.set (fun e he => ?_) e1, by rw [e1, e3, List.length_set]; exact h.ft, by rw [e1]; exact h.us.do et _ fun m em => hu m em, by rw [e1, List.length_set]; exact e4, ⟨?_, fun m l hm => ?_⟩, ?_⟩
  · rw [e1]
    rw [e2, List.mem_append] at hm
    rcases hm with hm | hm
    · obtain ⟨l, hl⟩ := h.wf m hm
      exact ⟨l, (sent_do et _).mpr (.inl hl)⟩
    · unfold nmsOf at hm
      obtain ⟨k, hk, rfl⟩ := List.mem_map.mp hm
      rw [List.mem_range] at hk
      exact ⟨_, (sent_do et _).mpr (.inr ⟨k, List.getElem?_eq_getElem hk, rfl⟩)⟩
  · simp only [Th.do, List.mem_append, List.mem_singleton] at he
    rcases he with he | rfl
    · exact h.to t htm e he
    · exact fun l hl => h.ft i t.cur word l hl
  · rw [e2, List.pairwise_append]
    refine ⟨h.oo.os, ?_, fun a ha b hb hab => ?_⟩
    · unfold nmsOf
      rw [List.pairwise_map]
      exact List.pairwise_lt_range.imp fun {a b} hab _ => .inr ⟨rfl, .inr ⟨rfl, by dsimp only; omega⟩⟩
    · unfold nmsOf at hb
      obtain ⟨k, _, rfl⟩ := List.mem_map.mp hb
      obtain ⟨l, hl⟩ := h.wf a ha
      have := hl.le et hab
      exact .inr ⟨hab, .inl (by dsimp only; omega)⟩
  · rw [e1] at hm
    rw [e2, List.mem_append]
    rcases (sent_do et _).mp hm with hm | ⟨k, hk, rfl⟩
    · exact .inl (h.oo.so m l hm)
    · exact .inr (List.mem_map.mpr ⟨k, List.mem_range.mpr (List.getElem?_eq_some_iff.mp hk).1, rfl⟩)
  · obtain ⟨b, hb⟩ := h.bs
    rw [e1]
    exact ⟨b, hb.do hs.ok hs.hb et _⟩
theorem LmG.goes {L L' : Lm} {row : Row} {n : Nat} (h : LmG L n) (g : Goes L row L') : LmG L' (n + 1) ∧ L'.f = L.f ∧ L'.ord = L.ord ∧ L'.ths.length = L.ths.length ∧ L'.done.map (·.1) = L.done.map (·.1) ++ [row] := by
  cases g with
  | own i t et => exact ⟨h.do et none none (fun m e => by cases e) (h.ok.own (List.mem_of_getElem? et)) rfl rfl rfl (dh_snoc h et rfl), rfl, rfl, by simp [Lm.own, Lm.add], by simp [Lm.own]⟩
  | use i t nm l et hm _ => exact ⟨h.do et (some nm) (some l.2) (fun m e => by cases e; exact may_use hm) (h.ok.use (List.mem_of_getElem? et)) rfl rfl rfl (dh_snoc h et rfl), rfl, rfl, by simp [Lm.use, Lm.add], by simp [Lm.use]⟩
  | write i t et =>
    have ss : EvSame L.ths (L.ths.set i t.write) := evSame_set et rfl
    obtain ⟨b, hb⟩ := h.bs
    have hs := h.ok.th t (List.mem_of_getElem? et)
    exact ⟨⟨h.ok.write (List.mem_of_getElem? et), fun m hm => by obtain ⟨l, hl⟩ := h.wf m hm; exact ⟨l, ss.sent.mpr hl⟩, h.to.set (t' := t.write) (fun e he => h.to t (List.mem_of_getElem? et) e he) rfl, by have := h.ft; simp only [Lm.write, List.length_set]; exact this, ss.usedOk h.us, (by simp only [Lm.write, List.length_set]; exact dh_snoc h et rfl), ⟨h.oo.os, fun m l hm => h.oo.so m l (ss.sent.mp hm)⟩, b, hb.same et rfl fun q hq => pts_write hs.ok hq⟩, rfl, rfl, by simp [Lm.write], by simp [Lm.write]⟩
theorem Th.Sm.back {t : Th} {n : Nat} (h : t.Sm n) {st : Bool} {p : Int} (hp : p ∈ alwT t st) : (t.back st p).Sm n := by
  have hk := (back_ok h.ok hp).1
  unfold Th.back at hk ⊢
  split
  · exact h
  · next q =>
    rw [if_neg q] at hk
    refine ⟨hk, h.hb, ?_, ?_, fun e he => h.ev e (List.mem_of_mem_take he), fun e he => h.sd e (List.mem_of_mem_take he)⟩
    · have := h.dn
      simp only [Th.cut, List.length_take]
      omega
    · have := h.wr
      have := List.length_filter_le (fun q => decide (q ≤ p)) t.wr
      simp only [Th.cut]
      omega
theorem LmG.backTo {L : Lm} {n : Nat} (h : LmG L n) {fs line : List Int} (ha : Allowed (alwS L.ths fs) line) (hs : Sound L.ths line) (hb : ∃ b, IsBase L.ths b ∧ Le b line) : LmG (L.back fs line) n := by
  have hk := h.tok
  have alw : ∀ (i : Nat) t, L.ths[i]? = some t → lnAt line i ∈ alwT t (decide ((i : Int) ∉ fs)) := fun i t et => by
    have := ha.mem i (by rw [alwS_len]; exact (List.getElem?_eq_some_iff.mp et).1)
    rwa [alwS_get et] at this
  refine ⟨⟨fun t' ht => ?_, ?_, ?_, h.ok.f3, by show (backS L.ths fs line).length ≤ 16; rw [backS_len]; exact h.ok.mn, h.ok.w3⟩, fun m hm => ?_, fun t' ht e he => ?_, by show DoTo L.f (backS L.ths fs line).length; rw [backS_len]; exact h.ft, (hk.back ha hs).us, fun p hp => (by
    have := h.dh p (List.mem_filter.mp hp).1
    show 0 ≤ p.1.hand ∧ p.1.hand < ((backS L.ths fs line).length : Int)
    rw [backS_len]; exact this), ⟨h.oo.os.sublist (List.filter_sublist ..), fun m l hm => (by
    have h1 := (sent_back hk.ok ha).mp hm
    exact List.mem_filter.mpr ⟨h.oo.so m l h1.1, decide_eq_true h1.2⟩)⟩, ?_⟩
  · obtain ⟨i, hi⟩ := List.getElem?_of_mem ht
    obtain ⟨t, et, rfl⟩ := backS_get' hi
    exact (h.ok.th t (List.mem_of_getElem? et)).back (alw i t et)
  · exact Nat.le_trans (List.length_filter_le ..) h.ok.od
  · exact Nat.le_trans (List.length_filter_le ..) h.ok.dn
  · have hm2 := List.mem_filter.mp (show m ∈ L.order.filter _ from hm)
    obtain ⟨l, hl⟩ := h.wf m hm2.1
    exact ⟨l, (sent_back hk.ok ha).mpr ⟨hl, of_decide_eq_true hm2.2⟩⟩
  · show ToR (backS L.ths fs line).length e
    rw [backS_len]
    obtain ⟨i, hi⟩ := List.getElem?_of_mem (show t' ∈ backS L.ths fs line from ht)
    obtain ⟨t, et, rfl⟩ := backS_get' hi
    have hp := alwT_le (hk.ok t (List.mem_of_getElem? et)) (alw i t et)
    rw [back_done hp.2] at he
    exact h.to t (List.mem_of_getElem? et) e (List.mem_of_mem_take he)
  · obtain ⟨b, hb, hle⟩ := hb
    exact ⟨b, hb.back hk.ok ha hle⟩
theorem LmG.fall {L : Lm} {n : Nat} (h : LmG L n) {fs line : List Int} {paper : List Nm} (g : IsGr L.ths fs line paper) : LmG (L.back fs line) n := by
  obtain ⟨b, hb⟩ := h.bs
  exact h.backTo (g.allowed h.tok) g.snd ⟨b, hb, g.ge h.tok (hb.allowed fs) hb.snd⟩
theorem new_ok (f : DoF) (sts : List Int) (hbs : List Hb) (o : Bool) (h1 : sts.length ≤ 16) (h2 : ∀ h s w, (f h s w).2.1.length ≤ 3) (h3 : ∀ h s w, (f h s w).2.2.length ≤ 1000) (h4 : ∀ h ∈ hbs, ∀ m, h = .bundle m → 1 ≤ m) : (newLm f sts hbs o).Ok 0 := by
  refine ⟨fun t ht => ?_, Nat.le_refl _, Nat.le_refl _, h2, ?_, h3⟩
  · obtain ⟨p, hp, rfl⟩ := List.mem_map.mp ht
    have hb := h4 p.2 (List.of_mem_zip hp).2
    refine ⟨⟨by simp [newTh], by simp [newTh], by simp [newTh, Th.here], fun hw => by simp [newTh, Th.here]⟩, hb, Nat.le_refl _, Nat.le_refl _, fun e he => (by cases he), fun e he => (by cases he)⟩
  · show ((sts.zip hbs).map newTh).length ≤ 16
    rw [List.length_map, List.length_zip]
    omega
theorem new_ev {f : DoF} {sts : List Int} {hbs : List Hb} {o : Bool} {i j : Nat} {e : Ev} : ¬ evAt (newLm f sts hbs o).ths i j = some e := by
  rw [evAt_some]
  rintro ⟨t, h1, h2⟩
  obtain ⟨p, _, rfl⟩ := List.mem_map.mp (List.mem_of_getElem? h1)
  simp [newTh] at h2
theorem new_g (f : DoF) (sts : List Int) (hbs : List Hb) (o : Bool) (h1 : sts.length ≤ 16) (h2 : ∀ h s w, (f h s w).2.1.length ≤ 3) (h3 : ∀ h s w, (f h s w).2.2.length ≤ 1000) (h4 : ∀ h ∈ hbs, ∀ m, h = .bundle m → 1 ≤ m) (h5 : DoTo f (newLm f sts hbs o).ths.length) : LmG (newLm f sts hbs o) 0 := by
  have hu : ∀ n i u, ¬ UsedAt (newLm f sts hbs o).ths n i u := fun n i u ⟨j, e, h, _⟩ => new_ev h
  have hk := new_ok f sts hbs o h1 h2 h3 h4
  refine ⟨hk, fun n hn => (by cases hn), fun t ht e he => ?_, h5, ⟨fun n i u h => absurd h (hu n i u), fun n i u i' u' h _ => absurd h (hu n i u)⟩, (fun p hp => by cases hp), ⟨.nil, fun n l ⟨i, j, k, e, hh, _⟩ => absurd hh new_ev⟩, List.replicate (newLm f sts hbs o).ths.length 0, by simp, fun n i u h => absurd h (hu n i u), fun i t et => ?_⟩
  · obtain ⟨p, _, rfl⟩ := List.mem_map.mp ht
    cases he
  · have hi := (List.getElem?_eq_some_iff.mp et).1
    have e0 : lnAt (List.replicate (newLm f sts hbs o).ths.length 0) i = 0 := by rw [lnAt_nat]; simp [hi]
    rw [e0]
    obtain ⟨p, _, rfl⟩ := List.mem_map.mp (List.mem_of_getElem? et)
    have ho := (hk.th _ (List.mem_of_getElem? et)).ok
    by_cases hw : (newTh p).hab.writes = true
    · rw [Th.memw hw]
      simp [newTh, Th.here]
    · rw [Th.memn hw]
      simp [newTh]

abbrev FrS := List (Int × Nm) × List (Int × Int)
def Lm.frStep (L : Lm) (ord : Bool) (a : FrS) (n : Nm) : FrS :=
  if n ∈ L.used.map (·.1) then a
  else (if ord = false ∨ (n.hand, L.toOf n) ∉ a.2 then a.1 ++ [(L.toOf n, n)] else a.1, a.2 ++ [(n.hand, L.toOf n)])
def Lm.frAll (L : Lm) (ord : Bool) (q : List Nm) : FrS := q.foldl (L.frStep ord) ([], [])
theorem Lm.frAll_snoc (L : Lm) (ord : Bool) (q : List Nm) (n : Nm) : L.frAll ord (q ++ [n]) = L.frStep ord (L.frAll ord q) n := by simp [Lm.frAll]
def Lm.free (L : Lm) (ord : Bool) : List (Int × Nm) := sortD (L.frAll ord L.order).1
theorem Lm.Wf.get {L : Lm} (h : L.Wf) {n : Nm} (hn : n ∈ L.order) : ∃ l, getA L.sent n = some l ∧ l.1 = L.toOf n := by
  obtain ⟨l, hl⟩ := h n hn
  exact ⟨l, sent_get.mpr hl, (toOf_eq hl).symm⟩
theorem snocInd {α : Type} {p : List α → Prop} (h0 : p []) (hs : ∀ q n, p q → p (q ++ [n])) (q : List α) : p q := by
  have : ∀ r : List α, p r.reverse := fun r => by
    induction r with
    | nil => exact h0
    | cons a r ih => rw [List.reverse_cons]; exact hs _ _ ih
  have h := this q.reverse
  rwa [List.reverse_reverse] at h
theorem Lm.frAll_ways (L : Lm) (ord : Bool) (q : List Nm) : (L.frAll ord q).2 = (q.filter fun n => decide (n ∉ L.used.map (·.1))).map fun n => (n.hand, L.toOf n) := by
  refine snocInd (p := fun q => (L.frAll ord q).2 = (q.filter fun n => decide (n ∉ L.used.map (·.1))).map fun n => (n.hand, L.toOf n)) ?_ ?_ q
  · rfl
  · intro q n ih
    rw [Lm.frAll_snoc, List.filter_append, List.map_append, ← ih]
    unfold Lm.frStep
    by_cases hu : n ∈ L.used.map (·.1)
    · rw [if_pos hu]; simp [hu]
    · rw [if_neg hu]; simp [hu]
theorem Lm.frAll_len (L : Lm) (ord : Bool) (q : List Nm) : (L.frAll ord q).1.length ≤ q.length ∧ (L.frAll ord q).2.length ≤ q.length := by
  refine snocInd (p := fun q => (L.frAll ord q).1.length ≤ q.length ∧ (L.frAll ord q).2.length ≤ q.length) ?_ ?_ q
  · exact ⟨Nat.le_refl _, Nat.le_refl _⟩
  · intro q n ih
    rw [Lm.frAll_snoc, List.length_append, List.length_singleton]
    unfold Lm.frStep
    split
    · omega
    · dsimp only
      split <;> simp <;> omega
/-- what the law lets by may be used -/
theorem Lm.frAll_may (L : Lm) (ord : Bool) (q : List Nm) : ∀ p ∈ (L.frAll ord q).1, ∃ a b, q = a ++ p.2 :: b ∧ p.2 ∉ L.used.map (·.1) ∧ p.1 = L.toOf p.2 ∧ (ord = true → ∀ m ∈ a, m ∉ L.used.map (·.1) → m.hand = p.2.hand → L.toOf m ≠ p.1) := by
  refine snocInd (p := fun q => ∀ p ∈ (L.frAll ord q).1, ∃ a b, q = a ++ p.2 :: b ∧ p.2 ∉ L.used.map (·.1) ∧ p.1 = L.toOf p.2 ∧ (ord = true → ∀ m ∈ a, m ∉ L.used.map (·.1) → m.hand = p.2.hand → L.toOf m ≠ p.1)) ?_ ?_ q
  · intro p hp; cases hp
  · intro q n ih p hp
    have old : p ∈ (L.frAll ord q).1 → ∃ a b, q ++ [n] = a ++ p.2 :: b ∧ p.2 ∉ L.used.map (·.1) ∧ p.1 = L.toOf p.2 ∧ (ord = true → ∀ m ∈ a, m ∉ L.used.map (·.1) → m.hand = p.2.hand → L.toOf m ≠ p.1) := fun h => by
      obtain ⟨a, b, e, r⟩ := ih p h
      exact ⟨a, b ++ [n], by rw [e]; simp, r⟩
    rw [Lm.frAll_snoc] at hp
    unfold Lm.frStep at hp
    by_cases hu : n ∈ L.used.map (·.1)
    · rw [if_pos hu] at hp
      exact old hp
    · rw [if_neg hu] at hp
      dsimp only at hp
      split at hp
      · next hc =>
        rw [List.mem_append, List.mem_singleton] at hp
        rcases hp with hp | rfl
        · exact old hp
        · refine ⟨q, [], rfl, hu, rfl, fun ho m hm hmu hmh he => ?_⟩
          rcases hc with hc | hc
          · rw [ho] at hc; cases hc
          · refine hc ?_
            rw [Lm.frAll_ways]
            refine List.mem_map.mpr ⟨m, List.mem_filter.mpr ⟨hm, by simpa using hmu⟩, ?_⟩
            dsimp only at he
            rw [hmh, he]
      · exact old hp
theorem Lm.free_may {L : Lm} (h : L.Wf) {p : Int × Nm} (hp : p ∈ L.free L.ord) : L.may p.1 p.2 ∧ ∃ l, getA L.sent p.2 = some l := by
  have hp2 : p ∈ (L.frAll L.ord L.order).1 := by
    unfold Lm.free sortD at hp
    exact (List.mergeSort_perm _ _).mem_iff.mp hp
  obtain ⟨a, b, e, h1, h2, h3⟩ := L.frAll_may L.ord L.order p hp2
  have ho : p.2 ∈ L.order := by rw [e]; simp
  obtain ⟨l, el, ell⟩ := h.get ho
  have w1 : ∀ n ∈ L.order, (match getA L.sent n with | none => false | some l => decide (l.1 = p.1)) = decide (L.toOf n = p.1) := fun n hn => by
    obtain ⟨l, el, ell⟩ := h.get hn
    rw [el]
    dsimp only
    rw [ell]
  have w2 : L.wait p.1 = (L.order.filter fun n => decide (L.toOf n = p.1)).filter fun n => decide (n ∉ L.used.map (·.1)) := by
    exact congrArg (List.filter fun n => decide (n ∉ L.used.map (·.1))) (List.filter_congr w1)
  refine ⟨⟨?_, fun hord => ?_⟩, l, el⟩
  · rw [w2]
    exact List.mem_filter.mpr ⟨List.mem_filter.mpr ⟨ho, by simp [h2]⟩, by simpa using h1⟩
  · have h4 := h3 hord
    rw [w2, e]
    rw [List.filter_append, List.filter_append, List.filter_append]
    have z : ((a.filter fun n => decide (L.toOf n = p.1)).filter fun n => decide (n ∉ L.used.map (·.1))).filter (fun m => decide (m.hand = p.2.hand)) = [] := by
      rw [List.filter_eq_nil_iff]
      intro m hm hh
      have m1 := List.mem_filter.mp hm
      have m2 := List.mem_filter.mp m1.1
      exact h4 m m2.1 (by simpa using m1.2) (by simpa using hh) (by simpa using m2.2)
    rw [z, List.nil_append]
    have h1' : decide (p.2 ∉ L.used.map (·.1)) = true := decide_eq_true h1
    have h2' : decide (L.toOf p.2 = p.1) = true := decide_eq_true h2.symm
    rw [List.filter_cons_of_pos (by exact h2'), List.filter_cons_of_pos (by exact h1'), List.filter_cons_of_pos (by simp)]
    rfl

theorem LmG.road_may {L : Lm} {n : Nat} (h : LmG L n) {p : Int × Nm} (hp : p ∈ (L.frAll L.ord L.road).1) : ∃ (i : Nat) (t : Th) (l : Int × Int), p.1 = i ∧ L.ths[i]? = some t ∧ L.may i p.2 ∧ getA L.sent p.2 = some l := by
  obtain ⟨a, b, e, h1, h2, h3⟩ := L.frAll_may L.ord L.road p hp
  have hr : p.2 ∈ L.road := by rw [e]; simp
  obtain ⟨⟨l, hl⟩, hnu⟩ := road_mem.mp hr
  have hto := toOf_eq hl
  have hrg := h.to.get hl
  obtain ⟨i, ei⟩ : ∃ i : Nat, p.1 = i := ⟨p.1.toNat, by omega⟩
  obtain ⟨t, et⟩ : ∃ t, L.ths[i]? = some t := ⟨_, List.getElem?_eq_getElem (by omega)⟩
  have wmem : ∀ m, m ∈ L.wait i ↔ m ∈ L.order ∧ L.toOf m = i ∧ m ∉ L.used.map (·.1) := fun m => by
    unfold Lm.wait Lm.wait1
    rw [List.mem_filter, List.mem_filter]
    constructor
    · rintro ⟨⟨k1, k2⟩, k3⟩
      obtain ⟨l', hl'⟩ := h.wf m k1
      rw [sent_get.mpr hl'] at k2
      exact ⟨k1, by rw [toOf_eq hl']; exact of_decide_eq_true k2, of_decide_eq_true k3⟩
    · rintro ⟨k1, k2, k3⟩
      obtain ⟨l', hl'⟩ := h.wf m k1
      rw [sent_get.mpr hl']
      exact ⟨⟨k1, decide_eq_true (by rw [← toOf_eq hl']; exact k2)⟩, decide_eq_true k3⟩
  have hpw : p.2 ∈ L.wait i := (wmem _).mpr ⟨h.oo.so _ _ hl, by rw [← h2, ei], h1⟩
  refine ⟨i, t, l, ei, et, ⟨hpw, fun hord => ?_⟩, sent_get.mpr hl⟩
  have hf : p.2 ∈ (L.wait i).filter fun m => decide (m.hand = p.2.hand) := List.mem_filter.mpr ⟨hpw, by simp⟩
  have hpwise : ((L.wait i).filter fun m => decide (m.hand = p.2.hand)).Pairwise fun a b => a.hand = b.hand → nmLt a b := h.oo.os.sublist ((List.filter_sublist ..).trans ((List.filter_sublist ..).trans (List.filter_sublist ..)))
  cases ew : (L.wait i).filter fun m => decide (m.hand = p.2.hand) with
  | nil => rw [ew] at hf; cases hf
  | cons m r =>
    rw [ew] at hf hpwise
    rw [List.mem_cons] at hf
    rcases hf with hf | hf
    · rw [← hf]; rfl
    · exfalso
      have hmf : m ∈ (L.wait i).filter fun m => decide (m.hand = p.2.hand) := by rw [ew]; simp
      have hm1 := List.mem_filter.mp hmf
      have hmh : m.hand = p.2.hand := of_decide_eq_true hm1.2
      obtain ⟨k1, k2, k3⟩ := (wmem m).mp hm1.1
      rw [List.pairwise_cons] at hpwise
      have hlt := hpwise.1 _ hf hmh
      obtain ⟨l', hl'⟩ := h.wf m k1
      have hmr : m ∈ L.road := road_mem.mpr ⟨⟨l', hl'⟩, fun a u hu => k3 (used_key.mpr ⟨a, u, hu⟩)⟩
      have hpw2 : (a ++ p.2 :: b).Pairwise fun a b => ¬ nmLt b a := by rw [← e]; exact sortNm_pw _
      rw [List.pairwise_append, List.pairwise_cons] at hpw2
      rw [e, List.mem_append, List.mem_cons] at hmr
      rcases hmr with hmr | rfl | hmr
      · exact h3 hord m hmr k3 hmh (by rw [k2, ei])
      · unfold nmLt at hlt; omega
      · exact hpw2.2.1.1 m hmr hlt
end Law

namespace Law
open PySem PySem.Spec L2 L3
local macro_rules
  | `(tactic| simp_arith) => `(tactic| ((conv => whnf); repeat ((first | with_reducible refine ifTT ?_ | with_reducible refine ifFF ?_ | with_reducible refine ifnT ?_ | with_reducible refine ifnF ?_ | with_reducible refine ifTr ?_ | with_reducible refine ifFr ?_ | (with_reducible refine And.intro ?_ ?_; · (first | with_reducible rfl | with_reducible exact ⟨rfl, rfl⟩ | decide | omega | (dsimp only; decide) | (dsimp only; omega) | (unfold CDiv; omega) | (unfold CPow; decide) | (unfold CMul; omega) | (simp only [List.length_cons, List.length_nil]; omega)))); conv => whnf)))
local macro_rules
  | `(tactic| simp_arith [$ls,*]) => `(tactic| ((conv => whnf); repeat ((first | with_reducible refine ifTT ?_ | with_reducible refine ifFF ?_ | with_reducible refine ifnT ?_ | with_reducible refine ifnF ?_ | with_reducible refine ifTr ?_ | with_reducible refine ifFr ?_ | (with_reducible refine And.intro ?_ ?_; · (first | with_reducible rfl | with_reducible exact ⟨rfl, rfl⟩ | decide | omega | (dsimp only; decide) | (dsimp only; omega) | (unfold CDiv; omega) | (unfold CPow; decide) | (unfold CMul; omega) | (simp only [List.length_cons, List.length_nil]; omega) | (simp only [Option.isSome_some]; done) | (simp only [meth_ref, put_same', seqL_ref, $ls,*]; first | done | exact ⟨rfl, rfl⟩ | exact ⟨trivial, rfl⟩ | rfl))) | (simp (decide := true) only [put_same', put_put, decF, decT, Bool.not_true, Bool.not_false, putL_nil, putL_cons, if_true, if_false, seqR_ref, seqL_ref, lenL_ref, dicK_ref, dicT_ref, dat_ref, dat_non, dat_bl, dat_int, dat_str, dat_lst, dat_tup, datV_non, datV_bl, datV_int, datV_str, datV_lst, datV_tup, datVs_nil, datVs_cons, tyAt_ref, opt_some, Option.map_some, Option.bind_some, dv_ints, dv_bls, dv_nms, dv_prs, dv_nm, dt_nm, dt_pr, dv_pr, sh_int, sh_bl, sh_none, sh_nil, eqv_nil, sh_ints, sh_bls, sh_nm, sh_nms, sh_pr, sh_prs, anyI, anyN, anyP, eqv_int, eqv_bl, eqv_ints, eqv_bls, eqv_nms, eqv_prs, eqv_nm, eqv_pr, $ls,*])); conv => whnf)))

section
variable {P : Program} {w : World} {K : PySem.W.Frag} [GG K] {mg : Str → Option Value} {base : Heap} {A : Ad} {D : Fd}
def cellAt (ns : List Int) (k : Nat) : Int := ns.getD k 0
def spCell : LSp := fun vs s Q E => ∃ (ns : List Int) (k : Int), vs = [.scr ns, .int k] ∧ 0 ≤ k ∧ k < 64 ∧ ns.length ≤ 63 ∧ ∀ c, c = cellAt ns k.toNat → Q (.int c) s
theorem ok_law_cell_at (T : Txt K mg A D) (B : Bs K mg base A) : LFn P w K mg base 1 A.f_law_cell_at D.d_law_cell_at ["_law_script", "_law_k"] spCell := by
  refine T.F_law_cell_at.okL sc_law_cell_at (fun vs s Q E ⟨_, _, h, _⟩ => by rw [h]; rfl) (fun cdv A' outer si H E hr => ⟨_, (lps_cons (lp_if (lt_lt (lv 1) (le_len rfl T.b_len (la_cons (lv 0) la_nil))) (lps_one (lp_ret (le_item (hu_of hr) (lv 0) (lv 1)))) lps_nil)
    (lps_one (lp_ret le_int))), fun vs s Q E h => ?_⟩)
  obtain ⟨ns, k, rfl, h0, h1, hns, h⟩ := h
  obtain ⟨j, rfl⟩ := Int.eq_ofNat_of_zero_le h0
  simp_arith
  refine ifD (fun hk => ?_) (fun hk => ?_)
  · simp_arith
    rw [atI_nat (v := ns[j]'(by omega)) (List.getElem?_eq_getElem _)]
    simp_arith
    exact fin (.refl _) (h _ (by simp [cellAt, List.getD]; rw [List.getElem?_eq_getElem (by omega)]; rfl))
  · simp_arith
    exact fin (.refl _) (h _ (by simp [cellAt, List.getD]; rw [List.getElem?_eq_none (by omega)]; rfl))
end

def restI (b c : Int) : Nat → Int
  | 0 => c / 2
  | n + 1 => restI b c n / b
def mixA (c k : Int) : Int := (c + 7919 * k + 1) * 48271 % 2147483647
def mixB (n : Int) : Int := n * (n / 1009 + 69621) % 2147483647
def dgA (c k b : Int) : Int := if c % 2 = 1 ∧ 0 < restI b c k.toNat then restI b c k.toNat % b else mixB (mixA c k) * (mixB (mixA c k) / 2003 + 40692) % 2147483399 % b
theorem dgA_rng {b : Int} (hb : 0 < b) (c k : Int) : 0 ≤ dgA c k b ∧ dgA c k b < b := by
  unfold dgA
  split
  · exact ⟨Int.emod_nonneg _ (by omega), Int.emod_lt_of_pos _ hb⟩
  · exact ⟨Int.emod_nonneg _ (by omega), Int.emod_lt_of_pos _ hb⟩
def wordL : Option Int → LV
  | none => .non
  | some i => .int i
/-- the law's program: from a row of numbers -/
structure Pr where
  cell : Int
  many : Int
structure Pr.Ok (p : Pr) : Prop where
  n0 : 2 ≤ p.many ∧ p.many ≤ 5
def ledAt (hand state : Int) (word : Option Int) : Int := match word with
  | none => (hand * 6 + state % 6) * 4
  | some w => (hand * 6 + state % 6) * 4 + 1 + w % 3
def Pr.en (p : Pr) (hand state : Int) (word : Option Int) : Int := dgA p.cell (ledAt hand state word) 3000
def ledLs (e many : Int) : List (Int × Int) := (List.range (e / 6 % 4).toNat).map fun k => ((e / 24 + (k : Nat) * (e / 120)) % many, e / 7 + (k : Nat))
def ledWs (e : Int) : List Int := if e % 4 = 0 then [e / 5] else []
def Pr.f (p : Pr) : DoF := fun hand state word => (p.en hand state word % 6, ledLs (p.en hand state word) p.many, ledWs (p.en hand state word))
theorem Pr.f3 (p : Pr) (h s : Int) (w : Option Int) : (p.f h s w).2.1.length ≤ 3 := by
  simp only [Pr.f, ledLs, List.length_map, List.length_range]
  omega
theorem Pr.w3 (p : Pr) (h s : Int) (w : Option Int) : (p.f h s w).2.2.length ≤ 1000 := by
  simp only [Pr.f, ledWs]
  split <;> simp
theorem Pr.to (p : Pr) (hp : p.Ok) (n : Nat) (hn : p.many = n) : DoTo p.f n := by
  intro hd st w l hl
  simp only [Pr.f, ledLs] at hl
  obtain ⟨k, _, rfl⟩ := List.mem_map.mp hl
  have := hp.n0
  rw [← hn]
  exact ⟨Int.emod_nonneg _ (by omega), Int.emod_lt_of_pos _ (by omega)⟩
section
variable {P : Program} {w : World} {K : PySem.W.Frag} [GG K] {mg : Str → Option Value} {base : Heap} {A : Ad} {D : Fd}
def spDigit : LSp := fun vs s Q E => ∃ c k b, vs = [.int c, .int k, .int b] ∧ 0 < b ∧ b < 1000000 ∧ 0 ≤ k ∧ k < 1000000 ∧ Q (.int (dgA c k b)) s
theorem ok_law_digit (T : Txt K mg A D) (B : Bs K mg base A) : LFn P w K mg base 1 A.f_law_digit D.d_law_digit ["_law_cell", "_law_k", "_law_base"] spDigit := by
  refine T.F_law_digit.okL sc_law_digit (fun vs s Q E ⟨_, _, _, h, _⟩ => by rw [h]; rfl) (fun cdv A' outer si H E hr => ⟨_, (lps_cons (lp_cut (lp_if (lt_eq (le_mod (lv 0) le_int) le_int) (lps_cons (lp_set (i := 3) sc_law_digit.nd rfl (by first | exact Or.inl rfl | exact Or.inr rfl) (le_div (lv 0) le_int))
    (lps_cons (lp_for rfl (li_range1 rfl T.b_range (la_cons (lv 1) la_nil)) (lg_name (i := 4) sc_law_digit.nd rfl (by first | exact Or.inl rfl | exact Or.inr rfl)) (lps_one (lp_set (i := 3) sc_law_digit.nd rfl (by first | exact Or.inl rfl | exact Or.inr rfl) (le_div (lv 3) (lv 2)))))
    (lps_one (lp_if (lt_gt (lv 3) le_int) (lps_one (lp_ret (le_mod (lv 3) (lv 2)))) lps_nil)))) lps_nil))
    (lps_cons (lp_set (i := 5) sc_law_digit.nd rfl (by first | exact Or.inl rfl | exact Or.inr rfl) (le_mod (le_mul (le_add (le_add (lv 0) (le_mul le_int (lv 1))) le_int) le_int) le_int))
    (lps_cons (lp_set (i := 5) sc_law_digit.nd rfl (by first | exact Or.inl rfl | exact Or.inr rfl) (le_mod (le_mul (lv 5) (le_add (le_div (lv 5) le_int) le_int)) le_int))
    (lps_one (lp_ret (le_mod (le_mod (le_mul (lv 5) (le_add (le_div (lv 5) le_int) le_int)) le_int) (lv 2))))))), fun vs s Q E h => ?_⟩)
  obtain ⟨c, k, b, rfl, hb, hbm, hk0, hk, h⟩ := h
  simp_arith
  refine ⟨fun σ' s' => ∃ v3 v4, σ' = [some (.int c), some (.int k), some (.int b), v3, v4, none] ∧ s' = s ∧ ¬ (c % 2 = 1 ∧ 0 < restI b c k.toNat), ?_, ?_⟩
  · simp_arith
    refine ifD (fun hc => ?_) (fun hc => ?_)
    · simp_arith
      refine lLoop_rg0 (fun i σ s' => ∃ v4, σ = [some (.int c), some (.int k), some (.int b), some (.int (restI b c i)), v4, none] ∧ s' = s) ⟨_, rfl, rfl⟩ (fun _ _ _ _ => trivial) ?_ ?_
      · rintro i σ s1 N hi ⟨v4, rfl, rfl⟩ hN
        simp_arith
        exact hN _ _ ⟨_, rfl, rfl⟩
      · rintro σ s1 ⟨v4, rfl, rfl⟩
        simp_arith
        refine ifD (fun hr0 => ?_) (fun hr0 => ?_)
        · have e : dgA c k b = restI b c k.toNat % b := by unfold dgA; rw [if_pos ⟨hc, hr0⟩]
          rw [e] at h
          simp_arith
          exact fin (.refl _) h
        · simp_arith
          exact ⟨_, _, rfl, rfl, fun z => hr0 z.2⟩
    · simp_arith
      exact ⟨_, _, rfl, rfl, fun z => hc z.1⟩
  · rintro σ' s' ⟨v3, v4, rfl, rfl, hn⟩
    have e : dgA c k b = mixB (mixA c k) * (mixB (mixA c k) / 2003 + 40692) % 2147483399 % b := by unfold dgA; rw [if_neg hn]
    rw [e] at h
    simp_arith
    exact fin (.refl _) h
def spLed : LSp := fun vs s Q E => ∃ (p : Pr) (hand state : Int) (word : Option Int), vs = [.int p.cell, .int p.many, .int hand, .int state, wordL word] ∧ p.Ok ∧ (0 ≤ hand ∧ hand < 1000) ∧
  Q (.tup [.int (p.f hand state word).1, .lst ((p.f hand state word).2.1.map pairL), .lst ((p.f hand state word).2.2.map .int)]) s
theorem ok_law_led (T : Txt K mg A D) (B : Bs K mg base A) : LFn P w K mg base 2 A.f_law_led D.d_law_led ["_law_cell", "_law_many", "_law_hand", "_law_state", "_law_word"] spLed := by
  refine T.F_law_led.okL sc_law_led (fun vs s Q E ⟨_, _, _, _, h, _⟩ => by rw [h]; rfl) (fun cdv A' outer si H E hr => ⟨_, (lps_cons (lp_set (i := 5) sc_law_led.nd rfl (by first | exact Or.inl rfl | exact Or.inr rfl) (le_mul (le_add (le_mul (lv 2) le_int) (le_mod (lv 3) le_int)) le_int))
    (lps_cons (lp_cut (lp_if (lt_notN (lv 4) le_non) (lps_one (lp_set (i := 5) sc_law_led.nd rfl (by first | exact Or.inl rfl | exact Or.inr rfl) (le_add (le_add (lv 5) le_int) (le_mod (lv 4) le_int)))) lps_nil))
    (lps_cons (lp_set (i := 6) sc_law_led.nd rfl (by first | exact Or.inl rfl | exact Or.inr rfl) (le_call (ok_law_digit T B) (hr.mono (by decide)) rfl T.m_law_digit T.k_law_digit T.q_law_digit (la_cons (lv 0) (la_cons (lv 5) (la_cons le_int la_nil)))))
    (lps_cons (lp_set (i := 7) sc_law_led.nd rfl (by first | exact Or.inl rfl | exact Or.inr rfl) (le_new (ll_disp la_nil)))
    (lps_cons (lp_for rfl (li_range1 rfl T.b_range (la_cons (le_mod (le_div (lv 6) le_int) le_int) la_nil)) (lg_name (i := 8) sc_law_led.nd rfl (by first | exact Or.inl rfl | exact Or.inr rfl)) (lps_one (lp_expr (le_append (lv 7) (la_cons (le_tup (la_cons (le_mod (le_add (le_div (lv 6) le_int) (le_mul (lv 8) (le_div (lv 6) le_int))) (lv 1)) (la_cons (le_add (le_div (lv 6) le_int) (lv 8)) la_nil))) la_nil)))))
    (lps_one (lp_ret (le_tup (la_cons (le_mod (lv 6) le_int) (la_cons (lv 7) (la_cons (le_fz (ll_slice (le_fz (ll_disp (la_cons (le_div (lv 6) le_int) la_nil))) lo_none (lo_some (le_int1 rfl T.b_int (la_cons (le_eq (le_mod (lv 6) le_int) le_int) la_nil))))) la_nil))))))))))), fun vs s Q E h => ?_⟩)
  obtain ⟨p, hand, state, word, rfl, hp, hh, h⟩ := h
  have hb := hp.n0
  simp_arith
  refine ⟨fun σ' s' => σ' = [some (.int p.cell), some (.int p.many), some (.int hand), some (.int state), some (wordL word), some (.int (ledAt hand state word)), none, none, none] ∧ s' = s, ?_, ?_⟩
  · rcases word with _ | wd
    · simp_arith
      exact ⟨rfl, rfl⟩
    · simp_arith
      exact ⟨rfl, rfl⟩
  rintro σ' s' ⟨rfl, rfl⟩
  have hat : 0 ≤ ledAt hand state word ∧ ledAt hand state word < 1000000 := by
    unfold ledAt
    cases word <;> simp only <;> omega
  simp_arith
  refine ⟨p.cell, ledAt hand state word, 3000, rfl, by omega, by omega, hat.1, hat.2, ?_⟩
  have hen : 0 ≤ p.en hand state word ∧ p.en hand state word < 3000 := dgA_rng (by omega) _ _
  have hef : p.f hand state word = (p.en hand state word % 6, ledLs (p.en hand state word) p.many, ledWs (p.en hand state word)) := rfl
  rw [hef] at h
  clear hef
  change 0 ≤ dgA p.cell (ledAt hand state word) 3000 ∧ dgA p.cell (ledAt hand state word) 3000 < 3000 at hen
  unfold Pr.en at h
  generalize dgA p.cell (ledAt hand state word) 3000 = e at *
  simp_arith
  intro la hla
  simp_arith
  refine lLoop_rg0 (fun i σ s1 => ∃ v8, σ = [some (.int p.cell), some (.int p.many), some (.int hand), some (.int state), some (wordL word), some (.int (ledAt hand state word)), some (.int e), some (.ref la), v8] ∧ s1 = put s' la (.lst ((List.range i).map fun k : Nat => pairL ((e / 24 + (k : Nat) * (e / 120)) % p.many, e / 7 + (k : Nat))))) ⟨_, rfl, rfl⟩ (fun _ _ _ _ => trivial) ?_ ?_
  · rintro i σ s1 N hi ⟨v8, rfl, rfl⟩ hN
    simp_arith [put_same]
    refine ⟨by rw [List.length_map, List.length_range]; omega, hN _ _ ⟨_, rfl, by rw [List.range_succ, List.map_append]; rfl⟩⟩
  · rintro σ s1 ⟨v8, rfl, rfl⟩
    have e1 : (List.range (e / 6 % 4).toNat).map (fun k : Nat => pairL ((e / 24 + (k : Nat) * (e / 120)) % p.many, e / 7 + (k : Nat))) = (ledLs e p.many).map pairL := by unfold ledLs; rw [List.map_map]; rfl
    have e2 : cutL [LV.int (e / 5)] none (some (if decide (e % 4 = 0) = true then 1 else 0)) = (ledWs e).map LV.int := by
      unfold ledWs
      by_cases hz : e % 4 = 0
      · rw [if_pos (by simpa using hz), if_pos hz]; rfl
      · rw [if_neg (by simpa using hz), if_neg hz]; rfl
    simp_arith
    rw [e1]
    exact fin_of (sub_put hla) (.tup (sub_put hla) (.cons (.same (sub_put hla) _) (.cons (.lst put_same hla (.same (sub_put hla) _)) (.cons (.same (sub_put hla) _) .nil)))) (by
      show Q (.tup [.int (e % 6), .lst ((ledLs e p.many).map pairL), .lst (cutL [LV.int (e / 5)] none (some (if decide (e % 4 = 0) = true then 1 else 0)))]) s'
      rw [e2]
      exact h)
def doesXs (p : Pr) : List LV := [.int p.many, .int p.cell]
abbrev ck_law_program__law_does : Ck := ck_law_loom_lambda
def spDoes : List LV → LSp := fun xs vs s Q E => ∃ (p : Pr) (hand state : Int) (word : Option Int), xs = doesXs p ∧ vs = [.int hand, .int state, wordL word] ∧ p.Ok ∧ (0 ≤ hand ∧ hand < 1000) ∧
  Q (.tup [.int (p.f hand state word).1, .lst ((p.f hand state word).2.1.map pairL), .lst ((p.f hand state word).2.2.map .int)]) s
theorem ok_law_loom_lambda (T : Txt K mg A D) (B : Bs K mg base A) : CloOk P w K mg base 3 ck_law_loom_lambda ["_law_hand", "_law_state", "_law_word"] spDoes := by
  refine cloOk_lam (L := L_law_loom_lambda) rfl sc_law_loom_lambda (fun _ _ _ _ us hl => match us, hl with | [_, _, _], _ => rfl) (fun xs vs s Q E ⟨_, _, _, _, _, h, _⟩ => by rw [h]; rfl) (fun f c cl A' outer si H E hr => ⟨_, (le_call (ok_law_led T B) (hr.mono (by decide)) rfl T.m_law_led T.k_law_led T.q_law_led (la_cons (lv 4) (la_cons (lv 3) (la_cons (lv 0) (la_cons (lv 1) (la_cons (lv 2) la_nil)))))), fun xs vs s Q E h => ?_⟩)
  obtain ⟨p, hand, state, word, rfl, rfl, hp, hh, h⟩ := h
  simp_arith
  refine ⟨p, hand, state, word, rfl, hp, hh, ?_⟩
  exact ⟨_, s, .refl _ _, h⟩
/-- the program -/
def IsDo (s : LS) (dv : LV) (f : DoF) (G : List Addr) : Prop := ∃ (p : Pr), dv = .clo ck_law_program__law_does (doesXs p) ∧ p.Ok ∧ f = p.f ∧ G = []
/-- what was told stays -/
def Kept (G G' : List Addr) (s s' : LS) : Prop := ∀ a ∈ G.tail, a ∈ G'.tail ∧ s' a = s a
theorem Kept.refl (G : List Addr) (s : LS) : Kept G G s s := fun a h => ⟨h, rfl⟩
theorem Kept.trans {G G1 G2 : List Addr} {s s1 s2 : LS} (h : Kept G G1 s s1) (h' : Kept G1 G2 s1 s2) : Kept G G2 s s2 := fun a ha => by
  obtain ⟨h1, e1⟩ := h a ha
  obtain ⟨h2, e2⟩ := h' a h1
  exact ⟨h2, e2.trans e1⟩
theorem IsDo.own {s s' : LS} {dv : LV} {f : DoF} {G F F' : List Addr} (h : IsDo s dv f G) (o : Own F F' s s') (n : ∀ a ∈ G, a ∉ F) : IsDo s' dv f G ∧ Kept G G s s' := by
  obtain ⟨p, h1, h2, h3, rfl⟩ := h
  exact ⟨⟨p, h1, h2, h3, rfl⟩, fun a ha => by cases ha⟩
theorem d_go {s : LS} {dv : LV} {f : DoF} {G : List Addr} (hd : IsDo s dv f G) (hG : G.length < 16000000) : ∃ xs, dv = .clo ck_law_program__law_does xs ∧ ncls xs = true ∧ ∀ (hand state : Int) (word : Option Int) (Q : LVK), 0 ≤ hand ∧ hand < 1000 →
    (∀ s' G' lv wv, IsDo s' dv f G' → Kept G G' s s' → Own G G' s s' → (∀ a, lv = .ref a → a ∈ G'.tail) → (∀ a, wv = .ref a → a ∈ G'.tail) → seqL lv s' = some ((f hand state word).2.1.map pairL) → seqL wv s' = some ((f hand state word).2.2.map .int) → G'.length ≤ G.length + 2 → Q (.tup [.int (f hand state word).1, lv, wv]) s') →
    CloGo spDoes xs [.int hand, .int state, wordL word] s Q := by
  obtain ⟨p, rfl, hp, rfl, rfl⟩ := hd
  refine ⟨_, rfl, ?_, fun hand state word Q hh h => ?_⟩
  · simp [doesXs, ncls, ncl]
  · refine CloGo.mk (sv := noS) (by cases word <;> simp [wordL, ncls, ncl]) noS_sub noS_cl ⟨p, hand, state, word, rfl, rfl, hp, hh, fun _ => ?_⟩
    rw [merge_self noS_sub]
    exact h s [] _ _ ⟨p, rfl, hp, rfl, rfl⟩ (.refl _ _) (.refl _ _) (fun a e => by cases e) (fun a e => by cases e) rfl rfl (by simp)
end
end Law

namespace Law
open PySem PySem.Spec L2 L3
local macro_rules
  | `(tactic| simp_arith) => `(tactic| ((conv => whnf); repeat ((first | with_reducible refine ifTT ?_ | with_reducible refine ifFF ?_ | with_reducible refine ifnT ?_ | with_reducible refine ifnF ?_ | with_reducible refine ifTr ?_ | with_reducible refine ifFr ?_ | (with_reducible refine And.intro ?_ ?_; · (first | with_reducible rfl | with_reducible exact ⟨rfl, rfl⟩ | decide | omega | (dsimp only; decide) | (dsimp only; omega) | (unfold CDiv; omega) | (unfold CPow; decide) | (unfold CMul; omega) | (simp only [List.length_cons, List.length_nil]; omega)))); conv => whnf)))
local macro_rules
  | `(tactic| simp_arith [$ls,*]) => `(tactic| ((conv => whnf); repeat ((first | with_reducible refine ifTT ?_ | with_reducible refine ifFF ?_ | with_reducible refine ifnT ?_ | with_reducible refine ifnF ?_ | with_reducible refine ifTr ?_ | with_reducible refine ifFr ?_ | (with_reducible refine And.intro ?_ ?_; · (first | with_reducible rfl | with_reducible exact ⟨rfl, rfl⟩ | decide | omega | (dsimp only; decide) | (dsimp only; omega) | (unfold CDiv; omega) | (unfold CPow; decide) | (unfold CMul; omega) | (simp only [List.length_cons, List.length_nil]; omega) | (simp only [Option.isSome_some]; done) | (simp only [meth_ref, put_same', seqL_ref, $ls,*]; first | done | exact ⟨rfl, rfl⟩ | exact ⟨trivial, rfl⟩ | rfl))) | (simp (decide := true) only [put_same', put_put, decF, decT, Bool.not_true, Bool.not_false, putL_nil, putL_cons, if_true, if_false, seqR_ref, seqL_ref, lenL_ref, dicK_ref, dicT_ref, dat_ref, dat_non, dat_bl, dat_int, dat_str, dat_lst, dat_tup, datV_non, datV_bl, datV_int, datV_str, datV_lst, datV_tup, datVs_nil, datVs_cons, tyAt_ref, opt_some, Option.map_some, Option.bind_some, dv_ints, dv_bls, dv_nms, dv_prs, dv_nm, dt_nm, dt_pr, dv_pr, sh_int, sh_bl, sh_none, sh_nil, eqv_nil, sh_ints, sh_bls, sh_nm, sh_nms, sh_pr, sh_prs, anyI, anyN, anyP, eqv_int, eqv_bl, eqv_ints, eqv_bls, eqv_nms, eqv_prs, eqv_nm, eqv_pr, $ls,*])); conv => whnf)))

/-- a loom and its program, apart -/
structure LD (A : Ad) (s : LS) (x : Addr) (L : Lm) (dv : LV) (F : Fp) (G : List Addr) : Prop where
  lm : IsLm A s x L dv F
  pr : IsDo s dv L.f G
  ap : ∀ a ∈ F.all x, a ∉ G
theorem LD.own {A : Ad} {s s' : LS} {x : Addr} {L : Lm} {dv : LV} {F : Fp} {G H H' : List Addr} (h : LD A s x L dv F G) (o : Own H H' s s') (n1 : ∀ a ∈ F.all x, a ∉ H) (n2 : ∀ a ∈ G, a ∉ H) : LD A s' x L dv F G := ⟨h.lm.own o n1, (h.pr.own o n2).1, h.ap⟩
section
variable {P : Program} {w : World} {K : PySem.W.Frag} [GG K] {mg : Str → Option Value} {base : Heap} {A : Ad} {D : Fd}
/-- the deeds' end -/
def DoneL (A : Ad) (s : LS) (x : Addr) (L' : Lm) (dv : LV) (F : Fp) (G : List Addr) (Q : LVK) : Prop :=
  ∀ s' G', LD A s' x L' dv F G' → Kept G G' s s' → Own (F.all x ++ G) (F.all x ++ G') s s' → G'.length ≤ G.length + 2 → Q .non s'
def spAdd (A : Ad) : LSp := fun vs s Q E => ∃ x L dv F G n i t name word, vs = [.ref x, .int ((i : Nat) : Int), usedL name, wordL word] ∧ LD A s x L dv F G ∧ L.Ok n ∧ n < 100000 ∧ G.length < 16000000 ∧ L.ths[i]? = some t ∧ DoneL A s x (L.add i t name word) dv F G Q
theorem ok_Loom_add (T : Txt K mg A D) (B : Bs K mg base A) : LFn P w K mg base 4 A.f_Loom_add D.d_Loom_add ["self", "hand", "name", "word"] (spAdd A) := by
  refine T.F_Loom_add.okL sc_Loom_add (fun vs s Q E ⟨_, _, _, _, _, _, _, _, _, _, h, _⟩ => by rw [h]; rfl) (fun cdv A' outer si H E hr => ⟨_, (lps_cons (lp_set (i := 4) sc_Loom_add.nd rfl (by first | exact Or.inl rfl | exact Or.inr rfl) (le_item (hu_of hr) (le_fld T.cl_Loom T.n_Loom_threads (lv 0)) (lv 1)))
    (lps_cons (lp_set (i := 5) sc_Loom_add.nd rfl (by first | exact Or.inl rfl | exact Or.inr rfl) (le_fld T.cl_Loom T.n_Loom_does (lv 0)))
    (lps_cons (lp_asg (le_clo2 (i := 5) (ok_law_loom_lambda T B) (hr.mono (by decide)) B.hG (by decide) rfl (by first | exact Or.inl rfl | exact Or.inr (Or.inl rfl) | exact Or.inr (Or.inr rfl)) (la_cons (lv 1) (la_cons (le_meth (lv 4) T.cl_Thread T.mt_Thread_state_at (ok_Thread_state_at T B) (hr.mono (by decide)) T.q_Thread_state_at (la_cons (le_meth0 (lv 4) T.cl_Thread T.mt_Thread_here (ok_Thread_here T B) (hr.mono (by decide)) T.q_Thread_here) la_nil)) (la_cons (lv 3) la_nil)))) (lg_tup (is := [6, 7, 8]) rfl (pgs_cons (pg_name (i := 6) sc_Loom_add.nd rfl (by first | exact Or.inl rfl | exact Or.inr rfl)) (pgs_cons (pg_name (i := 7) sc_Loom_add.nd rfl (by first | exact Or.inl rfl | exact Or.inr rfl)) (pgs_cons (pg_name (i := 8) sc_Loom_add.nd rfl (by first | exact Or.inl rfl | exact Or.inr rfl)) pgs_nil)))))
    (lps_cons (lp_expr (le_meth (lv 4) T.cl_Thread T.mt_Thread_do (ok_Thread_do T B) (hr.mono (by decide)) T.q_Thread_do (la_cons (le_makeZ T.mk_Event (ok_Event_init T B) (hr.mono (by decide)) rfl T.m_Event T.q_Event_init (la_cons (lv 2) (la_cons (lv 6) (la_cons (lv 7) (la_cons (lv 8) la_nil))))) la_nil)))
    (lps_one (lp_for rfl (li_range1 rfl T.b_range (la_cons (le_len rfl T.b_len (la_cons (lv 7) la_nil)) la_nil)) (lg_name (i := 9) sc_Loom_add.nd rfl (by first | exact Or.inl rfl | exact Or.inr rfl)) (lps_one (lp_expr (le_append (le_fld T.cl_Loom T.n_Loom_order (lv 0)) (la_cons (le_tup (la_cons (lv 1) (la_cons (le_meth0 (lv 4) T.cl_Thread T.mt_Thread_here (ok_Thread_here T B) (hr.mono (by decide)) T.q_Thread_here) (la_cons (lv 9) la_nil)))) la_nil)))))))))), fun vs s Q E h => ?_⟩)
  obtain ⟨x, L, dv, F, G, n, i, t, name, word, rfl, hl, hok, hn, hG, hi, h⟩ := h
  obtain ⟨f, ef, ht⟩ := hl.lm.ht.get hi
  obtain ⟨xs, rfl, hxs, go⟩ := d_go hl.pr hG
  have htm := List.mem_of_getElem? hi
  have hsm := hok.th t htm
  have hdn := hsm.dn
  have er : (F.ts.map fun f => LV.ref f.1)[i]? = some (LV.ref f.1) := by rw [List.getElem?_map, ef]; rfl
  simp_arith [hl.lm.hx, lmF]
  rw [atI_nat er]
  simp_arith [hl.lm.hx, lmF, ht.hx, thF]
  refine ⟨f.1, t, f.2.1, f.2.2, rfl, ht, ?_⟩
  simp_arith [hl.lm.hx, lmF, ht.hx, thF]
  refine ⟨f.1, t, f.2.1, f.2.2, t.here, rfl, ht, hsm.ok, by omega, fun _ z ez _ => ?_, fun hno => absurd (Or.inl rfl) hno⟩
  rw [t.cur_at] at ez
  cases ez
  simp_arith
  refine go i t.cur word _ (by have := hok.mn; have := (List.getElem?_eq_some_iff.mp hi).1; omega) fun s1 G1 lv wv hd1 hk1 ho1 hla hwa hlv hwv hg1 => ?_
  have hm1 : IsLm A s1 x L (.clo ck_law_program__law_does xs) F := hl.lm.own ho1 hl.ap
  have ap1 : ∀ a ∈ F.all x, a ∉ G1 := fun a ha => (ho1 a (hl.ap a ha) (hl.lm.held ha)).2
  have ht1 := hm1.ht.at_ i t f hi ef
  simp_arith [hm1.hx, lmF, ht1.hx, thF]
  refine fun y hy => ⟨y, evOf L.f t i name word, lv, wv, rfl, seqL_put hlv hy, seqL_put hwv hy, put_same, rfl, _, put_put, ?_⟩
  simp_arith
  refine ⟨f.1, t, f.2.1, f.2.2, evOf L.f t i name word, rfl, ht1, by omega, fun s2 ht2 ho2 => ?_⟩
  have hm2 : IsLm A s2 x { L with ths := L.ths.set i (t.do (evOf L.f t i name word)) } (.clo ck_law_program__law_does xs) F := hm1.setT ef ht2 ho2
  have hd2 := hd1.own ho2 fun a ha hb => ap1 a (hl.lm.ths ef hb) ha
  have hlv2 : seqL lv s2 = _ := seqL_own hlv ho2 fun a e hb => ap1 a (hl.lm.ths ef hb) (List.mem_of_mem_tail (hla a e))
  have hl3 := hok.f3 i t.cur word
  have hol := hok.od
  rcases seqL_cases hlv2 with rfl | ⟨a, rfl, ea⟩
  all_goals
    have hl4 : ((L.f i t.cur word).2.1.map pairL).length ≤ 3 := by rw [List.length_map]; exact hl3
    simp_arith [ea]
    refine lLoop_rg (fun j σ s' => ∃ v6 v7 v8 v9, σ = [some (.ref x), some (.int i), some (usedL name), some (wordL word), some (.ref f.1), some (.clo ck_law_program__law_does xs), v6, v7, v8, v9] ∧ IsLm A s' x { L with ths := L.ths.set i (t.do (evOf L.f t i name word)), order := L.order ++ nmsOf t i j } (.clo ck_law_program__law_does xs) F ∧ Own (F.all x) (F.all x) s2 s')
      ⟨_, _, _, _, rfl, by simpa [nmsOf] using hm2, .refl _ _⟩ (fun _ _ _ _ => trivial) ?_ ?_
    · rintro j σ s' N hj ⟨v6, v7, v8, v9, rfl, hm, ho⟩ hN
      have htd := hm.ht.at_ i (t.do (evOf L.f t i name word)) f (by simp [(List.getElem?_eq_some_iff.mp hi).1]) ef
      have hlo : (List.map nmL (L.order ++ nmsOf t i j)).length < 16777216 := by
        rw [List.length_map] at hj
        simp [nmsOf]
        omega
      simp_arith [hm.hx, hm.ho, lmF, htd.hx, thF]
      refine ⟨f.1, _, f.2.1, f.2.2, rfl, htd, ?_⟩
      simp_arith [hm.hx, hm.ho, lmF]
      refine hN _ _ ⟨_, _, _, _, rfl, ?_, ho.trans (own_put (by simp [Fp.all]))⟩
      have := hm.put_o (L.order ++ nmsOf t i (j + 1))
      rw [nmsOf_succ, ← List.append_assoc, List.map_append] at this
      rw [nmsOf_succ, ← List.append_assoc]
      have e0 : ((0 : Int) + (j : Nat)) = (j : Nat) := Int.zero_add _
      rw [here_do, e0]
      exact this
    · rintro σ s' ⟨v6, v7, v8, v9, rfl, hm, ho⟩
      refine ⟨_, .refl _, h s' G1 ⟨?_, (hd2.1.own ho fun a ha hb => ap1 a hb ha).1, ap1⟩ ((hk1.trans hd2.2).trans (hd2.1.own ho fun a ha hb => ap1 a hb ha).2) ?_ hg1⟩
      · have e0 : (((L.f i t.cur word).2.1.map pairL).length : Int) - 0 = ((L.f i t.cur word).2.1.length : Nat) := by rw [List.length_map, Int.sub_zero]
        rw [e0, Int.toNat_natCast] at hm
        exact hm
      · exact ho1.wide.trans ((ho2.grow fun a ha => List.mem_append_left _ (hl.lm.ths ef ha)).trans (ho.grow fun a ha => List.mem_append_left _ ha))
def tellsO (o : LO) (s : LS) (Q : LVK) : Prop := ∀ p, s p = none → Q (.ref p) (put s p o)
def spSent (A : Ad) : LSp := fun vs s Q E => ∃ x L dv F n, vs = [.ref x] ∧ IsLm A s x L dv F ∧ L.Ok n ∧ n < 100000 ∧ tellsO (.dT (encM pairL L.sent)) s Q
theorem ok_Loom_letters_sent (T : Txt K mg A D) (B : Bs K mg base A) : LFn P w K mg base 2 A.f_Loom_letters_sent D.d_Loom_letters_sent ["self"] (spSent A) := by
  refine T.F_Loom_letters_sent.okL sc_Loom_letters_sent (fun vs s Q E ⟨_, _, _, _, _, h, _⟩ => by rw [h]; rfl) (fun cdv A' outer si H E hr => ⟨_, (lps_cons (lp_set (i := 1) sc_Loom_letters_sent.nd rfl (by first | exact Or.inl rfl | exact Or.inr rfl) le_dnewT)
    (lps_cons (lp_for rfl (li_range1 rfl T.b_range (la_cons (le_fld T.cl_Loom T.n_Loom_many (lv 0)) la_nil)) (lg_name (i := 2) sc_Loom_letters_sent.nd rfl (by first | exact Or.inl rfl | exact Or.inr rfl)) (lps_one (lp_for rfl (li_enum rfl T.b_enumerate (la_cons (le_meth0 (le_item (hu_of hr) (le_fld T.cl_Loom T.n_Loom_threads (lv 0)) (lv 2)) T.cl_Thread T.mt_Thread_events (ok_Thread_events T B) (hr.mono (by decide)) T.q_Thread_events) la_nil)) (lg_tup (is := [3, 4]) rfl (pgs_cons (pg_name (i := 3) sc_Loom_letters_sent.nd rfl (by first | exact Or.inl rfl | exact Or.inr rfl)) (pgs_cons (pg_name (i := 4) sc_Loom_letters_sent.nd rfl (by first | exact Or.inl rfl | exact Or.inr rfl)) pgs_nil))) (lps_one (lp_for rfl (li_enum rfl T.b_enumerate (la_cons (le_fld T.cl_Event T.n_Event_sent (lv 4)) la_nil)) (lg_tup (is := [5, 6]) rfl (pgs_cons (pg_name (i := 5) sc_Loom_letters_sent.nd rfl (by first | exact Or.inl rfl | exact Or.inr rfl)) (pgs_cons (pg_name (i := 6) sc_Loom_letters_sent.nd rfl (by first | exact Or.inl rfl | exact Or.inr rfl)) pgs_nil))) (lps_one (lp_asg (lv 6) (lg_sub (hu_of hr) (lv 1) (le_tup (la_cons (lv 2) (la_cons (le_add (lv 3) le_int) (la_cons (lv 5) la_nil))))))))))))
    (lps_one (lp_ret (lv 1))))), fun vs s Q E h => ?_⟩)
  obtain ⟨x, L, dv, F, n, rfl, hl, hok, hn, h⟩ := h
  have hmn := hok.mn
  have hsl := hok.sentR_len
  simp_arith
  intro fo hfo
  have hl0 : IsLm A (put s fo (.dT [])) x L dv F := hl.own (own_fresh (G := []) hfo) (by simp)
  simp_arith [hl0.hx, lmF]
  refine lLoop_rg0 (fun i σ s' => ∃ v2 v3 v4 v5 v6, σ = [some (.ref x), some (.ref fo), v2, v3, v4, v5, v6] ∧ s' fo = some (.dT (encM pairL (putAll [] ((L.ths.zipIdx.take i).flatMap sentT)))) ∧ Own [fo] [fo] s s')
    ⟨_, _, _, _, _, rfl, put_same, own_fresh hfo⟩ (fun _ _ _ _ => trivial) ?_ ?_
  · rintro i σ s1 N hi ⟨v2, v3, v4, v5, v6, rfl, e1, o1⟩ hN
    have hm1 := hl.own o1 (hl.fresh hfo)
    have hi' : i < L.ths.length := by omega
    obtain ⟨t, et⟩ : ∃ t, L.ths[i]? = some t := ⟨_, List.getElem?_eq_getElem hi'⟩
    obtain ⟨f, ef, ht⟩ := hm1.ht.get et
    have er : (F.ts.map fun f => LV.ref f.1)[i]? = some (LV.ref f.1) := by rw [List.getElem?_map, ef]; rfl
    have ez : L.ths.zipIdx[i]? = some (t, i) := by rw [List.getElem?_zipIdx, et]; simp
    simp_arith [hm1.hx, lmF]
    rw [atI_nat er]
    simp_arith [hm1.hx, lmF, ht.hx, thF]
    refine ⟨f.1, t, f.2.1, f.2.2, rfl, ht, fun p hp => ?_⟩
    have npf : fo ≠ p := by rintro rfl; rw [e1] at hp; cases hp
    simp_arith [put_same]
    rw [enum_eq]
    refine lLoop_map (fun q : Ev × Nat => LV.tup [.int ((q.2 : Nat) : Int), evL A q.1]) (fun q r σ s' => ∃ v3 v4 v5 v6, σ = [some (.ref x), some (.ref fo), some (.int i), v3, v4, v5, v6] ∧ s' fo = some (.dT (encM pairL (putAll [] ((L.ths.zipIdx.take i).flatMap sentT ++ q.flatMap (sentE i))))) ∧ Own [fo] [fo] (put s1 p (.lst (t.done.map (evL A)))) s')
      ⟨_, _, _, _, rfl, by rw [put_ne npf, e1]; simp, .refl _ _⟩ (fun q r σ s' ⟨_, _, _, _, _, _, o⟩ => o.at (by simpa using Ne.symm npf) put_same) ?_ ?_
    · rintro q e r σ s2 N eq ⟨v3, v4, v5, v6, rfl, e2, o2⟩ hN
      have k1 := congrArg List.length (flat_split (f := sentT) ez)
      have k2 : (sentT (t, i)).length = (q.flatMap (sentE i)).length + ((sentE i e).length + (r.flatMap (sentE i)).length) := by
        have := congrArg (fun l => (List.flatMap (sentE i) l).length) eq
        simp only [List.flatMap_append, List.flatMap_cons, List.length_append] at this
        exact this
      simp only [List.length_append] at k1
      have k3 : (sentE i e).length = e.1.sent.length := by simp [sentE]
      have k4 : L.sentR.length = (L.ths.zipIdx.flatMap sentT).length := rfl
      simp_arith [evL]
      rw [enum_eq]
      refine lLoop_map (fun l : (Int × Int) × Nat => LV.tup [.int ((l.2 : Nat) : Int), pairL l.1]) (fun q2 r2 σ s' => ∃ v5 v6, σ = [some (.ref x), some (.ref fo), some (.int i), some (.int ((e.2 : Nat) : Int)), some (evL A e.1), v5, v6] ∧ s' fo = some (.dT (encM pairL (putAll [] ((L.ths.zipIdx.take i).flatMap sentT ++ q.flatMap (sentE i) ++ q2.map fun l => (⟨i, ((e.2 : Nat) : Int) + 1, ((l.2 : Nat) : Int)⟩, l.1))))) ∧ Own [fo] [fo] s2 s')
        ⟨_, _, rfl, by rw [e2]; simp, .refl _ _⟩ (fun q r σ s' _ => trivial) ?_ ?_
      · rintro q2 l r2 σ s3 N eq2 ⟨v5, v6, rfl, e3, o3⟩ hN
        have k5 := congrArg List.length eq2
        rw [List.length_zipIdx, List.length_append, List.length_cons] at k5
        have k6 : (encM pairL (putAll [] ((L.ths.zipIdx.take i).flatMap sentT ++ q.flatMap (sentE i) ++ q2.map fun l => (⟨i, ((e.2 : Nat) : Int) + 1, ((l.2 : Nat) : Int)⟩, l.1)))).length < 16777216 := by
          rw [encM_len]
          have := putAll_len ((L.ths.zipIdx.take i).flatMap sentT ++ q.flatMap (sentE i) ++ q2.map fun l => ((⟨i, ((e.2 : Nat) : Int) + 1, ((l.2 : Nat) : Int)⟩ : Nm), l.1)) []
          simp only [List.length_append, List.length_map, List.length_nil] at this
          omega
        simp_arith [e3]
        refine hN _ _ ⟨_, _, rfl, ?_, o3.trans (own_put (by simp))⟩
        rw [put_same, List.map_append, ← List.append_assoc, List.map_cons, List.map_nil, putAll_snoc]
        exact congrArg (fun z => some (LO.dT z)) (putD_enc pairL _ ⟨i, ((e.2 : Nat) : Int) + 1, ((l.2 : Nat) : Int)⟩ l.1)
      · rintro σ s3 ⟨v5, v6, rfl, e3, o3⟩
        refine hN _ _ ⟨_, _, _, _, rfl, ?_, o2.trans o3⟩
        rw [List.flatMap_append, List.flatMap_cons, List.flatMap_nil, List.append_nil, ← List.append_assoc]
        exact e3
    · rintro σ s2 ⟨v3, v4, v5, v6, rfl, e2, o2⟩
      refine hN _ _ ⟨_, _, _, _, _, rfl, ?_, (o1.trans (own_fresh hp)).trans o2⟩
      rw [flat_take ez]
      exact e2
  · rintro σ s1 ⟨v2, v3, v4, v5, v6, rfl, e1, o1⟩
    refine fin (sub_own hfo o1 e1) ?_
    have e : (L.ths.zipIdx.take ((L.ths.length : Int)).toNat) = L.ths.zipIdx := List.take_of_length_le (by simp)
    rw [e]
    exact h fo hfo
end
end Law

namespace Law
open PySem PySem.Spec L2 L3
local macro_rules
  | `(tactic| simp_arith) => `(tactic| ((conv => whnf); repeat ((first | with_reducible refine ifTT ?_ | with_reducible refine ifFF ?_ | with_reducible refine ifnT ?_ | with_reducible refine ifnF ?_ | with_reducible refine ifTr ?_ | with_reducible refine ifFr ?_ | (with_reducible refine And.intro ?_ ?_; · (first | with_reducible rfl | with_reducible exact ⟨rfl, rfl⟩ | decide | omega | (dsimp only; decide) | (dsimp only; omega) | (unfold CDiv; omega) | (unfold CPow; decide) | (unfold CMul; omega) | (simp only [List.length_cons, List.length_nil]; omega)))); conv => whnf)))
local macro_rules
  | `(tactic| simp_arith [$ls,*]) => `(tactic| ((conv => whnf); repeat ((first | with_reducible refine ifTT ?_ | with_reducible refine ifFF ?_ | with_reducible refine ifnT ?_ | with_reducible refine ifnF ?_ | with_reducible refine ifTr ?_ | with_reducible refine ifFr ?_ | (with_reducible refine And.intro ?_ ?_; · (first | with_reducible rfl | with_reducible exact ⟨rfl, rfl⟩ | decide | omega | (dsimp only; decide) | (dsimp only; omega) | (unfold CDiv; omega) | (unfold CPow; decide) | (unfold CMul; omega) | (simp only [List.length_cons, List.length_nil]; omega) | (simp only [Option.isSome_some]; done) | (simp only [meth_ref, put_same', seqL_ref, $ls,*]; first | done | exact ⟨rfl, rfl⟩ | exact ⟨trivial, rfl⟩ | rfl))) | (simp (decide := true) only [put_same', put_put, decF, decT, Bool.not_true, Bool.not_false, putL_nil, putL_cons, if_true, if_false, seqR_ref, seqL_ref, lenL_ref, dicK_ref, dicT_ref, dat_ref, dat_non, dat_bl, dat_int, dat_str, dat_lst, dat_tup, datV_non, datV_bl, datV_int, datV_str, datV_lst, datV_tup, datVs_nil, datVs_cons, tyAt_ref, opt_some, Option.map_some, Option.bind_some, dv_ints, dv_bls, dv_nms, dv_prs, dv_nm, dt_nm, dt_pr, dv_pr, sh_int, sh_bl, sh_none, sh_nil, eqv_nil, sh_ints, sh_bls, sh_nm, sh_nms, sh_pr, sh_prs, anyI, anyN, anyP, eqv_int, eqv_bl, eqv_ints, eqv_bls, eqv_nms, eqv_prs, eqv_nm, eqv_pr, $ls,*])); conv => whnf)))

section
variable {P : Program} {w : World} {K : PySem.W.Frag} [GG K] {mg : Str → Option Value} {base : Heap} {A : Ad} {D : Fd}
def spUsed (A : Ad) : LSp := fun vs s Q E => ∃ x L dv F n, vs = [.ref x] ∧ IsLm A s x L dv F ∧ L.Ok n ∧ n < 100000 ∧ tellsO (.dT (encM .int L.used)) s Q
theorem ok_Loom_letters_used (T : Txt K mg A D) (B : Bs K mg base A) : LFn P w K mg base 2 A.f_Loom_letters_used D.d_Loom_letters_used ["self"] (spUsed A) := by
  refine T.F_Loom_letters_used.okL sc_Loom_letters_used (fun vs s Q E ⟨_, _, _, _, _, h, _⟩ => by rw [h]; rfl) (fun cdv A' outer si H E hr => ⟨_, (lps_cons (lp_set (i := 1) sc_Loom_letters_used.nd rfl (by first | exact Or.inl rfl | exact Or.inr rfl) le_dnewT)
    (lps_cons (lp_for rfl (li_seq (le_fld T.cl_Loom T.n_Loom_threads (lv 0))) (lg_name (i := 2) sc_Loom_letters_used.nd rfl (by first | exact Or.inl rfl | exact Or.inr rfl)) (lps_one (lp_for rfl (li_enum rfl T.b_enumerate (la_cons (le_meth0 (lv 2) T.cl_Thread T.mt_Thread_events (ok_Thread_events T B) (hr.mono (by decide)) T.q_Thread_events) la_nil)) (lg_tup (is := [3, 4]) rfl (pgs_cons (pg_name (i := 3) sc_Loom_letters_used.nd rfl (by first | exact Or.inl rfl | exact Or.inr rfl)) (pgs_cons (pg_name (i := 4) sc_Loom_letters_used.nd rfl (by first | exact Or.inl rfl | exact Or.inr rfl)) pgs_nil))) (lps_one (lp_if (lt_notN (le_fld T.cl_Event T.n_Event_used (lv 4)) le_non) (lps_one (lp_asg (le_add (lv 3) le_int) (lg_sub (hu_of hr) (lv 1) (le_fld T.cl_Event T.n_Event_used (lv 4))))) lps_nil)))))
    (lps_one (lp_ret (lv 1))))), fun vs s Q E h => ?_⟩)
  obtain ⟨x, L, dv, F, n, rfl, hl, hok, hn, h⟩ := h
  have hsl := hok.usedR_len
  simp_arith
  intro fo hfo
  have hl0 : IsLm A (put s fo (.dT [])) x L dv F := hl.own (own_fresh (G := []) hfo) (by simp)
  simp_arith [hl0.hx, lmF]
  rw [hl.ht.zip]
  have ezz : (F.ts.zip L.ths).flatMap (fun p => usedT p.2) = L.usedR := by
    rw [List.flatMap_def, hl.ht.zip2]
    rfl
  refine lLoop_map (fun p : Ta × Th => LV.ref p.1.1) (fun q r σ s' => ∃ v2 v3 v4, σ = [some (.ref x), some (.ref fo), v2, v3, v4] ∧ s' fo = some (.dT (encM .int (putAll [] (q.flatMap fun p => usedT p.2)))) ∧ Own [fo] [fo] s s')
    ⟨_, _, _, rfl, put_same, own_fresh hfo⟩ (fun _ _ _ _ _ => trivial) ?_ ?_
  · rintro q ⟨f, t⟩ r σ s1 N eq ⟨v2, v3, v4, rfl, e1, o1⟩ hN
    have hm1 := hl.own o1 (hl.fresh hfo)
    have ht := (hm1.ht.mem (p := (f, t)) (by rw [eq]; simp)).1
    have k1 := congrArg (fun l => (List.flatMap (fun p : Ta × Th => usedT p.2) l).length) eq
    simp only [List.flatMap_append, List.flatMap_cons, List.length_append, ezz] at k1
    simp_arith [ht.hx, thF]
    refine ⟨f.1, t, f.2.1, f.2.2, rfl, ht, fun p hp => ?_⟩
    have npf : fo ≠ p := by rintro rfl; rw [e1] at hp; cases hp
    simp_arith [put_same]
    rw [enum_eq]
    refine lLoop_map (fun q : Ev × Nat => LV.tup [.int ((q.2 : Nat) : Int), evL A q.1]) (fun q2 r σ s' => ∃ v3 v4, σ = [some (.ref x), some (.ref fo), some (.ref f.1), v3, v4] ∧ s' fo = some (.dT (encM .int (putAll [] ((q.flatMap fun p => usedT p.2) ++ q2.flatMap usedE)))) ∧ Own [fo] [fo] (put s1 p (.lst (t.done.map (evL A)))) s')
      ⟨_, _, rfl, by rw [put_ne npf, e1]; simp, .refl _ _⟩ (fun q r σ s' ⟨_, _, _, _, o⟩ => o.at (by simpa using Ne.symm npf) put_same) ?_ ?_
    · rintro q2 e r2 σ s2 N eq2 ⟨v3, v4, rfl, e2, o2⟩ hN
      have k2 := congrArg (fun l => (List.flatMap usedE l).length) eq2
      simp only [List.flatMap_append, List.flatMap_cons, List.length_append] at k2
      have k4 : (usedT t).length = (t.done.zipIdx.flatMap usedE).length := rfl
      simp_arith [evL]
      cases eu : e.1.used with
      | none =>
        simp_arith [usedL]
        refine hN _ _ ⟨_, _, rfl, ?_, o2⟩
        rw [List.flatMap_append, List.flatMap_cons, List.flatMap_nil, List.append_nil]
        unfold usedE
        rw [eu, List.append_nil]
        exact e2
      | some m =>
        have k5 : (usedE e).length = 1 := by unfold usedE; rw [eu]; rfl
        have k6 : (encM LV.int (putAll [] ((q.flatMap fun p => usedT p.2) ++ q2.flatMap usedE))).length < 16777216 := by
          rw [encM_len]
          have := putAll_len ((q.flatMap fun p => usedT p.2) ++ q2.flatMap usedE) []
          simp only [List.length_append, List.length_nil] at this
          omega
        simp_arith [usedL, nmL, e2]
        refine hN _ _ ⟨some (.int ((e.2 : Nat) : Int)), some (evL A e.1), ?_, ?_, o2.trans (own_put (by simp))⟩
        · unfold evL; rw [eu]; rfl
        rw [put_same, List.flatMap_append, List.flatMap_cons, List.flatMap_nil, List.append_nil, ← List.append_assoc]
        have eu2 : usedE e = [(m, ((e.2 : Nat) : Int) + 1)] := by unfold usedE; rw [eu]
        rw [eu2, putAll_snoc]
        exact congrArg (fun z => some (LO.dT z)) (putD_enc LV.int _ m (((e.2 : Nat) : Int) + 1))
    · rintro σ s2 ⟨v3, v4, rfl, e2, o2⟩
      refine hN _ _ ⟨_, _, _, rfl, ?_, (o1.trans (own_fresh hp)).trans o2⟩
      rw [List.flatMap_append, List.flatMap_cons, List.flatMap_nil, List.append_nil]
      exact e2
  · rintro σ s1 ⟨v2, v3, v4, rfl, e1, o1⟩
    refine fin (sub_own hfo o1 e1) ?_
    rw [ezz]
    exact h fo hfo
def spPlaces (A : Ad) : LSp := fun vs s Q E => ∃ x L dv F n, vs = [.ref x] ∧ IsLm A s x L dv F ∧ L.Ok n ∧ tells ((L.ths.map Th.here).map .int) s Q
theorem ok_Loom_places (T : Txt K mg A D) (B : Bs K mg base A) : LFn P w K mg base 2 A.f_Loom_places D.d_Loom_places ["self"] (spPlaces A) := by
  refine T.F_Loom_places.okL sc_Loom_places (fun vs s Q E ⟨_, _, _, _, _, h, _⟩ => by rw [h]; rfl) (fun cdv A' outer si H E hr => ⟨_, (lps_one (lp_ret (le_new (ll_lc (own := [("thread", 1)]) (g := CTg.one 1) rfl sc_Loom_places.nd (li_seq (le_fld T.cl_Loom T.n_Loom_threads (lv 0))) (blkOk_by (N := ["self", "thread"]) (sc := defScope s_Loom_places) (by decide +kernel)) (by decide) (fun _ _ _ _ _ => pg_name (i := 1) sc_Loom_places.nd rfl (Or.inl rfl)) (fun _ _ _ _ _ => lts_nil) (fun _ _ _ _ _ => (le_meth0 (lv 1) T.cl_Thread T.mt_Thread_here (ok_Thread_here T B) (hr.mono (by decide)) T.q_Thread_here)))))), fun vs s Q E h => ?_⟩)
  obtain ⟨x, L, dv, F, n, rfl, hl, hok, h⟩ := h
  have hmn := hok.mn
  simp_arith [hl.hx, lmF]
  rw [hl.ht.zip]
  intro Da hD
  refine lc_map1 (α := Ta × Th) (enc := fun p => LV.ref p.1.1) hD (fun p => LV.int p.2.here) (fun _ _ => trivial) (by simp [hl.ht.len]; omega) ?_ ?_
  · intro p hp s' Y ex hY
    have ht := ((hl.ext ex).ht.mem hp).1
    simp_arith [ht.hx, thF]
    refine ⟨p.1.1, p.2, p.1.2.1, p.1.2.2, rfl, ht, ?_⟩
    exact hY
  · rw [hl.ht.zip2 (fun t => LV.int t.here)]
    simp_arith
    intro l hll
    refine fin (.refl _) ?_
    have := h l hll
    rw [List.map_map] at this
    exact this
def spStates (A : Ad) : LSp := fun vs s Q E => ∃ x L dv F n, vs = [.ref x] ∧ IsLm A s x L dv F ∧ L.Ok n ∧ n < 100000 ∧ tells ((L.ths.map Th.cur).map .int) s Q
theorem ok_Loom_states (T : Txt K mg A D) (B : Bs K mg base A) : LFn P w K mg base 4 A.f_Loom_states D.d_Loom_states ["self"] (spStates A) := by
  refine T.F_Loom_states.okL sc_Loom_states (fun vs s Q E ⟨_, _, _, _, _, h, _⟩ => by rw [h]; rfl) (fun cdv A' outer si H E hr => ⟨_, (lps_one (lp_ret (le_new (ll_lc (own := [("thread", 1)]) (g := CTg.one 1) rfl sc_Loom_states.nd (li_seq (le_fld T.cl_Loom T.n_Loom_threads (lv 0))) (blkOk_by (N := ["self", "thread"]) (sc := defScope s_Loom_states) (by decide +kernel)) (by decide) (fun _ _ _ _ _ => pg_name (i := 1) sc_Loom_states.nd rfl (Or.inl rfl)) (fun _ _ _ _ _ => lts_nil) (fun _ _ _ _ _ => (le_meth (lv 1) T.cl_Thread T.mt_Thread_state_at (ok_Thread_state_at T B) (hr.mono (by decide)) T.q_Thread_state_at (la_cons (le_meth0 (lv 1) T.cl_Thread T.mt_Thread_here (ok_Thread_here T B) (hr.mono (by decide)) T.q_Thread_here) la_nil))))))), fun vs s Q E h => ?_⟩)
  obtain ⟨x, L, dv, F, n, rfl, hl, hok, hn, h⟩ := h
  have hmn := hok.mn
  simp_arith [hl.hx, lmF]
  rw [hl.ht.zip]
  intro Da hD
  refine lc_map1 (α := Ta × Th) (enc := fun p => LV.ref p.1.1) hD (fun p => LV.int p.2.cur) (fun _ _ => trivial) (by simp [hl.ht.len]; omega) ?_ ?_
  · intro p hp s' Y ex hY
    obtain ⟨ht, htm⟩ := (hl.ext ex).ht.mem hp
    have hsm := hok.th p.2 htm
    have hdn := hsm.dn
    simp_arith [ht.hx, thF]
    refine ⟨p.1.1, p.2, p.1.2.1, p.1.2.2, rfl, ht, ?_⟩
    simp_arith [ht.hx, thF]
    refine ⟨p.1.1, p.2, p.1.2.1, p.1.2.2, p.2.here, rfl, ht, hsm.ok, by omega, fun _ z ez _ => ?_, fun hno => absurd (Or.inl rfl) hno⟩
    rw [p.2.cur_at] at ez
    cases ez
    exact hY
  · rw [hl.ht.zip2 (fun t => LV.int t.cur)]
    simp_arith
    intro l hll
    refine fin (.refl _) ?_
    have := h l hll
    rw [List.map_map] at this
    exact this
/-- a hand that is one -/
def Rng (L : Lm) (h : Int) : Prop := 0 ≤ h ∧ h < L.ths.length
instance (L : Lm) (h : Int) : Decidable (Rng L h) := inferInstanceAs (Decidable (_ ∧ _))
theorem Rng.get {L : Lm} {h : Int} (r : Rng L h) : ∃ i t, h = ((i : Nat) : Int) ∧ L.ths[i]? = some t := by
  obtain ⟨i, rfl⟩ := Int.eq_ofNat_of_zero_le r.1
  have hi : i < L.ths.length := by have := r.2; omega
  exact ⟨i, _, rfl, List.getElem?_eq_getElem hi⟩
def spThOf (A : Ad) : LSp := fun vs s Q E => ∃ x L dv F h, vs = [.ref x, .int h] ∧ IsLm A s x L dv F ∧ (∀ i t f, h = ((i : Nat) : Int) → L.ths[i]? = some t → F.ts[i]? = some f → IsTh A s f.1 t f.2.1 f.2.2 → Q (.ref f.1) s) ∧ (¬ Rng L h → E A.c_NoHand s)
theorem ok_Loom_thread_of (T : Txt K mg A D) (B : Bs K mg base A) : LFn P w K mg base 1 A.f_Loom_thread_of D.d_Loom_thread_of ["self", "hand"] (spThOf A) := by
  refine T.F_Loom_thread_of.okL sc_Loom_thread_of (fun vs s Q E ⟨_, _, _, _, _, h, _⟩ => by rw [h]; rfl) (fun cdv A' outer si H E hr => ⟨_, (lps_cons (lp_if (LW.lt (lw_or (lt_lt (lv 1) le_int) (lw_or1 (lt_ge (lv 1) (le_fld T.cl_Loom T.n_Loom_many (lv 0)))))) (lps_one (lp_raise T.x_NoHand rfl rfl)) lps_nil)
    (lps_one (lp_ret (le_item (hu_of hr) (le_fld T.cl_Loom T.n_Loom_threads (lv 0)) (lv 1))))), fun vs s Q E h => ?_⟩)
  obtain ⟨x, L, dv, F, hd, rfl, hl, h1, h2⟩ := h
  simp_arith
  refine ifD (fun hc => ?_) (fun hc => ?_)
  · simp_arith
    exact ⟨_, .refl _, h2 fun r => by have := r.1; omega⟩
  · simp_arith [hl.hx, lmF]
    refine ifD (fun hc2 => ?_) (fun hc2 => ?_)
    · simp_arith
      exact ⟨_, .refl _, h2 fun r => by have := r.2; omega⟩
    · obtain ⟨i, t, rfl, et⟩ := Rng.get (L := L) (h := hd) ⟨by omega, by omega⟩
      obtain ⟨f, ef, ht⟩ := hl.ht.get et
      have er : (F.ts.map fun f => LV.ref f.1)[i]? = some (LV.ref f.1) := by rw [List.getElem?_map, ef]; rfl
      simp_arith [hl.hx, lmF]
      rw [atI_nat er]
      simp_arith
      exact fin (.refl _) (h1 i t f rfl et ef ht)
def spPoints2 (A : Ad) : LSp := fun vs s Q E => ∃ x L dv F n h, vs = [.ref x, .int h] ∧ IsLm A s x L dv F ∧ L.Ok n ∧ n < 100000 ∧ (∀ i t, h = ((i : Nat) : Int) → L.ths[i]? = some t → tells (t.points.map .int) s Q) ∧ (¬ Rng L h → E A.c_NoHand s)
theorem ok_Loom_points (T : Txt K mg A D) (B : Bs K mg base A) : LFn P w K mg base 3 A.f_Loom_points D.d_Loom_points ["self", "hand"] (spPoints2 A) := by
  refine T.F_Loom_points.okL sc_Loom_points (fun vs s Q E ⟨_, _, _, _, _, _, h, _⟩ => by rw [h]; rfl) (fun cdv A' outer si H E hr => ⟨_, (lps_one (lp_ret (le_meth0 (le_meth (lv 0) T.cl_Loom T.mt_Loom_thread_of (ok_Loom_thread_of T B) (hr.mono (by decide)) T.q_Loom_thread_of (la_cons (lv 1) la_nil)) T.cl_Thread T.mt_Thread_points (ok_Thread_points T B) (hr.mono (by decide)) T.q_Thread_points))), fun vs s Q E h => ?_⟩)
  obtain ⟨x, L, dv, F, n, hd, rfl, hl, hok, hn, h1, h2⟩ := h
  simp_arith [hl.hx, lmF]
  refine ⟨x, L, dv, F, hd, rfl, hl, fun i t f e1 et ef ht => ?_, fun no => ⟨_, .refl _, h2 no⟩⟩
  have hsm := hok.th t (List.mem_of_getElem? et)
  have hdn := hsm.dn
  simp_arith [ht.hx, thF]
  refine ⟨f.1, t, f.2.1, f.2.2, rfl, ht, hsm.ok, by omega, fun p hp => ?_⟩
  exact fin (.refl _) (h1 i t e1 et p hp)
end
end Law

namespace Law
open PySem PySem.Spec L2 L3
local macro_rules
  | `(tactic| simp_arith) => `(tactic| ((conv => whnf); repeat ((first | with_reducible refine ifTT ?_ | with_reducible refine ifFF ?_ | with_reducible refine ifnT ?_ | with_reducible refine ifnF ?_ | with_reducible refine ifTr ?_ | with_reducible refine ifFr ?_ | (with_reducible refine And.intro ?_ ?_; · (first | with_reducible rfl | with_reducible exact ⟨rfl, rfl⟩ | decide | omega | (dsimp only; decide) | (dsimp only; omega) | (unfold CDiv; omega) | (unfold CPow; decide) | (unfold CMul; omega) | (simp only [List.length_cons, List.length_nil]; omega)))); conv => whnf)))
local macro_rules
  | `(tactic| simp_arith [$ls,*]) => `(tactic| ((conv => whnf); repeat ((first | with_reducible refine ifTT ?_ | with_reducible refine ifFF ?_ | with_reducible refine ifnT ?_ | with_reducible refine ifnF ?_ | with_reducible refine ifTr ?_ | with_reducible refine ifFr ?_ | (with_reducible refine And.intro ?_ ?_; · (first | with_reducible rfl | with_reducible exact ⟨rfl, rfl⟩ | decide | omega | (dsimp only; decide) | (dsimp only; omega) | (unfold CDiv; omega) | (unfold CPow; decide) | (unfold CMul; omega) | (simp only [List.length_cons, List.length_nil]; omega) | (simp only [Option.isSome_some]; done) | (simp only [meth_ref, put_same', seqL_ref, $ls,*]; first | done | exact ⟨rfl, rfl⟩ | exact ⟨trivial, rfl⟩ | rfl))) | (simp (decide := true) only [put_same', put_put, decF, decT, Bool.not_true, Bool.not_false, putL_nil, putL_cons, if_true, if_false, seqR_ref, seqL_ref, lenL_ref, dicK_ref, dicT_ref, dat_ref, dat_non, dat_bl, dat_int, dat_str, dat_lst, dat_tup, datV_non, datV_bl, datV_int, datV_str, datV_lst, datV_tup, datVs_nil, datVs_cons, tyAt_ref, opt_some, Option.map_some, Option.bind_some, dv_ints, dv_bls, dv_nms, dv_prs, dv_nm, dt_nm, dt_pr, dv_pr, sh_int, sh_bl, sh_none, sh_nil, eqv_nil, sh_ints, sh_bls, sh_nm, sh_nms, sh_pr, sh_prs, anyI, anyN, anyP, eqv_int, eqv_bl, eqv_ints, eqv_bls, eqv_nms, eqv_prs, eqv_nm, eqv_pr, $ls,*])); conv => whnf)))

section
variable {P : Program} {w : World} {K : PySem.W.Frag} [GG K] {mg : Str → Option Value} {base : Heap} {A : Ad} {D : Fd}
theorem isS_enc {β : Type} (v : β → LV) (m : List (Nm × β)) (n : Nm) : (valL (encM v m) (nmK n)).isSome = decide (n ∈ m.map (·.1)) := by rw [valL_enc, Option.isSome_map, getA_isSome]
def spRoad (A : Ad) : LSp := fun vs s Q E => ∃ x L dv F n, vs = [.ref x] ∧ IsLm A s x L dv F ∧ L.Ok n ∧ n < 100000 ∧ tells (L.road.map nmL) s Q
theorem ok_Loom_road (T : Txt K mg A D) (B : Bs K mg base A) : LFn P w K mg base 3 A.f_Loom_road D.d_Loom_road ["self"] (spRoad A) := by
  refine T.F_Loom_road.okL sc_Loom_road (fun vs s Q E ⟨_, _, _, _, _, h, _⟩ => by rw [h]; rfl) (fun cdv A' outer si H E hr => ⟨_, (lps_cons (lp_set (i := 1) sc_Loom_road.nd rfl (by first | exact Or.inl rfl | exact Or.inr rfl) (le_frz (le_meth0 (lv 0) T.cl_Loom T.mt_Loom_letters_used (ok_Loom_letters_used T B) (hr.mono (by decide)) T.q_Loom_letters_used)))
    (lps_one (lp_ret (le_new (ll_sortedD Nm hr.units rfl T.b_sorted (la_cons (le_fz (ll_lc (own := [("name", 2)]) (g := CTg.one 2) rfl sc_Loom_road.nd (li_keys (le_frz (le_meth0 (lv 0) T.cl_Loom T.mt_Loom_letters_sent (ok_Loom_letters_sent T B) (hr.mono (by decide)) T.q_Loom_letters_sent))) (blkOk_by (N := ["self", "used", "name"]) (sc := defScope s_Loom_road) (by decide +kernel)) (by decide) (fun _ _ _ _ _ => pg_name (i := 2) sc_Loom_road.nd rfl (Or.inl rfl)) (fun _ _ _ _ _ => (lts_one (lt_ninT (hu_of hr) (lv 2) (lv 1) (by rfl)))) (fun _ _ _ _ _ => (lv 2)))) la_nil)))))), fun vs s Q E h => ?_⟩)
  obtain ⟨x, L, dv, F, n, rfl, hl, hok, hn, h⟩ := h
  have hsl := hok.sentR_len
  have hul := hok.usedR_len
  simp_arith [hl.hx, lmF]
  refine ⟨x, L, dv, F, n, rfl, hl, hok, hn, fun q hq => fin_dT put_same hq (sub_put hq) ?_⟩
  simp_arith [hl.hx, lmF]
  refine ⟨x, L, dv, F, n, rfl, hl, hok, hn, fun q hq => fin_dT put_same hq (sub_put hq) ?_⟩
  simp_arith [hl.hx, lmF]
  intro Da hD
  rw [encM_keys]
  refine lc_pure (enc := nmL) hD (fun n => decide (n ∉ L.used.map (·.1))) nmL (fun _ _ => trivial) ?_ ?_ ?_
  · have := putAll_len L.sentR []
    simp only [List.length_map, List.length_nil] at this ⊢
    unfold Lm.sent
    omega
  · intro n hn' s' Y N ex hY hN
    unfold nmL
    simp_arith
    have e := isS_enc LV.int L.used n
    have e2 : (true ^^ (valL (encM LV.int L.used) (nmK n)).isSome) = decide (n ∉ L.used.map (·.1)) := by rw [e, Bool.true_xor, decide_not]
    exact ⟨fun q => hY (e2.symm.trans q), fun q => hN (e2.symm.trans q)⟩
  · simp_arith
    exact ⟨_, rfl, fun p hp => fin (.refl _) (h p hp)⟩
def spRows (A : Ad) : LSp := fun vs s Q E => ∃ x L dv F n, vs = [.ref x] ∧ IsLm A s x L dv F ∧ L.Ok n ∧ n < 100000 ∧ tells (L.done.map fun p => rowL p.1) s Q
theorem ok_Loom_rows (T : Txt K mg A D) (B : Bs K mg base A) : LFn P w K mg base 1 A.f_Loom_rows D.d_Loom_rows ["self"] (spRows A) := by
  refine T.F_Loom_rows.okL sc_Loom_rows (fun vs s Q E ⟨_, _, _, _, _, h, _⟩ => by rw [h]; rfl) (fun cdv A' outer si H E hr => ⟨_, (lps_one (lp_ret (le_new (ll_lc (own := [("row", 1), ("place", 2)]) (g := CTg.many [1, 2]) rfl sc_Loom_rows.nd (li_seq (le_fld T.cl_Loom T.n_Loom_done (lv 0))) (blkOk_by (N := ["self", "row", "place"]) (sc := defScope s_Loom_rows) (by decide +kernel)) (by decide) (fun _ _ _ _ _ => pg_tup rfl (pgs_cons (pg_name (i := 1) sc_Loom_rows.nd rfl (Or.inl rfl)) (pgs_cons (pg_name (i := 2) sc_Loom_rows.nd rfl (Or.inl rfl)) pgs_nil))) (fun _ _ _ _ _ => lts_nil) (fun _ _ _ _ _ => (lv 1)))))), fun vs s Q E h => ?_⟩)
  obtain ⟨x, L, dv, F, n, rfl, hl, hok, hn, h⟩ := h
  have hdn := hok.dn
  simp_arith [hl.hx, hl.hd, lmF]
  intro Da hD
  refine lc_map (enc := doneL) hD (fun p => rowL p.1) (fun s' ex => ex _ _ hl.hd) (by omega) ?_ (fun _ _ _ _ _ h q => lift_mono _ h q) ?_
  · rintro ⟨r, p⟩ hp s' Y ex hY
    unfold doneL
    simp_arith
    exact hY
  · simp_arith
    intro l hll
    exact fin (.refl _) (h l hll)
/-- the words of each deed, told as new lists -/
def tellsW (ws : List (List Int)) (s : LS) (Q : LVK) : Prop := ∀ s' p (prs : List (Addr × List Int)), prs.map (·.2) = ws → s' p = some (.lst (prs.map fun q => .ref q.1)) → (∀ q ∈ prs, s' q.1 = some (.lst (q.2.map .int))) → (p :: prs.map (·.1)).Nodup → Own [] (p :: prs.map (·.1)) s s' → Q (.ref p) s'
def spWords (A : Ad) : LSp := fun vs s Q E => ∃ x L dv F n h, vs = [.ref x, .int h] ∧ IsLm A s x L dv F ∧ L.Ok n ∧ n < 100000 ∧ (∀ i t, h = ((i : Nat) : Int) → L.ths[i]? = some t → tellsW (t.done.map Ev.said) s Q) ∧ (¬ Rng L h → E A.c_NoHand s)
end
end Law

namespace Law
open PySem PySem.Spec L2 L3
local macro_rules
  | `(tactic| simp_arith) => `(tactic| ((conv => whnf); repeat ((first | with_reducible refine ifTT ?_ | with_reducible refine ifFF ?_ | with_reducible refine ifnT ?_ | with_reducible refine ifnF ?_ | with_reducible refine ifTr ?_ | with_reducible refine ifFr ?_ | (with_reducible refine And.intro ?_ ?_; · (first | with_reducible rfl | with_reducible exact ⟨rfl, rfl⟩ | decide | omega | (dsimp only; decide) | (dsimp only; omega) | (unfold CDiv; omega) | (unfold CPow; decide) | (unfold CMul; omega) | (simp only [List.length_cons, List.length_nil]; omega)))); conv => whnf)))
local macro_rules
  | `(tactic| simp_arith [$ls,*]) => `(tactic| ((conv => whnf); repeat ((first | with_reducible refine ifTT ?_ | with_reducible refine ifFF ?_ | with_reducible refine ifnT ?_ | with_reducible refine ifnF ?_ | with_reducible refine ifTr ?_ | with_reducible refine ifFr ?_ | (with_reducible refine And.intro ?_ ?_; · (first | with_reducible rfl | with_reducible exact ⟨rfl, rfl⟩ | decide | omega | (dsimp only; decide) | (dsimp only; omega) | (unfold CDiv; omega) | (unfold CPow; decide) | (unfold CMul; omega) | (simp only [List.length_cons, List.length_nil]; omega) | (simp only [Option.isSome_some]; done) | (simp only [meth_ref, put_same', seqL_ref, $ls,*]; first | done | exact ⟨rfl, rfl⟩ | exact ⟨trivial, rfl⟩ | rfl))) | (simp (decide := true) only [put_same', put_put, decF, decT, Bool.not_true, Bool.not_false, putL_nil, putL_cons, if_true, if_false, seqR_ref, seqL_ref, lenL_ref, dicK_ref, dicT_ref, dat_ref, dat_non, dat_bl, dat_int, dat_str, dat_lst, dat_tup, datV_non, datV_bl, datV_int, datV_str, datV_lst, datV_tup, datVs_nil, datVs_cons, tyAt_ref, opt_some, Option.map_some, Option.bind_some, dv_ints, dv_bls, dv_nms, dv_prs, dv_nm, dt_nm, dt_pr, dv_pr, sh_int, sh_bl, sh_none, sh_nil, eqv_nil, sh_ints, sh_bls, sh_nm, sh_nms, sh_pr, sh_prs, anyI, anyN, anyP, eqv_int, eqv_bl, eqv_ints, eqv_bls, eqv_nms, eqv_prs, eqv_nm, eqv_pr, $ls,*])); conv => whnf)))

section
variable {P : Program} {w : World} {K : PySem.W.Frag} [GG K] {mg : Str → Option Value} {base : Heap} {A : Ad} {D : Fd}
def spOwn (A : Ad) : LSp := fun vs s Q E => ∃ x L dv F G n h, vs = [.ref x, .int h] ∧ LD A s x L dv F G ∧ L.Ok n ∧ n < 100000 ∧ G.length < 16000000 ∧ (∀ i t, h = ((i : Nat) : Int) → L.ths[i]? = some t → DoneL A s x (L.own i t) dv F G Q) ∧ (¬ Rng L h → E A.c_NoHand s)
theorem ok_Loom_own (T : Txt K mg A D) (B : Bs K mg base A) : LFn P w K mg base 5 A.f_Loom_own D.d_Loom_own ["self", "hand"] (spOwn A) := by
  refine T.F_Loom_own.okL sc_Loom_own (fun vs s Q E ⟨_, _, _, _, _, _, _, h, _⟩ => by rw [h]; rfl) (fun cdv A' outer si H E hr => ⟨_, (lps_cons (lp_expr (le_meth (lv 0) T.cl_Loom T.mt_Loom_thread_of (ok_Loom_thread_of T B) (hr.mono (by decide)) T.q_Loom_thread_of (la_cons (lv 1) la_nil)))
    (lps_cons (lp_expr (le_meth (lv 0) T.cl_Loom T.mt_Loom_add (ok_Loom_add T B) (hr.mono (by decide)) T.q_Loom_add (la_cons (lv 1) (la_cons le_non (la_cons le_non la_nil)))))
    (lps_one (lp_expr (le_append (le_fld T.cl_Loom T.n_Loom_done (lv 0)) (la_cons (le_tup (la_cons (le_tup (la_cons le_str (la_cons (lv 1) la_nil))) (la_cons (le_meth0 (le_item (hu_of hr) (le_fld T.cl_Loom T.n_Loom_threads (lv 0)) (lv 1)) T.cl_Thread T.mt_Thread_here (ok_Thread_here T B) (hr.mono (by decide)) T.q_Thread_here) la_nil))) la_nil)))))), fun vs s Q E h => ?_⟩)
  obtain ⟨x, L, dv, F, G, n, hd, rfl, hl, hok, hn, hG, h1, h2⟩ := h
  simp_arith [hl.lm.hx, lmF]
  refine ⟨x, L, dv, F, hd, rfl, hl.lm, fun i t f e1 et ef ht => ?_, fun no => ⟨_, .refl _, h2 no⟩⟩
  subst e1
  simp_arith [hl.lm.hx, lmF]
  refine ⟨x, L, dv, F, G, n, i, t, none, none, rfl, hl, hok, hn, hG, et, fun s1 G1 hl1 hk1 ho1 hg1 => ?_⟩
  have hi : i < L.ths.length := (List.getElem?_eq_some_iff.mp et).1
  have et1 : (L.add i t none none).ths[i]? = some (t.do (evOf L.f t i none none)) := by simp [Lm.add, hi]
  have ht1 := hl1.lm.ht.at_ i _ f et1 ef
  have er : (F.ts.map fun f => LV.ref f.1)[i]? = some (LV.ref f.1) := by rw [List.getElem?_map, ef]; rfl
  have hdl : (L.done.map doneL).length < 16777216 := by rw [List.length_map]; have := hok.dn; omega
  simp_arith [hl1.lm.hx, hl1.lm.hd, lmF, Lm.add]
  rw [atI_nat er]
  simp_arith [hl1.lm.hx, hl1.lm.hd, lmF, Lm.add, ht1.hx, thF]
  refine ⟨f.1, _, f.2.1, f.2.2, rfl, ht1, ?_⟩
  simp_arith [hl1.lm.hx, hl1.lm.hd, lmF, Lm.add, ht1.hx, thF]
  have o2 := own_put (s := s1) (G := F.all x) (a := F.d) (o := .lst ((L.done ++ [(Row.own i, t.here + 1)]).map doneL)) (by simp [Fp.all])
  have hp := hl1.pr.own o2 fun a ha hb => hl1.ap a hb ha
  have hm := hl1.lm.put_d (L.done ++ [(Row.own i, t.here + 1)])
  have est : put s1 F.d (.lst ((L.done ++ [(Row.own i, t.here + 1)]).map doneL)) = put s1 F.d (.lst (L.done.map doneL ++ [LV.tup [.tup [.str "own", .int i], .int (t.do (evOf L.f t i none none)).here]])) := by rw [here_do, List.map_append]; rfl
  rw [← est]
  exact ⟨_, .refl _, h1 i t rfl et _ G1 ⟨hm, hp.1, hl1.ap⟩ (hk1.trans hp.2) (ho1.trans (o2.grow fun a ha => List.mem_append_left _ ha)) hg1⟩
def spWriteL (A : Ad) : LSp := fun vs s Q E => ∃ x L dv F n h, vs = [.ref x, .int h] ∧ IsLm A s x L dv F ∧ L.Ok n ∧ n < 100000 ∧ (∀ i t, h = ((i : Nat) : Int) → L.ths[i]? = some t → ∀ s', IsLm A s' x (L.write i t) dv F → Own (F.all x) (F.all x) s s' → Q .non s') ∧ (¬ Rng L h → E A.c_NoHand s)
theorem ok_Loom_write (T : Txt K mg A D) (B : Bs K mg base A) : LFn P w K mg base 3 A.f_Loom_write D.d_Loom_write ["self", "hand"] (spWriteL A) := by
  refine T.F_Loom_write.okL sc_Loom_write (fun vs s Q E ⟨_, _, _, _, _, _, h, _⟩ => by rw [h]; rfl) (fun cdv A' outer si H E hr => ⟨_, (lps_cons (lp_expr (le_meth0 (le_meth (lv 0) T.cl_Loom T.mt_Loom_thread_of (ok_Loom_thread_of T B) (hr.mono (by decide)) T.q_Loom_thread_of (la_cons (lv 1) la_nil)) T.cl_Thread T.mt_Thread_write (ok_Thread_write T B) (hr.mono (by decide)) T.q_Thread_write))
    (lps_one (lp_expr (le_append (le_fld T.cl_Loom T.n_Loom_done (lv 0)) (la_cons (le_tup (la_cons (le_tup (la_cons le_str (la_cons (lv 1) la_nil))) (la_cons (le_meth0 (le_item (hu_of hr) (le_fld T.cl_Loom T.n_Loom_threads (lv 0)) (lv 1)) T.cl_Thread T.mt_Thread_here (ok_Thread_here T B) (hr.mono (by decide)) T.q_Thread_here) la_nil))) la_nil))))), fun vs s Q E h => ?_⟩)
  obtain ⟨x, L, dv, F, n, hd, rfl, hl, hok, hn, h1, h2⟩ := h
  simp_arith [hl.hx, lmF]
  refine ⟨x, L, dv, F, hd, rfl, hl, fun i t f e1 et ef ht => ?_, fun no => ⟨_, .refl _, h2 no⟩⟩
  subst e1
  have hsm := hok.th t (List.mem_of_getElem? et)
  have hwr := hsm.wr
  simp_arith [ht.hx, thF]
  refine ⟨f.1, t, f.2.1, f.2.2, rfl, ht, by omega, fun s1 ht1 ho1 => ?_⟩
  have hm1 := hl.setT ef ht1 ho1
  have hi : i < L.ths.length := (List.getElem?_eq_some_iff.mp et).1
  have er : (F.ts.map fun f => LV.ref f.1)[i]? = some (LV.ref f.1) := by rw [List.getElem?_map, ef]; rfl
  have hdl : (L.done.map doneL).length < 16777216 := by rw [List.length_map]; have := hok.dn; omega
  simp_arith [hm1.hx, hm1.hd, lmF]
  rw [atI_nat er]
  simp_arith [hm1.hx, hm1.hd, lmF, ht1.hx, thF]
  refine ⟨f.1, _, f.2.1, f.2.2, rfl, ht1, ?_⟩
  simp_arith [hm1.hx, hm1.hd, lmF, ht1.hx, thF]
  have o2 := own_put (s := s1) (G := F.all x) (a := F.d) (o := .lst ((L.done ++ [(Row.write i, t.here)]).map doneL)) (by simp [Fp.all])
  have hm := hm1.put_d (L.done ++ [(Row.write i, t.here)])
  have est : put s1 F.d (.lst ((L.done ++ [(Row.write i, t.here)]).map doneL)) = put s1 F.d (.lst (L.done.map doneL ++ [LV.tup [.tup [.str "write", .int i], .int t.write.here]])) := by rw [List.map_append]; rfl
  rw [← est]
  exact ⟨_, .refl _, h1 i t rfl et _ hm ((ho1.grow fun a ha => hl.ths ef ha).trans o2)⟩
def spUse (A : Ad) : LSp := fun vs s Q E => ∃ x L dv F G n h nm, vs = [.ref x, .int h, nmL nm] ∧ LD A s x L dv F G ∧ L.Ok n ∧ n < 100000 ∧ G.length < 16000000 ∧
  (∀ i t l, h = ((i : Nat) : Int) → L.ths[i]? = some t → L.may h nm → getA L.sent nm = some l → DoneL A s x (L.use i t nm l.2) dv F G Q) ∧ (¬ Rng L h → E A.c_NoHand s) ∧ (Rng L h → ¬ L.may h nm → E A.c_NoLetter s)
theorem ok_Loom_use (T : Txt K mg A D) (B : Bs K mg base A) : LFn P w K mg base 5 A.f_Loom_use D.d_Loom_use ["self", "hand", "name"] (spUse A) := by
  refine T.F_Loom_use.okL sc_Loom_use (fun vs s Q E ⟨_, _, _, _, _, _, _, _, h, _⟩ => by rw [h]; rfl) (fun cdv A' outer si H E hr => ⟨_, (lps_cons (lp_expr (le_meth (lv 0) T.cl_Loom T.mt_Loom_thread_of (ok_Loom_thread_of T B) (hr.mono (by decide)) T.q_Loom_thread_of (la_cons (lv 1) la_nil)))
    (lps_cons (lp_set (i := 3) sc_Loom_use.nd rfl (by first | exact Or.inl rfl | exact Or.inr rfl) (le_frz (le_meth0 (lv 0) T.cl_Loom T.mt_Loom_letters_sent (ok_Loom_letters_sent T B) (hr.mono (by decide)) T.q_Loom_letters_sent)))
    (lps_cons (lp_setLcF (i := 4) rfl sc_Loom_use.nd rfl rfl (own := [("one", 5)]) (g := CTg.one 5) (li_seq (le_fld T.cl_Loom T.n_Loom_order (lv 0))) (blkOk_by (N := ["self", "hand", "name", "sent", "waiting", "one", "used"]) (sc := defScope s_Loom_use) (by decide +kernel)) (by decide) (fun _ _ _ _ _ => pg_name (i := 5) sc_Loom_use.nd rfl (Or.inl rfl)) (fun _ _ _ _ _ => (lts_one (LW.lt (lw_and (lt_inT (hu_of hr) (lv 5) (lv 3) (by rfl)) (lw_and1 (lt_eq (le_item (hu_of hr) (le_item (hu_of hr) (lv 3) (lv 5)) le_int) (lv 1))))))) (fun _ _ _ _ _ => (lv 5)) (sw_true rfl rfl rfl (by decide)))
    (lps_cons (lp_set (i := 6) sc_Loom_use.nd rfl (by first | exact Or.inl rfl | exact Or.inr rfl) (le_frz (le_meth0 (lv 0) T.cl_Loom T.mt_Loom_letters_used (ok_Loom_letters_used T B) (hr.mono (by decide)) T.q_Loom_letters_used)))
    (lps_cons (lp_setLcF (i := 4) rfl sc_Loom_use.nd rfl rfl (own := [("one", 5)]) (g := CTg.one 5) (li_seq (lv 4)) (blkOk_by (N := ["self", "hand", "name", "sent", "waiting", "one", "used"]) (sc := defScope s_Loom_use) (by decide +kernel)) (by decide) (fun _ _ _ _ _ => pg_name (i := 5) sc_Loom_use.nd rfl (Or.inl rfl)) (fun _ _ _ _ _ => (lts_one (lt_ninT (hu_of hr) (lv 5) (lv 6) (by rfl)))) (fun _ _ _ _ _ => (lv 5)) (sw_true rfl rfl rfl (by decide)))
    (lps_cons (lp_if (lt_ninV (hu65 hr) (lv 2) (lv 4) (by rfl)) (lps_one (lp_raise T.x_NoLetter rfl rfl)) lps_nil)
    (lps_cons (lp_if (lt_cut (LW.lt (lw_and (lt_val (le_fld T.cl_Loom T.n_Loom_ordered (lv 0))) (lw_and1 (lt_neV hr.units (le_item (hu_of hr) (le_fz (ll_lc (own := [("one", 5)]) (g := CTg.one 5) rfl sc_Loom_use.nd (li_seq (lv 4)) (blkOk_by (N := ["self", "hand", "name", "sent", "waiting", "one", "used"]) (sc := defScope s_Loom_use) (by decide +kernel)) (by decide) (fun _ _ _ _ _ => pg_name (i := 5) sc_Loom_use.nd rfl (Or.inl rfl)) (fun _ _ _ _ _ => (lts_one (lt_eq (le_item (hu_of hr) (lv 5) le_int) (le_item (hu_of hr) (lv 2) le_int)))) (fun _ _ _ _ _ => (lv 5)))) le_int) (lv 2)))))) (lps_one (lp_raise T.x_NoLetter rfl rfl)) lps_nil)
    (lps_cons (lp_expr (le_meth (lv 0) T.cl_Loom T.mt_Loom_add (ok_Loom_add T B) (hr.mono (by decide)) T.q_Loom_add (la_cons (lv 1) (la_cons (lv 2) (la_cons (le_item (hu_of hr) (le_item (hu_of hr) (lv 3) (lv 2)) le_int) la_nil)))))
    (lps_one (lp_expr (le_append (le_fld T.cl_Loom T.n_Loom_done (lv 0)) (la_cons (le_tup (la_cons (le_tup (la_cons le_str (la_cons (lv 1) (la_cons (lv 2) la_nil)))) (la_cons (le_meth0 (le_item (hu_of hr) (le_fld T.cl_Loom T.n_Loom_threads (lv 0)) (lv 1)) T.cl_Thread T.mt_Thread_here (ok_Thread_here T B) (hr.mono (by decide)) T.q_Thread_here) la_nil))) la_nil)))))))))))), fun vs s Q E h => ?_⟩)
  obtain ⟨x, L, dv, F, G, n, hd, nm, rfl, hl, hok, hn, hG, h1, h2, h3⟩ := h
  have hsl := hok.sentR_len
  have hul := hok.usedR_len
  have hol := hok.od
  simp_arith [hl.lm.hx, lmF]
  refine ⟨x, L, dv, F, hd, rfl, hl.lm, fun i t f e1 et ef ht => ?_, fun no => ⟨_, .refl _, h2 no⟩⟩
  subst e1
  simp_arith [hl.lm.hx, lmF]
  refine ⟨x, L, dv, F, n, rfl, hl.lm, hok, hn, fun q hq => fin_dT put_same hq (sub_put hq) ?_⟩
  simp_arith [hl.lm.hx, hl.lm.ho, lmF]
  intro Da hD
  refine lc_pure (enc := nmL) hD (fun n => match getA L.sent n with | none => false | some l => decide (l.1 = (i : Int))) nmL (fun s' ex => ex _ _ hl.lm.ho) (by omega) ?_ ?_
  · intro m hm s' Y N ex hY hN
    have hv : valL (encM pairL L.sent) [.inl m.hand, .inl m.place, .inl m.k] = (getA L.sent m).map pairL := valL_enc pairL _ m
    unfold nmL
    simp_arith
    refine ⟨fun q => ?_, fun q => ?_⟩
    · cases eg : getA L.sent m with
      | none =>
        simp only [hv, eg] at q
        cases q
      | some l =>
        have hv : valL (encM pairL L.sent) [.inl m.hand, .inl m.place, .inl m.k] = some (.tup [.int l.1, .int l.2]) := by rw [hv, eg]; rfl
        simp_arith [hv]
        refine ifD (fun hc => ?_) (fun hc => ?_)
        · simp_arith
          exact hY (by simp [eg, hc])
        · simp_arith
          exact hN (by simp [eg, hc])
    · cases eg : getA L.sent m with
      | some l =>
        simp only [hv, eg] at q
        cases q
      | none =>
        simp_arith
        exact hN (by simp [eg])
  simp_arith [hl.lm.hx, lmF]
  refine ⟨x, L, dv, F, n, rfl, hl.lm, hok, hn, fun q hq => fin_dT put_same hq (sub_put hq) ?_⟩
  simp_arith [hl.lm.hx, hl.lm.ho, lmF]
  intro Db hB
  have hw1 : (L.wait1 i).length ≤ 3 * n := Nat.le_trans (List.length_filter_le _ _) hol
  have hw2 : (L.wait i).length ≤ 3 * n := Nat.le_trans (List.length_filter_le _ _) hw1
  have hww : List.filter (fun n => match getA L.sent n with | none => false | some l => decide (l.1 = (i : Int))) L.order = L.wait1 i := rfl
  rw [hww]
  refine lc_pure (enc := nmL) hB (fun n => decide (n ∉ L.used.map (·.1))) nmL (fun _ _ => trivial) (by omega) ?_ ?_
  · intro m hm s' Y N ex hY hN
    unfold nmL
    simp_arith
    have e := isS_enc LV.int L.used m
    have e2 : (true ^^ (valL (encM LV.int L.used) (nmK m)).isSome) = decide (m ∉ L.used.map (·.1)) := by rw [e, Bool.true_xor, decide_not]
    exact ⟨fun q => hY (e2.symm.trans q), fun q => hN (e2.symm.trans q)⟩
  have hww2 : List.filter (fun n => decide (n ∉ L.used.map (·.1))) (L.wait1 i) = L.wait i := rfl
  rw [hww2]
  have hdv : datVs ((L.wait i).map nmL) = some ((L.wait i).map Cod.den) := datVs_enc _
  have hsh : SeqAt.shaped (.list ((L.wait i).map Cod.den)) = true := shaped_cod (α := List Nm) (by decide) (L.wait i)
  have hsh1 : SeqAt.shaped (Cod.den nm) = true := shaped_cod (α := Nm) (by decide) nm
  have hany : (((L.wait i).map Cod.den).any fun z => PyData.eqv z (Cod.den nm)) = decide (nm ∈ L.wait i) := any_cod _ _
  simp_arith [hdv]
  refine ⟨⟨hsh1, hsh⟩, ?_⟩
  have hany2 : (true ^^ (((L.wait i).map Cod.den).any fun z => PyData.eqv z (Cod.den nm))) = (true ^^ decide (nm ∈ L.wait i)) := congrArg _ hany
  simp_arith
  refine ifB (fun hc => ?_) (fun hc => ?_)
  · replace hc := hany2.symm.trans hc
    have hc2 : nm ∉ L.wait i := by simpa using hc
    simp_arith
    exact ⟨_, .refl _, h3 ⟨by omega, by have := (List.getElem?_eq_some_iff.mp et).1; omega⟩ fun hm => hc2 hm.1⟩
  replace hc := hany2.symm.trans hc
  have hc2 : nm ∈ L.wait i := by simpa using hc
  simp_arith
  refine ⟨decide (L.ord = true ∧ ((L.wait i).filter fun m => decide (m.hand = nm.hand)).head? ≠ some nm), ?_, ?_⟩
  · simp_arith [hl.lm.hx, lmF]
    refine ifB (fun ho => ?_) (fun ho => ⟨by simp [ho], trivial⟩)
    simp_arith [hl.lm.hx, lmF]
    intro De hE
    refine lc_pure (enc := nmL) hE (fun m => decide (m.hand = nm.hand)) nmL (fun _ _ => trivial) (by omega) ?_ ?_
    · intro m hm s' Y N ex hY hN
      unfold nmL
      simp_arith
      refine ifD (fun hc => ?_) (fun hc => ?_)
      · simp_arith
        exact hY (by simp [hc])
      · simp_arith
        exact hN (by simp [hc])
    obtain ⟨m, r, hW⟩ : ∃ m r, ((L.wait i).filter fun m => decide (m.hand = nm.hand)) = m :: r := by
      cases e : (L.wait i).filter fun m => decide (m.hand = nm.hand) with
      | nil =>
        have : nm ∈ (L.wait i).filter fun m => decide (m.hand = nm.hand) := List.mem_filter.mpr ⟨hc2, by simp⟩
        rw [e] at this
        cases this
      | cons a b => exact ⟨a, b, rfl⟩
    rw [hW]
    simp_arith
    rw [atI_mem (v := m) nmL (by decide) rfl]
    have hs1 : SeqAt.shaped (Cod.den m) = true := shaped_cod (α := Nm) (by decide) m
    have hev : (true ^^ PyData.eqv (Cod.den m) (Cod.den nm)) = decide (L.ord = true ∧ (m :: r).head? ≠ some nm) := by rw [eqv_cod]; simp [ho]
    simp_arith
    exact ⟨hev, rfl⟩
  refine ifB (fun hc => ?_) (fun hc => ?_)
  · have hc3 := of_decide_eq_true hc
    simp_arith
    exact ⟨_, .refl _, h3 ⟨by omega, by have := (List.getElem?_eq_some_iff.mp et).1; omega⟩ fun hm => hc3.2 (hm.2 hc3.1)⟩
  have hc3 := of_decide_eq_false hc
  have hmay : L.may i nm := ⟨hc2, fun ho => Classical.byContradiction fun hne => hc3 ⟨ho, hne⟩⟩
  obtain ⟨l, eg⟩ : ∃ l, getA L.sent nm = some l := by
    have := List.mem_filter.mp (List.mem_filter.mp hc2).1
    cases e : getA L.sent nm with
    | none => rw [e] at this; cases this.2
    | some l => exact ⟨l, rfl⟩
  have hv : valL (encM pairL L.sent) [.inl nm.hand, .inl nm.place, .inl nm.k] = some (.tup [.int l.1, .int l.2]) := (valL_enc pairL _ nm).trans (by rw [eg]; rfl)
  simp_arith [hl.lm.hx, lmF, hv]
  refine ⟨x, L, dv, F, G, n, i, t, some nm, some l.2, rfl, hl, hok, hn, hG, et, fun s1 G1 hl1 hk1 ho1 hg1 => ?_⟩
  have hi : i < L.ths.length := (List.getElem?_eq_some_iff.mp et).1
  have et1 : (L.add i t (some nm) (some l.2)).ths[i]? = some (t.do (evOf L.f t i (some nm) (some l.2))) := by simp [Lm.add, hi]
  have ht1 := hl1.lm.ht.at_ i _ f et1 ef
  have er : (F.ts.map fun f => LV.ref f.1)[i]? = some (LV.ref f.1) := by rw [List.getElem?_map, ef]; rfl
  have hdl : (L.done.map doneL).length < 16777216 := by rw [List.length_map]; have := hok.dn; omega
  simp_arith [hl1.lm.hx, hl1.lm.hd, lmF, Lm.add]
  rw [atI_nat er]
  simp_arith [hl1.lm.hx, hl1.lm.hd, lmF, Lm.add, ht1.hx, thF]
  refine ⟨f.1, _, f.2.1, f.2.2, rfl, ht1, ?_⟩
  simp_arith [hl1.lm.hx, hl1.lm.hd, lmF, Lm.add, ht1.hx, thF]
  have o2 := own_put (s := s1) (G := F.all x) (a := F.d) (o := .lst ((L.done ++ [(Row.use i nm, t.here + 1)]).map doneL)) (by simp [Fp.all])
  have hp := hl1.pr.own o2 fun a ha hb => hl1.ap a hb ha
  have hm := hl1.lm.put_d (L.done ++ [(Row.use i nm, t.here + 1)])
  have est : put s1 F.d (.lst ((L.done ++ [(Row.use i nm, t.here + 1)]).map doneL)) = put s1 F.d (.lst (L.done.map doneL ++ [LV.tup [.tup [.str "use", .int i, nmL nm], .int (t.do (evOf L.f t i (some nm) (some l.2))).here]])) := by rw [here_do, List.map_append]; rfl
  rw [← est]
  exact ⟨_, .refl _, h1 i t l rfl et hmay eg _ G1 ⟨hm, hp.1, hl1.ap⟩ (hk1.trans hp.2) (ho1.trans (o2.grow fun a ha => List.mem_append_left _ ha)) hg1⟩
theorem zip_enc {α β : Type} (f : α → LV) (g : β → LV) (xs : List α) (ys : List β) : ((xs.map f).zip (ys.map g)).map (fun p => LV.tup [p.1, p.2]) = (xs.zip ys).map fun p => LV.tup [f p.1, g p.2] := by
  rw [List.zip_map, List.map_map]
  rfl
theorem ThsAt.snoc {A : Ad} {s : LS} {ths : List Th} {ts : List Ta} {t : Th} {f : Ta} (h : ThsAt A s ths ts) (ht : IsTh A s f.1 t f.2.1 f.2.2) : ThsAt A s (ths ++ [t]) (ts ++ [f]) := ⟨by simp [h.len], fun i u g e1 e2 => by
  rw [List.getElem?_append] at e1 e2
  have hl := h.len
  by_cases q : i < ths.length
  · rw [if_pos q] at e1
    rw [if_pos (by omega)] at e2
    exact h.at_ i u g e1 e2
  · rw [if_neg q] at e1
    rw [if_neg (by omega)] at e2
    rw [hl] at e2
    cases e : i - ths.length with
    | zero =>
      rw [e] at e1 e2
      simp at e1 e2
      subst e1; subst e2
      exact ht
    | succ k =>
      rw [e] at e1
      simp at e1⟩
def spLoom (A : Ad) : LSp := fun vs s Q E => ∃ x dv sv hv o f sts hbs, vs = [.ref x, dv, sv, hv, .bl o] ∧ seqL sv s = some (sts.map .int) ∧ seqL hv s = some (hbs.map (hbL A)) ∧ sts.length = hbs.length ∧ sts.length < 1000 ∧ s x = some (.ins A.c_Loom []) ∧ ∀ s' F, IsLm A s' x (newLm f sts hbs o) dv F → Own [x] (F.all x) s s' → Q .non s'
theorem ok_Loom_init (T : Txt K mg A D) (B : Bs K mg base A) : LFn P w K mg base 3 A.f_Loom_init D.d_Loom_init ["self", "does", "starts", "habits", "ordered"] (spLoom A) := by
  refine T.F_Loom_init.okL sc_Loom_init (fun vs s Q E ⟨_, _, _, _, _, _, _, _, h, _⟩ => by rw [h]; rfl) (fun cdv A' outer si H E hr => ⟨_, (lps_cons (lp_fld T.cl_Loom T.n_Loom_does (lv 0) (lv 1))
    (lps_cons (lp_fld T.cl_Loom T.n_Loom_many (lv 0) (le_len rfl T.b_len (la_cons (lv 2) la_nil)))
    (lps_cons (lp_fld T.cl_Loom T.n_Loom_ordered (lv 0) (lv 4))
    (lps_cons (lp_fld T.cl_Loom T.n_Loom_threads (lv 0) (le_fz (ll_lc (own := [("start", 5), ("habit", 6)]) (g := CTg.many [5, 6]) rfl sc_Loom_init.nd (li_zip rfl T.b_zip (la_cons (lv 2) (la_cons (lv 3) la_nil))) (blkOk_by (N := ["self", "does", "starts", "habits", "ordered", "start", "habit"]) (sc := defScope s_Loom_init) (by decide +kernel)) (by decide) (fun _ _ _ _ _ => pg_tup rfl (pgs_cons (pg_name (i := 5) sc_Loom_init.nd rfl (Or.inl rfl)) (pgs_cons (pg_name (i := 6) sc_Loom_init.nd rfl (Or.inl rfl)) pgs_nil))) (fun _ _ _ _ _ => lts_nil) (fun _ _ _ _ _ => (le_make T.mk_Thread (ok_Thread_init T B) (hr.mono (by decide)) rfl T.m_Thread T.q_Thread_init (la_cons (lv 5) (la_cons (lv 6) la_nil)))))))
    (lps_cons (lp_fld T.cl_Loom T.n_Loom_done (lv 0) (le_new (ll_disp la_nil)))
    (lps_one (lp_fld T.cl_Loom T.n_Loom_order (lv 0) (le_new (ll_disp la_nil))))))))), fun vs s Q E h => ?_⟩)
  obtain ⟨x, dv, sv, hv, o, g, sts, hbs, rfl, hs, hh, hle, hsm, hx, h⟩ := h
  have hlz : (sts.zip hbs).length < 16777216 := by rw [List.length_zip]; omega
  rcases seqL_cases hs with rfl | ⟨a, rfl, ea⟩ <;> rcases seqL_cases hh with rfl | ⟨b, rfl, eb⟩
  all_goals
    first | (have ea2 := ea) | (have ea2 : True := trivial)
    first | (have eb2 := eb) | (have eb2 : True := trivial)
    first | (have fa : ∀ o, put s x o a = s a := fun o => put_ne (by rintro rfl; rw [hx] at ea; cases ea)) | (have fa : True := trivial)
    first | (have fb : ∀ o, put s x o b = s b := fun o => put_ne (by rintro rfl; rw [hx] at eb; cases eb)) | (have fb : True := trivial)
    simp_arith [hx, fa, fb, ea2, eb2]
    intro Da hD
    obtain ⟨nDx, hD⟩ := put_none hD
    rw [zip_enc LV.int (hbL A)]
    refine lc_inv (enc := fun p : Int × Hb => LV.tup [.int p.1, hbL A p.2]) (fun q acc s' => ∃ ts : List Ta, acc = ts.map (fun f => LV.ref f.1) ∧ ThsAt A s' (q.map newTh) ts ∧ (ts.flatMap ta3).Nodup ∧ Da ∉ ts.flatMap ta3 ∧ Own [Da, x] (Da :: x :: ts.flatMap ta3) s s' ∧ (x ∉ ts.flatMap ta3) ∧ s' x = some (.ins A.c_Loom [("does", dv), ("many", .int ((sts.map LV.int).length : Nat)), ("ordered", .bl o)]))
      ⟨[], rfl, ⟨rfl, fun i t f e => by simp at e⟩, by simp, by simp, ?_, by simp, ?_⟩ (fun q acc s' ⟨_, _, _, _, _, h, _, _⟩ => ?_) hlz ?_ ?_ ?_
    · exact own_of (fun a ha _ => by simp at ha; rw [put_ne ha.1, put_ne ha.2]) (by simp)
    · rw [put_ne (Ne.symm nDx), put_same]
    · have fr : ∀ c oc, s c = some oc → c ≠ x → s' c = some oc := fun c oc e n => h.at (by simp; exact ⟨(by rintro rfl; rw [hD] at e; cases e), n⟩) e
      refine ⟨?_, ?_⟩
      · first | exact trivial | exact fr _ _ ea (by rintro rfl; rw [hx] at ea; cases ea)
      · first | exact trivial | exact fr _ _ eb (by rintro rfl; rw [hx] at eb; cases eb)
    · rintro q ⟨st, hb⟩ r acc s' Y eq ⟨ts, rfl, h2, h3, h4, h5, h6, h7⟩ hDa hY
      simp_arith
      intro y hy
      have nyD : y ≠ Da := by rintro rfl; rw [hDa] at hy; cases hy
      have nyx : y ≠ x := by rintro rfl; rw [h7] at hy; cases hy
      refine ⟨y, st, hb, rfl, put_same, fun s2 d w ht ho => ?_⟩
      have o1 : Own [] [y, d, w] s' s2 := fun a _ ha => by
        have na : a ≠ y := by rintro rfl; exact ha hy
        have := ho a (by simpa using na) (by rw [put_ne na]; exact ha)
        rw [put_ne na] at this
        exact this
      have nf : ∀ a, s' a ≠ none → a ∉ ta3 (y, d, w) := fun a ha => (o1 a (by simp) ha).2
      have nD3 : Da ∉ ta3 (y, d, w) := nf _ (by rw [hDa]; simp)
      have nx3 : x ∉ ta3 (y, d, w) := nf _ (by rw [h7]; simp)
      have oD : ∀ o, Own [Da] [Da] s2 (put s2 Da o) := fun o => own_put (by simp)
      have h2' := h2.own o1 (fun _ _ q => by simp at q)
      refine ⟨rfl, hY (.ref y) _ (o1.at (by simp) hDa) ⟨ts ++ [(y, d, w)], by simp, ?_, ?_, ?_, ?_, ?_, ?_⟩⟩
      · rw [List.map_append]
        refine ThsAt.snoc (h2'.own (oD _) fun a ha q => h4 (by simp at q; exact q ▸ ha)) (ht.own (oD _) ?_ ?_ ?_)
        · intro q; simp at q; exact nD3 (by simp [ta3, q])
        · intro q; simp at q; exact nD3 (by simp [ta3, q])
        · intro q; simp at q; exact nD3 (by simp [ta3, q])
      · rw [List.flatMap_append, List.nodup_append]
        refine ⟨h3, ?_, fun a ha b hb q => ?_⟩
        · have n1 := ht.xd; have n2 := ht.xw; have n3 := ht.ne
          simp [ta3, n1, n2, n3]
        · subst q
          exact nf a (h2.held ha) (by simpa using hb)
      · rw [List.flatMap_append, List.mem_append]
        rintro (q | q)
        · exact h4 q
        · exact nD3 (by simpa using q)
      · refine fun a na ha => ?_
        obtain ⟨e1, n1⟩ := h5 a na ha
        obtain ⟨e2, n2⟩ := o1 a (by simp) (by rw [e1]; exact ha)
        simp only [List.mem_cons, List.not_mem_nil, or_false, not_or] at na n1 n2
        refine ⟨by rw [put_ne na.1, e2, e1], ?_⟩
        simp [na, n1.2.2, ta3, n2]
      · rw [List.flatMap_append, List.mem_append]
        rintro (q | q)
        · exact h6 q
        · exact nx3 (by simpa using q)
      · rw [put_ne (Ne.symm nDx)]
        exact o1.at (by simp) h7
    · rintro q acc s' ⟨ts, rfl, h2, _⟩
      have := h2.len
      simpa using this
    · rintro acc s' ⟨ts, rfl, h2, h3, h4, h5, h6, h7⟩ hDa
      have hxd : del s' Da x = some (.ins A.c_Loom [("does", dv), ("many", .int ((sts.map LV.int).length : Nat)), ("ordered", .bl o)]) := by
        unfold del
        rw [if_neg (Ne.symm nDx)]
        exact h7
      have hdl : ∀ a, s' a ≠ none → a ≠ Da → del s' Da a = s' a := fun a _ na => by unfold del; rw [if_neg na]
      have hdn : ∀ a, a ∈ ts.flatMap ta3 → del s' Da a ≠ none := fun a ha => by
        rw [hdl a (h2.held ha) (by rintro rfl; exact h4 ha)]
        exact h2.held ha
      simp_arith [hxd]
      intro p1 hp1
      obtain ⟨n1x, hp1⟩ := put_none hp1
      simp_arith [put_ne (Ne.symm n1x)]
      intro p2 hp2
      obtain ⟨n2x, hp2⟩ := put_none hp2
      obtain ⟨n21, hp2⟩ := put_none hp2
      obtain ⟨_, hp2⟩ := put_none hp2
      simp_arith [put_ne (Ne.symm n2x), put_ne (Ne.symm n1x)]
      refine ⟨_, .refl _, h _ ⟨p1, p2, ts⟩ ⟨?_, ?_, ?_, ?_, ?_⟩ ?_⟩
      · have e1 : (newLm g sts hbs o).ths.length = (sts.map LV.int).length := by simp [newLm, hle]
        rw [e1]
        simp [put, lmF, newLm]
      · simp [put, n1x, Ne.symm n21, newLm]
      · simp [put, n2x, newLm]
      · refine h2.own (G := [Da, x, p1, p2]) (G' := []) (own_of (fun a ha _ => ?_) (by simp)) fun a ha => ?_
        · simp at ha
          simp [put, ha, del]
        · have q1 : a ≠ p1 := by rintro rfl; exact hdn _ ha hp1
          have q2 : a ≠ p2 := by rintro rfl; exact hdn _ ha hp2
          have q3 : a ≠ Da := by rintro rfl; exact h4 ha
          have q4 : a ≠ x := by rintro rfl; exact h6 ha
          simp [q1, q2, q3, q4]
      · have q1 : p1 ∉ ts.flatMap ta3 := fun ha => hdn _ ha hp1
        have q2 : p2 ∉ ts.flatMap ta3 := fun ha => hdn _ ha hp2
        simp only [Fp.all, List.nodup_cons, List.mem_cons, not_or]
        exact ⟨⟨Ne.symm n1x, Ne.symm n2x, h6⟩, ⟨Ne.symm n21, q1⟩, q2, h3⟩
      · have hsn : ∀ c, del s' Da c = none → c ≠ x → s c = none := fun c e nc => Classical.byContradiction fun z => by
          have nD : c ≠ Da := by rintro rfl; exact z hD
          have := (h5 c (by simp [nD, nc]) z).1
          unfold del at e
          rw [if_neg nD, this] at e
          exact z e
        refine fun a na ha => ?_
        simp only [List.mem_singleton] at na
        have nD : a ≠ Da := by rintro rfl; exact ha hD
        have m1 : a ≠ p1 := by rintro rfl; exact ha (hsn _ hp1 n1x)
        have m2 : a ≠ p2 := by rintro rfl; exact ha (hsn _ hp2 n2x)
        obtain ⟨e1, n1⟩ := h5 a (by simp [nD, na]) ha
        simp only [List.mem_cons, not_or] at n1
        refine ⟨by simp [put, del, na, nD, m1, m2, e1], ?_⟩
        simp only [Fp.all, List.mem_cons, not_or]
        exact ⟨na, m1, m2, n1.2.2⟩
end
end Law

namespace Law
open PySem PySem.Spec L2 L3
local macro_rules
  | `(tactic| simp_arith) => `(tactic| ((conv => whnf); repeat ((first | with_reducible refine ifTT ?_ | with_reducible refine ifFF ?_ | with_reducible refine ifnT ?_ | with_reducible refine ifnF ?_ | with_reducible refine ifTr ?_ | with_reducible refine ifFr ?_ | (with_reducible refine And.intro ?_ ?_; · (first | with_reducible rfl | with_reducible exact ⟨rfl, rfl⟩ | decide | omega | (dsimp only; decide) | (dsimp only; omega) | (unfold CDiv; omega) | (unfold CPow; decide) | (unfold CMul; omega) | (simp only [List.length_cons, List.length_nil]; omega)))); conv => whnf)))
local macro_rules
  | `(tactic| simp_arith [$ls,*]) => `(tactic| ((conv => whnf); repeat ((first | with_reducible refine ifTT ?_ | with_reducible refine ifFF ?_ | with_reducible refine ifnT ?_ | with_reducible refine ifnF ?_ | with_reducible refine ifTr ?_ | with_reducible refine ifFr ?_ | (with_reducible refine And.intro ?_ ?_; · (first | with_reducible rfl | with_reducible exact ⟨rfl, rfl⟩ | decide | omega | (dsimp only; decide) | (dsimp only; omega) | (unfold CDiv; omega) | (unfold CPow; decide) | (unfold CMul; omega) | (simp only [List.length_cons, List.length_nil]; omega) | (simp only [Option.isSome_some]; done) | (simp only [meth_ref, put_same', seqL_ref, $ls,*]; first | done | exact ⟨rfl, rfl⟩ | exact ⟨trivial, rfl⟩ | rfl))) | (simp (decide := true) only [put_same', put_put, decF, decT, Bool.not_true, Bool.not_false, putL_nil, putL_cons, if_true, if_false, seqR_ref, seqL_ref, lenL_ref, dicK_ref, dicT_ref, dat_ref, dat_non, dat_bl, dat_int, dat_str, dat_lst, dat_tup, datV_non, datV_bl, datV_int, datV_str, datV_lst, datV_tup, datVs_nil, datVs_cons, tyAt_ref, opt_some, Option.map_some, Option.bind_some, dv_ints, dv_bls, dv_nms, dv_prs, dv_nm, dt_nm, dt_pr, dv_pr, sh_int, sh_bl, sh_none, sh_nil, eqv_nil, sh_ints, sh_bls, sh_nm, sh_nms, sh_pr, sh_prs, anyI, anyN, anyP, eqv_int, eqv_bl, eqv_ints, eqv_bls, eqv_nms, eqv_prs, eqv_nm, eqv_pr, $ls,*])); conv => whnf)))

section
variable {P : Program} {w : World} {K : PySem.W.Frag} [GG K] {mg : Str → Option Value} {base : Heap} {A : Ad} {D : Fd}
/-- what a list of a line's places is -/
def lineV (lv : LV) (s : LS) (line : List Int) : Prop := seqL lv s = some (line.map .int)
theorem used_info {L : Lm} {n : Nat} (h : LmG L n) {p : Nm × Int} (hp : p ∈ L.used) : ∃ (i : Nat) (l : Int × Int), UsedAt L.ths p.1 i p.2 ∧ getA L.sent p.1 = some l ∧ l.1 = (i : Int) ∧ L.toOf p.1 = i ∧ i < L.ths.length ∧ ∃ k : Nat, p.1.hand = (k : Int) ∧ k < L.ths.length := by
  obtain ⟨i, hu⟩ := (used_mem h.us).mp hp
  obtain ⟨l, h1, h2⟩ := h.us.sn _ _ _ hu
  have h3 := h1.pos
  exact ⟨i, l, hu, sent_get.mpr h1, h2, by rw [toOf_eq h1, h2], hu.pos.2, p.1.hand.toNat, by omega, by omega⟩
theorem own_sub {s s' : LS} {G G' : List Addr} (n : ∀ a ∈ G, s a = none) (o : Own G G' s s') : Sub s s' := fun a => by
  by_cases e : s a = none
  · exact .inl e
  · exact .inr (o a (fun q => e (n a q)) e).1.symm
theorem sub_none {s s' : LS} (h : Sub s s') {p : Addr} (n : s' p = none) : s p = none := by
  rcases h p with e | e
  · exact e
  · rw [e]; exact n
theorem sub_puts {s s' : LS} (h : Sub s s') (p : Addr) (o : LO) : Sub (put s p o) (put s' p o) := fun a => by
  by_cases q : a = p
  · subst q; rw [put_same, put_same]; exact .inr rfl
  · rw [put_ne q, put_ne q]; exact h a
theorem sub_at {s s' : LS} (h : Sub s s') {p : Addr} {o : LO} (e : s' p = some o) : Sub (put s p o) s' := fun a => by
  by_cases q : a = p
  · subst q; rw [put_same, e]; exact .inr rfl
  · rw [put_ne q]; exact h a
theorem ixN_nat {n i : Nat} (h : i < n) : ixN n (i : Int) = some i := by
  unfold ixN
  rw [if_pos (by omega), Int.toNat_natCast, if_pos (by omega)]
def Row.word : Row → Str
  | .own _ => "own"
  | .use _ _ => "use"
  | .write _ => "write"
def Row.rest : Row → List LV
  | .use _ n => [nmL n]
  | _ => []
theorem rowL_eq (r : Row) : rowL r = .tup (.str r.word :: .int r.hand :: r.rest) := by cases r <;> rfl
theorem atI_two (a b : LV) (r : Row) : atI (a :: b :: r.rest) 1 = some b := by cases r <;> rfl
def spBroken (A : Ad) : LSp := fun vs s Q E => ∃ x L dv F n lv line, vs = [.ref x, lv] ∧ IsLm A s x L dv F ∧ LmG L n ∧ n < 100000 ∧ lineV lv s line ∧ line.length = L.ths.length ∧ tells ((L.brk line).map nmL) s Q
theorem ok_broken_by (T : Txt K mg A D) (B : Bs K mg base A) : LFn P w K mg base 3 A.f_broken_by D.d_broken_by ["loom", "line"] (spBroken A) := by
  refine T.F_broken_by.okL sc_broken_by (fun vs s Q E ⟨_, _, _, _, _, _, _, h, _⟩ => by rw [h]; rfl) (fun cdv A' outer si H E hr => ⟨_, (lps_cons (lp_set (i := 2) sc_broken_by.nd rfl (by first | exact Or.inl rfl | exact Or.inr rfl) (le_frz (le_meth0 (lv 0) T.cl_Loom T.mt_Loom_letters_sent (ok_Loom_letters_sent T B) (hr.mono (by decide)) T.q_Loom_letters_sent)))
    (lps_cons (lp_set (i := 3) sc_broken_by.nd rfl (by first | exact Or.inl rfl | exact Or.inr rfl) (le_new (ll_disp la_nil)))
    (lps_cons (lp_for rfl (li_items (le_frz (le_meth0 (lv 0) T.cl_Loom T.mt_Loom_letters_used (ok_Loom_letters_used T B) (hr.mono (by decide)) T.q_Loom_letters_used))) (lg_tup (is := [4, 5]) rfl (pgs_cons (pg_name (i := 4) sc_broken_by.nd rfl (by first | exact Or.inl rfl | exact Or.inr rfl)) (pgs_cons (pg_name (i := 5) sc_broken_by.nd rfl (by first | exact Or.inl rfl | exact Or.inr rfl)) pgs_nil))) (lps_one (lp_if (LW.lt (lw_and (lt_le (lv 5) (le_item (hu_of hr) (lv 1) (le_item (hu_of hr) (le_item (hu_of hr) (lv 2) (lv 4)) le_int))) (lw_and1 (lt_gt (le_item (hu_of hr) (lv 4) le_int) (le_item (hu_of hr) (lv 1) (le_item (hu_of hr) (lv 4) le_int)))))) (lps_one (lp_expr (le_append (lv 3) (la_cons (lv 4) la_nil)))) lps_nil)))
    (lps_one (lp_ret (le_new (ll_sortedD Nm hr.units rfl T.b_sorted (la_cons (lv 3) la_nil)))))))), fun vs s Q E h => ?_⟩)
  obtain ⟨x, L, dv, F, n, lv, line, rfl, hl, hg, hn, hlv, hll, h⟩ := h
  have hok := hg.ok
  have hsl := hok.sentR_len
  have hul := hok.usedR_len
  simp_arith [hl.hx, lmF]
  refine ⟨x, L, dv, F, n, rfl, hl, hok, hn, fun q hq => fin_dT put_same hq (sub_put hq) ?_⟩
  simp_arith
  intro fo hfo
  have hl0 := hl.own (own_fresh (G := [fo]) (o := .lst []) hfo) (hl.fresh hfo)
  simp_arith [hl0.hx, lmF]
  refine ⟨x, L, dv, F, n, rfl, hl0, hok, hn, fun q hq => fin_dT put_same hq (sub_put hq) ?_⟩
  simp_arith
  rw [encM_items]
  have hul2 : L.used.length < 16777216 := by
    have := putAll_len L.usedR []
    simp only [List.length_nil] at this
    unfold Lm.used
    omega
  refine lLoop_map (fun p : Nm × Int => LV.tup [nmL p.1, .int p.2]) (fun q r σ s' => ∃ v4 v5, σ = [some (.ref x), some lv, some (.dT (encM pairL L.sent)), some (.ref fo), v4, v5] ∧ s' fo = some (.lst (((q.filter (L.brkP line)).map (·.1)).map nmL)) ∧ Own [fo] [fo] s s') ⟨_, _, rfl, put_same, own_fresh hfo⟩ (fun _ _ _ _ _ => trivial) ?_ ?_
  · rintro q p r σ s1 N eq ⟨v4, v5, rfl, e1, o1⟩ hN
    obtain ⟨i, l, hu, hgl, hli, hto, hi, k, hk, hkl⟩ := used_info hg (p := p) (by rw [eq]; simp)
    have hv : valL (encM pairL L.sent) [.inl p.1.hand, .inl p.1.place, .inl p.1.k] = some (.tup [.int l.1, .int l.2]) := (valL_enc pairL _ p.1).trans (by rw [hgl]; rfl)
    rw [hli] at hv
    have ei : (line.map LV.int)[i]? = some (.int (lnAt line i)) := by rw [List.getElem?_map, get_lnAt (by omega)]; rfl
    have ek : (line.map LV.int)[k]? = some (.int (lnAt line k)) := by rw [List.getElem?_map, get_lnAt (by omega)]; rfl
    have hbp : L.brkP line p = decide (p.2 ≤ lnAt line i ∧ p.1.place > lnAt line k) := by unfold Lm.brkP; rw [hto, hk]
    have hfl : (((q.filter (L.brkP line)).map (·.1)).map nmL).length < 16777216 := by
      have h1 := List.length_filter_le (L.brkP line) q
      have h2 := congrArg List.length eq
      simp only [List.length_map, List.length_append, List.length_cons] at h2 ⊢
      omega
    rw [hk] at hv
    rcases seqL_cases hlv with rfl | ⟨a, rfl, ea⟩
    all_goals
      first | (have ea1 : s1 a = some (.lst (line.map .int)) := o1.at (by rw [List.mem_singleton]; rintro rfl; rw [hfo] at ea; cases ea) ea) | (have ea1 : True := trivial)
      unfold nmL
      rw [hk]
      simp_arith [hv, ea1]
      rw [atI_nat ei]
      simp_arith [ea1]
      refine ifD (fun hc1 => ?_) (fun hc1 => ?_)
      · simp_arith [ea1]
        rw [atI_nat ek]
        simp_arith [ea1]
        refine ifD (fun hc2 => ?_) (fun hc2 => ?_)
        · simp_arith [e1]
          refine hN _ _ ⟨_, _, rfl, ?_, o1.trans (own_put (by simp))⟩
          rw [put_same, List.filter_append, List.filter_cons_of_pos (by rw [hbp]; exact decide_eq_true ⟨hc1, hc2⟩), List.filter_nil, List.map_append, List.map_append]
          simp only [List.map_cons, List.map_nil, nmL, hk]
        · simp_arith
          refine hN _ _ ⟨_, _, rfl, ?_, o1⟩
          rw [List.filter_append, List.filter_cons_of_neg (by rw [hbp]; simp; omega)]
          simpa using e1
      · simp_arith
        refine hN _ _ ⟨_, _, rfl, ?_, o1⟩
        rw [List.filter_append, List.filter_cons_of_neg (by rw [hbp]; simp; omega)]
        simpa using e1
  · rintro σ s1 ⟨v4, v5, rfl, e1, o1⟩
    have sb : Sub s s1 := own_sub (by simpa using hfo) o1
    simp_arith [e1]
    refine ⟨_, rfl, fun p hp => fin (sub_puts sb p _) (h p (sub_none sb hp))⟩
def spAllowed (A : Ad) : LSp := fun vs s Q E => ∃ x L dv F n fv fs, vs = [.ref x, fv] ∧ IsLm A s x L dv F ∧ LmG L n ∧ n < 100000 ∧ lineV fv s fs ∧ fs.length < 1000 ∧ tellsW (alwS L.ths fs) s Q
theorem ok_allowed_points (T : Txt K mg A D) (B : Bs K mg base A) : LFn P w K mg base 4 A.f_allowed_points D.d_allowed_points ["loom", "fallen"] (spAllowed A) := by
  refine T.F_allowed_points.okL sc_allowed_points (fun vs s Q E ⟨_, _, _, _, _, _, _, h, _⟩ => by rw [h]; rfl) (fun cdv A' outer si H E hr => ⟨_, (lps_cons (lp_set (i := 2) sc_allowed_points.nd rfl (by first | exact Or.inl rfl | exact Or.inr rfl) (le_frz (le_meth0 (lv 0) T.cl_Loom T.mt_Loom_places (ok_Loom_places T B) (hr.mono (by decide)) T.q_Loom_places)))
    (lps_cons (lp_set (i := 3) sc_allowed_points.nd rfl (by first | exact Or.inl rfl | exact Or.inr rfl) (le_new (ll_disp la_nil)))
    (lps_cons (lp_for rfl (li_range1 rfl T.b_range (la_cons (le_fld T.cl_Loom T.n_Loom_many (lv 0)) la_nil)) (lg_name (i := 4) sc_allowed_points.nd rfl (by first | exact Or.inl rfl | exact Or.inr rfl)) (lps_cons (lp_set (i := 5) sc_allowed_points.nd rfl (by first | exact Or.inl rfl | exact Or.inr rfl) (le_meth (lv 0) T.cl_Loom T.mt_Loom_points (ok_Loom_points T B) (hr.mono (by decide)) T.q_Loom_points (la_cons (lv 4) la_nil)))
    (lps_cons (lp_if (LW.lt (lw_and (lt_ninV (hu65 hr) (lv 4) (lv 1) (by rfl)) (lw_and1 (lt_ninV (hu65 hr) (le_item (hu_of hr) (lv 2) (lv 4)) (lv 5) (by rfl))))) (lps_one (lp_set (i := 5) sc_allowed_points.nd rfl (by first | exact Or.inl rfl | exact Or.inr rfl) (le_new (ll_cat (lv 5) (le_fz (ll_disp (la_cons (le_item (hu_of hr) (lv 2) (lv 4)) la_nil))))))) lps_nil)
    (lps_one (lp_expr (le_append (lv 3) (la_cons (lv 5) la_nil)))))))
    (lps_one (lp_ret (lv 3)))))), fun vs s Q E h => ?_⟩)
  obtain ⟨x, L, dv, F, n, fv, fs, rfl, hl, hg, hn, hfv, hfl, h⟩ := h
  have hok := hg.ok
  have hmn := hok.mn
  simp_arith [hl.hx, lmF]
  refine ⟨x, L, dv, F, n, rfl, hl, hok, fun q hq => fin_lst put_same hq (sub_put hq) ?_⟩
  simp_arith
  intro fo hfo
  have hl0 := hl.own (own_fresh (G := [fo]) (o := .lst []) hfo) (hl.fresh hfo)
  simp_arith [hl0.hx, lmF]
  have hpl : (L.ths.map Th.here).length = L.ths.length := by simp
  refine lLoop_rg0 (fun i σ s' => ∃ v4 v5, ∃ prs : List (Addr × List Int), σ = [some (.ref x), some fv, some (.lst ((L.ths.map Th.here).map .int)), some (.ref fo), v4, v5] ∧ prs.map (·.2) = (alwS L.ths fs).take i ∧ s' fo = some (.lst (prs.map fun q => .ref q.1)) ∧ (∀ q ∈ prs, s' q.1 = some (.lst (q.2.map .int))) ∧ (fo :: prs.map (·.1)).Nodup ∧ Own [] (fo :: prs.map (·.1)) s s')
    ⟨_, _, [], rfl, by simp, put_same, by simp, by simp, own_of (fun a _ ha => put_ne (by rintro rfl; exact ha hfo)) (by simp [hfo])⟩ (fun _ _ _ _ => trivial) ?_ ?_
  · rintro i σ s1 N hi ⟨v4, v5, prs, rfl, h1, h2, h3, h4, o1⟩ hN
    have hi' : i < L.ths.length := by omega
    obtain ⟨t, et⟩ : ∃ t, L.ths[i]? = some t := ⟨_, List.getElem?_eq_getElem hi'⟩
    have hsm := hok.th t (List.mem_of_getElem? et)
    have hl1 := hl.ext o1.ext
    have e5 : (alwS L.ths fs).take (i + 1) = (alwS L.ths fs).take i ++ [alwT t (decide ((i : Int) ∉ fs))] := by
      have : (alwS L.ths fs)[i]? = some (alwT t (decide ((i : Int) ∉ fs))) := by
        have q := alwS_get (fs := fs) et
        rw [List.getD_eq_getElem?_getD, List.getElem?_eq_getElem (by rw [alwS_len]; exact hi')] at q
        rw [List.getElem?_eq_getElem (by rw [alwS_len]; exact hi')]
        exact congrArg some q
      rw [List.take_add_one, this]; rfl
    have hprl : (prs.map fun q => LV.ref q.1).length < 16777216 := by
      have := congrArg List.length h1
      have h9 := alwS_len L.ths fs
      simp at this ⊢
      omega
    rw [List.nodup_cons] at h4
    have key : ∀ (s2 : LS) (pa : Addr) (σ' : LSt), Ext s1 s2 → s1 pa = none → s2 pa = some (.lst ((alwT t (decide ((i : Int) ∉ fs))).map .int)) → (∃ v4 v5, σ' = [some (.ref x), some fv, some (.lst ((L.ths.map Th.here).map .int)), some (.ref fo), v4, v5]) → N σ' (put s2 fo (.lst (prs.map (fun q => .ref q.1) ++ [.ref pa]))) := fun s2 pa σ' ex n2 e2 ⟨v4, v5, eσ⟩ => by
      have npf : pa ≠ fo := by rintro rfl; rw [h2] at n2; cases n2
      have nps : ∀ q ∈ prs, q.1 ≠ pa := by rintro q hq rfl; rw [h3 q hq] at n2; cases n2
      have nfs : ∀ q ∈ prs, q.1 ≠ fo := fun q hq e => h4.1 (e ▸ List.mem_map_of_mem hq)
      refine hN _ _ ⟨v4, v5, prs ++ [(pa, alwT t (decide ((i : Int) ∉ fs)))], eσ, ?_, ?_, fun q hq => ?_, ?_, ?_⟩
      · rw [List.map_append, h1, e5]; rfl
      · rw [put_same, List.map_append]; rfl
      · rw [List.mem_append, List.mem_singleton] at hq
        rcases hq with hq | rfl
        · rw [put_ne (nfs q hq)]; exact ex _ _ (h3 q hq)
        · rw [put_ne npf]; exact e2
      · rw [List.map_append, List.nodup_cons, List.nodup_append, List.mem_append]
        refine ⟨?_, h4.2, by simp, fun a ha b hb => ?_⟩
        · rintro (z | z)
          · exact h4.1 z
          · simp at z; exact npf z.symm
        · simp only [List.map_cons, List.map_nil, List.mem_singleton] at hb
          subst hb
          obtain ⟨q, hq, rfl⟩ := List.mem_map.mp ha
          exact nps q hq
      · refine fun a _ ha => ?_
        obtain ⟨k1, k2⟩ := o1 a (by simp) ha
        rw [List.mem_cons, not_or] at k2
        have ap : a ≠ pa := by rintro rfl; rw [k1] at n2; exact ha n2
        have ea : ∃ o, s1 a = some o := by cases e : s1 a with
          | none => rw [k1] at e; exact absurd e ha
          | some o => exact ⟨o, rfl⟩
        obtain ⟨o, eo⟩ := ea
        refine ⟨by rw [put_ne k2.1, ex _ _ eo, ← eo, k1], ?_⟩
        rw [List.map_append, List.mem_cons, List.mem_append]
        rintro (z | z | z)
        · exact k2.1 z
        · exact k2.2 z
        · simp at z; exact ap z
    have eh : ((L.ths.map Th.here).map LV.int)[i]? = some (.int t.here) := by rw [List.getElem?_map, List.getElem?_map, et]; rfl
    simp_arith [hl1.hx, lmF]
    refine ⟨x, L, dv, F, n, i, rfl, hl1, hok, hn, fun j u e eu => ?_, fun no => absurd ⟨by omega, by omega⟩ no⟩
    have e : j = i := by omega
    subst e
    rw [et] at eu
    cases eu
    intro p hp
    have npf : p ≠ fo := by rintro rfl; rw [h2] at hp; cases hp
    have hfo2 : put s1 p (.lst (t.points.map .int)) fo = some (.lst (prs.map fun q => .ref q.1)) := by rw [put_ne (Ne.symm npf)]; exact h2
    have ex1 : Ext s1 (put s1 p (.lst (t.points.map .int))) := fun a o e => by rw [put_ne (by rintro rfl; rw [hp] at e; cases e)]; exact e
    have stay : (¬ (decide ((j : Int) ∉ fs) = true ∧ t.here ∉ t.points)) → put s1 p (.lst (t.points.map .int)) p = some (.lst ((alwT t (decide ((j : Int) ∉ fs))).map .int)) := fun q => by
      unfold alwT
      rw [if_neg q]; exact put_same
    have hcl : (t.points.map LV.int).length + [LV.int t.here].length ≤ 16777216 := by
      have q1 := hsm.ok.plen
      have q2 := hsm.dn
      have q3 := hsm.wr
      simp
      omega
    rcases seqL_cases hfv with rfl | ⟨fa, rfl, ef⟩
    all_goals
      first | (have ef1 : put s1 p (.lst (t.points.map .int)) fa = some (.lst (fs.map .int)) := ex1 _ _ (o1.ext _ _ ef)) | (have ef1 : True := trivial)
      simp_arith [ef1]
      refine ifNX (fun hc1 => ?_) (fun hc1 => ?_)
      · simp_arith [ef1]
        rw [atI_nat eh]
        simp_arith [put_same]
        refine ifNX (fun hc2 => ?_) (fun hc2 => ?_)
        · simp_arith [put_same]
          rw [atI_nat eh]
          simp_arith [put_same]
          intro p2 hp2
          obtain ⟨np2, hp2⟩ := put_none hp2
          have np2f : p2 ≠ fo := by rintro rfl; rw [h2] at hp2; cases hp2
          simp_arith [hfo2, put_ne (Ne.symm np2f)]
          refine key _ p2 _ ?_ hp2 ?_ ⟨_, _, rfl⟩
          · exact fun a o e => by rw [put_ne (by rintro rfl; rw [hp2] at e; cases e)]; exact ex1 _ _ e
          · rw [put_same]
            unfold alwT
            rw [if_pos ⟨decide_eq_true hc1, hc2⟩, List.map_append]
            rfl
        · simp_arith [hfo2]
          exact key _ p _ ex1 hp (stay fun q => q.2 hc2) ⟨_, _, rfl⟩
      · simp_arith [hfo2]
        exact key _ p _ ex1 hp (stay fun q => of_decide_eq_true q.1 hc1) ⟨_, _, rfl⟩
  · rintro σ s1 ⟨v4, v5, prs, rfl, h1, h2, h3, h4, o1⟩
    have e6 : (alwS L.ths fs).take ((L.ths.length : Int)).toNat = alwS L.ths fs := List.take_of_length_le (by rw [alwS_len]; omega)
    rw [e6] at h1
    simp_arith
    exact fin (.refl _) (h s1 fo prs h1 h2 h3 h4 o1)
def spAheadP : LSp := fun vs s Q E => ∃ lv pts u, vs = [lv, .int u] ∧ lineV lv s pts ∧ (∃ p ∈ pts, p < u) ∧ pts.length < 16777216 ∧ ∀ p, IsAhead pts u p → Q (.int p) s
theorem ok_point_ahead (T : Txt K mg A D) (B : Bs K mg base A) : LFn P w K mg base 1 A.f_point_ahead D.d_point_ahead ["points", "place"] spAheadP := by
  refine T.F_point_ahead.okL sc_point_ahead (fun vs s Q E ⟨_, _, _, h, _⟩ => by rw [h]; rfl) (fun cdv A' outer si H E hr => ⟨_, (lps_one (lp_ret (le_max rfl rfl T.b_max (la_cons (le_fz (ll_lc (own := [("point", 2)]) (g := CTg.one 2) rfl sc_point_ahead.nd (li_seq (lv 0)) (blkOk_by (N := ["points", "place", "point"]) (sc := defScope s_point_ahead) (by decide +kernel)) (by decide) (fun _ _ _ _ _ => pg_name (i := 2) sc_point_ahead.nd rfl (Or.inl rfl)) (fun _ _ _ _ _ => (lts_one (lt_lt (lv 2) (lv 1)))) (fun _ _ _ _ _ => (lv 2)))) la_nil)))), fun vs s Q E h => ?_⟩)
  obtain ⟨lv, pts, u, rfl, hlv, ⟨p0, hp0, hpu⟩, hpl, h⟩ := h
  rcases seqL_cases hlv with rfl | ⟨a, rfl, ea⟩
  all_goals
    first | (have ea1 := ea) | (have ea1 : True := trivial)
    have fin2 : (LVK → Prop) → True := fun _ => trivial
    have hmx : 0 < (pts.filter fun q => decide (q < u)).length := List.length_pos_of_mem (List.mem_filter.mpr ⟨hp0, decide_eq_true hpu⟩)
    have hmm : ∀ m, m ∈ (pts.filter fun q => decide (q < u)) → (∀ y, y ∈ (pts.filter fun q => decide (q < u)) → y ≤ m) → IsAhead pts u m := fun m h1 h2 => ⟨(List.mem_filter.mp h1).1, of_decide_eq_true (List.mem_filter.mp h1).2, fun q hq hlt => h2 q (List.mem_filter.mpr ⟨hq, decide_eq_true hlt⟩)⟩
    simp_arith [ea1]
    intro Da hD
    refine lc_pure hD (fun q => decide (q < u)) LV.int (by first | exact fun _ _ => trivial | exact fun s' ex => ex _ _ ea) (by omega) ?_ ?_
    · intro y _ s' Y N _ h1 h2
      simp_arith
      exact ⟨h1, h2⟩
    conv => whnf
    rw [intsOf_map]
    refine ⟨hmx, fun m h1 h2 => ?_⟩
    exact fin (.refl _) (h m (hmm m h1 h2))
def spGreatest (A : Ad) : LSp := fun vs s Q E => ∃ x L dv F n fv fs, vs = [.ref x, fv] ∧ IsLm A s x L dv F ∧ LmG L n ∧ n < 100000 ∧ lineV fv s fs ∧ fs.length < 1000 ∧
  ∀ a b line paper, IsGr L.ths fs line paper → paper.length < 16777216 → s a = none → s b = none → a ≠ b → Q (.tup [.ref a, .ref b]) (put (put s a (.lst (line.map .int))) b (.lst (paper.map nmL)))
theorem ok_greatest_line (T : Txt K mg A D) (B : Bs K mg base A) : LFn P w K mg base 5 A.f_greatest_line D.d_greatest_line ["loom", "fallen"] (spGreatest A) := by
  refine T.F_greatest_line.okL sc_greatest_line (fun vs s Q E ⟨_, _, _, _, _, _, _, h, _⟩ => by rw [h]; rfl) (fun cdv A' outer si H E hr => ⟨_, (lps_cons (lp_set (i := 2) sc_greatest_line.nd rfl (by first | exact Or.inl rfl | exact Or.inr rfl) (le_frz (le_call (ok_allowed_points T B) (hr.mono (by decide)) rfl T.m_allowed_points T.k_allowed_points T.q_allowed_points (la_cons (lv 0) (la_cons (lv 1) la_nil)))))
    (lps_cons (lp_setLcN (i := 3) rfl sc_greatest_line.nd rfl rfl (own := [("points", 4)]) (g := CTg.one 4) (li_seq (lv 2)) (blkOk_by (N := ["loom", "fallen", "allowed", "line", "points", "used", "sent", "paper", "names", "name", "user"]) (sc := defScope s_greatest_line) (by decide +kernel)) (by decide) (fun _ _ _ _ _ => pg_name (i := 4) sc_greatest_line.nd rfl (Or.inl rfl)) (fun _ _ _ _ _ => lts_nil) (fun _ _ _ _ _ => (le_item (hu_of hr) (lv 4) (le_neg le_int))) (sw_true rfl rfl rfl (by decide)))
    (lps_cons (lp_set (i := 5) sc_greatest_line.nd rfl (by first | exact Or.inl rfl | exact Or.inr rfl) (le_frz (le_meth0 (lv 0) T.cl_Loom T.mt_Loom_letters_used (ok_Loom_letters_used T B) (hr.mono (by decide)) T.q_Loom_letters_used)))
    (lps_cons (lp_set (i := 6) sc_greatest_line.nd rfl (by first | exact Or.inl rfl | exact Or.inr rfl) (le_frz (le_meth0 (lv 0) T.cl_Loom T.mt_Loom_letters_sent (ok_Loom_letters_sent T B) (hr.mono (by decide)) T.q_Loom_letters_sent)))
    (lps_cons (lp_set (i := 7) sc_greatest_line.nd rfl (by first | exact Or.inl rfl | exact Or.inr rfl) (le_new (ll_disp la_nil)))
    (lps_cons (lp_set (i := 8) sc_greatest_line.nd rfl (by first | exact Or.inl rfl | exact Or.inr rfl) (le_frz (le_call (ok_broken_by T B) (hr.mono (by decide)) rfl T.m_broken_by T.k_broken_by T.q_broken_by (la_cons (lv 0) (la_cons (lv 3) la_nil)))))
    (lps_cons (lp_while (lt_neV hr.units (lv 8) (le_fz (ll_disp la_nil))) (lps_cons (lp_set (i := 9) sc_greatest_line.nd rfl (by first | exact Or.inl rfl | exact Or.inr rfl) (le_item (hu_of hr) (lv 8) le_int))
    (lps_cons (lp_expr (le_append (lv 7) (la_cons (lv 9) la_nil)))
    (lps_cons (lp_set (i := 10) sc_greatest_line.nd rfl (by first | exact Or.inl rfl | exact Or.inr rfl) (le_item (hu_of hr) (le_item (hu_of hr) (lv 6) (lv 9)) le_int))
    (lps_cons (lp_asg (le_call (ok_point_ahead T B) (hr.mono (by decide)) rfl T.m_point_ahead T.k_point_ahead T.q_point_ahead (la_cons (le_item (hu_of hr) (lv 2) (lv 10)) (la_cons (le_item (hu_of hr) (lv 5) (lv 9)) la_nil))) (lg_sub (hu_of hr) (lv 3) (lv 10)))
    (lps_one (lp_set (i := 8) sc_greatest_line.nd rfl (by first | exact Or.inl rfl | exact Or.inr rfl) (le_frz (le_call (ok_broken_by T B) (hr.mono (by decide)) rfl T.m_broken_by T.k_broken_by T.q_broken_by (la_cons (lv 0) (la_cons (lv 3) la_nil)))))))))))
    (lps_one (lp_ret (le_tup (la_cons (lv 3) (la_cons (lv 7) la_nil)))))))))))), fun vs s Q E h => ?_⟩)
  obtain ⟨x, L, dv, F, n, fv, fs, rfl, hl, hg, hn, hfv, hfl, h⟩ := h
  have hok := hg.ok
  have hmn := hok.mn
  have hsl := hok.sentR_len
  have hul := hok.usedR_len
  have htk := hg.tok
  simp_arith
  refine ⟨x, L, dv, F, n, fv, fs, rfl, hl, hg, hn, hfv, hfl, fun s1 p prs q1 q2 q3 q4 o1 => ?_⟩
  have ng : ∀ a ∈ p :: prs.map (·.1), s a = none := fun a ha => Classical.byContradiction fun z => (o1 a (by simp) z).2 ha
  refine fin_lists (f := LV.int) q2 q3 (ng _ (by simp)) (fun q hq => ng _ (List.mem_cons_of_mem _ (List.mem_map_of_mem hq))) (own_sub (by simp) o1) ?_
  have epr : (prs.map fun q => LV.lst (q.2.map .int)) = (alwS L.ths fs).map fun pts => LV.lst (pts.map .int) := by rw [← q1, List.map_map]; rfl
  rw [epr]
  have hal : (alwS L.ths fs).length = L.ths.length := alwS_len _ _
  have hane : ∀ pts ∈ alwS L.ths fs, pts ≠ [] := fun pts hp => by
    obtain ⟨i, hi⟩ := List.getElem?_of_mem hp
    have hi2 : i < L.ths.length := by rw [← hal]; exact (List.getElem?_eq_some_iff.mp hi).1
    have e := alwS_get (fs := fs) (List.getElem?_eq_getElem hi2)
    rw [List.getD_eq_getElem?_getD, hi] at e
    have e' : pts = _ := e
    rw [e']
    exact alwT_ne (htk.ok _ (List.getElem_mem hi2)) _
  simp_arith
  intro Da hD
  refine lc_map1 (enc := fun pts : List Int => LV.lst (pts.map .int)) hD (fun pts => LV.int (pts.getLastD 0)) (fun _ _ => trivial) (by omega) ?_ ?_
  · intro pts hp s' Y ex hY
    obtain ⟨ys, l, rfl⟩ : ∃ ys l, pts = ys ++ [l] := ⟨_, _, (List.dropLast_concat_getLast (hane pts hp)).symm⟩
    have e : (ys ++ [l]).getLastD 0 = l := by simp
    rw [e] at hY
    simp_arith
    rw [List.map_append, List.map_cons, List.map_nil, atI_last]
    simp_arith
    exact hY
  have etp : (alwS L.ths fs).map (fun pts => LV.int (pts.getLastD 0)) = (tops (alwS L.ths fs)).map .int := by unfold tops; rw [List.map_map]; rfl
  rw [etp]
  intro la hla
  have hl0 := hl.own (own_fresh (G := [la]) (o := .lst ((tops (alwS L.ths fs)).map .int)) hla) (hl.fresh hla)
  simp_arith [hl0.hx, lmF]
  refine ⟨x, L, dv, F, n, rfl, hl0, hok, hn, fun q hq => fin_dT put_same hq (sub_put hq) ?_⟩
  simp_arith [hl0.hx, lmF]
  refine ⟨x, L, dv, F, n, rfl, hl0, hok, hn, fun q hq => fin_dT put_same hq (sub_put hq) ?_⟩
  simp_arith
  intro pa hpa
  obtain ⟨npl, hpa⟩ := put_none hpa
  obtain ⟨c, hc⟩ := hg.bs
  have htop := tops_top htk.ok fs
  have hbnd : lnSum (tops (alwS L.ths fs)) ≤ 16 * n := by
    have h1 : (tops (alwS L.ths fs)).length = L.ths.length := by simp [tops, alwS_len]
    have h2 := lnSum_le n (tops (alwS L.ths fs)) fun y hy => by
      obtain ⟨i, hi⟩ := List.getElem?_of_mem hy
      have hi2 : i < L.ths.length := by rw [← h1]; exact (List.getElem?_eq_some_iff.mp hi).1
      have h3 := htop.1.mem i (by omega)
      rw [lnAt_get hi, alwS_get (List.getElem?_eq_getElem hi2)] at h3
      have h4 := (alwT_le (htk.ok _ (List.getElem_mem hi2)) h3).2
      have h5 := (hok.th _ (List.getElem_mem hi2)).dn
      unfold Th.here at h4
      omega
    rw [h1] at h2
    have : n * L.ths.length ≤ n * 16 := Nat.mul_le_mul_left _ hmn
    omega
  have npl' : la ≠ pa := Ne.symm npl
  have f1 : put (put s la (.lst ((tops (alwS L.ths fs)).map .int))) pa (.lst []) la = some (.lst ((tops (alwS L.ths fs)).map .int)) := by rw [put_ne npl', put_same]
  have oA : Own [] [] s (put (put s la (.lst ((tops (alwS L.ths fs)).map .int))) pa (.lst [])) := own_of (fun a _ ha => by rw [put_ne (by rintro rfl; exact ha hpa), put_ne (by rintro rfl; exact ha hla)]) (by simp)
  refine ⟨x, L, dv, F, n, _, tops (alwS L.ths fs), rfl, hl.ext oA.ext, hg, hn, by simp only [lineV, seqL, f1], by rw [htop.1.len, hal], fun q hq => fin_lst put_same hq (sub_put hq) ?_⟩
  simp_arith
  refine ⟨fun m σ s' => ∃ line paper v9 v10, σ = [some (.ref x), some fv, some (.lst ((alwS L.ths fs).map fun pts => LV.lst (pts.map .int))), some (.ref la), none, some (.dT (encM .int L.used)), some (.dT (encM pairL L.sent)), some (.ref pa), some (.lst ((L.brk line).map nmL)), v9, v10] ∧ Pulls L.ths (alwS L.ths fs) (tops (alwS L.ths fs)) paper line ∧ s' la = some (.lst (line.map .int)) ∧ s' pa = some (.lst (paper.map nmL)) ∧ Own [] [] s s' ∧ m = lnSum line ∧ paper.length + lnSum line ≤ 16 * n,
    ⟨_, tops (alwS L.ths fs), [], _, _, rfl, .nil _, f1, put_same, oA, rfl, by simpa using hbnd⟩, ?_⟩
  rintro m σ s2 ⟨line, paper, v9, v10, rfl, hpl, e1, e2, o2, rfl, hsz⟩
  have hln : line.length = L.ths.length := by rw [(hpl.allowed htop.1).len, hal]
  have hl2 := hl.ext o2.ext
  cases hb : L.brk line with
  | nil =>
    simp_arith
    refine ifF (by first | decide | rfl | simp [PyData.eqv]) ?_
    simp_arith
    have hgr : IsGr L.ths fs line paper := ⟨hpl, (brk_nil hg.us).mp hb⟩
    refine fin (s2 := put (put s la (.lst (line.map .int))) pa (.lst (paper.map nmL))) (sub_at (sub_at (own_sub (by simp) o2) e1) e2) (h la pa line paper hgr (by omega) hla hpa npl')
  | cons nm rest =>
    have hd : dat s2 (.lst ((nm :: rest).map nmL)) = some (Cod.den (nm :: rest)) := den_enc (α := List Nm) s2 _
    have hsh : SeqAt.shaped (Cod.den (nm :: rest)) = true := shaped_cod (α := List Nm) (by decide) _
    have hd0 : dat s2 (.lst []) = some (Cod.den ([] : List Nm)) := den_enc (α := List Nm) s2 []
    have hsh0 : SeqAt.shaped (Cod.den ([] : List Nm)) = true := shaped_cod (α := List Nm) (by decide) _
    simp_arith [hd, hd0]
    refine ⟨⟨hsh, by first | trivial | exact hsh0⟩, ?_⟩
    rw [eqv_cod]
    have ebt : (true ^^ decide (nm :: rest = ([] : List Nm))) = true := by simp
    rw [ebt]
    obtain ⟨i, u, hu, hle, hgt⟩ := (brk_mem hg.us).mp (show nm ∈ L.brk line by rw [hb]; simp)
    obtain ⟨l, hsl', hli⟩ := hg.us.sn _ _ _ hu
    have hi := hu.pos
    have hv : valL (encM pairL L.sent) [.inl nm.hand, .inl nm.place, .inl nm.k] = some (.tup [.int (i : Nat), .int l.2]) := (valL_enc pairL _ nm).trans (by rw [sent_get.mpr hsl', ← hli]; rfl)
    have hv2 : valL (encM LV.int L.used) [.inl nm.hand, .inl nm.place, .inl nm.k] = some (.int u) := (valL_enc LV.int _ nm).trans (by rw [(used_get hg.us).mpr ⟨i, hu⟩]; rfl)
    have hpl2 : (paper.map nmL).length < 16777216 := by rw [List.length_map]; omega
    simp_arith
    rw [atI_mem (v := nm) nmL (by decide) rfl]
    unfold nmL
    simp_arith [e2, hv, hv2]
    have eai : ((alwS L.ths fs).map fun pts => LV.lst (pts.map .int))[i]? = some (LV.lst (((alwS L.ths fs).getD i []).map .int)) := by
      rw [List.getElem?_map, List.getD_eq_getElem?_getD, List.getElem?_eq_getElem (by rw [hal]; exact hi.2)]
      rfl
    rw [atI_nat eai]
    simp_arith [e2, hv, hv2]
    obtain ⟨ti, eti⟩ : ∃ t, L.ths[i]? = some t := ⟨_, List.getElem?_eq_getElem hi.2⟩
    have hsmi := hok.th ti (List.mem_of_getElem? eti)
    have hthere := ahead_there hu hgt hal.symm (hc.allowed fs) hc.snd (hpl.ge hal.symm (hc.allowed fs) hc.snd (by rw [htop.1.len, (hc.allowed fs).len]) (htop.2 c (hc.allowed fs)) htk.hands) (htk.hands _ _ _ hu)
    have hptl : ((alwS L.ths fs).getD i []).length < 16777216 := by
      rw [alwS_get eti]
      have h1 := hsmi.ok.plen
      have h2 := hsmi.dn
      have h3 := hsmi.wr
      unfold alwT
      split
      · rw [List.length_append, List.length_singleton]; omega
      · omega
    refine ⟨_, (alwS L.ths fs).getD i [], u, rfl, rfl, ⟨lnAt c i, hthere.1, hthere.2⟩, hptl, fun p hp => ?_⟩
    have hp0 : 0 ≤ p := by
      have := hp.mem
      rw [alwS_get eti] at this
      exact (alwT_le hsmi.ok this).1
    have hplt := hp.lt
    have epa : put s2 pa (.lst (paper.map nmL ++ [.tup [.int nm.hand, .int nm.place, .int nm.k]])) pa = some (.lst ((paper ++ [nm]).map nmL)) := by rw [put_same, List.map_append]; rfl
    have e1' : put s2 pa (.lst (paper.map nmL ++ [.tup [.int nm.hand, .int nm.place, .int nm.k]])) la = some (.lst (line.map .int)) := by rw [put_ne npl']; exact e1
    have o3 : Own [] [] s (put s2 pa (.lst (paper.map nmL ++ [.tup [.int nm.hand, .int nm.place, .int nm.k]]))) := fun a na ha => ⟨by rw [put_ne (by rintro rfl; exact ha hpa)]; exact (o2 a na ha).1, na⟩
    generalize put s2 pa (.lst (paper.map nmL ++ [.tup [.int nm.hand, .int nm.place, .int nm.k]])) = s3 at epa e1' o3 ⊢
    have hil : i < (line.map LV.int).length := by rw [List.length_map]; omega
    simp_arith [e1']
    rw [ixN_nat hil]
    have o4 : Own [] [] s (put s3 la (.lst ((line.map .int).set i (.int p)))) := fun a na ha => ⟨by rw [put_ne (by rintro rfl; exact ha hla)]; exact (o3 a na ha).1, na⟩
    have e4 : put s3 la (.lst ((line.map .int).set i (.int p))) la = some (.lst ((line.set i p).map .int)) := by rw [put_same, List.map_set]
    have e5 : put s3 la (.lst ((line.map .int).set i (.int p))) pa = some (.lst ((paper ++ [nm]).map nmL)) := by rw [put_ne npl]; exact epa
    simp_arith
    refine ⟨x, L, dv, F, n, .ref la, line.set i p, rfl, hl.ext o4.ext, hg, hn, by simp only [lineV, seqL, e4], by rw [List.length_set]; exact hln, fun q hq => fin_lst put_same hq (sub_put hq) ?_⟩
    have hsum := lnSum_set p line i (by omega)
    simp_arith
    refine ⟨lnSum (line.set i p), by omega, line.set i p, paper ++ [nm], _, _, rfl, hpl.snoc hu hle hgt hp, e4, e5, o4, rfl, ?_⟩
    rw [List.length_append, List.length_singleton]
    omega
theorem flat_set_mem {ts : List Ta} {i : Nat} {f' : Ta} {a : Addr} (h : a ∈ (ts.set i f').flatMap ta3) : a ∈ ts.flatMap ta3 ∨ a ∈ ta3 f' := by
  obtain ⟨g, hg, ha⟩ := List.mem_flatMap.mp h
  rcases List.mem_or_eq_of_mem_set hg with hg | rfl
  · exact .inl (List.mem_flatMap.mpr ⟨g, hg, ha⟩)
  · exact .inr ha
theorem flat_set_nd {f f' : Ta} (hn : (ta3 f').Nodup) : ∀ {ts : List Ta} {i : Nat}, (ts.flatMap ta3).Nodup → ts[i]? = some f → (∀ a ∈ ta3 f', a ∈ ta3 f ∨ a ∉ ts.flatMap ta3) → ((ts.set i f').flatMap ta3).Nodup
  | [], i, _, e, _ => by simp at e
  | g :: ts, 0, nd, e, h => by
    simp at e
    subst e
    rw [List.flatMap_cons, List.nodup_append] at nd
    rw [List.set_cons_zero, List.flatMap_cons, List.nodup_append]
    refine ⟨hn, nd.2.1, fun a ha b hb q => ?_⟩
    subst q
    rcases h a ha with h | h
    · exact nd.2.2 a h a hb rfl
    · exact h (by rw [List.flatMap_cons, List.mem_append]; exact .inr hb)
  | g :: ts, i + 1, nd, e, h => by
    rw [List.getElem?_cons_succ] at e
    rw [List.flatMap_cons, List.nodup_append] at nd
    rw [List.set_cons_succ, List.flatMap_cons, List.nodup_append]
    refine ⟨nd.1, flat_set_nd hn nd.2.1 e fun a ha => ?_, fun a ha b hb q => ?_⟩
    · rcases h a ha with h | h
      · exact .inl h
      · exact .inr fun z => h (by rw [List.flatMap_cons, List.mem_append]; exact .inr z)
    · subst q
      rcases flat_set_mem hb with hb | hb
      · exact nd.2.2 a ha a hb rfl
      · rcases h a hb with h | h
        · exact nd.2.2 a ha a (mem_ta e h) rfl
        · exact h (by rw [List.flatMap_cons, List.mem_append]; exact .inl ha)
theorem IsLm.setF {A : Ad} {s s' : LS} {x : Addr} {L : Lm} {dv : LV} {F : Fp} (h : IsLm A s x L dv F) {i : Nat} {f : Ta} {t' : Th} {d' w' : Addr} (e : F.ts[i]? = some f) (ht : IsTh A s' f.1 t' d' w') (o : Own [f.1, f.2.1, f.2.2] [f.1, d', w'] s s') :
    IsLm A s' x { L with ths := L.ths.set i t' } dv ⟨F.d, F.o, F.ts.set i (f.1, d', w')⟩ ∧ Own (F.all x) (Fp.all x ⟨F.d, F.o, F.ts.set i (f.1, d', w')⟩) s s' := by
  have hnew : ∀ a ∈ ta3 (f.1, d', w'), a ∈ ta3 f ∨ s a = none := fun a ha => Classical.byContradiction fun z => by
    rw [not_or] at z
    exact (o a z.1 z.2).2 ha
  have hn3 : (ta3 (f.1, d', w')).Nodup := by
    have n1 := ht.xd; have n2 := ht.xw; have n3 := ht.ne
    simp [ta3, n1, n2, n3]
  have hsub : ∀ a, a ∉ F.all x → s a ≠ none → a ∉ ta3 (f.1, d', w') := fun a na ha hb => by
    rcases hnew a hb with q | q
    · exact na (h.ths e q)
    · exact ha q
  have eF : ∀ a ∈ ta3 f, a ∈ F.ts.flatMap ta3 := fun a ha => mem_ta e ha
  have nds := flat_set_nd hn3 h.nd3 e fun a ha => by
    rcases hnew a ha with q | q
    · exact .inl q
    · exact .inr fun z => h.held (by simp only [Fp.all, List.mem_cons]; exact .inr (.inr (.inr z))) q
  have apz : ∀ a, s a ≠ none → a ∉ F.ts.flatMap ta3 → a ∉ (F.ts.set i (f.1, d', w')).flatMap ta3 := fun a ha na hb => by
    rcases flat_set_mem hb with q | q
    · exact na q
    · rcases hnew a q with q | q
      · exact na (eF a q)
      · exact ha q
  refine ⟨⟨?_, o.at (fun z => h.dt (eF _ z)) h.hd, o.at (fun z => h.ot (eF _ z)) h.ho, ⟨by rw [List.length_set, List.length_set]; exact h.ht.len, fun j t g e1 e2 => ?_⟩, ?_⟩, fun a na ha => ?_⟩
  · have e1 : (F.ts.set i (f.1, d', w')).map (fun f => LV.ref f.1) = F.ts.map fun f => LV.ref f.1 := by
      rw [List.map_set]
      have e3 : (F.ts.map fun f => LV.ref f.1)[i]? = some (LV.ref f.1) := by rw [List.getElem?_map, e]; rfl
      apply List.ext_getElem?
      intro j
      by_cases q : i = j
      · subst q; rw [List.getElem?_set_self (List.getElem?_eq_some_iff.mp e3).1, e3]
      · rw [List.getElem?_set_ne q]
    have := o.at (fun z => h.xt (eF _ z)) h.hx
    unfold lmF at this ⊢
    dsimp only
    rw [e1, List.length_set]
    exact this
  · by_cases q : i = j
    · subst q
      rw [List.getElem?_set_self (List.getElem?_eq_some_iff.mp e).1] at e2
      cases e2
      have hi : i < L.ths.length := by rw [← h.ht.len]; exact (List.getElem?_eq_some_iff.mp e).1
      rw [List.getElem?_set_self hi] at e1
      cases e1
      exact ht
    · rw [List.getElem?_set_ne q] at e1 e2
      exact (h.ht.at_ j t g e1 e2).own o (fun z => apart h.nd3 e e2 q z (by simp [ta3])) (fun z => apart h.nd3 e e2 q z (by simp [ta3])) (fun z => apart h.nd3 e e2 q z (by simp [ta3]))
  · simp only [Fp.all, List.nodup_cons, List.mem_cons, not_or]
    exact ⟨⟨h.xd, h.xo, apz x (by rw [h.hx]; simp) h.xt⟩, ⟨h.do', apz _ (by rw [h.hd]; simp) h.dt⟩, apz _ (by rw [h.ho]; simp) h.ot, nds⟩
  · have na' := na
    simp only [Fp.all, List.mem_cons, not_or] at na
    refine ⟨(o a (fun z => na.2.2.2 (eF _ z)) ha).1, ?_⟩
    simp only [Fp.all, List.mem_cons, not_or]
    exact ⟨na.1, na.2.1, na.2.2.1, apz a ha na.2.2.2⟩
theorem set_take_drop {α : Type} {xs ys : List α} {i : Nat} {y : α} (hx : i < xs.length) (hy : ys[i]? = some y) : (ys.take i ++ xs.drop i).set i y = ys.take (i + 1) ++ xs.drop (i + 1) := by
  have hl : (ys.take i).length = i := by rw [List.length_take]; have := (List.getElem?_eq_some_iff.mp hy).1; omega
  rw [List.set_append_right _ _ (by omega), hl, Nat.sub_self, List.drop_eq_getElem_cons hx, List.set_cons_zero, List.take_add_one, hy]
  simp
/-- going to a line: the loom lies at new lists -/
def spGoTo (A : Ad) : LSp := fun vs s Q E => ∃ x L dv F n lv line fv fs, vs = [.ref x, lv, fv] ∧ IsLm A s x L dv F ∧ LmG L n ∧ n < 100000 ∧ lineV lv s line ∧ lineV fv s fs ∧ fs.length < 1000 ∧ Allowed (alwS L.ths fs) line ∧ (∀ a, lv = .ref a → a ∉ F.all x) ∧ (∀ a, fv = .ref a → a ∉ F.all x) ∧
  ∀ s' F', IsLm A s' x (L.back fs line) dv F' → Own (F.all x) (F'.all x) s s' → Q .non s'
def spFall (A : Ad) : LSp := fun vs s Q E => ∃ x L dv F n fv fs, vs = [.ref x, fv] ∧ IsLm A s x L dv F ∧ LmG L n ∧ n < 100000 ∧ lineV fv s fs ∧ fs.length < 1000 ∧ (∀ a, fv = .ref a → a ∉ F.all x) ∧
  ∀ s' F' a b line paper, IsGr L.ths fs line paper → s' a = some (.lst (line.map .int)) → s' b = some (.lst (paper.map nmL)) → a ≠ b → a ∉ F'.all x → b ∉ F'.all x → IsLm A s' x (L.back fs line) dv F' → Own (F.all x) (a :: b :: F'.all x) s s' → Q (.tup [.ref a, .ref b]) s'
end
end Law

namespace Law
open PySem PySem.Spec L2 L3
local macro_rules
  | `(tactic| simp_arith) => `(tactic| ((conv => whnf); repeat ((first | with_reducible refine ifTT ?_ | with_reducible refine ifFF ?_ | with_reducible refine ifnT ?_ | with_reducible refine ifnF ?_ | with_reducible refine ifTr ?_ | with_reducible refine ifFr ?_ | (with_reducible refine And.intro ?_ ?_; · (first | with_reducible rfl | with_reducible exact ⟨rfl, rfl⟩ | decide | omega | (dsimp only; decide) | (dsimp only; omega) | (unfold CDiv; omega) | (unfold CPow; decide) | (unfold CMul; omega) | (simp only [List.length_cons, List.length_nil]; omega)))); conv => whnf)))
local macro_rules
  | `(tactic| simp_arith [$ls,*]) => `(tactic| ((conv => whnf); repeat ((first | with_reducible refine ifTT ?_ | with_reducible refine ifFF ?_ | with_reducible refine ifnT ?_ | with_reducible refine ifnF ?_ | with_reducible refine ifTr ?_ | with_reducible refine ifFr ?_ | (with_reducible refine And.intro ?_ ?_; · (first | with_reducible rfl | with_reducible exact ⟨rfl, rfl⟩ | decide | omega | (dsimp only; decide) | (dsimp only; omega) | (unfold CDiv; omega) | (unfold CPow; decide) | (unfold CMul; omega) | (simp only [List.length_cons, List.length_nil]; omega) | (simp only [Option.isSome_some]; done) | (simp only [meth_ref, put_same', seqL_ref, $ls,*]; first | done | exact ⟨rfl, rfl⟩ | exact ⟨trivial, rfl⟩ | rfl))) | (simp (decide := true) only [put_same', put_put, decF, decT, Bool.not_true, Bool.not_false, putL_nil, putL_cons, if_true, if_false, seqR_ref, seqL_ref, lenL_ref, dicK_ref, dicT_ref, dat_ref, dat_non, dat_bl, dat_int, dat_str, dat_lst, dat_tup, datV_non, datV_bl, datV_int, datV_str, datV_lst, datV_tup, datVs_nil, datVs_cons, tyAt_ref, opt_some, Option.map_some, Option.bind_some, dv_ints, dv_bls, dv_nms, dv_prs, dv_nm, dt_nm, dt_pr, dv_pr, sh_int, sh_bl, sh_none, sh_nil, eqv_nil, sh_ints, sh_bls, sh_nm, sh_nms, sh_pr, sh_prs, anyI, anyN, anyP, eqv_int, eqv_bl, eqv_ints, eqv_bls, eqv_nms, eqv_prs, eqv_nm, eqv_pr, $ls,*])); conv => whnf)))

section
variable {A : Ad}
theorem Goes.deeds {s : LS} {x : Addr} {L L' : Lm} {dv : LV} {F : Fp} {G : List Addr} {row : Row} {Q : LVK} (g : Goes L row L') (h : DoneL A s x L' dv F G Q) : ∀ (i : Nat) t, L.ths[i]? = some t → (row = .own i → DoneL A s x (L.own i t) dv F G Q) ∧ (row = .write i → DoneL A s x (L.write i t) dv F G Q) ∧ ∀ nm l, row = .use i nm → L.may i nm → getA L.sent nm = some l → DoneL A s x (L.use i t nm l.2) dv F G Q := by
  intro i t et
  refine ⟨?_, ?_, ?_⟩
  · rintro rfl
    cases g with | own j u eu => rw [et] at eu; cases eu; exact h
  · rintro rfl
    cases g with | write j u eu => rw [et] at eu; cases eu; exact h
  · rintro nm l rfl _ el
    cases g with | use j u _ l2 eu _ el2 => rw [et] at eu; rw [el] at el2; cases eu; cases el2; exact h
theorem Goes.rng {L L' : Lm} {row : Row} (g : Goes L row L') : Rng L row.hand := by
  cases g with
  | own i t et => exact ⟨by show (0 : Int) ≤ (i : Int); omega, by have := (List.getElem?_eq_some_iff.mp et).1; show (i : Int) < _; omega⟩
  | write i t et => exact ⟨by show (0 : Int) ≤ (i : Int); omega, by have := (List.getElem?_eq_some_iff.mp et).1; show (i : Int) < _; omega⟩
  | use i t nm l et _ _ => exact ⟨by show (0 : Int) ≤ (i : Int); omega, by have := (List.getElem?_eq_some_iff.mp et).1; show (i : Int) < _; omega⟩
theorem Goes.hmay {L L' : Lm} {row : Row} (g : Goes L row L') : ∀ h nm, row = .use h nm → L.may h nm := by
  rintro h nm rfl
  cases g with | use j u _ l2 eu hm2 el2 => exact hm2
end
theorem LmG.base_goes {L L' : Lm} {row : Row} {n : Nat} (h : LmG L n) (g : Goes L row L') {b : List Int} (hb : IsBase L.ths b) : IsBase L'.ths b := by
  cases g with
  | own i t et => exact hb.do (h.ok.th t (List.mem_of_getElem? et)).ok (h.ok.th t (List.mem_of_getElem? et)).hb et _
  | use i t nm l et _ _ => exact hb.do (h.ok.th t (List.mem_of_getElem? et)).ok (h.ok.th t (List.mem_of_getElem? et)).hb et _
  | write i t et => exact hb.same et rfl fun q hq => pts_write (h.ok.th t (List.mem_of_getElem? et)).ok hq
theorem new_base (f : DoF) (sts : List Int) (hbs : List Hb) (o : Bool) (hl : sts.length ≤ hbs.length) : IsBase (newLm f sts hbs o).ths (List.replicate sts.length 0) := by
  have hu : ∀ n i u, ¬ UsedAt (newLm f sts hbs o).ths n i u := fun n i u ⟨j, e, h, _⟩ => new_ev h
  have hlen : (newLm f sts hbs o).ths.length = sts.length := by simp [newLm]; omega
  refine ⟨by rw [hlen]; simp, fun n i u h => absurd h (hu n i u), fun i t et => ?_⟩
  have hi := (List.getElem?_eq_some_iff.mp et).1
  rw [hlen] at hi
  have e0 : lnAt (List.replicate sts.length 0) i = 0 := by rw [lnAt_nat]; simp [hi]
  rw [e0]
  obtain ⟨p, _, rfl⟩ := List.mem_map.mp (List.mem_of_getElem? et)
  by_cases hw : (newTh p).hab.writes = true
  · rw [Th.memw hw]
    simp [newTh, Th.here]
  · rw [Th.memn hw]
    simp [newTh]
theorem LmG.mono {L : Lm} {n m : Nat} (h : LmG L n) (hm : n ≤ m) : LmG L m := by
  have h1 : ∀ t ∈ L.ths, t.Sm m := fun t ht => by
    have q := h.ok.th t ht
    exact ⟨q.ok, q.hb, Nat.le_trans q.dn hm, by have := q.wr; omega, q.ev, q.sd⟩
  exact ⟨⟨h1, by have := h.ok.od; omega, by have := h.ok.dn; omega, h.ok.f3, h.ok.mn, h.ok.w3⟩, h.wf, h.to, h.ft, h.us, h.dh, h.oo, h.bs⟩
theorem Le.trans {a b c : List Int} (h : Le a b) (h' : Le b c) (hl : a.length = b.length) : Le a c := fun i hi => Int.le_trans (h i hi) (h' i (by omega))
theorem LD.back {A : Ad} {s s' : LS} {x : Addr} {L L' : Lm} {dv : LV} {F F' : Fp} {H H' : List Addr} (h : LD A s x L dv F []) (hl : IsLm A s' x L' dv F') (e : L'.f = L.f) (o : Own H H' s s') : LD A s' x L' dv F' [] := ⟨hl, by rw [e]; exact (h.pr.own o (by simp)).1, by simp⟩

inductive GoAll : Lm → List Row → Lm → Prop
  | nil (L : Lm) : GoAll L [] L
  | cons {L L1 L2 : Lm} {row : Row} {rows : List Row} : Goes L row L1 → GoAll L1 rows L2 → GoAll L (row :: rows) L2
theorem GoAll.snoc {L L1 L2 : Lm} {rows : List Row} {row : Row} (h : GoAll L rows L1) (g : Goes L1 row L2) : GoAll L (rows ++ [row]) L2 := by
  induction h with
  | nil L => exact .cons g (.nil _)
  | cons g1 _ ih => exact .cons g1 (ih g)
/-- the same deeds; writings and what is piled up may differ -/
structure SameT (t u : Th) : Prop where
  st : t.start = u.start
  dn : t.done = u.done
structure Same (L U : Lm) : Prop where
  f : L.f = U.f
  od : L.ord = U.ord
  or : L.order = U.order
  dn : L.done = U.done
  len : L.ths.length = U.ths.length
  th : ∀ (i : Nat) t u, L.ths[i]? = some t → U.ths[i]? = some u → SameT t u
section
variable {t u : Th} {L U : Lm}
theorem SameT.here (h : SameT t u) : t.here = u.here := by unfold Th.here; rw [h.dn]
theorem SameT.cur (h : SameT t u) : t.cur = u.cur := by unfold Th.cur Th.states; rw [h.st, h.dn]
theorem SameT.do (h : SameT t u) (e : Ev) : SameT (t.do e) (u.do e) := ⟨h.st, by show t.done ++ [e] = u.done ++ [e]; rw [h.dn]⟩
theorem SameT.write (h : SameT t u) : SameT t.write u.write := ⟨h.st, h.dn⟩
theorem Same.get (h : Same L U) {i : Nat} {u : Th} (e : U.ths[i]? = some u) : ∃ t, L.ths[i]? = some t ∧ SameT t u := by
  have hi : i < L.ths.length := by rw [h.len]; exact (List.getElem?_eq_some_iff.mp e).1
  exact ⟨L.ths[i], List.getElem?_eq_getElem hi, h.th i _ u (List.getElem?_eq_getElem hi) e⟩
theorem Same.map {β : Type} (h : Same L U) (g : Th → β) (hg : ∀ t u, SameT t u → g t = g u) : L.ths.map g = U.ths.map g := by
  apply List.ext_getElem?
  intro i
  rw [List.getElem?_map, List.getElem?_map]
  cases e : U.ths[i]? with
  | none =>
    have : L.ths[i]? = none := by rw [List.getElem?_eq_none_iff] at e ⊢; rw [h.len]; exact e
    rw [this]; first | done | rfl
  | some u =>
    obtain ⟨t, et, ht⟩ := h.get e
    rw [et]
    exact congrArg some (hg t u ht)
theorem Same.sent (h : Same L U) : L.sent = U.sent := by
  have e : L.sentR = U.sentR := by
    unfold Lm.sentR
    have key : ∀ M : Lm, M.ths.zipIdx.flatMap sentT = (M.ths.map Th.done).zipIdx.flatMap fun p => p.1.zipIdx.flatMap (sentE p.2) := fun M => by
      rw [List.zipIdx_map, List.flatMap_map]
      rfl
    rw [key, key, h.map _ fun _ _ z => z.dn]
  unfold Lm.sent
  rw [e]
theorem Same.used (h : Same L U) : L.used = U.used := by
  have e : L.usedR = U.usedR := by
    unfold Lm.usedR
    have key : ∀ M : Lm, M.ths.flatMap usedT = (M.ths.map Th.done).flatMap fun p => p.zipIdx.flatMap usedE := fun M => by
      rw [List.flatMap_map]
      first | done | rfl
    rw [key, key, h.map _ fun _ _ z => z.dn]
  unfold Lm.used
  rw [e]
theorem Same.road (h : Same L U) : L.road = U.road := by unfold Lm.road; rw [h.sent, h.used]
theorem Same.may (h : Same L U) (i : Int) (n : Nm) : L.may i n ↔ U.may i n := by unfold Lm.may Lm.wait Lm.wait1; rw [h.sent, h.used, h.or, h.od]
theorem set_same {xs ys : List Th} {i : Nat} {t' u' : Th} (hl : xs.length = ys.length) (h : ∀ (j : Nat) t u, xs[j]? = some t → ys[j]? = some u → SameT t u) (ht : SameT t' u') : ∀ (j : Nat) t u, (xs.set i t')[j]? = some t → (ys.set i u')[j]? = some u → SameT t u := fun j t u e1 e2 => by
  by_cases q : i = j
  · subst q
    have h1 : i < xs.length := by
      have := (List.getElem?_eq_some_iff.mp e1).1
      simpa using this
    rw [List.getElem?_set_self h1] at e1
    rw [List.getElem?_set_self (by omega)] at e2
    cases e1
    cases e2
    exact ht
  · rw [List.getElem?_set_ne q] at e1 e2
    exact h j t u e1 e2
theorem Same.goes (h : Same L U) {row : Row} {U' : Lm} (g : Goes U row U') : ∃ L', Goes L row L' ∧ Same L' U' := by
  cases g with
  | own i u eu =>
    obtain ⟨t, et, ht⟩ := h.get eu
    refine ⟨_, .own i t et, h.f, h.od, ?_, ?_, by simp [Lm.own, Lm.add, h.len], ?_⟩
    · simp only [Lm.own, Lm.add, nmsOf, h.or, h.f, ht.cur, ht.here]
    · simp only [Lm.own, h.dn, ht.here]
    · have e : evOf L.f t i none none = evOf U.f u i none none := by unfold evOf; rw [h.f, ht.cur]
      show ∀ (j : Nat) t' u', (L.ths.set i (t.do (evOf L.f t i none none)))[j]? = some t' → (U.ths.set i (u.do (evOf U.f u i none none)))[j]? = some u' → SameT t' u'
      rw [e]
      exact set_same h.len h.th (ht.do _)
  | use i u nm l eu hm el =>
    obtain ⟨t, et, ht⟩ := h.get eu
    refine ⟨_, .use i t nm l et ((h.may _ _).mpr hm) (by rw [h.sent]; exact el), h.f, h.od, ?_, ?_, by simp [Lm.use, Lm.add, h.len], ?_⟩
    · simp only [Lm.use, Lm.add, nmsOf, h.or, h.f, ht.cur, ht.here]
    · simp only [Lm.use, h.dn, ht.here]
    · have e : evOf L.f t i (some nm) (some l.2) = evOf U.f u i (some nm) (some l.2) := by unfold evOf; rw [h.f, ht.cur]
      show ∀ (j : Nat) t' u', (L.ths.set i (t.do (evOf L.f t i (some nm) (some l.2))))[j]? = some t' → (U.ths.set i (u.do (evOf U.f u i (some nm) (some l.2))))[j]? = some u' → SameT t' u'
      rw [e]
      exact set_same h.len h.th (ht.do _)
  | write i u eu =>
    obtain ⟨t, et, ht⟩ := h.get eu
    refine ⟨_, .write i t et, h.f, h.od, h.or, ?_, by simp [Lm.write, h.len], ?_⟩
    · simp only [Lm.write, h.dn, ht.here]
    · exact set_same h.len h.th ht.write
theorem Same.refl (U : Lm) : Same U U := ⟨rfl, rfl, rfl, rfl, rfl, fun i t u e1 e2 => by rw [e1] at e2; cases e2; exact ⟨rfl, rfl⟩⟩
end
/-- A is B without what is behind a line -/
structure Trc (A B : Lm) (line : List Int) : Prop where
  f : A.f = B.f
  od : A.ord = B.ord
  or : A.order = B.order.filter fun n => decide (n.place ≤ lnAt line n.hand)
  dn : A.done = B.done.filter fun p => decide (p.2 ≤ lnAt line p.1.hand)
  len : A.ths.length = B.ths.length
  th : ∀ (i : Nat) t u, A.ths[i]? = some t → B.ths[i]? = some u → t.start = u.start ∧ t.done = u.done.take (lnAt line i).toNat
section
variable {A B : Lm} {line : List Int}
theorem Trc.get (h : Trc A B line) {i : Nat} {u : Th} (e : B.ths[i]? = some u) : ∃ t, A.ths[i]? = some t ∧ t.start = u.start ∧ t.done = u.done.take (lnAt line i).toNat := by
  have hi : i < A.ths.length := by rw [h.len]; exact (List.getElem?_eq_some_iff.mp e).1
  exact ⟨A.ths[i], List.getElem?_eq_getElem hi, h.th i _ u (List.getElem?_eq_getElem hi) e⟩
theorem Trc.ev (h : Trc A B line) (i j : Nat) : evAt A.ths i j = if (j : Int) + 1 ≤ lnAt line i then evAt B.ths i j else none := by
  cases e : B.ths[i]? with
  | none =>
    have : A.ths[i]? = none := by rw [List.getElem?_eq_none_iff] at e ⊢; rw [h.len]; exact e
    unfold evAt
    rw [e, this]
    simp
  | some u =>
    obtain ⟨t, et, _, hd⟩ := h.get e
    rw [evAt_at et, evAt_at e, hd, List.getElem?_take]
    by_cases q : (j : Int) + 1 ≤ lnAt line i
    · rw [if_pos q, if_pos (by omega)]
    · rw [if_neg q, if_neg (by omega)]
theorem Trc.evs (h : Trc A B line) {i j : Nat} {e : Ev} : evAt A.ths i j = some e ↔ evAt B.ths i j = some e ∧ (j : Int) + 1 ≤ lnAt line i := by
  rw [h.ev]
  split
  · next q => exact ⟨fun z => ⟨z, q⟩, fun z => z.1⟩
  · next q => exact ⟨fun z => (by cases z), fun z => absurd z.2 q⟩
theorem Trc.usedAt (h : Trc A B line) {n : Nm} {i : Nat} {u : Int} : UsedAt A.ths n i u ↔ UsedAt B.ths n i u ∧ u ≤ lnAt line i := by
  unfold UsedAt
  constructor
  · rintro ⟨j, e, h1, h2, rfl⟩
    have := h.evs.mp h1
    exact ⟨⟨j, e, this.1, h2, rfl⟩, this.2⟩
  · rintro ⟨⟨j, e, h1, h2, rfl⟩, h3⟩
    exact ⟨j, e, h.evs.mpr ⟨h1, h3⟩, h2, rfl⟩
theorem Trc.sentL (h : Trc A B line) {n : Nm} {l : Int × Int} : SentL A.ths n l ↔ SentL B.ths n l ∧ n.place ≤ lnAt line n.hand := by
  unfold SentL
  constructor
  · rintro ⟨i, j, k, e, h1, h2, rfl⟩
    have := h.evs.mp h1
    exact ⟨⟨i, j, k, e, this.1, h2, rfl⟩, this.2⟩
  · rintro ⟨⟨i, j, k, e, h1, h2, rfl⟩, h3⟩
    exact ⟨i, j, k, e, h.evs.mpr ⟨h1, h3⟩, h2, rfl⟩
/-- a letter that may be used may be used without what is behind the line -/
theorem Trc.may (h : Trc A B line) (hus : UsedOk B.ths) {i : Nat} {u : Th} (eu : B.ths[i]? = some u) {n : Nm} {l : Int × Int} (hm : B.may i n) (hl : SentL B.ths n l) (hp : n.place ≤ lnAt line n.hand) (hu : u.here + 1 ≤ lnAt line i) : A.may i n := by
  have hsA : SentL A.ths n l := h.sentL.mpr ⟨hl, hp⟩
  have pos : ∀ (L : Lm) (m : Nm), m ∈ L.wait i ↔ m ∈ L.order ∧ (∃ l, SentL L.ths m l ∧ l.1 = (i : Int)) ∧ ∀ a v, ¬ UsedAt L.ths m a v := fun L m => by
    unfold Lm.wait Lm.wait1
    rw [List.mem_filter, List.mem_filter]
    constructor
    · rintro ⟨⟨h1, h2⟩, h3⟩
      refine ⟨h1, ?_, fun a v hv => of_decide_eq_true h3 (used_key.mpr ⟨a, v, hv⟩)⟩
      cases e : getA L.sent m with
      | none => rw [e] at h2; cases h2
      | some l => rw [e] at h2; exact ⟨l, sent_get.mp e, of_decide_eq_true h2⟩
    · rintro ⟨h1, ⟨l, h2, h3⟩, h4⟩
      refine ⟨⟨h1, ?_⟩, decide_eq_true fun z => by obtain ⟨a, v, hv⟩ := used_key.mp z; exact h4 a v hv⟩
      rw [sent_get.mpr h2]
      exact decide_eq_true h3
  obtain ⟨hw, ho⟩ := hm
  have hwB := (pos B n).mp hw
  have nuA : ∀ a v, ¬ UsedAt A.ths n a v := fun a v z => hwB.2.2 a v (h.usedAt.mp z).1
  have l1 : l.1 = (i : Int) := by
    obtain ⟨l', h1, h2⟩ := hwB.2.1
    have e1 := sent_get.mpr h1
    have e2 := sent_get.mpr hl
    rw [e1] at e2
    cases e2
    exact h2
  have hwA : n ∈ A.wait i := (pos A n).mpr ⟨by rw [h.or]; exact List.mem_filter.mpr ⟨hwB.1, decide_eq_true hp⟩, ⟨l, hsA, l1⟩, nuA⟩
  refine ⟨hwA, fun hord => ?_⟩
  have hB := ho (by rw [← h.od]; exact hord)
  rw [List.head?_filter] at hB ⊢
  have split : ∀ L : Lm, (L.wait i).find? (fun m => decide (m.hand = n.hand)) = L.order.find? fun m => decide (m ∈ L.wait i ∧ m.hand = n.hand) := fun L => by
    have e : L.wait i = L.order.filter fun m => decide (m ∈ L.wait i) := by
      unfold Lm.wait Lm.wait1
      rw [List.filter_filter]
      refine List.filter_congr fun m hm => ?_
      rw [Bool.eq_iff_iff, decide_eq_true_iff, List.mem_filter]
      exact ⟨fun z => ⟨hm, z⟩, fun z => z.2⟩
    rw [e, List.find?_filter]
    congr 1
    funext m
    rw [← e]
    simp only [decide_eq_true_eq]
  rw [split] at hB ⊢
  rw [List.find?_eq_some_iff_append] at hB
  obtain ⟨hb1, as, bs, eo, hb2⟩ := hB
  rw [h.or, eo, List.filter_append, List.filter_cons_of_pos (by exact decide_eq_true hp), List.find?_append]
  have hnone : (as.filter fun n => decide (n.place ≤ lnAt line n.hand)).find? (fun m => decide (m ∈ A.wait i ∧ m.hand = n.hand)) = none := by
    rw [List.find?_eq_none]
    intro m hm hq
    obtain ⟨q1, q2⟩ := of_decide_eq_true hq
    have hma := (List.mem_filter.mp hm).1
    have hmA := (pos A m).mp q1
    obtain ⟨l', s1, s2⟩ := hmA.2.1
    have s3 := h.sentL.mp s1
    have hnb := hb2 m hma
    simp only [Bool.not_eq_true', decide_eq_false_iff_not] at hnb
    refine hnb ⟨(pos B m).mpr ⟨by rw [eo]; exact List.mem_append_left _ hma, ⟨l', s3.1, s2⟩, fun a v hv => ?_⟩, q2⟩
    have : a = i := by
      obtain ⟨l2, h1, h2⟩ := hus.sn _ _ _ hv
      have e1 := sent_get.mpr h1
      have e2 := sent_get.mpr s3.1
      rw [e1] at e2
      cases e2
      omega
    subst this
    refine hmA.2.2 a v (h.usedAt.mpr ⟨hv, ?_⟩)
    obtain ⟨j, e, h1, _, rfl⟩ := hv
    obtain ⟨t2, h3, h4⟩ := evAt_some.mp h1
    rw [eu] at h3
    cases h3
    have := (List.getElem?_eq_some_iff.mp h4).1
    unfold Th.here at hu
    omega
  rw [hnone, Option.none_or, List.find?_cons_of_pos]
  exact decide_eq_true ⟨hwA, rfl⟩
theorem filter_nms {line : List Int} (t : Th) (i n : Nat) (h : t.here + 1 ≤ lnAt line i) : (nmsOf t i n).filter (fun m => decide (m.place ≤ lnAt line m.hand)) = nmsOf t i n := List.filter_eq_self.mpr fun m hm => by
  obtain ⟨k, _, rfl⟩ := List.mem_map.mp hm
  exact decide_eq_true h
theorem filter_nms' {line : List Int} (t : Th) (i n : Nat) (h : ¬ t.here + 1 ≤ lnAt line i) : (nmsOf t i n).filter (fun m => decide (m.place ≤ lnAt line m.hand)) = [] := List.filter_eq_nil_iff.mpr fun m hm => by
  obtain ⟨k, _, rfl⟩ := List.mem_map.mp hm
  simpa using h
theorem set_trc {line : List Int} {xs ys : List Th} {i : Nat} {t' u' : Th} (hl : xs.length = ys.length) (h : ∀ (j : Nat) t u, xs[j]? = some t → ys[j]? = some u → t.start = u.start ∧ t.done = u.done.take (lnAt line j).toNat) (ht : t'.start = u'.start ∧ t'.done = u'.done.take (lnAt line i).toNat) : ∀ (j : Nat) t u, (xs.set i t')[j]? = some t → (ys.set i u')[j]? = some u → t.start = u.start ∧ t.done = u.done.take (lnAt line j).toNat := fun j t u e1 e2 => by
  by_cases q : i = j
  · subst q
    have h1 : i < xs.length := by
      have := (List.getElem?_eq_some_iff.mp e1).1
      simpa using this
    rw [List.getElem?_set_self h1] at e1
    rw [List.getElem?_set_self (by omega)] at e2
    cases e1
    cases e2
    exact ht
  · rw [List.getElem?_set_ne q] at e1 e2
    exact h j t u e1 e2
/-- a deed at or ahead of the line is done in both -/
theorem Trc.add (h : Trc A B line) {i : Nat} {t u : Th} (et : A.ths[i]? = some t) (eu : B.ths[i]? = some u) (hu : u.here + 1 ≤ lnAt line i) (name : Option Nm) (word : Option Int) :
    t.here = u.here ∧ t.cur = u.cur ∧ Trc (A.add i t name word) (B.add i u name word) line := by
  obtain ⟨hs, hd⟩ := h.th i t u et eu
  have hlu : u.here = u.done.length := rfl
  have hd2 : t.done = u.done := by rw [hd, List.take_of_length_le (by omega)]
  have ht : t.here = u.here := by unfold Th.here; rw [hd2]
  have hc : t.cur = u.cur := by unfold Th.cur Th.states; rw [hs, hd2]
  have ee : evOf A.f t i name word = evOf B.f u i name word := by unfold evOf; rw [h.f, hc]
  refine ⟨ht, hc, h.f, h.od, ?_, h.dn, by simp [Lm.add, h.len], ?_⟩
  · show A.order ++ nmsOf t i _ = (B.order ++ nmsOf u i _).filter _
    rw [List.filter_append, filter_nms u i _ hu, ← h.or, h.f, hc]
    unfold nmsOf
    rw [ht]
  · show ∀ (j : Nat) t' u', (A.ths.set i (t.do (evOf A.f t i name word)))[j]? = some t' → (B.ths.set i (u.do (evOf B.f u i name word)))[j]? = some u' → _
    rw [ee]
    refine set_trc h.len h.th ⟨hs, ?_⟩
    show t.done ++ [_] = (u.done ++ [_]).take _
    rw [hd2, List.take_of_length_le (by rw [List.length_append]; show _ + 1 ≤ _; omega)]
/-- one behind it in one alone -/
theorem Trc.skip (h : Trc A B line) {i : Nat} {u : Th} (eu : B.ths[i]? = some u) (hu : ¬ u.here + 1 ≤ lnAt line i) (name : Option Nm) (word : Option Int) : Trc A (B.add i u name word) line := by
  obtain ⟨t, et, hs, hd⟩ := h.get eu
  have hlu : u.here = u.done.length := rfl
  refine ⟨h.f, h.od, ?_, h.dn, by simp [Lm.add, h.len], ?_⟩
  · show A.order = (B.order ++ nmsOf u i _).filter _
    rw [List.filter_append, filter_nms' u i _ hu, List.append_nil, ← h.or]
  · have e : A.ths = A.ths.set i t := by
      apply List.ext_getElem?
      intro j
      by_cases q : i = j
      · subst q; rw [List.getElem?_set_self (List.getElem?_eq_some_iff.mp et).1, et]
      · rw [List.getElem?_set_ne q]
    rw [e]
    refine set_trc h.len h.th ⟨hs, ?_⟩
    show t.done = (u.done ++ [_]).take _
    rw [hd, List.take_append_of_le_length (by omega)]
theorem Goes.used {L L' : Lm} {row : Row} (g : Goes L row L') {n : Nm} {i : Nat} {u : Int} (h : UsedAt L.ths n i u) : UsedAt L'.ths n i u := by
  cases g with
  | own j t et => exact (used_do et _).mpr (.inl h)
  | use j t nm l et _ _ => exact (used_do et _).mpr (.inl h)
  | write j t et => exact (evSame_set (t' := t.write) et rfl).used.mpr h
theorem GoAll.used {L L' : Lm} {rows : List Row} (g : GoAll L rows L') {n : Nm} {i : Nat} {u : Int} (h : UsedAt L.ths n i u) : UsedAt L'.ths n i u := by
  induction g with
  | nil => exact h
  | cons g1 _ ih => exact ih (g1.used h)
/-- rows done again, but for those behind the line -/
theorem GoAll.trc {B L : Lm} {rows : List Row} (g : GoAll B rows L) : ∀ {A : Lm} {n : Nat}, Trc A B line → LmG B n → Sound L.ths line → ∃ A', GoAll A ((L.done.drop B.done.length).filter (fun p => decide (p.2 ≤ lnAt line p.1.hand)) |>.map (·.1)) A' ∧ Trc A' L line ∧ (∀ n i u, UsedAt B.ths n i u → UsedAt L.ths n i u) ∧ (L.done.drop B.done.length).map (·.1) = rows ∧ B.done.length ≤ L.done.length ∧ L.done.take B.done.length = B.done := by
  induction g with
  | nil L => exact fun {A n} h hg hs => ⟨A, by rw [List.drop_length]; exact .nil _, h, fun _ _ _ z => z, by rw [List.drop_length]; rfl, Nat.le_refl _, List.take_length ..⟩
  | @cons B B1 L row rows g1 g2 ih =>
    intro A n h hg hs
    obtain ⟨hg1, _, _, _, hdr⟩ := hg.goes g1
    -- the row and its place
    have step : ∃ (pl : Int) (A1 : Lm), B1.done = B.done ++ [(row, pl)] ∧ Trc A1 B1 line ∧ (∀ n i u, UsedAt B.ths n i u → UsedAt B1.ths n i u) ∧ ((pl ≤ lnAt line row.hand ∧ Goes A row A1) ∨ (¬ pl ≤ lnAt line row.hand ∧ A1 = A)) := by
      have fpos : ∀ (r : Row) (p : Int), p ≤ lnAt line r.hand → A.done ++ [(r, p)] = (B.done ++ [(r, p)]).filter fun p => decide (p.2 ≤ lnAt line p.1.hand) := fun r p hp => by
        rw [List.filter_append, ← h.dn, List.filter_cons_of_pos (by exact decide_eq_true hp)]
        rfl
      have fneg : ∀ (r : Row) (p : Int), ¬ p ≤ lnAt line r.hand → A.done = (B.done ++ [(r, p)]).filter fun p => decide (p.2 ≤ lnAt line p.1.hand) := fun r p hp => by
        rw [List.filter_append, ← h.dn, List.filter_cons_of_neg (by simpa using hp)]
        simp
      have hs1 := fun n i u (z : UsedAt B1.ths n i u) => g2.used z
      cases g1 with
      | own i u eu =>
        by_cases q : u.here + 1 ≤ lnAt line i
        · obtain ⟨t, et, _⟩ := h.get eu
          obtain ⟨e1, e2, e3⟩ := h.add et eu q none none
          refine ⟨u.here + 1, A.own i t, rfl, ⟨e3.f, e3.od, e3.or, ?_, e3.len, e3.th⟩, fun n a v z => (Goes.own i u eu).used z, .inl ⟨q, .own i t et⟩⟩
          show A.done ++ [(.own i, t.here + 1)] = _
          rw [e1]
          exact fpos (.own i) _ q
        · have e3 := h.skip eu q none none
          exact ⟨u.here + 1, A, rfl, ⟨e3.f, e3.od, e3.or, fneg (.own i) _ q, e3.len, e3.th⟩, fun n a v z => (Goes.own i u eu).used z, .inr ⟨q, rfl⟩⟩
      | use i u nm l eu hm el =>
        by_cases q : u.here + 1 ≤ lnAt line i
        · obtain ⟨t, et, _⟩ := h.get eu
          obtain ⟨e1, e2, e3⟩ := h.add et eu q (some nm) (some l.2)
          have hsl := sent_get.mp el
          have hpl : nm.place ≤ lnAt line nm.hand := hs nm i (u.here + 1) (hs1 _ _ _ ((used_do eu _).mpr (.inr ⟨rfl, rfl, rfl⟩))) q
          have hmA := h.may hg.us eu hm hsl hpl q
          refine ⟨u.here + 1, A.use i t nm l.2, rfl, ⟨e3.f, e3.od, e3.or, ?_, e3.len, e3.th⟩, fun n a v z => (Goes.use i u nm l eu hm el).used z, .inl ⟨q, .use i t nm l et hmA (sent_get.mpr (h.sentL.mpr ⟨hsl, hpl⟩))⟩⟩
          show A.done ++ [(.use i nm, t.here + 1)] = _
          rw [e1]
          exact fpos (.use i nm) _ q
        · have e3 := h.skip eu q (some nm) (some l.2)
          exact ⟨u.here + 1, A, rfl, ⟨e3.f, e3.od, e3.or, fneg (.use i nm) _ q, e3.len, e3.th⟩, fun n a v z => (Goes.use i u nm l eu hm el).used z, .inr ⟨q, rfl⟩⟩
      | write i u eu =>
        obtain ⟨t, et, hst, hd⟩ := h.get eu
        have hlu : u.here = u.done.length := rfl
        have eB : (B.write i u).ths = B.ths.set i u.write := rfl
        by_cases q : u.here ≤ lnAt line i
        · have hd2 : t.done = u.done := by rw [hd, List.take_of_length_le (by omega)]
          have ht : t.here = u.here := by unfold Th.here; rw [hd2]
          refine ⟨u.here, A.write i t, rfl, ⟨h.f, h.od, h.or, ?_, by simp [Lm.write, h.len], set_trc h.len h.th ⟨hst, hd⟩⟩, fun n a v z => (Goes.write i u eu).used z, .inl ⟨q, .write i t et⟩⟩
          show A.done ++ [(.write i, t.here)] = _
          rw [ht]
          exact fpos (.write i) _ q
        · refine ⟨u.here, A, rfl, ⟨h.f, h.od, h.or, fneg (.write i) _ q, by simp [Lm.write, h.len], ?_⟩, fun n a v z => (Goes.write i u eu).used z, .inr ⟨q, rfl⟩⟩
          have e : A.ths = A.ths.set i t := by
            apply List.ext_getElem?
            intro j
            by_cases q : i = j
            · subst q; rw [List.getElem?_set_self (List.getElem?_eq_some_iff.mp et).1, et]
            · rw [List.getElem?_set_ne q]
          rw [e]
          exact set_trc h.len h.th ⟨hst, hd⟩
    obtain ⟨pl, A1, hd1, h1, hu1, hstep⟩ := step
    obtain ⟨A', ga, ht, hu2, hr, hle, htk⟩ := ih h1 hg1 hs
    have hl1 : B1.done.length = B.done.length + 1 := by rw [hd1]; simp
    have hdrop : L.done.drop B.done.length = (row, pl) :: L.done.drop B1.done.length := by
      have hx : L.done[B.done.length]? = some (row, pl) := by
        have : (L.done.take B1.done.length)[B.done.length]? = some (row, pl) := by rw [htk, hd1]; simp
        rwa [List.getElem?_take_of_lt (by omega)] at this
      obtain ⟨hlt, hx⟩ := List.getElem?_eq_some_iff.mp hx
      rw [List.drop_eq_getElem_cons hlt, hx, hl1]
    refine ⟨A', ?_, ht, fun n i u z => hu2 n i u (hu1 n i u z), by rw [hdrop, List.map_cons, hr], by omega, ?_⟩
    · rw [hdrop]
      rcases hstep with ⟨q, gA⟩ | ⟨q, rfl⟩
      · rw [List.filter_cons_of_pos (by exact decide_eq_true q), List.map_cons]
        exact .cons gA ga
      · rw [List.filter_cons_of_neg (by simpa using q)]
        exact ga
    · have := congrArg (List.take B.done.length) htk
      rw [List.take_take, Nat.min_eq_left (by omega), hd1, List.take_left] at this
      exact this
end
/-- its rows lead to the same -/
def Redo (N L : Lm) : Prop := ∃ B, GoAll N (L.done.map (·.1)) B ∧ Same B L
theorem Redo.goes {N L L' : Lm} {row : Row} {n : Nat} (h : Redo N L) (hg : LmG L n) (g : Goes L row L') : Redo N L' := by
  obtain ⟨B, h1, h2⟩ := h
  obtain ⟨B', g', h3⟩ := h2.goes g
  obtain ⟨_, _, _, _, hd⟩ := hg.goes g
  exact ⟨B', by rw [hd]; exact h1.snoc g', h3⟩
theorem Redo.back {N L : Lm} {n : Nat} {fs line : List Int} (h : Redo N L) (hN : N.done = []) (hN2 : ∀ t ∈ N.ths, t.done = []) (hN3 : N.order = []) (hgN : LmG N n) (ok : ∀ t ∈ L.ths, t.Ok) (ha : Allowed (alwS L.ths fs) line) (hs : Sound L.ths line) : Redo N (L.back fs line) := by
  obtain ⟨B, h1, h2⟩ := h
  have hsB : Sound B.ths line := fun m i u hu => by
    refine hs m i u ?_
    obtain ⟨j, e, q1, q2, q3⟩ := hu
    refine ⟨j, e, ?_, q2, q3⟩
    obtain ⟨t, et, ed⟩ := evAt_some.mp q1
    have hi : i < L.ths.length := by rw [← h2.len]; exact (List.getElem?_eq_some_iff.mp et).1
    have := h2.th i t _ et (List.getElem?_eq_getElem hi)
    exact evAt_some.mpr ⟨_, List.getElem?_eq_getElem hi, by rw [← this.dn]; exact ed⟩
  have t0 : Trc N N line := ⟨rfl, rfl, by rw [hN3]; rfl, by rw [hN]; rfl, rfl, fun i t u e1 e2 => by
    rw [e1] at e2
    cases e2
    exact ⟨rfl, by rw [hN2 t (List.mem_of_getElem? e1)]; simp⟩⟩
  obtain ⟨A', ga, ht, _, hr, _, _⟩ := h1.trc t0 hgN hsB
  rw [hN] at ga
  simp only [List.length_nil, List.drop_zero] at ga
  refine ⟨A', ?_, ht.f.trans h2.f, ht.od.trans h2.od, ?_, ?_, ?_, fun i t u e1 e2 => ?_⟩
  · show GoAll N ((L.done.filter _).map _) A'
    rw [← h2.dn]
    exact ga
  · show A'.order = L.order.filter _
    rw [ht.or, h2.or]
  · show A'.done = L.done.filter _
    rw [ht.dn, h2.dn]
  · show A'.ths.length = (backS L.ths fs line).length
    rw [ht.len, h2.len, backS_len]
  · obtain ⟨u0, eu, rfl⟩ := backS_get' (show (backS L.ths fs line)[i]? = some u from e2)
    obtain ⟨b, eb, hb⟩ := h2.get eu
    obtain ⟨z1, z2⟩ := ht.th i t b e1 eb
    have hal := ha.mem i (by rw [alwS_len]; exact (List.getElem?_eq_some_iff.mp eu).1)
    rw [alwS_get eu] at hal
    have hle := (alwT_le (ok u0 (List.mem_of_getElem? eu)) hal).2
    refine ⟨by rw [z1, hb.st]; unfold Th.back; split <;> rfl, by rw [z2, hb.dn, back_done hle]⟩
section
variable {P : Program} {w : World} {K : PySem.W.Frag} [GG K] {mg : Str → Option Value} {base : Heap} {A : Ad} {D : Fd}
end

theorem isds_map {s : LS} {α β : Type} [Cod β] (f : α → LV) (g : α → β) : ∀ xs : List α, (∀ x ∈ xs, Isd s (Cod.den (g x)) (f x)) → Isds s ((xs.map g).map Cod.den) (xs.map f)
  | [], _ => by simp only [List.map_nil, Isds]
  | x :: xs, h => by
    simp only [List.map_cons, Isds]
    exact ⟨_, _, rfl, h x List.mem_cons_self, isds_map f g xs fun y hy => h y (List.mem_cons_of_mem _ hy)⟩
theorem isd_lstM {s : LS} {α β : Type} [Cod β] (f : α → LV) (g : α → β) {r : Addr} {xs : List α} (e : s r = some (.lst (xs.map f))) (h : ∀ x ∈ xs, Isd s (Cod.den (g x)) (f x)) : Isd s (Cod.den (xs.map g)) (.ref r) := by
  show Isd s (.list ((xs.map g).map Cod.den)) (.ref r)
  simp only [Isd]
  exact .inr ⟨r, _, rfl, e, isds_map f g xs h⟩
theorem isd_lstF {s : LS} {α β : Type} [Cod β] (f : α → LV) (g : α → β) {xs : List α} (h : ∀ x ∈ xs, Isd s (Cod.den (g x)) (f x)) : Isd s (Cod.den (xs.map g)) (.lst (xs.map f)) := by
  show Isd s (.list ((xs.map g).map Cod.den)) (.lst (xs.map f))
  simp only [Isd]
  exact .inl ⟨_, rfl, isds_map f g xs h⟩
theorem isd_seq {s : LS} {α : Type} [Cod α] {v : LV} {xs : List α} (h : seqL v s = some (xs.map Cod.enc)) : Isd s (Cod.den xs) v := by
  rcases seqL_cases h with rfl | ⟨a, rfl, e⟩
  · exact isd_enc s xs
  · exact isd_lst e
end Law

namespace Law
open PySem PySem.Spec L2 L3
local macro_rules
  | `(tactic| simp_arith) => `(tactic| ((conv => whnf); repeat ((first | with_reducible refine ifTT ?_ | with_reducible refine ifFF ?_ | with_reducible refine ifnT ?_ | with_reducible refine ifnF ?_ | with_reducible refine ifTr ?_ | with_reducible refine ifFr ?_ | (with_reducible refine And.intro ?_ ?_; · (first | with_reducible rfl | with_reducible exact ⟨rfl, rfl⟩ | decide | omega | (dsimp only; decide) | (dsimp only; omega) | (unfold CDiv; omega) | (unfold CPow; decide) | (unfold CMul; omega) | (simp only [List.length_cons, List.length_nil]; omega)))); conv => whnf)))
local macro_rules
  | `(tactic| simp_arith [$ls,*]) => `(tactic| ((conv => whnf); repeat ((first | with_reducible refine ifTT ?_ | with_reducible refine ifFF ?_ | with_reducible refine ifnT ?_ | with_reducible refine ifnF ?_ | with_reducible refine ifTr ?_ | with_reducible refine ifFr ?_ | (with_reducible refine And.intro ?_ ?_; · (first | with_reducible rfl | with_reducible exact ⟨rfl, rfl⟩ | decide | omega | (dsimp only; decide) | (dsimp only; omega) | (unfold CDiv; omega) | (unfold CPow; decide) | (unfold CMul; omega) | (simp only [List.length_cons, List.length_nil]; omega) | (simp only [Option.isSome_some]; done) | (simp only [meth_ref, put_same', seqL_ref, $ls,*]; first | done | exact ⟨rfl, rfl⟩ | exact ⟨trivial, rfl⟩ | rfl))) | (simp (decide := true) only [put_same', put_put, decF, decT, Bool.not_true, Bool.not_false, putL_nil, putL_cons, if_true, if_false, seqR_ref, seqL_ref, lenL_ref, dicK_ref, dicT_ref, dat_ref, dat_non, dat_bl, dat_int, dat_str, dat_lst, dat_tup, datV_non, datV_bl, datV_int, datV_str, datV_lst, datV_tup, datVs_nil, datVs_cons, tyAt_ref, opt_some, Option.map_some, Option.bind_some, dv_ints, dv_bls, dv_nms, dv_prs, dv_nm, dt_nm, dt_pr, dv_pr, sh_int, sh_bl, sh_none, sh_nil, eqv_nil, sh_ints, sh_bls, sh_nm, sh_nms, sh_pr, sh_prs, anyI, anyN, anyP, eqv_int, eqv_bl, eqv_ints, eqv_bls, eqv_nms, eqv_prs, eqv_nm, eqv_pr, $ls,*])); conv => whnf)))

def HbOk (L : Lm) (hbs : List Hb) : Prop := L.ths.map Th.hab = hbs ∧ ∀ t ∈ L.ths, t.hab = .each → t.pile = 0
theorem set_self {α : Type} {xs : List α} {i : Nat} {x : α} (h : xs[i]? = some x) : xs.set i x = xs := by
  apply List.ext_getElem?
  intro j
  by_cases q : i = j
  · subst q
    rw [List.getElem?_set_self (List.getElem?_eq_some_iff.mp h).1, h]
  · rw [List.getElem?_set_ne q]
theorem HbOk.set {L : Lm} {hbs : List Hb} (h : HbOk L hbs) {i : Nat} {t t' : Th} (et : L.ths[i]? = some t) (e1 : t'.hab = t.hab) (e2 : t.hab = .each → t.pile = 0 → t'.pile = 0) {L' : Lm} (e : L'.ths = L.ths.set i t') : HbOk L' hbs := by
  refine ⟨?_, fun u hu he => ?_⟩
  · rw [e, List.map_set, e1, ← h.1]
    exact set_self (by rw [List.getElem?_map, et]; rfl)
  · rw [e] at hu
    rcases List.mem_or_eq_of_mem_set hu with hu | rfl
    · exact h.2 u hu he
    · rw [e1] at he
      exact e2 he (h.2 t (List.mem_of_getElem? et) he)
theorem HbOk.goes {L L' : Lm} {row : Row} {hbs : List Hb} (h : HbOk L hbs) (g : Goes L row L') : HbOk L' hbs := by
  cases g with
  | own i t et => exact h.set et (t' := t.do (evOf L.f t i none none)) rfl (fun he _ => by show t.hab.piled t.pile = 0; rw [he]; rfl) rfl
  | use i t nm l et _ _ => exact h.set et (t' := t.do (evOf L.f t i (some nm) (some l.2))) rfl (fun he _ => by show t.hab.piled t.pile = 0; rw [he]; rfl) rfl
  | write i t et => exact h.set et (t' := t.write) rfl (fun he hp => by show (if t.hab.writes then 0 else t.pile) = 0; rw [he]; rfl) rfl
theorem HbOk.back {L : Lm} {hbs : List Hb} (h : HbOk L hbs) (fs line : List Int) : HbOk (L.back fs line) hbs := by
  refine ⟨?_, fun u hu he => ?_⟩
  · rw [← h.1]
    show (backS L.ths fs line).map Th.hab = _
    unfold backS
    rw [List.map_map]
    have : ∀ (xs : List Th) (k : Nat), (xs.zipIdx k).map (Th.hab ∘ fun q => q.1.back (decide ((q.2 : Int) ∉ fs)) (lnAt line q.2)) = xs.map Th.hab := fun xs => by
      induction xs with
      | nil => intro k; rfl
      | cons t r ih =>
        intro k
        rw [List.zipIdx_cons, List.map_cons, List.map_cons, ih]
        congr 1
        show (t.back _ _).hab = _
        unfold Th.back
        split <;> rfl
    exact this L.ths 0
  · obtain ⟨i, hi⟩ := List.getElem?_of_mem hu
    obtain ⟨t, et, rfl⟩ := backS_get' (show (backS L.ths fs line)[i]? = some u from hi)
    have ht := h.2 t (List.mem_of_getElem? et)
    unfold Th.back at he ⊢
    split
    · next q => rw [if_pos q] at he; exact ht he
    · rfl
theorem HbOk.new (f : DoF) (sts : List Int) (hbs : List Hb) (o : Bool) (hl : sts.length = hbs.length) : HbOk (newLm f sts hbs o) hbs := by
  refine ⟨?_, fun t ht _ => ?_⟩
  · show ((sts.zip hbs).map newTh).map Th.hab = hbs
    rw [List.map_map]
    exact List.map_snd_zip (by omega)
  · obtain ⟨p, _, rfl⟩ := List.mem_map.mp ht
    rfl
def placesL (L : Lm) : List Int := L.ths.map Th.here
theorem placesL_at {L : Lm} {i : Nat} {t : Th} (et : L.ths[i]? = some t) : lnAt (placesL L) i = t.here := lnAt_get (by unfold placesL; rw [List.getElem?_map, et]; rfl)
/-- hands that write each event fall: all stay where they stand -/
theorem each_line {L : Lm} {n : Nat} {hbs : List Hb} {fs line : List Int} {paper : List Nm} (hg : LmG L n) (hb : HbOk L hbs) (g : IsGr L.ths fs line paper) (he : ∀ f ∈ fs, ∀ i : Nat, f = (i : Int) → hbs[i]? = some .each) : line = placesL L := by
  have htk := hg.tok
  have hall : Allowed (alwS L.ths fs) (placesL L) := ⟨by unfold placesL; rw [List.length_map, alwS_len], fun i hi => by
    rw [alwS_len] at hi
    have et := List.getElem?_eq_getElem hi
    rw [alwS_get et, placesL_at et]
    refine alwT_mem.mpr ?_
    by_cases hf : (i : Int) ∈ fs
    · left
      have h1 := he _ hf i rfl
      rw [← hb.1, List.getElem?_map, et] at h1
      have h2 : L.ths[i].hab = .each := Option.some.inj h1
      have h3 := hb.2 _ (List.getElem_mem hi) h2
      have h4 := (htk.ok _ (List.getElem_mem hi))
      rw [Th.memw (by rw [h2]; rfl), h3]
      have h5 := h4.rng _ h4.head
      omega
    · exact .inr ⟨decide_eq_true hf, rfl⟩⟩
  have hsn : Sound L.ths (placesL L) := fun n i u hu hle => by
    obtain ⟨l, h1, _⟩ := htk.us.sn _ _ _ hu
    have h2 := h1.pos
    obtain ⟨k, ek⟩ : ∃ k : Nat, n.hand = k := ⟨n.hand.toNat, by omega⟩
    have et := List.getElem?_eq_getElem (show k < L.ths.length by omega)
    rw [ek, placesL_at et]
    exact h1.le et ek
  have h1 := g.ge htk hall hsn
  have h2 := g.allowed htk
  refine le_anti (by rw [h2.len, hall.len]) (fun i hi => ?_) h1
  have hi2 : i < L.ths.length := by rw [h2.len, alwS_len] at hi; exact hi
  have et := List.getElem?_eq_getElem hi2
  have h3 := h2.mem i (by rw [alwS_len]; exact hi2)
  rw [alwS_get et] at h3
  rw [placesL_at et]
  exact (alwT_le (htk.ok _ (List.getElem_mem hi2)) h3).2
theorem hb_all {L L' : Lm} {rows : List Row} (ga : GoAll L rows L') {hbs : List Hb} (z : HbOk L hbs) : HbOk L' hbs := by
  induction ga with
  | nil => exact z
  | cons g _ ih => exact ih (z.goes g)

def kindHb (z : Int) : Hb := if z % 3 = 0 then .never else if z % 3 = 1 then .each else .bundle (1 + z / 3 % 8)
theorem kindHb_ok (z : Int) : ∀ n, kindHb z = .bundle n → 1 ≤ n := fun n h => by
  unfold kindHb at h
  split at h
  · cases h
  · split at h
    · cases h
    · cases h
      omega
def habs2 (n : Nat) (c : Int) : List Hb := (List.range n).map fun k : Nat => kindHb (dgA c k 24)
section
variable {P : Program} {w : World} {K : PySem.W.Frag} [GG K] {mg : Str → Option Value} {base : Heap} {A : Ad} {D : Fd}
def spHabits (A : Ad) : LSp := fun vs s Q E => ∃ (n : Nat) (c : Int), vs = [.int c, .int n] ∧ n < 1000 ∧ tells ((habs2 n c).map (hbL A)) s Q
theorem ok_law_habits (T : Txt K mg A D) (B : Bs K mg base A) : LFn P w K mg base 3 A.f_law_habits D.d_law_habits ["_law_cell", "_law_many"] (spHabits A) := by
  refine T.F_law_habits.okL sc_law_habits (fun vs s Q E ⟨_, _, h, _⟩ => by rw [h]; rfl) (fun cdv A' outer si H E hr => ⟨_, (lps_cons (lp_set (i := 2) sc_law_habits.nd rfl (by first | exact Or.inl rfl | exact Or.inr rfl) (le_new (ll_disp la_nil)))
    (lps_cons (lp_for rfl (li_range1 rfl T.b_range (la_cons (lv 1) la_nil)) (lg_name (i := 3) sc_law_habits.nd rfl (by first | exact Or.inl rfl | exact Or.inr rfl)) (lps_cons (lp_set (i := 4) sc_law_habits.nd rfl (by first | exact Or.inl rfl | exact Or.inr rfl) (le_call (ok_law_digit T B) (hr.mono (by decide)) rfl T.m_law_digit T.k_law_digit T.q_law_digit (la_cons (lv 0) (la_cons (lv 3) (la_cons le_int la_nil)))))
    (lps_one (lp_expr (le_append (lv 2) (la_cons (le_item (hu_of hr) (le_fz (ll_disp (la_cons (le_makeNF T.mkn_Never rfl T.m_Never) (la_cons (le_makeNF T.mkn_Each rfl T.m_Each) (la_cons (le_makeZ T.mk_Bundle (ok_Bundle_init T B) (hr.mono (by decide)) rfl T.m_Bundle T.q_Bundle_init (la_cons (le_add le_int (le_mod (le_div (lv 4) le_int) le_int)) la_nil)) la_nil))))) (le_mod (lv 4) le_int)) la_nil))))))
    (lps_one (lp_ret (lv 2))))), fun vs s Q E h => ?_⟩)
  obtain ⟨n, c, rfl, hn, h⟩ := h
  simp_arith
  intro la hla
  simp_arith
  refine lLoop_rg0 (fun i σ s' => ∃ v3 v4, σ = [some (.int c), some (.int n), some (.ref la), v3, v4] ∧ s' = put s la (.lst ((habs2 i c).map (hbL A)))) ⟨_, _, rfl, rfl⟩ (fun _ _ _ _ => trivial) ?_ ?_
  · rintro i σ s1 N hi ⟨v3, v4, rfl, rfl⟩ hN
    have hl2 : ((habs2 i c).map (hbL A)).length < 16777216 := by simp [habs2]; omega
    have he : (habs2 (i + 1) c) = habs2 i c ++ [kindHb (dgA c i 24)] := by simp [habs2, List.range_succ]
    simp_arith
    refine ⟨c, i, 24, rfl, by omega, by omega, by omega, by omega, ?_⟩
    rw [he] at hN
    generalize dgA c i 24 = z at hN
    have hz1 : 1 ≤ 1 + z / 3 % 8 ∧ 1 + z / 3 % 8 ≤ 8 := by omega
    have h4 : z % 3 = 0 ∨ z % 3 = 1 ∨ z % 3 = 2 := by omega
    simp_arith [put_same]
    refine fun y hy => ⟨y, 1 + z / 3 % 8, rfl, put_same, fun q => absurd q (by omega), fun _ => ⟨rfl, _, put_put, ?_⟩⟩
    simp_arith [put_same]
    unfold kindHb at hN
    rw [List.map_append] at hN
    rcases h4 with e | e | e <;> simp only [e] at hN ⊢
    all_goals
      simp_arith [put_same]
      refine hN _ _ ⟨_, _, rfl, ?_⟩
      simp (decide := true) [hbL, hbC, hbF]
  · rintro σ s1 ⟨v3, v4, rfl, rfl⟩
    simp_arith
    refine fin (.refl _) ?_
    exact h la hla
/-- which ways were gone -/
theorem valL_put {κ : Type} [DecidableEq κ] (kvs : List (κ × LV)) (k k' : κ) (v : LV) : valL (putD kvs k v) k' = if k = k' then some v else valL kvs k' := by
  have app : ∀ l : List (κ × LV), (∀ p ∈ l, p.1 ≠ k) → valL (l ++ [(k, v)]) k' = if k = k' then some v else valL l k' := fun l => by
    induction l with
    | nil => intro _; rfl
    | cons p r ih =>
      obtain ⟨j, x⟩ := p
      intro h
      show (if j = k' then some x else valL (r ++ [(k, v)]) k') = if k = k' then some v else if j = k' then some x else valL r k'
      rw [ih fun q hq => h q (List.mem_cons_of_mem _ hq)]
      by_cases e : j = k'
      · rw [if_pos e]
        have hk : k ≠ k' := fun e' => h (j, x) (by simp) (e.trans e'.symm)
        rw [if_neg hk, if_pos e]
      · rw [if_neg e, if_neg e]
  have mp : ∀ l : List (κ × LV), (∃ p ∈ l, p.1 = k) → valL (l.map fun p => if p.1 = k then (p.1, v) else p) k' = if k = k' then some v else valL l k' := fun l => by
    induction l with
    | nil => rintro ⟨_, h, _⟩; cases h
    | cons p r ih =>
      obtain ⟨j, x⟩ := p
      intro h
      rw [List.map_cons]
      by_cases ej : j = k
      · subst ej
        rw [if_pos rfl]
        show (if j = k' then some v else valL _ k') = if j = k' then some v else if j = k' then some x else valL r k'
        by_cases e : j = k'
        · rw [if_pos e, if_pos e]
        · rw [if_neg e, if_neg e, if_neg e]
          clear ih h
          induction r with
          | nil => rfl
          | cons q r ih2 =>
            obtain ⟨i, y⟩ := q
            rw [List.map_cons]
            by_cases ei : i = j
            · rw [if_pos ei]
              show (if i = k' then some v else valL _ k') = if i = k' then some y else valL r k'
              rw [if_neg (by rw [ei]; exact e), if_neg (by rw [ei]; exact e)]
              exact ih2
            · rw [if_neg ei]
              show (if i = k' then some y else valL _ k') = if i = k' then some y else valL r k'
              by_cases e2 : i = k'
              · rw [if_pos e2, if_pos e2]
              · rw [if_neg e2, if_neg e2]
                exact ih2
      · rw [if_neg ej]
        obtain ⟨p, hp, ep⟩ := h
        have hr : ∃ p ∈ r, p.1 = k := by
          rcases List.mem_cons.mp hp with rfl | hp
          · exact absurd ep ej
          · exact ⟨p, hp, ep⟩
        show (if j = k' then some x else valL _ k') = if k = k' then some v else if j = k' then some x else valL r k'
        rw [ih hr]
        by_cases e : j = k'
        · rw [if_pos e, if_neg (fun e' => ej (e.trans e'.symm)), if_pos e]
        · rw [if_neg e, if_neg e]
  unfold putD
  by_cases h : (kvs.any fun p => decide (p.1 = k)) = true
  · rw [if_pos h]
    refine mp kvs ?_
    obtain ⟨p, hp, hd⟩ := List.any_eq_true.mp h
    exact ⟨p, hp, by simpa using hd⟩
  · rw [if_neg h]
    refine app kvs fun p hp e => h (List.any_eq_true.mpr ⟨p, hp, by simpa using e⟩)
theorem putD_len {κ : Type} [DecidableEq κ] (kvs : List (κ × LV)) (k : κ) (v : LV) : (putD kvs k v).length ≤ kvs.length + 1 := by
  unfold putD
  split
  · rw [List.length_map]; omega
  · simp
def Ways (kvs : List (List Key × LV)) (W : List (Int × Int)) : Prop := ∀ p : Int × Int, (valL kvs [.inl p.1, .inl p.2]).isSome = decide (p ∈ W)
theorem Ways.put {kvs : List (List Key × LV)} {W : List (Int × Int)} (h : Ways kvs W) (q : Int × Int) (v : LV) : Ways (putD kvs [.inl q.1, .inl q.2] v) (W ++ [q]) := fun p => by
  rw [valL_put]
  by_cases e : q = p
  · subst e
    simp
  · have : ([Sum.inl q.1, Sum.inl q.2] : List Key) ≠ [.inl p.1, .inl p.2] := fun z => e (by
      simp only [List.cons.injEq, Sum.inl.injEq, and_true] at z
      exact Prod.ext z.1 z.2)
    rw [if_neg this, h p]
    simp [Ne.symm e]
/-- all that can be done -/
def ownRows : Nat → List Row
  | 0 => []
  | n + 1 => ownRows n ++ [.own n, .write n]
theorem ownRows_len (n : Nat) : (ownRows n).length = 2 * n := by
  induction n with
  | zero => rfl
  | succ n ih => simp [ownRows, ih]; omega
theorem ownRows_mem {r : Row} {n : Nat} (h : r ∈ ownRows n) : ∃ i : Nat, i < n ∧ (r = .own i ∨ r = .write i) := by
  induction n with
  | zero => cases h
  | succ n ih =>
    simp only [ownRows, List.mem_append, List.mem_cons, List.not_mem_nil, or_false] at h
    rcases h with h | h
    · obtain ⟨i, h1, h2⟩ := ih h
      exact ⟨i, by omega, h2⟩
    · exact ⟨n, by omega, h⟩
def Lm.deeds (L : Lm) : List Row := (L.frAll L.ord L.road).1.map (fun p => Row.use p.1 p.2) ++ ownRows L.ths.length
theorem LmG.deeds {L : Lm} {n : Nat} (h : LmG L n) {row : Row} (hr : row ∈ L.deeds) : ∃ L', Goes L row L' := by
  unfold Lm.deeds at hr
  rcases List.mem_append.mp hr with hr | hr
  · obtain ⟨p, hp, rfl⟩ := List.mem_map.mp hr
    obtain ⟨i, t, l, ei, et, hm, el⟩ := h.road_may hp
    rw [ei]
    exact ⟨_, .use i t p.2 l et hm el⟩
  · obtain ⟨i, hi, e⟩ := ownRows_mem hr
    obtain ⟨t, et⟩ : ∃ t, L.ths[i]? = some t := ⟨_, List.getElem?_eq_getElem hi⟩
    rcases e with rfl | rfl
    · exact ⟨_, .own i t et⟩
    · exact ⟨_, .write i t et⟩
def spDeeds (A : Ad) : LSp := fun vs s Q E => ∃ x L dv F n, vs = [.ref x] ∧ IsLm A s x L dv F ∧ LmG L n ∧ n < 90000 ∧ Q (.lst (L.deeds.map rowL)) s
theorem ok_law_deeds (T : Txt K mg A D) (B : Bs K mg base A) : LFn P w K mg base 4 A.f_law_deeds D.d_law_deeds ["_law_loom_here"] (spDeeds A) := by
  refine T.F_law_deeds.okL sc_law_deeds (fun vs s Q E ⟨_, _, _, _, _, h, _⟩ => by rw [h]; rfl) (fun cdv A' outer si H E hr => ⟨_, (lps_cons (lp_set (i := 1) sc_law_deeds.nd rfl (by first | exact Or.inl rfl | exact Or.inr rfl) (le_new (ll_disp la_nil)))
    (lps_cons (lp_set (i := 2) sc_law_deeds.nd rfl (by first | exact Or.inl rfl | exact Or.inr rfl) (le_frz (le_meth0 (lv 0) T.cl_Loom T.mt_Loom_letters_sent (ok_Loom_letters_sent T B) (hr.mono (by decide)) T.q_Loom_letters_sent)))
    (lps_cons (lp_set (i := 3) sc_law_deeds.nd rfl (by first | exact Or.inl rfl | exact Or.inr rfl) le_dnewT)
    (lps_cons (lp_for rfl (li_seq (le_frz (le_meth0 (lv 0) T.cl_Loom T.mt_Loom_road (ok_Loom_road T B) (hr.mono (by decide)) T.q_Loom_road))) (lg_name (i := 4) sc_law_deeds.nd rfl (by first | exact Or.inl rfl | exact Or.inr rfl)) (lps_cons (lp_set (i := 5) sc_law_deeds.nd rfl (by first | exact Or.inl rfl | exact Or.inr rfl) (le_tup (la_cons (le_item (hu_of hr) (lv 4) le_int) (la_cons (le_item (hu_of hr) (le_item (hu_of hr) (lv 2) (lv 4)) le_int) la_nil))))
    (lps_cons (lp_if (lt_cut (LW.lt (lw_or (lt_not (lt_val (le_fld T.cl_Loom T.n_Loom_ordered (lv 0)))) (lw_or1 (lt_ninT (hu_of hr) (lv 5) (lv 3) (by rfl)))))) (lps_one (lp_expr (le_append (lv 1) (la_cons (le_tup (la_cons le_str (la_cons (le_item (hu_of hr) (lv 5) le_int) (la_cons (lv 4) la_nil)))) la_nil)))) lps_nil)
    (lps_one (lp_asg le_bl (lg_sub (hu_of hr) (lv 3) (lv 5)))))))
    (lps_cons (lp_for rfl (li_range1 rfl T.b_range (la_cons (le_fld T.cl_Loom T.n_Loom_many (lv 0)) la_nil)) (lg_name (i := 6) sc_law_deeds.nd rfl (by first | exact Or.inl rfl | exact Or.inr rfl)) (lps_cons (lp_expr (le_append (lv 1) (la_cons (le_tup (la_cons le_str (la_cons (lv 6) la_nil))) la_nil)))
    (lps_one (lp_expr (le_append (lv 1) (la_cons (le_tup (la_cons le_str (la_cons (lv 6) la_nil))) la_nil))))))
    (lps_one (lp_ret (lv 1)))))))), fun vs s Q E h => ?_⟩)
  obtain ⟨x, L, dv, F, n, rfl, hl, hg, hn, h⟩ := h
  have hok := hg.ok
  have hsl := hok.sentR_len
  have hmn := hok.mn
  simp_arith
  intro fo hfo
  have hl1 := hl.ext (show Ext s (put s fo (.lst [])) from fun a o e => by rw [put_ne (by rintro rfl; rw [hfo] at e; cases e)]; exact e)
  simp_arith [hl1.hx, lmF]
  refine ⟨x, L, dv, F, n, rfl, hl1, hok, by omega, fun q hq => fin_dT put_same hq (sub_put hq) ?_⟩
  simp_arith
  intro wy hwy
  obtain ⟨nwf, hwy⟩ := put_none hwy
  have hl2 := hl.ext (show Ext s (put (put s fo (.lst [])) wy (.dT [])) from fun a o e => by rw [put_ne (by rintro rfl; rw [hwy] at e; cases e), put_ne (by rintro rfl; rw [hfo] at e; cases e)]; exact e)
  simp_arith [hl2.hx, lmF]
  refine ⟨x, L, dv, F, n, rfl, hl2, hok, by omega, fun q hq => fin_lst put_same hq (sub_put hq) ?_⟩
  simp_arith
  have hrl : L.road.length ≤ 48 * n := by
    unfold Lm.road
    rw [sortD_len]
    have h1 := List.length_filter_le (fun n => decide (n ∉ L.used.map (·.1))) (L.sent.map (·.1))
    have h2 := putAll_len L.sentR []
    rw [List.length_map] at h1
    simp only [List.length_nil] at h2
    have h3 : L.sent.length = (putAll [] L.sentR).length := rfl
    omega
  refine lLoop_map nmL (fun q rr σ s' => ∃ v4 v5 kvs, σ = [some (.ref x), some (.ref fo), some (.dT (encM pairL L.sent)), some (.ref wy), v4, v5, none] ∧ s' fo = some (.lst ((L.frAll L.ord q).1.map fun p => rowL (.use p.1 p.2))) ∧ s' wy = some (.dT kvs) ∧ Ways kvs (L.frAll L.ord q).2 ∧ kvs.length ≤ q.length ∧ Own [fo, wy] [fo, wy] s s')
    ⟨_, _, [], rfl, by rw [put_ne (Ne.symm nwf), put_same]; rfl, by rw [put_same], fun p => rfl, Nat.le_refl _, own_of (fun a ha _ => by simp at ha; rw [put_ne ha.2, put_ne ha.1]) fun a ha => .inl ha⟩ (fun _ _ _ _ _ => trivial) ?_ ?_
  · rintro q nm rr σ s1 N eq ⟨v4, v5, kvs, rfl, e1, e2, hw, hkl, o1⟩ hN
    have hnr : nm ∈ L.road := by rw [eq]; simp
    obtain ⟨⟨l, hl'⟩, hnu⟩ := road_mem.mp hnr
    have ell := toOf_eq hl'
    have hl1 := hl.own o1 (fun a ha hb => by
      simp only [List.mem_cons, List.not_mem_nil, or_false] at hb
      rcases hb with rfl | rfl
      · exact hl.held ha hfo
      · exact hl.held ha hwy)
    have hv : valL (encM pairL L.sent) [.inl nm.hand, .inl nm.place, .inl nm.k] = some (.tup [.int l.1, .int l.2]) := (valL_enc pairL _ nm).trans (by rw [sent_get.mpr hl']; rfl)
    have hc2 : nm ∉ L.used.map (·.1) := fun z => by obtain ⟨i, u, hu⟩ := used_key.mp z; exact hnu i u hu
    have hql := L.frAll_len L.ord q
    have hqo : q.length ≤ L.road.length := by rw [eq]; simp
    have hwv := hw (nm.hand, l.1)
    unfold nmL
    simp_arith [hv, hl1.hx, lmF]
    refine ⟨decide (L.ord = false ∨ (nm.hand, L.toOf nm) ∉ (L.frAll L.ord q).2), ?_, ?_⟩
    · simp_arith [hl1.hx, lmF]
      refine ⟨fun ho => ⟨?_, (by first | rfl | trivial | exact ⟨rfl, rfl⟩)⟩, fun ho => ?_⟩
      · have : L.ord = false := by simpa using ho
        rw [this]; simp
      · have : L.ord = true := by simpa using ho
        simp_arith [e2]
        refine ⟨?_, trivial⟩
        rw [hwv, this, ell]; simp
    · have fst : L.frAll L.ord (q ++ [nm]) = (if L.ord = false ∨ (nm.hand, L.toOf nm) ∉ (L.frAll L.ord q).2 then (L.frAll L.ord q).1 ++ [(L.toOf nm, nm)] else (L.frAll L.ord q).1, (L.frAll L.ord q).2 ++ [(nm.hand, L.toOf nm)]) := by rw [Lm.frAll_snoc, Lm.frStep, if_neg hc2]
      have z1 : ((L.frAll L.ord q).1.map fun p => rowL (.use p.1 p.2)).length < 16777216 := by rw [List.length_map]; omega
      have z2 : kvs.length < 16777216 := by omega
      have z3 := putD_len kvs [.inl nm.hand, .inl l.1] (.bl true)
      have z4 := hw.put (nm.hand, l.1) (.bl true)
      have nfw : fo ≠ wy := Ne.symm nwf
      refine ifD (fun hd => ?_) (fun hd => ?_)
      · rw [if_pos hd] at fst
        simp_arith [e1, e2, hv, put_ne nwf, put_ne nfw]
        refine hN _ _ ⟨_, _, _, rfl, ?_, put_same, ?_, ?_, (o1.trans (own_put (by simp))).trans (own_put (by simp))⟩
        · rw [put_ne nfw, put_same, fst, List.map_append, ell]; rfl
        · rw [fst, ell]; exact z4
        · rw [List.length_append]; exact Nat.le_trans z3 (by simpa using hkl)
      · rw [if_neg hd] at fst
        simp_arith [e1, e2, hv]
        refine hN _ _ ⟨_, _, _, rfl, ?_, put_same, ?_, ?_, o1.trans (own_put (by simp))⟩
        · rw [put_ne nfw, e1, fst]
        · rw [fst, ell]; exact z4
        · rw [List.length_append]; exact Nat.le_trans z3 (by simpa using hkl)
  · rintro σ s1 ⟨v4, v5, kvs, rfl, e1, e2, hw, hkl, o1⟩
    have hl1 := hl.own o1 (fun a ha hb => by
      simp only [List.mem_cons, List.not_mem_nil, or_false] at hb
      rcases hb with rfl | rfl
      · exact hl.held ha hfo
      · exact hl.held ha hwy)
    have hfl := (L.frAll_len L.ord L.road).1
    simp_arith [hl1.hx, lmF]
    refine lLoop_rg0 (fun i σ s' => ∃ v4 v5 v6, σ = [some (.ref x), some (.ref fo), some (.dT (encM pairL L.sent)), some (.ref wy), v4, v5, v6] ∧ s' fo = some (.lst (((L.frAll L.ord L.road).1.map (fun p => Row.use p.1 p.2) ++ ownRows i).map rowL)) ∧ Own [fo, wy] [fo, wy] s s') ⟨_, _, _, rfl, by rw [e1, ownRows, List.append_nil, List.map_map]; rfl, o1⟩ (fun _ _ _ _ => trivial) ?_ ?_
    · rintro i σ s2 N hi ⟨v4, v5, v6, rfl, e3, o2⟩ hN
      have zl : (((L.frAll L.ord L.road).1.map (fun p => Row.use p.1 p.2) ++ ownRows i).map rowL).length < 16777000 := by
        simp only [List.length_map, List.length_append, ownRows_len]
        omega
      have es : (((L.frAll L.ord L.road).1.map (fun p => Row.use p.1 p.2) ++ ownRows (i + 1)).map rowL) = (((L.frAll L.ord L.road).1.map (fun p => Row.use p.1 p.2) ++ ownRows i).map rowL) ++ [rowL (.own i)] ++ [rowL (.write i)] := by
        rw [ownRows, ← List.append_assoc, List.map_append]
        simp
      generalize ((L.frAll L.ord L.road).1.map (fun p => Row.use p.1 p.2) ++ ownRows i).map rowL = ll at e3 zl es
      simp_arith [e3, put_same]
      have z2 : (ll ++ [rowL (.own i)]).length < 16777216 := by rw [List.length_append, List.length_singleton]; omega
      refine ⟨z2, hN _ _ ⟨_, _, _, rfl, ?_, o2.trans (own_put (by simp))⟩⟩
      rw [put_same, es]
      rfl
    · rintro σ s2 ⟨v4, v5, v6, rfl, e3, o2⟩
      simp_arith
      refine fin_lst e3 hfo (own_sub (by simp [hfo, hwy]) o2) ?_
      rw [Int.toNat_natCast]
      exact h
def spWoven (A : Ad) : LSp := fun vs s Q E => ∃ (c : Int) (sz : Nat), ∃ x L dv F n, vs = [.ref x, .int c, .int sz] ∧ LD A s x L dv F [] ∧ LmG L n ∧ n + sz < 80000 ∧ 1 ≤ L.ths.length ∧
  ∀ s' L' rows, LD A s' x L' dv F [] → LmG L' (n + sz) → GoAll L rows L' → L'.ths.length = L.ths.length → L'.ord = L.ord → L'.f = L.f → Own (F.all x) (F.all x) s s' → Q .non s'
theorem ok_law_woven (T : Txt K mg A D) (B : Bs K mg base A) : LFn P w K mg base 6 A.f_law_woven D.d_law_woven ["_law_loom_here", "_law_cell", "_law_size"] (spWoven A) := by
  refine T.F_law_woven.okL sc_law_woven (fun vs s Q E ⟨_, _, _, _, _, _, _, h, _⟩ => by rw [h]; rfl) (fun cdv A' outer si H E hr => ⟨_, (lps_one (lp_for rfl (li_range1 rfl T.b_range (la_cons (lv 2) la_nil)) (lg_name (i := 3) sc_law_woven.nd rfl (by first | exact Or.inl rfl | exact Or.inr rfl)) (lps_cons (lp_set (i := 4) sc_law_woven.nd rfl (by first | exact Or.inl rfl | exact Or.inr rfl) (le_call (ok_law_deeds T B) (hr.mono (by decide)) rfl T.m_law_deeds T.k_law_deeds T.q_law_deeds (la_cons (lv 0) la_nil)))
    (lps_cons (lp_set (i := 5) sc_law_woven.nd rfl (by first | exact Or.inl rfl | exact Or.inr rfl) (le_item (hu_of hr) (lv 4) (le_mod (le_call (ok_law_digit T B) (hr.mono (by decide)) rfl T.m_law_digit T.k_law_digit T.q_law_digit (la_cons (lv 1) (la_cons (lv 3) (la_cons le_int la_nil)))) (le_len rfl T.b_len (la_cons (lv 4) la_nil)))))
    (lps_one (lp_if (lt_eq (le_item (hu_of hr) (lv 5) le_int) le_str) (lps_one (lp_expr (le_meth (lv 0) T.cl_Loom T.mt_Loom_use (ok_Loom_use T B) (hr.mono (by decide)) T.q_Loom_use (la_cons (le_item (hu_of hr) (lv 5) le_int) (la_cons (le_item (hu_of hr) (lv 5) le_int) la_nil))))) (lps_one (lp_if (lt_eq (le_item (hu_of hr) (lv 5) le_int) le_str) (lps_one (lp_expr (le_meth (lv 0) T.cl_Loom T.mt_Loom_own (ok_Loom_own T B) (hr.mono (by decide)) T.q_Loom_own (la_cons (le_item (hu_of hr) (lv 5) le_int) la_nil)))) (lps_one (lp_expr (le_meth (lv 0) T.cl_Loom T.mt_Loom_write (ok_Loom_write T B) (hr.mono (by decide)) T.q_Loom_write (la_cons (le_item (hu_of hr) (lv 5) le_int) la_nil)))))))))))), fun vs s Q E h => ?_⟩)
  obtain ⟨c, sz, x, L, dv, F, n, rfl, hl, hg, hn, hmn, h⟩ := h
  simp_arith
  refine lLoop_rg0 (fun i σ s' => ∃ v3 v4 v5 L' rows, σ = [some (.ref x), some (.int c), some (.int sz), v3, v4, v5] ∧ LD A s' x L' dv F [] ∧ LmG L' (n + i) ∧ GoAll L rows L' ∧ L'.ths.length = L.ths.length ∧ L'.ord = L.ord ∧ L'.f = L.f ∧ Own (F.all x) (F.all x) s s')
    ⟨_, _, _, L, [], rfl, hl, hg, .nil _, rfl, rfl, rfl, .refl _ _⟩ (fun _ _ _ _ => trivial) ?_ ?_
  · rintro i σ s1 N hi ⟨v3, v4, v5, L1, rows, rfl, hl1, hg1, ga, eL, eO, eF, o1⟩ hN
    simp_arith
    refine ⟨x, L1, dv, F, n + i, rfl, hl1.lm, hg1, by omega, ?_⟩
    simp_arith
    refine ⟨c, i, 120, rfl, by omega, by omega, by omega, by omega, ?_⟩
    have hol : 1 ≤ (L1.deeds).length := by unfold Lm.deeds; simp [ownRows_len]; omega
    have hol2 : 0 < ((L1.deeds.map rowL).length : Int) := by rw [List.length_map]; omega
    generalize dgA c i 120 = d
    simp_arith
    rw [List.length_map] at hol2 ⊢
    have hj0 : 0 ≤ d % (L1.deeds.length : Int) := Int.emod_nonneg _ (by omega)
    have hj1 := Int.emod_lt_of_pos d hol2
    obtain ⟨row, erow⟩ : ∃ row, L1.deeds[(d % (L1.deeds.length : Int)).toNat]? = some row := ⟨_, List.getElem?_eq_getElem (by omega)⟩
    rw [atI_mem (v := row) rowL hj0 erow]
    obtain ⟨L2, hgo⟩ := hg1.deeds (List.mem_of_getElem? erow)
    obtain ⟨gl', ef, eo, el, ed⟩ := hg1.goes hgo
    have hK : ∀ s3 σ3, (∃ v3 v4 v5, σ3 = [some (.ref x), some (.int c), some (.int sz), v3, v4, v5]) → LD A s3 x L2 dv F [] → Own (F.all x) (F.all x) s1 s3 → N σ3 s3 := fun s3 σ3 ⟨w3, w4, w5, e⟩ hl3 o3 => hN _ _ ⟨w3, w4, w5, L2, _, e, hl3, gl', ga.snoc hgo, el.trans eL, eo.trans eO, ef.trans eF, o1.trans o3⟩
    have hrng := hgo.rng
    cases hgo with
    | own j t et =>
      simp_arith [rowL]
      simp_arith [hl1.lm.hx, lmF]
      refine ⟨x, L1, dv, F, [], n + i, _, rfl, hl1, hg1.ok, by omega, by simp, fun j' t' e1 et' => ?_, fun no => (no hrng).elim⟩
      have e1 : j = j' := by omega
      subst e1
      rw [et] at et'
      cases et'
      exact fun s3 G3 hl3 hk3 o3 _ => by
        obtain ⟨_, _, _, _, rfl⟩ := hl3.pr
        simp only [List.append_nil] at o3
        exact hK _ _ ⟨_, _, _, rfl⟩ hl3 o3
    | write j t et =>
      simp_arith [rowL]
      simp_arith [hl1.lm.hx, lmF]
      refine ⟨x, L1, dv, F, n + i, _, rfl, hl1.lm, hg1.ok, by omega, fun j' t' e1 et' => ?_, fun no => (no hrng).elim⟩
      have e1 : j = j' := by omega
      subst e1
      rw [et] at et'
      cases et'
      exact fun s3 hl3 o3 => hK _ _ ⟨_, _, _, rfl⟩ ⟨hl3, (hl1.pr.own o3 (by simp)).1, by simp⟩ o3
    | use j t nm l et hm el2 =>
      simp_arith [rowL]
      simp_arith [hl1.lm.hx, lmF]
      refine ⟨x, L1, dv, F, [], n + i, _, nm, rfl, hl1, hg1.ok, by omega, by simp, fun j' t' l' e1 et' _ el' => ?_, fun no => (no hrng).elim, fun _ no => (no hm).elim⟩
      have e1 : j = j' := by omega
      subst e1
      rw [et] at et'
      cases et'
      rw [el2] at el'
      cases el'
      exact fun s3 G3 hl3 hk3 o3 _ => by
        obtain ⟨_, _, _, _, rfl⟩ := hl3.pr
        simp only [List.append_nil] at o3
        exact hK _ _ ⟨_, _, _, rfl⟩ hl3 o3
  · rintro σ s1 ⟨v3, v4, v5, L1, rows, rfl, hl1, hg1, ga, eL, eO, eF, o1⟩
    simp_arith
    rw [Int.toNat_natCast] at hg1
    exact ⟨_, .refl _, h _ _ _ hl1 hg1 ga eL eO eF o1⟩
def Lm.Zb (L : Lm) : Prop := IsBase L.ths (List.replicate L.ths.length 0)
theorem zb_new (f : DoF) (n : Nat) (hbs : List Hb) (o : Bool) (h : n = hbs.length) : (newLm f ((List.range n).map fun _ : Nat => (0 : Int)) hbs o).Zb := by
  have hb := new_base f ((List.range n).map fun _ : Nat => (0 : Int)) hbs o (by simp; omega)
  have e : (newLm f ((List.range n).map fun _ : Nat => (0 : Int)) hbs o).ths.length = ((List.range n).map fun _ : Nat => (0 : Int)).length := by simp [newLm]; omega
  unfold Lm.Zb
  rw [e]
  exact hb
theorem zb_all {L L' : Lm} {rows : List Row} (ga : GoAll L rows L') {n : Nat} (h : LmG L n) (z : L.Zb) : L'.Zb := by
  induction ga generalizing n with
  | nil => exact z
  | cons g _ ih =>
    obtain ⟨h', _, _, el, _⟩ := h.goes g
    refine ih h' ?_
    have := h.base_goes g z
    unfold Lm.Zb
    rw [el]
    exact this
theorem zb_le {L : Lm} {line : List Int} (h : ∀ i : Nat, i < L.ths.length → 0 ≤ lnAt line i) : Le (List.replicate L.ths.length 0) line := fun i hi => by
  have e : lnAt (List.replicate L.ths.length 0) i = 0 := by rw [lnAt_nat]; simp at hi; simp [hi]
  rw [e]
  exact h i (by simpa using hi)
def spLoomM (A : Ad) : LSp := fun vs s Q E => ∃ (ns : List Int), vs = [.scr ns] ∧ ns.length ≤ 63 ∧ s A.p_law_loom = some (.tab "_law_loom.<locals>.<lambda>") ∧
  ∀ s' x L dv F n, LD A s' x L dv F [] → LmG L n → n ≤ 30 → L.Zb → HbOk L (habs2 L.ths.length (cellAt ns 1)) → 2 ≤ L.ths.length → L.ths.length ≤ 5 → Own [] (F.all x) s s' → Q (.ref x) s'
theorem ok_law_loom (T : Txt K mg A D) (B : Bs K mg base A) : LFn P w K mg base 7 A.f_law_loom D.d_law_loom ["_law_script"] (spLoomM A) := by
  refine FunG.ok (js := [3, 2]) (lsc := L_law_loom_lambda.2.2) (fr := ck_law_loom_lambda.fr) T.G_law_loom sc_law_loom (fun vs s Q E ⟨_, h, _⟩ => by rw [h]; rfl) (by decide +kernel) (by decide) (by decide +kernel) rfl (fun A' outer si H E hr cp => ⟨_, (lp1_cons (lp_set (i := 1) sc_law_loom.nd rfl (by first | exact Or.inl rfl | exact Or.inr rfl) (le_call (ok_law_cell_at T B) (hr.mono (by decide)) rfl T.m_law_cell_at T.k_law_cell_at T.q_law_cell_at (la_cons (lv 0) (la_cons le_int la_nil))))
    (lp1_cons (lp_set (i := 2) sc_law_loom.nd rfl (by first | exact Or.inl rfl | exact Or.inr rfl) (le_call (ok_law_cell_at T B) (hr.mono (by decide)) rfl T.m_law_cell_at T.k_law_cell_at T.q_law_cell_at (la_cons (lv 0) (la_cons le_int la_nil))))
    (lp1_cons (lp_set (i := 3) sc_law_loom.nd rfl (by first | exact Or.inl rfl | exact Or.inr rfl) (le_add le_int (le_mod (lv 1) le_int)))
    (lp1_sw fun ws hw gw hgw => (lp2_cons (lp_set (i := 4) sc_law_loom.nd rfl (by first | exact Or.inl rfl | exact Or.inr rfl) (le_lam (k := ck_law_loom_lambda) (L := L_law_loom_lambda) rfl B.tb_law_loom rfl rfl rfl cp (by rw [cp.len', hw]) fr_law_loom_lambda B.hG hgw))
    (lp2_cons (lp_set (i := 5) sc_law_loom.nd rfl (by first | exact Or.inl rfl | exact Or.inr rfl) (le_callG (cp.gst' hgw B.hG) (fun base' kb gi => ok_law_habits T (B.more kb gi)) (hr.mono (by decide)) rfl T.m_law_habits T.k_law_habits T.q_law_habits (la_cons (le_callG (cp.gst' hgw B.hG) (fun base' kb gi => ok_law_cell_at T (B.more kb gi)) (hr.mono (by decide)) rfl T.m_law_cell_at T.k_law_cell_at T.q_law_cell_at (la_cons (lv 0) (la_cons le_int la_nil))) (la_cons (lv 3) la_nil))))
    (lp2_cons (lp_set (i := 6) sc_law_loom.nd rfl (by first | exact Or.inl rfl | exact Or.inr rfl) (le_makeG (cp.gst' hgw B.hG) T.mk_Loom (fun base' kb gi => ok_Loom_init T (B.more kb gi)) (hr.mono (by decide)) rfl T.m_Loom T.q_Loom_init (la_cons (lv 4) (la_cons (le_fz (ll_lc (own := [("_law_k", 7)]) (g := CTg.one 7) rfl sc_law_loom.nd (li_range1 rfl T.b_range (la_cons (lv 3) la_nil)) (blkOk_by (N := ["_law_script", "_law_first", "_law_cell", "_law_many", "_law_does", "_law_habits_here", "_law_loom_here", "_law_k"]) (sc := defScope s_law_loom) (by decide +kernel)) (by decide) (fun _ _ _ _ _ => pg_name (i := 7) sc_law_loom.nd rfl (Or.inl rfl)) (fun _ _ _ _ _ => lts_nil) (fun _ _ _ _ _ => le_int))) (la_cons (lv 5) (la_cons (le_eq (le_mod (le_div (lv 1) le_int) le_int) le_int) la_nil))))))
    (lp2_cons (lp_expr (le_callG (cp.gst' hgw B.hG) (fun base' kb gi => ok_law_woven T (B.more kb gi)) (hr.mono (by decide)) rfl T.m_law_woven T.k_law_woven T.q_law_woven (la_cons (lv 6) (la_cons (le_callG (cp.gst' hgw B.hG) (fun base' kb gi => ok_law_cell_at T (B.more kb gi)) (hr.mono (by decide)) rfl T.m_law_cell_at T.k_law_cell_at T.q_law_cell_at (la_cons (lv 0) (la_cons le_int la_nil))) (la_cons (le_mod (le_div (lv 1) le_int) le_int) la_nil)))))
    (lp2_ret (lv 6)))))))))), fun vs s Q E h => ?_⟩)
  obtain ⟨ns, rfl, hns, hP, h⟩ := h
  simp_arith
  refine ⟨ns, 0, rfl, by omega, by omega, hns, fun c0 hc0 => ?_⟩
  simp_arith
  refine ⟨ns, 2, rfl, by omega, by omega, hns, fun c2 hc2 => ?_⟩
  simp_arith
  obtain ⟨N, hN⟩ : ∃ N : Nat, 2 + c0 % 4 = (N : Int) := ⟨(2 + c0 % 4).toNat, by omega⟩
  have hN2 : 2 ≤ N ∧ N ≤ 5 := by omega
  rw [hN]
  refine ⟨[(N : Int), c2], rfl, ?_⟩
  simp_arith
  refine ⟨rfl, ?_⟩
  simp_arith
  refine ⟨rfl, ?_⟩
  simp_arith
  refine ⟨rfl, ?_⟩
  simp_arith
  refine ⟨ns, 1, rfl, by omega, by omega, hns, fun c1 hc1 => ?_⟩
  simp_arith
  refine ⟨N, c1, rfl, by omega, fun hba hhba => ?_⟩
  have hbl : (habs2 N c1).length = N := by simp [habs2]
  have oh : Own [] [] s (put s hba (.lst ((habs2 N c1).map (hbL A)))) := own_fresh hhba
  have ehb : put s hba (.lst ((habs2 N c1).map (hbL A))) hba = some (.lst ((habs2 N c1).map (hbL A))) := put_same
  generalize put s hba (.lst ((habs2 N c1).map (hbL A))) = s1 at oh ehb ⊢
  simp_arith
  refine ⟨rfl, ?_⟩
  simp_arith
  refine ⟨rfl, ?_⟩
  simp_arith
  intro Da hD
  refine lc_map1 (α := Nat) (enc := fun i => LV.int (0 + (i : Nat))) hD (fun i => LV.int 0) (fun _ _ => trivial) (by rw [List.length_range]; omega) ?_ ?_
  · intro i hi s2 Y ex hY
    simp_arith
    exact hY
  obtain ⟨sts, hsts⟩ : ∃ sts : List Int, sts = (List.range N).map fun i : Nat => (0 : Int) := ⟨_, rfl⟩
  have esl : (List.range ((N : Int) - 0).toNat).map (fun i : Nat => LV.int 0) = sts.map .int := by
    rw [hsts, List.map_map, Int.sub_zero, Int.toNat_natCast]
    rfl
  rw [esl]
  have hstl : sts.length = N := by rw [hsts]; simp
  simp_arith
  intro x hx
  have hp : Pr.Ok ⟨c2, N⟩ := ⟨by show 2 ≤ (N : Int) ∧ (N : Int) ≤ 5; omega⟩
  have ehb2 : put s1 x (.ins A.c_Loom []) hba = some (.lst ((habs2 N c1).map (hbL A))) := by rw [put_ne (by rintro rfl; rw [ehb] at hx; cases hx)]; exact ehb
  have hord : ∀ o : Bool, (newLm (Pr.f ⟨c2, N⟩) sts (habs2 N c1) o).ths.length = N := fun o => by simp [newLm]; omega
  refine ⟨x, .clo ck_law_program__law_does (doesXs ⟨c2, N⟩), .lst (sts.map .int), .ref hba, _, Pr.f ⟨c2, N⟩, sts, habs2 N c1, rfl, rfl, by simp only [seqL, ehb2], by omega, by omega, put_same, fun s6 F hlm o6 => ?_⟩
  simp_arith
  have hb4 : ∀ h ∈ habs2 N c1, ∀ m, h = .bundle m → 1 ≤ m := fun hb hhb m e => by
    obtain ⟨k, _, rfl⟩ := List.mem_map.mp hhb
    exact kindHb_ok _ m e
  have hg6 := new_g (Pr.f ⟨c2, N⟩) sts (habs2 N c1) (decide (c0 / 4 % 2 = 1)) (by omega) (Pr.f3 _) (Pr.w3 _) hb4 (Pr.to ⟨c2, N⟩ hp _ (by rw [hord]))
  have hld6 : LD A s6 x (newLm (Pr.f ⟨c2, N⟩) sts (habs2 N c1) (decide (c0 / 4 % 2 = 1))) _ F [] := ⟨hlm, ⟨⟨c2, N⟩, rfl, hp, rfl, rfl⟩, by simp⟩
  have o06 : Own [] (F.all x) s s6 := fun a _ ha => by
    have n1 : a ≠ x := by rintro rfl; rw [(oh a (by simp) ha).1] at hx; exact ha hx
    have e1 := (oh a (by simp) ha).1
    obtain ⟨e2, e3⟩ := o6 a (by simpa using n1) (by rw [put_ne n1, e1]; exact ha)
    exact ⟨by rw [e2, put_ne n1, e1], e3⟩
  have hl7 := hord (decide (c0 / 4 % 2 = 1))
  have hzb : (newLm (Pr.f ⟨c2, N⟩) sts (habs2 N c1) (decide (c0 / 4 % 2 = 1))).Zb := by rw [hsts]; exact zb_new _ _ _ _ hbl.symm
  have hhb : HbOk (newLm (Pr.f ⟨c2, N⟩) sts (habs2 N c1) (decide (c0 / 4 % 2 = 1))) (habs2 N c1) := HbOk.new _ _ _ _ (by omega)
  generalize newLm (Pr.f ⟨c2, N⟩) sts (habs2 N c1) (decide (c0 / 4 % 2 = 1)) = L at hlm hg6 hld6 hl7 hzb hhb
  refine ⟨rfl, ?_⟩
  simp_arith
  refine ⟨rfl, ?_⟩
  simp_arith
  refine ⟨rfl, ?_⟩
  simp_arith
  refine ⟨ns, 3, rfl, by omega, by omega, hns, fun c3 hc3 => ?_⟩
  obtain ⟨sz, hsz⟩ : ∃ sz : Nat, c0 / 8 % 31 = (sz : Int) := ⟨(c0 / 8 % 31).toNat, by omega⟩
  simp_arith
  refine ⟨c3, sz, x, L, _, F, 0, by rw [← hsz], hld6, hg6, by omega, by omega, fun s7 L7 rows hl8 hg8 ga eL _ _ o7 => ?_⟩
  refine ⟨rfl, ?_⟩
  simp_arith
  exact fin (.refl _) (h s7 x L7 _ F _ hl8 hg8 (by omega) (zb_all ga hg6 hzb) (by
    have := hb_all ga hhb
    rw [hc1, ← hl7, ← eL] at this
    exact this) (by omega) (by omega) (o06.trans o7))
end
end Law

namespace Law
open PySem PySem.Spec L2 L3
local macro_rules
  | `(tactic| simp_arith) => `(tactic| ((conv => whnf); repeat ((first | with_reducible refine ifTT ?_ | with_reducible refine ifFF ?_ | with_reducible refine ifnT ?_ | with_reducible refine ifnF ?_ | with_reducible refine ifTr ?_ | with_reducible refine ifFr ?_ | (with_reducible refine And.intro ?_ ?_; · (first | with_reducible rfl | with_reducible exact ⟨rfl, rfl⟩ | decide | omega | (dsimp only; decide) | (dsimp only; omega) | (unfold CDiv; omega) | (unfold CPow; decide) | (unfold CMul; omega) | (simp only [List.length_cons, List.length_nil]; omega)))); conv => whnf)))
local macro_rules
  | `(tactic| simp_arith [$ls,*]) => `(tactic| ((conv => whnf); repeat ((first | with_reducible refine ifTT ?_ | with_reducible refine ifFF ?_ | with_reducible refine ifnT ?_ | with_reducible refine ifnF ?_ | with_reducible refine ifTr ?_ | with_reducible refine ifFr ?_ | (with_reducible refine And.intro ?_ ?_; · (first | with_reducible rfl | with_reducible exact ⟨rfl, rfl⟩ | decide | omega | (dsimp only; decide) | (dsimp only; omega) | (unfold CDiv; omega) | (unfold CPow; decide) | (unfold CMul; omega) | (simp only [List.length_cons, List.length_nil]; omega) | (simp only [Option.isSome_some]; done) | (simp only [meth_ref, put_same', seqL_ref, $ls,*]; first | done | exact ⟨rfl, rfl⟩ | exact ⟨trivial, rfl⟩ | rfl))) | (simp (decide := true) only [put_same', put_put, decF, decT, Bool.not_true, Bool.not_false, putL_nil, putL_cons, if_true, if_false, seqR_ref, seqL_ref, lenL_ref, dicK_ref, dicT_ref, dat_ref, dat_non, dat_bl, dat_int, dat_str, dat_lst, dat_tup, datV_non, datV_bl, datV_int, datV_str, datV_lst, datV_tup, datVs_nil, datVs_cons, tyAt_ref, opt_some, Option.map_some, Option.bind_some, dv_ints, dv_bls, dv_nms, dv_prs, dv_nm, dt_nm, dt_pr, dv_pr, sh_int, sh_bl, sh_none, sh_nil, eqv_nil, sh_ints, sh_bls, sh_nm, sh_nms, sh_pr, sh_prs, anyI, anyN, anyP, eqv_int, eqv_bl, eqv_ints, eqv_bls, eqv_nms, eqv_prs, eqv_nm, eqv_pr, $ls,*])); conv => whnf)))

def Lm.brk3 (L : Lm) (line : List Int) : List (T3 Nm Int Int) := sortD ((L.used.filter (L.brkP line)).map fun p => ⟨p.1, L.toOf p.1, p.2⟩)
theorem brk3_mem {L : Lm} (h : UsedOk L.ths) {line : List Int} {t : T3 Nm Int Int} : t ∈ L.brk3 line ↔ ∃ i : Nat, t.b = i ∧ UsedAt L.ths t.a i t.c ∧ t.c ≤ lnAt line i ∧ t.a.place > lnAt line t.a.hand := by
  have e : t ∈ L.brk3 line ↔ t ∈ (L.used.filter (L.brkP line)).map fun p => (⟨p.1, L.toOf p.1, p.2⟩ : T3 Nm Int Int) := by unfold Lm.brk3 sortD; exact (List.mergeSort_perm _ _).mem_iff
  rw [e]
  constructor
  · intro hm
    obtain ⟨p, hp, rfl⟩ := List.mem_map.mp hm
    obtain ⟨h1, h2⟩ := List.mem_filter.mp hp
    obtain ⟨i, hu⟩ := (used_mem h).mp h1
    unfold Lm.brkP at h2
    rw [used_to h hu] at h2
    have := of_decide_eq_true h2
    exact ⟨i, used_to h hu, hu, this.1, this.2⟩
  · rintro ⟨i, e1, hu, h1, h2⟩
    refine List.mem_map.mpr ⟨(t.a, t.c), List.mem_filter.mpr ⟨(used_mem h).mpr ⟨i, hu⟩, ?_⟩, ?_⟩
    · unfold Lm.brkP
      rw [used_to h hu]
      exact decide_eq_true ⟨h1, h2⟩
    · obtain ⟨ta, tb, tc⟩ := t
      dsimp only at e1 hu ⊢
      rw [used_to h hu, e1]
theorem brk3_nil {L : Lm} (h : UsedOk L.ths) {line : List Int} : L.brk3 line = [] ↔ Sound L.ths line := by
  constructor
  · intro e n i u hu hle
    have : ¬ (⟨n, i, u⟩ : T3 Nm Int Int) ∈ L.brk3 line := by rw [e]; simp
    rw [brk3_mem h] at this
    exact Classical.byContradiction fun z => this ⟨i, rfl, hu, hle, by dsimp only; omega⟩
  · intro hs
    rw [List.eq_nil_iff_forall_not_mem]
    intro t ht
    obtain ⟨i, _, hu, h1, h2⟩ := (brk3_mem h).mp ht
    have := hs _ i _ hu h1
    omega
theorem brk3_len {L : Lm} {n : Nat} (h : L.Ok n) {line : List Int} : (L.brk3 line).length ≤ 16 * n := by
  unfold Lm.brk3
  rw [sortD_len, List.length_map]
  have h1 := List.length_filter_le (L.brkP line) L.used
  have h2 := putAll_len L.usedR []
  have h3 := h.usedR_len
  simp only [List.length_nil] at h2
  have h4 : L.used.length = (putAll [] L.usedR).length := rfl
  omega
/-- allowed points: what is said of them -/
structure AlOk (L : Lm) (al : List (List Int)) : Prop where
  len : al.length = L.ths.length
  ne : ∀ i : Nat, i < L.ths.length → al.getD i [] ≠ []
  nn : ∀ (i : Nat) (q : Int), q ∈ al.getD i [] → 0 ≤ q
  z : ∀ i : Nat, i < L.ths.length → (0 : Int) ∈ al.getD i []
  sz : ∀ i : Nat, (al.getD i []).length < 1000000
theorem perm_asc {a b : List Int} (hp : a.Perm b) (ha : a.Pairwise (· ≤ ·)) (hb : b.Pairwise (· < ·)) : a = b :=
  List.Perm.eq_of_pairwise (fun x y _ _ h1 h2 => Int.le_antisymm h1 h2) ha (hb.imp fun h => Int.le_of_lt h) hp
section
variable {P : Program} {w : World} {K : PySem.W.Frag} [GG K] {mg : Str → Option Value} {base : Heap} {A : Ad} {D : Fd}
def spFallen : LSp := fun vs s Q E => ∃ (c many : Int), vs = [.int c, .int many] ∧ 0 < many ∧ many < 1000000 ∧ ∀ fs : List Int, fs.length ≤ 7 → (∀ f ∈ fs, 0 ≤ f ∧ f < many) → Q (.lst (fs.map .int)) s
theorem ok_law_fallen (T : Txt K mg A D) (B : Bs K mg base A) : LFn P w K mg base 2 A.f_law_fallen D.d_law_fallen ["_law_cell", "_law_many"] spFallen := by
  refine T.F_law_fallen.okL sc_law_fallen (fun vs s Q E ⟨_, _, h, _⟩ => by rw [h]; rfl) (fun cdv A' outer si H E hr => ⟨_, (lps_cons (lp_set (i := 2) sc_law_fallen.nd rfl (by first | exact Or.inl rfl | exact Or.inr rfl) (le_new (ll_disp la_nil)))
    (lps_cons (lp_for rfl (li_range1 rfl T.b_range (la_cons (le_mod (lv 0) le_int) la_nil)) (lg_name (i := 3) sc_law_fallen.nd rfl (by first | exact Or.inl rfl | exact Or.inr rfl)) (lps_cons (lp_set (i := 4) sc_law_fallen.nd rfl (by first | exact Or.inl rfl | exact Or.inr rfl) (le_mod (le_call (ok_law_digit T B) (hr.mono (by decide)) rfl T.m_law_digit T.k_law_digit T.q_law_digit (la_cons (le_div (lv 0) le_int) (la_cons (lv 3) (la_cons le_int la_nil)))) (lv 1)))
    (lps_one (lp_if (lt_ninV (hu65 hr) (lv 4) (lv 2) (by rfl)) (lps_one (lp_expr (le_append (lv 2) (la_cons (lv 4) la_nil)))) lps_nil))))
    (lps_one (lp_ret (lv 2))))), fun vs s Q E h => ?_⟩)
  obtain ⟨c, many, rfl, hm0, hm1, h⟩ := h
  simp_arith
  intro la hla
  simp_arith
  refine lLoop_rg0 (fun i σ s' => ∃ v3 v4 fs, σ = [some (.int c), some (.int many), some (.ref la), v3, v4] ∧ s' = put s la (.lst (fs.map .int)) ∧ fs.length ≤ i ∧ ∀ f ∈ fs, 0 ≤ f ∧ f < many) ⟨_, _, [], rfl, rfl, by simp, by simp⟩ (fun _ _ _ _ => trivial) ?_ ?_
  · rintro i σ s1 N hi ⟨v3, v4, fs, rfl, rfl, hfl, hfr⟩ hN
    simp_arith
    refine ⟨c / 7, i, 60, rfl, by omega, by omega, by omega, by omega, ?_⟩
    generalize dgA (c / 7) i 60 = d
    have hdr : 0 ≤ d % many ∧ d % many < many := ⟨Int.emod_nonneg _ (by omega), Int.emod_lt_of_pos _ hm0⟩
    have hda : datVs (fs.map LV.int) = some (fs.map Cod.den) := datVs_enc (α := Int) _
    have hsa : SeqAt.shaped (.list (fs.map Cod.den)) = true := shaped_cod (α := List Int) (by decide) _
    have hsd : SeqAt.shaped (Cod.den (d % many)) = true := shaped_cod (α := Int) (by decide) _
    have hfl2 : (fs.map LV.int).length < 16777216 := by rw [List.length_map]; omega
    refine ⟨hm0, ?_⟩
    simp_arith [put_same, hda]
    refine ⟨⟨trivial, hsa⟩, fun _ => ?_, fun _ => ?_⟩
    · simp_arith [put_same]
      refine hN _ _ ⟨_, _, fs ++ [d % many], rfl, by rw [List.map_append]; rfl, by simp; omega, ?_⟩
      intro f hf
      rcases List.mem_append.mp hf with h1 | h1
      · exact hfr f h1
      · rw [List.mem_singleton.mp h1]; exact hdr
    · simp_arith
      exact hN _ _ ⟨_, _, fs, rfl, rfl, by omega, hfr⟩
  · rintro σ s1 ⟨v3, v4, fs, rfl, rfl, hfl, hfr⟩
    simp_arith
    refine fin_lst put_same hla (sub_put hla) ?_
    exact h fs (by omega) hfr
def spAllowedM (A : Ad) : LSp := fun vs s Q E => ∃ (fs : List Int), ∃ x L dv F n, vs = [.ref x, .lst (fs.map .int)] ∧ IsLm A s x L dv F ∧ LmG L n ∧ n < 90000 ∧ fs.length < 1000 ∧ Q (.lst ((alwS L.ths fs).map fun pts => .lst (pts.map .int))) s
def spBroken3 (A : Ad) : LSp := fun vs s Q E => ∃ x L dv F n lv line, vs = [.ref x, lv] ∧ IsLm A s x L dv F ∧ LmG L n ∧ n < 90000 ∧ lineV lv s line ∧ line.length = L.ths.length ∧ Q (.lst ((L.brk3 line).map Cod.enc)) s
end
end Law

namespace Law
open PySem PySem.Spec L2 L3
local macro_rules
  | `(tactic| simp_arith) => `(tactic| ((conv => whnf); repeat ((first | with_reducible refine ifTT ?_ | with_reducible refine ifFF ?_ | with_reducible refine ifnT ?_ | with_reducible refine ifnF ?_ | with_reducible refine ifTr ?_ | with_reducible refine ifFr ?_ | (with_reducible refine And.intro ?_ ?_; · (first | with_reducible rfl | with_reducible exact ⟨rfl, rfl⟩ | decide | omega | (dsimp only; decide) | (dsimp only; omega) | (unfold CDiv; omega) | (unfold CPow; decide) | (unfold CMul; omega) | (simp only [List.length_cons, List.length_nil]; omega)))); conv => whnf)))
local macro_rules
  | `(tactic| simp_arith [$ls,*]) => `(tactic| ((conv => whnf); repeat ((first | with_reducible refine ifTT ?_ | with_reducible refine ifFF ?_ | with_reducible refine ifnT ?_ | with_reducible refine ifnF ?_ | with_reducible refine ifTr ?_ | with_reducible refine ifFr ?_ | (with_reducible refine And.intro ?_ ?_; · (first | with_reducible rfl | with_reducible exact ⟨rfl, rfl⟩ | decide | omega | (dsimp only; decide) | (dsimp only; omega) | (unfold CDiv; omega) | (unfold CPow; decide) | (unfold CMul; omega) | (simp only [List.length_cons, List.length_nil]; omega) | (simp only [Option.isSome_some]; done) | (simp only [meth_ref, put_same', seqL_ref, $ls,*]; first | done | exact ⟨rfl, rfl⟩ | exact ⟨trivial, rfl⟩ | rfl))) | (simp (decide := true) only [put_same', put_put, decF, decT, Bool.not_true, Bool.not_false, putL_nil, putL_cons, if_true, if_false, seqR_ref, seqL_ref, lenL_ref, dicK_ref, dicT_ref, dat_ref, dat_non, dat_bl, dat_int, dat_str, dat_lst, dat_tup, datV_non, datV_bl, datV_int, datV_str, datV_lst, datV_tup, datVs_nil, datVs_cons, tyAt_ref, opt_some, Option.map_some, Option.bind_some, dv_ints, dv_bls, dv_nms, dv_prs, dv_nm, dt_nm, dt_pr, dv_pr, sh_int, sh_bl, sh_none, sh_nil, eqv_nil, sh_ints, sh_bls, sh_nm, sh_nms, sh_pr, sh_prs, anyI, anyN, anyP, eqv_int, eqv_bl, eqv_ints, eqv_bls, eqv_nms, eqv_prs, eqv_nm, eqv_pr, $ls,*])); conv => whnf)))

def minL (a b : List Int) : List Int := (a.zip b).map fun p => min p.1 p.2
theorem lnAt_min {a b : List Int} (h : a.length = b.length) (i : Int) : lnAt (minL a b) i = min (lnAt a i) (lnAt b i) := by
  unfold lnAt
  generalize i.toNat = k
  induction a generalizing b k with
  | nil =>
    cases b with
    | nil => simp [minL]
    | cons y b => cases h
  | cons x a ih =>
    cases b with
    | nil => cases h
    | cons y b =>
      cases k with
      | zero => simp [minL]
      | succ k =>
        have := ih (b := b) (by simpa using h) k
        simpa [minL] using this
theorem Sound.min {ths : List Th} {a b : List Int} (h : a.length = b.length) (ha : Sound ths a) (hb : Sound ths b) : Sound ths (minL a b) := fun n i u hu hl => by
  rw [lnAt_min h] at hl ⊢
  have h1 := ha n i u hu (by omega)
  have h2 := hb n i u hu (by omega)
  omega

def allH (n : Nat) : List Int := (List.range n).map fun i : Nat => ((0 : Int) + (i : Nat))
/-- the least of two greatest lines -/
theorem gr_min {L : Lm} {n : Nat} (hg : LmG L n) {fs gs us a b c : List Int} {p q r : List Nm} (ha : IsGr L.ths fs a p) (hb : IsGr L.ths gs b q) (hc : IsGr L.ths us c r) (hu : ∀ z : Int, z ∈ us ↔ z ∈ fs ∨ z ∈ gs) (i : Nat) (hi : i < L.ths.length) : lnAt c i = min (lnAt a i) (lnAt b i) := by
  have htk := hg.tok
  have a1 := ha.allowed htk
  have b1 := hb.allowed htk
  have c1 := hc.allowed htk
  have la : a.length = L.ths.length := by rw [a1.len, alwS_len]
  have lb : b.length = L.ths.length := by rw [b1.len, alwS_len]
  have lc : c.length = L.ths.length := by rw [c1.len, alwS_len]
  have sub : ∀ vs : List Int, (∀ z ∈ vs, z ∈ us) → Allowed (alwS L.ths vs) c := fun vs hv => ⟨by rw [lc, alwS_len], fun j hj => by
    rw [alwS_len] at hj
    have h1 := c1.mem j (by rw [alwS_len]; exact hj)
    rw [alwS_get (List.getElem?_eq_getElem hj)] at h1 ⊢
    rcases alwT_mem.mp h1 with h2 | ⟨h2, h3⟩
    · exact alwT_pts h2
    · exact alwT_mem.mpr (.inr ⟨decide_eq_true fun z => (of_decide_eq_true h2) (hv _ z), h3⟩)⟩
  have c2 := ha.ge htk (sub fs fun z hz => (hu z).mpr (.inl hz)) hc.snd i (by omega)
  have c3 := hb.ge htk (sub gs fun z hz => (hu z).mpr (.inr hz)) hc.snd i (by omega)
  have hm : Allowed (alwS L.ths us) (minL a b) := ⟨by unfold minL; simp [alwS_len]; omega, fun j hj => by
    rw [alwS_len] at hj
    have et := List.getElem?_eq_getElem hj
    have ok := htk.ok _ (List.getElem_mem hj)
    have h1 := a1.mem j (by rw [alwS_len]; exact hj)
    have h2 := b1.mem j (by rw [alwS_len]; exact hj)
    rw [alwS_get et] at h1 h2 ⊢
    rw [lnAt_min (by omega)]
    have l1 := (alwT_le ok h1).2
    have l2 := (alwT_le ok h2).2
    rcases alwT_mem.mp h1 with p1 | ⟨s1, e1⟩ <;> rcases alwT_mem.mp h2 with p2 | ⟨s2, e2⟩
    · rcases Int.le_total (lnAt a j) (lnAt b j) with z | z
      · rw [Int.min_eq_left z]; exact alwT_pts p1
      · rw [Int.min_eq_right z]; exact alwT_pts p2
    · rw [Int.min_eq_left (by omega)]; exact alwT_pts p1
    · rw [Int.min_eq_right (by omega)]; exact alwT_pts p2
    · rw [e1, e2, Int.min_self]
      exact alwT_mem.mpr (.inr ⟨decide_eq_true fun z => by
        rcases (hu _).mp z with z | z
        · exact (of_decide_eq_true s1) z
        · exact (of_decide_eq_true s2) z, rfl⟩)⟩
  have c4 := hc.ge htk hm (ha.snd.min (by omega) hb.snd) i (by unfold minL; simp; omega)
  rw [lnAt_min (by omega)] at c4
  omega
/-- more hands fall: not ahead -/
theorem gr_less {L : Lm} {n : Nat} (hg : LmG L n) {fs us a c : List Int} {p r : List Nm} (ha : IsGr L.ths fs a p) (hc : IsGr L.ths us c r) (hu : ∀ (i : Nat), i < L.ths.length → (i : Int) ∈ fs → (i : Int) ∈ us) (i : Nat) (hi : i < L.ths.length) : lnAt c i ≤ lnAt a i := by
  have htk := hg.tok
  have c1 := hc.allowed htk
  have lc : c.length = L.ths.length := by rw [c1.len, alwS_len]
  refine ha.ge htk ⟨by rw [lc, alwS_len], fun j hj => ?_⟩ hc.snd i (by omega)
  rw [alwS_len] at hj
  have h1 := c1.mem j (by rw [alwS_len]; exact hj)
  rw [alwS_get (List.getElem?_eq_getElem hj)] at h1 ⊢
  rcases alwT_mem.mp h1 with h2 | ⟨h2, h3⟩
  · exact alwT_pts h2
  · exact alwT_mem.mpr (.inr ⟨decide_eq_true fun z => (of_decide_eq_true h2) (hu j hj z), h3⟩)
theorem gr_here {L : Lm} {n : Nat} (hg : LmG L n) {fs a : List Int} {p : List Nm} (ha : IsGr L.ths fs a p) (i : Nat) (hi : i < L.ths.length) : lnAt a i ≤ lnAt (placesL L) i := by
  have et := List.getElem?_eq_getElem hi
  have h1 := (ha.allowed hg.tok).mem i (by rw [alwS_len]; exact hi)
  rw [alwS_get et] at h1
  rw [placesL_at et]
  exact (alwT_le (hg.tok.ok _ (List.getElem_mem hi)) h1).2
/-- a line that was reached with no pulling -/
theorem gr_none {L : Lm} {n : Nat} (hg : LmG L n) {fs : List Int} {p : List Nm} (ha : IsGr L.ths fs (placesL L) p) : p = [] := by
  have htk := hg.tok
  have ht := tops_top htk.ok fs
  have al := ha.allowed htk
  have e : tops (alwS L.ths fs) = placesL L := by
    refine le_anti (by rw [ht.1.len, al.len]) (fun i hi => ?_) (ht.2 _ al)
    have hi2 : i < L.ths.length := by rw [ht.1.len, alwS_len] at hi; exact hi
    have et := List.getElem?_eq_getElem hi2
    have h1 := ht.1.mem i (by rw [alwS_len]; exact hi2)
    rw [alwS_get et] at h1
    rw [placesL_at et]
    exact (alwT_le (htk.ok _ (List.getElem_mem hi2)) h1).2
  have hp := ha.pull
  rw [e] at hp
  cases hp with
  | nil => rfl
  | cons h1 h2 h3 _ _ =>
    have := ha.snd _ _ _ h1 h2
    omega
def ptsL (L : Lm) : List (List Int) := L.ths.map Th.points
theorem ptsL_at {L : Lm} {i : Nat} {t : Th} (et : L.ths[i]? = some t) : (ptsL L).getD i [] = t.points := by
  unfold ptsL
  rw [List.getD_eq_getElem?_getD, List.getElem?_map, et]
  rfl
theorem ptsL_rg (L : Lm) : (List.range ((L.ths.length : Int) - 0).toNat).map (fun i : Nat => LV.lst (((ptsL L).getD i []).map .int)) = (ptsL L).map fun l => LV.lst (l.map .int) := by
  have e : ((L.ths.length : Int) - 0).toNat = (ptsL L).length := by unfold ptsL; simp
  rw [e]
  apply List.ext_getElem?
  intro i
  rw [List.getElem?_map, List.getElem?_map]
  by_cases h : i < (ptsL L).length
  · rw [List.getElem?_range h, List.getElem?_eq_getElem h, Option.map_some, Option.map_some, List.getD_eq_getElem?_getD, List.getElem?_eq_getElem h]
    rfl
  · rw [List.getElem?_eq_none (by simpa using h), List.getElem?_eq_none (by simpa using h)]
    rfl
theorem isd_t2 {s : LS} {α β : Type} [Cod α] [Cod β] {a : α} {b : β} {x y : LV} (h1 : Isd s (Cod.den a) x) (h2 : Isd s (Cod.den b) y) : Isd s (Cod.den (a, b)) (.tup [x, y]) := by
  show Isd s (.tuple [Cod.den a, Cod.den b]) (.tup [x, y])
  simp only [Isd, Isds]
  exact ⟨_, rfl, x, _, rfl, h1, y, _, rfl, h2, rfl⟩
theorem allH_mem {n i : Nat} (h : i < n) : (i : Int) ∈ allH n := List.mem_map.mpr ⟨i, List.mem_range.mpr h, Int.zero_add _⟩
/-- what is seen of a loom -/
def seenL (L : Lm) : LV := .tup [.lst (L.done.map fun p => rowL p.1), .lst (L.road.map nmL), .lst ((L.ths.map Th.cur).map .int), .lst ((ptsL L).map fun l => LV.lst (l.map .int))]
section
variable {P : Program} {w : World} {K : PySem.W.Frag} [GG K] {mg : Str → Option Value} {base : Heap} {A : Ad} {D : Fd}
theorem ok_law (T : Txt K mg A D) (B : Bs K mg base A) : LFn P w K mg base 8 A.f_law D.d_law ["_law_script"] (spTop A) := by
  refine T.F_law.okL sc_law (fun vs s Q E ⟨_, _, h, _⟩ => by rw [h]; rfl) (fun cdv A' outer si H E hr => ⟨_, (lps_cons (lp_set (i := 1) sc_law.nd rfl (by first | exact Or.inl rfl | exact Or.inr rfl) (le_call (ok_law_loom T B) (hr.mono (by decide)) rfl T.m_law_loom T.k_law_loom T.q_law_loom (la_cons (lv 0) la_nil)))
    (lps_cons (lp_set (i := 2) sc_law.nd rfl (by first | exact Or.inl rfl | exact Or.inr rfl) (le_frz (le_meth0 (lv 1) T.cl_Loom T.mt_Loom_places (ok_Loom_places T B) (hr.mono (by decide)) T.q_Loom_places)))
    (lps_cons (lp_set (i := 3) sc_law.nd rfl (by first | exact Or.inl rfl | exact Or.inr rfl) (le_tup (la_cons (le_frz (le_meth0 (lv 1) T.cl_Loom T.mt_Loom_rows (ok_Loom_rows T B) (hr.mono (by decide)) T.q_Loom_rows)) (la_cons (le_frz (le_meth0 (lv 1) T.cl_Loom T.mt_Loom_road (ok_Loom_road T B) (hr.mono (by decide)) T.q_Loom_road)) (la_cons (le_frz (le_meth0 (lv 1) T.cl_Loom T.mt_Loom_states (ok_Loom_states T B) (hr.mono (by decide)) T.q_Loom_states)) (la_cons (le_fz (ll_lc (own := [("_law_hand", 4)]) (g := CTg.one 4) rfl sc_law.nd (li_range1 rfl T.b_range (la_cons (le_fld T.cl_Loom T.n_Loom_many (lv 1)) la_nil)) (blkOk_by (N := ["_law_script", "_law_loom_here", "_law_places", "_law_before", "_law_hand", "_law_one", "_law_other", "_law_first", "_law_second", "_law_both", "_law_whole", "_law_habits_here", "_law_sure"]) (sc := defScope s_law) (by decide +kernel)) (by decide) (fun _ _ _ _ _ => pg_name (i := 4) sc_law.nd rfl (Or.inl rfl)) (fun _ _ _ _ _ => lts_nil) (fun _ _ _ _ _ => (le_frz (le_meth (lv 1) T.cl_Loom T.mt_Loom_points (ok_Loom_points T B) (hr.mono (by decide)) T.q_Loom_points (la_cons (lv 4) la_nil)))))) la_nil))))))
    (lps_cons (lp_set (i := 5) sc_law.nd rfl (by first | exact Or.inl rfl | exact Or.inr rfl) (le_call (ok_law_fallen T B) (hr.mono (by decide)) rfl T.m_law_fallen T.k_law_fallen T.q_law_fallen (la_cons (le_call (ok_law_cell_at T B) (hr.mono (by decide)) rfl T.m_law_cell_at T.k_law_cell_at T.q_law_cell_at (la_cons (lv 0) (la_cons le_int la_nil))) (la_cons (le_fld T.cl_Loom T.n_Loom_many (lv 1)) la_nil))))
    (lps_cons (lp_set (i := 6) sc_law.nd rfl (by first | exact Or.inl rfl | exact Or.inr rfl) (le_call (ok_law_fallen T B) (hr.mono (by decide)) rfl T.m_law_fallen T.k_law_fallen T.q_law_fallen (la_cons (le_call (ok_law_cell_at T B) (hr.mono (by decide)) rfl T.m_law_cell_at T.k_law_cell_at T.q_law_cell_at (la_cons (lv 0) (la_cons le_int la_nil))) (la_cons (le_fld T.cl_Loom T.n_Loom_many (lv 1)) la_nil))))
    (lps_cons (lp_set (i := 7) sc_law.nd rfl (by first | exact Or.inl rfl | exact Or.inr rfl) (le_frz (le_item (hu_of hr) (le_call (ok_greatest_line T B) (hr.mono (by decide)) rfl T.m_greatest_line T.k_greatest_line T.q_greatest_line (la_cons (lv 1) (la_cons (lv 5) la_nil))) le_int)))
    (lps_cons (lp_set (i := 8) sc_law.nd rfl (by first | exact Or.inl rfl | exact Or.inr rfl) (le_frz (le_item (hu_of hr) (le_call (ok_greatest_line T B) (hr.mono (by decide)) rfl T.m_greatest_line T.k_greatest_line T.q_greatest_line (la_cons (lv 1) (la_cons (lv 6) la_nil))) le_int)))
    (lps_cons (lp_set (i := 9) sc_law.nd rfl (by first | exact Or.inl rfl | exact Or.inr rfl) (le_frz (le_item (hu_of hr) (le_call (ok_greatest_line T B) (hr.mono (by decide)) rfl T.m_greatest_line T.k_greatest_line T.q_greatest_line (la_cons (lv 1) (la_cons (le_fz (ll_cat (lv 5) (le_fz (ll_lc (own := [("_law_hand", 4)]) (g := CTg.one 4) rfl sc_law.nd (li_seq (lv 6)) (blkOk_by (N := ["_law_script", "_law_loom_here", "_law_places", "_law_before", "_law_hand", "_law_one", "_law_other", "_law_first", "_law_second", "_law_both", "_law_whole", "_law_habits_here", "_law_sure"]) (sc := defScope s_law) (by decide +kernel)) (by decide) (fun _ _ _ _ _ => pg_name (i := 4) sc_law.nd rfl (Or.inl rfl)) (fun _ _ _ _ _ => (lts_one (lt_ninV (hu65 hr) (lv 4) (lv 5) (by rfl)))) (fun _ _ _ _ _ => (lv 4)))))) la_nil))) le_int)))
    (lps_cons (lp_set (i := 10) sc_law.nd rfl (by first | exact Or.inl rfl | exact Or.inr rfl) (le_frz (le_item (hu_of hr) (le_call (ok_greatest_line T B) (hr.mono (by decide)) rfl T.m_greatest_line T.k_greatest_line T.q_greatest_line (la_cons (lv 1) (la_cons (le_fz (ll_listRg1 rfl rfl T.b_list rfl T.b_range (le_fld T.cl_Loom T.n_Loom_many (lv 1)))) la_nil))) le_int)))
    (lps_cons (lp_for rfl (li_range1 rfl T.b_range (la_cons (le_fld T.cl_Loom T.n_Loom_many (lv 1)) la_nil)) (lg_name (i := 4) sc_law.nd rfl (by first | exact Or.inl rfl | exact Or.inr rfl)) (lps_one (lp_if (LW.lt (lw_or (lt_ne (le_item (hu_of hr) (lv 9) (lv 4)) (le_min2 rfl rfl T.b_min (la_cons (le_item (hu_of hr) (lv 7) (lv 4)) (la_cons (le_item (hu_of hr) (lv 8) (lv 4)) la_nil)))) (lw_or (lt_gt (le_item (hu_of hr) (lv 10) (lv 4)) (le_item (hu_of hr) (lv 9) (lv 4))) (lw_or1 (lt_gt (le_item (hu_of hr) (lv 7) (lv 4)) (le_item (hu_of hr) (lv 2) (lv 4))))))) (lps_one (lp_ret le_bl)) lps_nil)))
    (lps_cons (lp_if (lt_neD hr.units (le_call (ok_greatest_line T B) (hr.mono (by decide)) rfl T.m_greatest_line T.k_greatest_line T.q_greatest_line (la_cons (lv 1) (la_cons (le_fz (ll_disp la_nil)) la_nil))) (le_tup (la_cons (lv 2) (la_cons (le_fz (ll_disp la_nil)) la_nil)))) (lps_one (lp_ret le_bl)) lps_nil)
    (lps_cons (lp_set (i := 11) sc_law.nd rfl (by first | exact Or.inl rfl | exact Or.inr rfl) (le_call (ok_law_habits T B) (hr.mono (by decide)) rfl T.m_law_habits T.k_law_habits T.q_law_habits (la_cons (le_call (ok_law_cell_at T B) (hr.mono (by decide)) rfl T.m_law_cell_at T.k_law_cell_at T.q_law_cell_at (la_cons (lv 0) (la_cons le_int la_nil))) (la_cons (le_fld T.cl_Loom T.n_Loom_many (lv 1)) la_nil))))
    (lps_cons (lp_setLcF (i := 12) rfl sc_law.nd rfl rfl (own := [("_law_hand", 4)]) (g := CTg.one 4) (li_range1 rfl T.b_range (la_cons (le_fld T.cl_Loom T.n_Loom_many (lv 1)) la_nil)) (blkOk_by (N := ["_law_script", "_law_loom_here", "_law_places", "_law_before", "_law_hand", "_law_one", "_law_other", "_law_first", "_law_second", "_law_both", "_law_whole", "_law_habits_here", "_law_sure"]) (sc := defScope s_law) (by decide +kernel)) (by decide) (fun _ _ _ _ _ => pg_name (i := 4) sc_law.nd rfl (Or.inl rfl)) (fun _ _ _ _ _ => (lts_one (lt_val (le_isiB (K := K) rfl rfl T.b_isinstance (la_cons (le_item (hu_of hr) (lv 11) (lv 4)) (la_cons (le_glob rfl T.m_Each) la_nil)))))) (fun _ _ _ _ _ => (lv 4)) (sw_true rfl rfl rfl (by decide)))
    (lps_cons (lp_if (lt_neD hr.units (le_call (ok_greatest_line T B) (hr.mono (by decide)) rfl T.m_greatest_line T.k_greatest_line T.q_greatest_line (la_cons (lv 1) (la_cons (lv 12) la_nil))) (le_tup (la_cons (lv 2) (la_cons (le_fz (ll_disp la_nil)) la_nil)))) (lps_one (lp_ret le_bl)) lps_nil)
    (lps_one (lp_ret (le_eqV hr.units (le_tup (la_cons (le_frz (le_meth0 (lv 1) T.cl_Loom T.mt_Loom_rows (ok_Loom_rows T B) (hr.mono (by decide)) T.q_Loom_rows)) (la_cons (le_frz (le_meth0 (lv 1) T.cl_Loom T.mt_Loom_road (ok_Loom_road T B) (hr.mono (by decide)) T.q_Loom_road)) (la_cons (le_frz (le_meth0 (lv 1) T.cl_Loom T.mt_Loom_states (ok_Loom_states T B) (hr.mono (by decide)) T.q_Loom_states)) (la_cons (le_fz (ll_lc (own := [("_law_hand", 4)]) (g := CTg.one 4) rfl sc_law.nd (li_range1 rfl T.b_range (la_cons (le_fld T.cl_Loom T.n_Loom_many (lv 1)) la_nil)) (blkOk_by (N := ["_law_script", "_law_loom_here", "_law_places", "_law_before", "_law_hand", "_law_one", "_law_other", "_law_first", "_law_second", "_law_both", "_law_whole", "_law_habits_here", "_law_sure"]) (sc := defScope s_law) (by decide +kernel)) (by decide) (fun _ _ _ _ _ => pg_name (i := 4) sc_law.nd rfl (Or.inl rfl)) (fun _ _ _ _ _ => lts_nil) (fun _ _ _ _ _ => (le_frz (le_meth (lv 1) T.cl_Loom T.mt_Loom_points (ok_Loom_points T B) (hr.mono (by decide)) T.q_Loom_points (la_cons (lv 4) la_nil)))))) la_nil))))) (lv 3)))))))))))))))))), fun vs s Q E h => ?_⟩)
  obtain ⟨ns, hns, rfl, hT, h⟩ := h
  simp_arith
  refine ⟨ns, rfl, hns, hT _ (List.mem_singleton.mpr rfl), fun s1 x L dv F n hl hg hn hz hhb h2 h5 o1 => ?_⟩
  simp_arith [hl.lm.hx, lmF]
  refine ⟨x, L, dv, F, n, rfl, hl.lm, hg.ok, fun q hq => fin_lst put_same hq (sub_put hq) ?_⟩
  simp_arith [hl.lm.hx, lmF]
  have seen : ∀ (Q : LV → LS → Prop) s (hl : IsLm A s x L dv F), Q (seenL L) s → True := fun _ _ _ _ => trivial
  have hpt : ∀ (i : Nat), i ∈ List.range ((L.ths.length : Int) - 0).toNat → ∃ t, L.ths[i]? = some t ∧ (ptsL L).getD i [] = t.points := fun i hi => by
    have hi2 : i < L.ths.length := by rw [List.mem_range] at hi; omega
    exact ⟨_, List.getElem?_eq_getElem hi2, ptsL_at (List.getElem?_eq_getElem hi2)⟩
  refine ⟨x, L, dv, F, n, rfl, hl.lm, hg.ok, by omega, fun q hq => fin_lst put_same hq (sub_put hq) ?_⟩
  simp_arith [hl.lm.hx, lmF]
  refine ⟨x, L, dv, F, n, rfl, hl.lm, hg.ok, by omega, fun q hq => fin_lst put_same hq (sub_put hq) ?_⟩
  simp_arith [hl.lm.hx, lmF]
  refine ⟨x, L, dv, F, n, rfl, hl.lm, hg.ok, by omega, fun q hq => fin_lst put_same hq (sub_put hq) ?_⟩
  simp_arith [hl.lm.hx, lmF]
  intro Da hD
  refine lc_map1 (α := Nat) (enc := fun i => LV.int (0 + (i : Nat))) hD (fun i => LV.lst (((ptsL L).getD i []).map .int)) (fun _ _ => trivial) (by rw [List.length_range]; omega) ?_ ?_
  · intro i hi s2 Y ex hY
    obtain ⟨t, et, ep⟩ := hpt i hi
    have hl2 := hl.lm.ext ex
    rw [ep] at hY
    rw [Int.zero_add]
    simp_arith [hl2.hx, lmF]
    refine ⟨x, L, dv, F, n, i, rfl, hl2, hg.ok, by omega, fun j t' e1 e2 q hq => fin_lst put_same hq (sub_put hq) ?_, fun no => (no ⟨by omega, by have := (List.getElem?_eq_some_iff.mp et).1; omega⟩).elim⟩
    have e1 : j = i := by omega
    subst e1
    rw [et] at e2
    cases e2
    exact hY
  rw [ptsL_rg]
  simp_arith
  refine ⟨ns, 4, rfl, by omega, by omega, hns, fun c4 hc4 => ?_⟩
  simp_arith [hl.lm.hx, lmF]
  refine ⟨c4, L.ths.length, rfl, by omega, by omega, fun fs hfl hfr => ?_⟩
  simp_arith
  refine ⟨ns, 5, rfl, by omega, by omega, hns, fun c5 hc5 => ?_⟩
  simp_arith [hl.lm.hx, lmF]
  refine ⟨c5, L.ths.length, rfl, by omega, by omega, fun gs hgl hgr0 => ?_⟩
  simp_arith
  have gfz : ∀ (a b : Addr) (line : List Int) (paper : List Nm), s1 a = none → s1 b = none → a ≠ b → put (put s1 a (.lst (line.map .int))) b (.lst (paper.map nmL)) a = some (.lst (line.map .int)) ∧ Sub s1 (put (put s1 a (.lst (line.map .int))) b (.lst (paper.map nmL))) := fun a b line paper ha hb nab =>
    ⟨by rw [put_ne nab, put_same], (sub_put ha).trans (sub_put (by rw [put_ne (Ne.symm nab)]; exact hb))⟩
  refine ⟨x, L, dv, F, n, _, fs, rfl, hl.lm, hg, by omega, rfl, by omega, fun a1 b1 l1 p1 g1 _ ha1 hb1 n1 => ?_⟩
  simp_arith
  refine fin_lst (gfz a1 b1 l1 p1 ha1 hb1 n1).1 ha1 (gfz a1 b1 l1 p1 ha1 hb1 n1).2 ?_
  simp_arith
  refine ⟨x, L, dv, F, n, _, gs, rfl, hl.lm, hg, by omega, rfl, by omega, fun a2 b2 l2 p2 g2 _ ha2 hb2 n2 => ?_⟩
  simp_arith
  refine fin_lst (gfz a2 b2 l2 p2 ha2 hb2 n2).1 ha2 (gfz a2 b2 l2 p2 ha2 hb2 n2).2 ?_
  simp_arith
  intro Da3 hD3
  have hda : datVs (fs.map LV.int) = some (fs.map Cod.den) := datVs_enc (α := Int) _
  have hsa : SeqAt.shaped (.list (fs.map Cod.den)) = true := shaped_cod (α := List Int) (by decide) _
  have hany : ∀ (l : List Int) (z : Int), ((l.map Cod.den).any fun y => PyData.eqv y (.int z)) = decide (z ∈ l) := fun l z => (any_cod (α := Int) _ _).trans (decide_eq_decide.mpr Iff.rfl)
  refine lc_pure (α := Int) (enc := LV.int) hD3 (fun z => !decide (z ∈ fs)) LV.int (fun _ _ => trivial) (by omega) ?_ ?_
  · intro z hz s2 Y N ex hY hN
    simp_arith [hda]
    refine ⟨⟨trivial, hsa⟩, ?_⟩
    rw [hany, Bool.true_xor]
    exact ⟨hY, hN⟩
  have hflt : (gs.filter fun z => !decide (z ∈ fs)).length ≤ gs.length := List.length_filter_le ..
  generalize hus : gs.filter (fun z => !decide (z ∈ fs)) = hs at hflt
  have hus2 : ∀ z : Int, z ∈ fs ++ hs ↔ z ∈ fs ∨ z ∈ gs := fun z => by
    rw [List.mem_append, ← hus, List.mem_filter]
    constructor
    · rintro (q | q)
      · exact .inl q
      · exact .inr q.1
    · rintro (q | q)
      · exact .inl q
      · by_cases zf : z ∈ fs
        · exact .inl zf
        · exact .inr ⟨q, by simpa using zf⟩
  simp_arith
  refine ⟨by rw [List.length_map, List.length_map]; omega, ?_⟩
  simp_arith
  refine ⟨x, L, dv, F, n, _, fs ++ hs, rfl, hl.lm, hg, by omega, by simp only [lineV, seqL, List.map_append], by rw [List.length_append]; omega, fun a3 b3 l3 p3 g3 _ ha3 hb3 n3 => ?_⟩
  simp_arith
  refine fin_lst (gfz a3 b3 l3 p3 ha3 hb3 n3).1 ha3 (gfz a3 b3 l3 p3 ha3 hb3 n3).2 ?_
  simp_arith [hl.lm.hx, lmF]
  have eal : rgL 0 (L.ths.length : Int) = (allH L.ths.length).map .int := by unfold allH rgL; rw [List.map_map, Int.sub_zero, Int.toNat_natCast]; rfl
  refine ⟨RgOk.of_le (by omega) (by omega) (by omega) (by omega), ?_⟩
  rw [eal]
  simp_arith
  refine ⟨x, L, dv, F, n, _, allH L.ths.length, rfl, hl.lm, hg, by omega, rfl, by simp [allH]; omega, fun a4 b4 l4 p4 g4 _ ha4 hb4 n4 => ?_⟩
  simp_arith
  refine fin_lst (gfz a4 b4 l4 p4 ha4 hb4 n4).1 ha4 (gfz a4 b4 l4 p4 ha4 hb4 n4).2 ?_
  simp_arith [hl.lm.hx, lmF]
  have htk := hg.tok
  have len : ∀ {us l : List Int} {p : List Nm}, IsGr L.ths us l p → l.length = L.ths.length := fun g => by rw [(g.allowed htk).len, alwS_len]
  have hlen1 := len g1
  have hlen2 := len g2
  have hlen3 := len g3
  have hlen4 := len g4
  refine lLoop_rg0 (fun i σ s' => ∃ v4, σ = [some (.scr ns), some (.ref x), some (.lst ((L.ths.map Th.here).map .int)), some (seenL L), v4, some (.lst (fs.map .int)), some (.lst (gs.map .int)), some (.lst (l1.map .int)), some (.lst (l2.map .int)), some (.lst (l3.map .int)), some (.lst (l4.map .int)), none, none] ∧ s' = s1) ⟨_, rfl, rfl⟩ (fun _ _ _ _ => trivial) ?_ ?_
  · rintro i σ s2 N hi ⟨v4, rfl, rfl⟩ hN
    have hi2 : i < L.ths.length := by omega
    have gt : ∀ (l : List Int), l.length = L.ths.length → (l.map LV.int)[i]? = some (.int (lnAt l i)) := fun l h => by rw [List.getElem?_map, get_lnAt (by omega)]; rfl
    have m1 := gr_min hg g1 g2 g3 hus2 i hi2
    have m2 := gr_less hg g3 g4 (fun j hj _ => allH_mem hj) i hi2
    have m3 := gr_here hg g1 i hi2
    have hpl : (L.ths.map Th.here).length = L.ths.length := by simp
    have hmi : (if lnAt l2 i < lnAt l1 i then lnAt l2 i else lnAt l1 i) = min (lnAt l1 i) (lnAt l2 i) := by
      by_cases z : lnAt l2 i < lnAt l1 i
      · rw [if_pos z]; omega
      · rw [if_neg z]; omega
    have gp : ((L.ths.map Th.here).map LV.int)[i]? = some (.int (lnAt (placesL L) i)) := gt _ hpl
    simp_arith
    rw [atI_nat (gt l3 hlen3)]
    simp_arith
    rw [atI_nat (gt l1 hlen1)]
    simp_arith
    rw [atI_nat (gt l2 hlen2)]
    simp_arith
    refine ifN (fun q => absurd (by rw [hmi]; exact m1) q) (fun _ => ?_)
    simp_arith
    rw [atI_nat (gt l4 hlen4)]
    simp_arith
    rw [atI_nat (gt l3 hlen3)]
    simp_arith
    refine ⟨fun q => absurd (of_decide_eq_true q) (by omega), fun _ => ?_⟩
    simp_arith
    rw [atI_nat (gt l1 hlen1)]
    simp_arith
    rw [atI_nat gp]
    simp_arith
    refine ⟨fun q => absurd (of_decide_eq_true q) (by omega), fun _ => ?_⟩
    simp_arith
    exact hN _ _ ⟨_, rfl, rfl⟩
  rintro σ s2 ⟨v4, rfl, hs2⟩
  subst hs2
  simp_arith
  refine ⟨x, L, dv, F, n, _, [], rfl, hl.lm, hg, by omega, rfl, by simp, fun a5 b5 l5 p5 g5 _ ha5 hb5 n5 => ?_⟩
  obtain rfl : l5 = placesL L := each_line hg hhb g5 (by simp)
  obtain rfl : p5 = [] := gr_none hg g5
  have o5 : Own [] [] s2 (put (put s2 a5 (.lst ((placesL L).map .int))) b5 (.lst (([] : List Nm).map nmL))) := (own_fresh ha5).trans (own_fresh (by rw [put_ne (Ne.symm n5)]; exact hb5))
  have ea5 : put (put s2 a5 (.lst ((placesL L).map .int))) b5 (.lst (([] : List Nm).map nmL)) a5 = some (.lst ((placesL L).map .int)) := by rw [put_ne n5, put_same]
  have eb5 : put (put s2 a5 (.lst ((placesL L).map .int))) b5 (.lst (([] : List Nm).map nmL)) b5 = some (.lst (([] : List Nm).map nmL)) := put_same
  generalize put (put s2 a5 (.lst ((placesL L).map .int))) b5 (.lst (([] : List Nm).map nmL)) = s5 at o5 ea5 eb5 ⊢
  have hsp : SeqAt.shaped (Cod.den (placesL L, ([] : List Nm))) = true := shaped_cod (α := List Int × List Nm) (by decide) _
  have hi1 : Isd s5 (Cod.den (placesL L, ([] : List Nm))) (.tup [.ref a5, .ref b5]) := isd_t2 (isd_lst ea5) (isd_lst eb5)
  have hi2 : Isd s5 (Cod.den (placesL L, ([] : List Nm))) (.tup [.lst ((L.ths.map Th.here).map .int), .lst []]) := isd_t2 (isd_enc s5 (placesL L)) (isd_enc s5 ([] : List Nm))
  simp_arith
  refine ⟨_, _, hi1, hi2, hsp, hsp, ?_⟩
  rw [eqv_cod]
  refine ifF (by simp) ?_
  have hl5 := hl.lm.own o5 (by simp)
  simp_arith
  refine ⟨ns, 1, rfl, by omega, by omega, hns, fun c1 hc1 => ?_⟩
  simp_arith [hl5.hx, lmF]
  refine ⟨L.ths.length, c1, rfl, by omega, fun hba hhba => ?_⟩
  have oh : Own [] [] s5 (put s5 hba (.lst ((habs2 L.ths.length c1).map (hbL A)))) := own_fresh hhba
  have ehb : put s5 hba (.lst ((habs2 L.ths.length c1).map (hbL A))) hba = some (.lst ((habs2 L.ths.length c1).map (hbL A))) := put_same
  generalize put s5 hba (.lst ((habs2 L.ths.length c1).map (hbL A))) = s6 at oh ehb ⊢
  have hl6 := hl5.own oh (by simp)
  have ehl : (habs2 L.ths.length c1).length = L.ths.length := by simp [habs2]
  rw [show cellAt ns 1 = c1 from hc1.symm] at hhb
  generalize habs2 L.ths.length c1 = hbs at ehb ehl hhb
  simp_arith [hl6.hx, lmF]
  intro Dc hDc
  refine lc_pure (α := Nat) (enc := fun i => LV.int (0 + (i : Nat))) hDc (fun i => decide (hbs[i]? = some .each)) (fun i => LV.int (0 + (i : Nat))) (fun _ _ => trivial) (by rw [List.length_range]; omega) ?_ ?_
  · intro i hi s' Y N ex hY hN
    have hi2 : i < L.ths.length := by rw [List.mem_range] at hi; omega
    obtain ⟨hb, ehb2⟩ : ∃ hb, hbs[i]? = some hb := ⟨_, List.getElem?_eq_getElem (by omega)⟩
    have ekt : InsC K (hbC A hb) ∧ PySem.W.kitOne K (.ref (hbC A hb)) (.ref A.c_Each) = some (decide (hb = .each)) := by
      cases hb
      · exact ⟨T.in_Never, T.kt_Never_Each⟩
      · exact ⟨T.in_Each, T.kt_Each_Each⟩
      · exact ⟨T.in_Bundle, T.kt_Bundle_Each⟩
    rw [Int.zero_add] at hY ⊢
    have ehm : (hbs.map (hbL A))[i]? = some (hbL A hb) := by rw [List.getElem?_map, ehb2]; rfl
    simp_arith [ex _ _ ehb]
    rw [atI_nat ehm]
    simp_arith
    refine ⟨fun C e => by cases e; exact ekt.1, _, ekt.2, ?_⟩
    simp_arith
    have ez : decide ((some hb : Option Hb) = some .each) = decide (hb = .each) := by simp
    rw [ehb2, ez] at hY hN
    exact ⟨hY, hN⟩
  obtain ⟨sure, hsure⟩ : ∃ sure : List Int, sure = ((List.range ((L.ths.length : Int) - 0).toNat).filter fun i => decide (hbs[i]? = some .each)).map fun i : Nat => (0 : Int) + (i : Nat) := ⟨_, rfl⟩
  have esure : ((List.range ((L.ths.length : Int) - 0).toNat).filter fun i => decide (hbs[i]? = some .each)).map (fun i : Nat => LV.int (0 + (i : Nat))) = sure.map .int := by rw [hsure, List.map_map]; rfl
  have hsl : sure.length < 1000 := by
    rw [hsure, List.length_map]
    have := List.length_filter_le (fun i => decide (hbs[i]? = some .each)) (List.range ((L.ths.length : Int) - 0).toNat)
    rw [List.length_range] at this
    omega
  have hse : ∀ f ∈ sure, ∀ i : Nat, f = (i : Int) → hbs[i]? = some .each := fun f hf i e => by
    rw [hsure] at hf
    obtain ⟨j, hj, rfl⟩ := List.mem_map.mp hf
    have h1 := of_decide_eq_true (List.mem_filter.mp hj).2
    have : j = i := by omega
    rw [← this]
    exact h1
  rw [esure]
  simp_arith
  refine ⟨x, L, dv, F, n, _, sure, rfl, hl6, hg, by omega, rfl, hsl, fun a7 b7 l7 p7 g7 _ ha7 hb7 n7 => ?_⟩
  obtain rfl : l7 = placesL L := each_line hg hhb g7 hse
  obtain rfl : p7 = [] := gr_none hg g7
  have o7 : Own [] [] s6 (put (put s6 a7 (.lst ((placesL L).map .int))) b7 (.lst (([] : List Nm).map nmL))) := (own_fresh ha7).trans (own_fresh (by rw [put_ne (Ne.symm n7)]; exact hb7))
  have ea7 : put (put s6 a7 (.lst ((placesL L).map .int))) b7 (.lst (([] : List Nm).map nmL)) a7 = some (.lst ((placesL L).map .int)) := by rw [put_ne n7, put_same]
  have eb7 : put (put s6 a7 (.lst ((placesL L).map .int))) b7 (.lst (([] : List Nm).map nmL)) b7 = some (.lst (([] : List Nm).map nmL)) := put_same
  generalize put (put s6 a7 (.lst ((placesL L).map .int))) b7 (.lst (([] : List Nm).map nmL)) = s7 at o7 ea7 eb7 ⊢
  have hi3 : Isd s7 (Cod.den (placesL L, ([] : List Nm))) (.tup [.ref a7, .ref b7]) := isd_t2 (isd_lst ea7) (isd_lst eb7)
  have hi4 : Isd s7 (Cod.den (placesL L, ([] : List Nm))) (.tup [.lst ((L.ths.map Th.here).map .int), .lst []]) := isd_t2 (isd_enc s7 (placesL L)) (isd_enc s7 ([] : List Nm))
  simp_arith
  refine ⟨_, _, hi3, hi4, hsp, hsp, ?_⟩
  rw [eqv_cod]
  refine ifF (by simp) ?_
  have hl7 := hl6.own o7 (by simp)
  simp_arith [hl7.hx, lmF]
  refine ⟨x, L, dv, F, n, rfl, hl7, hg.ok, by omega, fun q hq => fin_lst put_same hq (sub_put hq) ?_⟩
  simp_arith [hl7.hx, lmF]
  refine ⟨x, L, dv, F, n, rfl, hl7, hg.ok, by omega, fun q hq => fin_lst put_same hq (sub_put hq) ?_⟩
  simp_arith [hl7.hx, lmF]
  refine ⟨x, L, dv, F, n, rfl, hl7, hg.ok, by omega, fun q hq => fin_lst put_same hq (sub_put hq) ?_⟩
  simp_arith [hl7.hx, lmF]
  intro De hDe
  refine lc_map1 (α := Nat) (enc := fun i => LV.int (0 + (i : Nat))) hDe (fun i => LV.lst (((ptsL L).getD i []).map .int)) (fun _ _ => trivial) (by rw [List.length_range]; omega) ?_ ?_
  · intro i hi s2 Y ex hY
    obtain ⟨t, et, ep⟩ := hpt i hi
    have hl2 := hl7.ext ex
    rw [ep] at hY
    rw [Int.zero_add]
    simp_arith [hl2.hx, lmF]
    refine ⟨x, L, dv, F, n, i, rfl, hl2, hg.ok, by omega, fun j t' e1 e2 q hq => fin_lst put_same hq (sub_put hq) ?_, fun no => (no ⟨by omega, by have := (List.getElem?_eq_some_iff.mp et).1; omega⟩).elim⟩
    have e1 : j = i := by omega
    subst e1
    rw [et] at e2
    cases e2
    exact hY
  rw [ptsL_rg]
  have hds : dat s7 (seenL L) = some (Cod.den (T4.mk (L.done.map (·.1)) L.road (L.ths.map Th.cur) (ptsL L))) := by
    have := den_enc (α := T4 (List Row) (List Nm) (List Int) (List (List Int))) s7 (T4.mk (L.done.map (·.1)) L.road (L.ths.map Th.cur) (ptsL L))
    have e : Cod.enc (T4.mk (L.done.map (·.1)) L.road (L.ths.map Th.cur) (ptsL L)) = seenL L := by
      show LV.tup [.lst ((L.done.map (·.1)).map rowL), _, _, _] = _
      rw [List.map_map]
      rfl
    rw [e] at this
    exact this
  have hss : SeqAt.shaped (Cod.den (T4.mk (L.done.map (·.1)) L.road (L.ths.map Th.cur) (ptsL L))) = true := shaped_cod (α := T4 (List Row) (List Nm) (List Int) (List (List Int))) (by decide) _
  have eseen : LV.tup [.lst (L.done.map fun p => rowL p.1), .lst (L.road.map nmL), .lst ((L.ths.map Th.cur).map .int), .lst ((ptsL L).map fun l => LV.lst (l.map .int))] = seenL L := rfl
  simp_arith
  rw [eseen, hds]
  simp_arith
  refine ⟨⟨hss, hss⟩, ?_⟩
  rw [eqv_cod]
  have ebt : ∀ z : T4 (List Row) (List Nm) (List Int) (List (List Int)), (false ^^ decide (z = z)) = true := fun z => by simp
  rw [ebt]
  exact fin ((((own_sub (by simp) o1).trans (own_sub (by simp) o5)).trans (own_sub (by simp) oh)).trans (own_sub (by simp) o7)) h
end
end Law

namespace Law
open PySem PySem.Spec L2 L3
local macro_rules
  | `(tactic| simp_arith) => `(tactic| ((conv => whnf); repeat ((first | with_reducible refine ifTT ?_ | with_reducible refine ifFF ?_ | with_reducible refine ifnT ?_ | with_reducible refine ifnF ?_ | with_reducible refine ifTr ?_ | with_reducible refine ifFr ?_ | (with_reducible refine And.intro ?_ ?_; · (first | with_reducible rfl | with_reducible exact ⟨rfl, rfl⟩ | decide | omega | (dsimp only; decide) | (dsimp only; omega) | (unfold CDiv; omega) | (unfold CPow; decide) | (unfold CMul; omega) | (simp only [List.length_cons, List.length_nil]; omega)))); conv => whnf)))
local macro_rules
  | `(tactic| simp_arith [$ls,*]) => `(tactic| ((conv => whnf); repeat ((first | with_reducible refine ifTT ?_ | with_reducible refine ifFF ?_ | with_reducible refine ifnT ?_ | with_reducible refine ifnF ?_ | with_reducible refine ifTr ?_ | with_reducible refine ifFr ?_ | (with_reducible refine And.intro ?_ ?_; · (first | with_reducible rfl | with_reducible exact ⟨rfl, rfl⟩ | decide | omega | (dsimp only; decide) | (dsimp only; omega) | (unfold CDiv; omega) | (unfold CPow; decide) | (unfold CMul; omega) | (simp only [List.length_cons, List.length_nil]; omega) | (simp only [Option.isSome_some]; done) | (simp only [meth_ref, put_same', seqL_ref, $ls,*]; first | done | exact ⟨rfl, rfl⟩ | exact ⟨trivial, rfl⟩ | rfl))) | (simp (decide := true) only [put_same', put_put, decF, decT, Bool.not_true, Bool.not_false, putL_nil, putL_cons, if_true, if_false, seqR_ref, seqL_ref, lenL_ref, dicK_ref, dicT_ref, dat_ref, dat_non, dat_bl, dat_int, dat_str, dat_lst, dat_tup, datV_non, datV_bl, datV_int, datV_str, datV_lst, datV_tup, datVs_nil, datVs_cons, tyAt_ref, opt_some, Option.map_some, Option.bind_some, dv_ints, dv_bls, dv_nms, dv_prs, dv_nm, dt_nm, dt_pr, dv_pr, sh_int, sh_bl, sh_none, sh_nil, eqv_nil, sh_ints, sh_bls, sh_nm, sh_nms, sh_pr, sh_prs, anyI, anyN, anyP, eqv_int, eqv_bl, eqv_ints, eqv_bls, eqv_nms, eqv_prs, eqv_nm, eqv_pr, $ls,*])); conv => whnf)))

theorem all_mk {P : Program} {w : World} {K : PySem.W.Frag} {h : Heap} {mg : Str → Option Value} {fa : Addr} (X : K.In h) (G : h.Ns mainGlobals mg) (hfa : mg "law" = some (.ref fa))
    {c_Habit c_Never c_Each c_Bundle c_Event c_Thread c_Loom c_NoSize c_NoPoint c_NoHand c_NoLetter f_broken_by f_allowed_points f_point_ahead f_greatest_line f_Habit_writes_events f_Habit_piled_up f_Each_writes_events f_Each_piled_up f_Bundle_init f_Bundle_writes_events f_Bundle_piled_up f_Event_init f_Thread_init f_Thread_here f_Thread_events f_Thread_do f_Thread_write f_Thread_points f_Thread_state_at f_Loom_init f_Loom_thread_of f_Loom_add f_Loom_own f_Loom_use f_Loom_write f_Loom_places f_Loom_states f_Loom_letters_sent f_Loom_letters_used f_Loom_road f_Loom_points f_Loom_rows f_law_cell_at f_law_digit f_law_led f_law_habits f_law_deeds f_law_woven f_law_loom f_law_fallen f_law t_law_loom p_law_loom : Addr}
    {oV_broken_by kV_broken_by dV_broken_by pV_broken_by cV_broken_by tV_broken_by : Value}
    {oA_broken_by aA_broken_by : Option Addr}
    {sl_broken_by : Array (Option Value)}
    {oV_allowed_points kV_allowed_points dV_allowed_points pV_allowed_points cV_allowed_points tV_allowed_points : Value}
    {oA_allowed_points aA_allowed_points : Option Addr}
    {sl_allowed_points : Array (Option Value)}
    {oV_point_ahead kV_point_ahead dV_point_ahead pV_point_ahead cV_point_ahead tV_point_ahead : Value}
    {oA_point_ahead aA_point_ahead : Option Addr}
    {sl_point_ahead : Array (Option Value)}
    {oV_greatest_line kV_greatest_line dV_greatest_line pV_greatest_line cV_greatest_line tV_greatest_line : Value}
    {oA_greatest_line aA_greatest_line : Option Addr}
    {sl_greatest_line : Array (Option Value)}
    {oV_Habit_writes_events kV_Habit_writes_events dV_Habit_writes_events pV_Habit_writes_events cV_Habit_writes_events tV_Habit_writes_events : Value}
    {oA_Habit_writes_events aA_Habit_writes_events : Option Addr}
    {sl_Habit_writes_events : Array (Option Value)}
    {oV_Habit_piled_up kV_Habit_piled_up dV_Habit_piled_up pV_Habit_piled_up cV_Habit_piled_up tV_Habit_piled_up : Value}
    {oA_Habit_piled_up aA_Habit_piled_up : Option Addr}
    {sl_Habit_piled_up : Array (Option Value)}
    {oV_Each_writes_events kV_Each_writes_events dV_Each_writes_events pV_Each_writes_events cV_Each_writes_events tV_Each_writes_events : Value}
    {oA_Each_writes_events aA_Each_writes_events : Option Addr}
    {sl_Each_writes_events : Array (Option Value)}
    {oV_Each_piled_up kV_Each_piled_up dV_Each_piled_up pV_Each_piled_up cV_Each_piled_up tV_Each_piled_up : Value}
    {oA_Each_piled_up aA_Each_piled_up : Option Addr}
    {sl_Each_piled_up : Array (Option Value)}
    {oV_Bundle_init kV_Bundle_init dV_Bundle_init pV_Bundle_init cV_Bundle_init tV_Bundle_init : Value}
    {oA_Bundle_init aA_Bundle_init : Option Addr}
    {sl_Bundle_init : Array (Option Value)}
    {oV_Bundle_writes_events kV_Bundle_writes_events dV_Bundle_writes_events pV_Bundle_writes_events cV_Bundle_writes_events tV_Bundle_writes_events : Value}
    {oA_Bundle_writes_events aA_Bundle_writes_events : Option Addr}
    {sl_Bundle_writes_events : Array (Option Value)}
    {oV_Bundle_piled_up kV_Bundle_piled_up dV_Bundle_piled_up pV_Bundle_piled_up cV_Bundle_piled_up tV_Bundle_piled_up : Value}
    {oA_Bundle_piled_up aA_Bundle_piled_up : Option Addr}
    {sl_Bundle_piled_up : Array (Option Value)}
    {oV_Event_init kV_Event_init dV_Event_init pV_Event_init cV_Event_init tV_Event_init : Value}
    {oA_Event_init aA_Event_init : Option Addr}
    {sl_Event_init : Array (Option Value)}
    {oV_Thread_init kV_Thread_init dV_Thread_init pV_Thread_init cV_Thread_init tV_Thread_init : Value}
    {oA_Thread_init aA_Thread_init : Option Addr}
    {sl_Thread_init : Array (Option Value)}
    {oV_Thread_here kV_Thread_here dV_Thread_here pV_Thread_here cV_Thread_here tV_Thread_here : Value}
    {oA_Thread_here aA_Thread_here : Option Addr}
    {sl_Thread_here : Array (Option Value)}
    {oV_Thread_events kV_Thread_events dV_Thread_events pV_Thread_events cV_Thread_events tV_Thread_events : Value}
    {oA_Thread_events aA_Thread_events : Option Addr}
    {sl_Thread_events : Array (Option Value)}
    {oV_Thread_do kV_Thread_do dV_Thread_do pV_Thread_do cV_Thread_do tV_Thread_do : Value}
    {oA_Thread_do aA_Thread_do : Option Addr}
    {sl_Thread_do : Array (Option Value)}
    {oV_Thread_write kV_Thread_write dV_Thread_write pV_Thread_write cV_Thread_write tV_Thread_write : Value}
    {oA_Thread_write aA_Thread_write : Option Addr}
    {sl_Thread_write : Array (Option Value)}
    {oV_Thread_points kV_Thread_points dV_Thread_points pV_Thread_points cV_Thread_points tV_Thread_points : Value}
    {oA_Thread_points aA_Thread_points : Option Addr}
    {sl_Thread_points : Array (Option Value)}
    {oV_Thread_state_at kV_Thread_state_at dV_Thread_state_at pV_Thread_state_at cV_Thread_state_at tV_Thread_state_at : Value}
    {oA_Thread_state_at aA_Thread_state_at : Option Addr}
    {sl_Thread_state_at : Array (Option Value)}
    {oV_Loom_init kV_Loom_init dV_Loom_init pV_Loom_init cV_Loom_init tV_Loom_init : Value}
    {oA_Loom_init aA_Loom_init : Option Addr}
    {sl_Loom_init : Array (Option Value)}
    {oV_Loom_thread_of kV_Loom_thread_of dV_Loom_thread_of pV_Loom_thread_of cV_Loom_thread_of tV_Loom_thread_of : Value}
    {oA_Loom_thread_of aA_Loom_thread_of : Option Addr}
    {sl_Loom_thread_of : Array (Option Value)}
    {oV_Loom_add kV_Loom_add dV_Loom_add pV_Loom_add cV_Loom_add tV_Loom_add : Value}
    {oA_Loom_add aA_Loom_add : Option Addr}
    {sl_Loom_add : Array (Option Value)}
    {oV_Loom_own kV_Loom_own dV_Loom_own pV_Loom_own cV_Loom_own tV_Loom_own : Value}
    {oA_Loom_own aA_Loom_own : Option Addr}
    {sl_Loom_own : Array (Option Value)}
    {oV_Loom_use kV_Loom_use dV_Loom_use pV_Loom_use cV_Loom_use tV_Loom_use : Value}
    {oA_Loom_use aA_Loom_use : Option Addr}
    {sl_Loom_use : Array (Option Value)}
    {oV_Loom_write kV_Loom_write dV_Loom_write pV_Loom_write cV_Loom_write tV_Loom_write : Value}
    {oA_Loom_write aA_Loom_write : Option Addr}
    {sl_Loom_write : Array (Option Value)}
    {oV_Loom_places kV_Loom_places dV_Loom_places pV_Loom_places cV_Loom_places tV_Loom_places : Value}
    {oA_Loom_places aA_Loom_places : Option Addr}
    {sl_Loom_places : Array (Option Value)}
    {oV_Loom_states kV_Loom_states dV_Loom_states pV_Loom_states cV_Loom_states tV_Loom_states : Value}
    {oA_Loom_states aA_Loom_states : Option Addr}
    {sl_Loom_states : Array (Option Value)}
    {oV_Loom_letters_sent kV_Loom_letters_sent dV_Loom_letters_sent pV_Loom_letters_sent cV_Loom_letters_sent tV_Loom_letters_sent : Value}
    {oA_Loom_letters_sent aA_Loom_letters_sent : Option Addr}
    {sl_Loom_letters_sent : Array (Option Value)}
    {oV_Loom_letters_used kV_Loom_letters_used dV_Loom_letters_used pV_Loom_letters_used cV_Loom_letters_used tV_Loom_letters_used : Value}
    {oA_Loom_letters_used aA_Loom_letters_used : Option Addr}
    {sl_Loom_letters_used : Array (Option Value)}
    {oV_Loom_road kV_Loom_road dV_Loom_road pV_Loom_road cV_Loom_road tV_Loom_road : Value}
    {oA_Loom_road aA_Loom_road : Option Addr}
    {sl_Loom_road : Array (Option Value)}
    {oV_Loom_points kV_Loom_points dV_Loom_points pV_Loom_points cV_Loom_points tV_Loom_points : Value}
    {oA_Loom_points aA_Loom_points : Option Addr}
    {sl_Loom_points : Array (Option Value)}
    {oV_Loom_rows kV_Loom_rows dV_Loom_rows pV_Loom_rows cV_Loom_rows tV_Loom_rows : Value}
    {oA_Loom_rows aA_Loom_rows : Option Addr}
    {sl_Loom_rows : Array (Option Value)}
    {oV_law_cell_at kV_law_cell_at dV_law_cell_at pV_law_cell_at cV_law_cell_at tV_law_cell_at : Value}
    {oA_law_cell_at aA_law_cell_at : Option Addr}
    {sl_law_cell_at : Array (Option Value)}
    {oV_law_digit kV_law_digit dV_law_digit pV_law_digit cV_law_digit tV_law_digit : Value}
    {oA_law_digit aA_law_digit : Option Addr}
    {sl_law_digit : Array (Option Value)}
    {oV_law_led kV_law_led dV_law_led pV_law_led cV_law_led tV_law_led : Value}
    {oA_law_led aA_law_led : Option Addr}
    {sl_law_led : Array (Option Value)}
    {oV_law_habits kV_law_habits dV_law_habits pV_law_habits cV_law_habits tV_law_habits : Value}
    {oA_law_habits aA_law_habits : Option Addr}
    {sl_law_habits : Array (Option Value)}
    {oV_law_deeds kV_law_deeds dV_law_deeds pV_law_deeds cV_law_deeds tV_law_deeds : Value}
    {oA_law_deeds aA_law_deeds : Option Addr}
    {sl_law_deeds : Array (Option Value)}
    {oV_law_woven kV_law_woven dV_law_woven pV_law_woven cV_law_woven tV_law_woven : Value}
    {oA_law_woven aA_law_woven : Option Addr}
    {sl_law_woven : Array (Option Value)}
    {oV_law_loom kV_law_loom dV_law_loom pV_law_loom tV_law_loom : Value}
    {oA_law_loom aA_law_loom : Option Addr}
    {sl_law_loom : Array (Option Value)}
    {oV_law_fallen kV_law_fallen dV_law_fallen pV_law_fallen cV_law_fallen tV_law_fallen : Value}
    {oA_law_fallen aA_law_fallen : Option Addr}
    {sl_law_fallen : Array (Option Value)}
    {oV_law kV_law dV_law pV_law cV_law tV_law : Value}
    {oA_law aA_law : Option Addr}
    {sl_law : Array (Option Value)}
    (a_NoSize : PySem.W.nsIn K mainGlobals "NoSize" = some (some (.ref c_NoSize)))
    (a_NoPoint : PySem.W.nsIn K mainGlobals "NoPoint" = some (some (.ref c_NoPoint)))
    (a_NoHand : PySem.W.nsIn K mainGlobals "NoHand" = some (some (.ref c_NoHand)))
    (a_NoLetter : PySem.W.nsIn K mainGlobals "NoLetter" = some (some (.ref c_NoLetter)))
    (a_Habit : PySem.W.nsIn K mainGlobals "Habit" = some (some (.ref c_Habit)))
    (a_Never : PySem.W.nsIn K mainGlobals "Never" = some (some (.ref c_Never)))
    (a_Each : PySem.W.nsIn K mainGlobals "Each" = some (some (.ref c_Each)))
    (a_Bundle : PySem.W.nsIn K mainGlobals "Bundle" = some (some (.ref c_Bundle)))
    (a_Event : PySem.W.nsIn K mainGlobals "Event" = some (some (.ref c_Event)))
    (a_Thread : PySem.W.nsIn K mainGlobals "Thread" = some (some (.ref c_Thread)))
    (a_Loom : PySem.W.nsIn K mainGlobals "Loom" = some (some (.ref c_Loom)))
    (a_law : PySem.W.nsIn K mainGlobals "law" = some (some (.ref f_law)))
    (a_law_fallen : PySem.W.nsIn K mainGlobals "_law_fallen" = some (some (.ref f_law_fallen)))
    (a_law_loom : PySem.W.nsIn K mainGlobals "_law_loom" = some (some (.ref f_law_loom)))
    (a_law_woven : PySem.W.nsIn K mainGlobals "_law_woven" = some (some (.ref f_law_woven)))
    (a_law_deeds : PySem.W.nsIn K mainGlobals "_law_deeds" = some (some (.ref f_law_deeds)))
    (a_law_habits : PySem.W.nsIn K mainGlobals "_law_habits" = some (some (.ref f_law_habits)))
    (a_law_led : PySem.W.nsIn K mainGlobals "_law_led" = some (some (.ref f_law_led)))
    (a_law_digit : PySem.W.nsIn K mainGlobals "_law_digit" = some (some (.ref f_law_digit)))
    (a_law_cell_at : PySem.W.nsIn K mainGlobals "_law_cell_at" = some (some (.ref f_law_cell_at)))
    (a_Loom_rows : PySem.W.findIn K (.ref c_Loom) "rows" = some (some (.ref f_Loom_rows)))
    (a_Loom_points : PySem.W.findIn K (.ref c_Loom) "points" = some (some (.ref f_Loom_points)))
    (a_Loom_road : PySem.W.findIn K (.ref c_Loom) "road" = some (some (.ref f_Loom_road)))
    (a_Loom_letters_used : PySem.W.findIn K (.ref c_Loom) "letters_used" = some (some (.ref f_Loom_letters_used)))
    (a_Loom_letters_sent : PySem.W.findIn K (.ref c_Loom) "letters_sent" = some (some (.ref f_Loom_letters_sent)))
    (a_Loom_states : PySem.W.findIn K (.ref c_Loom) "states" = some (some (.ref f_Loom_states)))
    (a_Loom_places : PySem.W.findIn K (.ref c_Loom) "places" = some (some (.ref f_Loom_places)))
    (a_Loom_write : PySem.W.findIn K (.ref c_Loom) "write" = some (some (.ref f_Loom_write)))
    (a_Loom_use : PySem.W.findIn K (.ref c_Loom) "use" = some (some (.ref f_Loom_use)))
    (a_Loom_own : PySem.W.findIn K (.ref c_Loom) "own" = some (some (.ref f_Loom_own)))
    (a_Loom_add : PySem.W.findIn K (.ref c_Loom) "add" = some (some (.ref f_Loom_add)))
    (a_Loom_thread_of : PySem.W.findIn K (.ref c_Loom) "thread_of" = some (some (.ref f_Loom_thread_of)))
    (a_Loom_init : PySem.W.findIn K (.ref c_Loom) "__init__" = some (some (.ref f_Loom_init)))
    (a_Thread_state_at : PySem.W.findIn K (.ref c_Thread) "state_at" = some (some (.ref f_Thread_state_at)))
    (a_Thread_points : PySem.W.findIn K (.ref c_Thread) "points" = some (some (.ref f_Thread_points)))
    (a_Thread_write : PySem.W.findIn K (.ref c_Thread) "write" = some (some (.ref f_Thread_write)))
    (a_Thread_do : PySem.W.findIn K (.ref c_Thread) "do" = some (some (.ref f_Thread_do)))
    (a_Thread_events : PySem.W.findIn K (.ref c_Thread) "events" = some (some (.ref f_Thread_events)))
    (a_Thread_here : PySem.W.findIn K (.ref c_Thread) "here" = some (some (.ref f_Thread_here)))
    (a_Thread_init : PySem.W.findIn K (.ref c_Thread) "__init__" = some (some (.ref f_Thread_init)))
    (a_Event_init : PySem.W.findIn K (.ref c_Event) "__init__" = some (some (.ref f_Event_init)))
    (a_Bundle_piled_up : PySem.W.findIn K (.ref c_Bundle) "piled_up" = some (some (.ref f_Bundle_piled_up)))
    (a_Bundle_writes_events : PySem.W.findIn K (.ref c_Bundle) "writes_events" = some (some (.ref f_Bundle_writes_events)))
    (a_Bundle_init : PySem.W.findIn K (.ref c_Bundle) "__init__" = some (some (.ref f_Bundle_init)))
    (a_Each_piled_up : PySem.W.findIn K (.ref c_Each) "piled_up" = some (some (.ref f_Each_piled_up)))
    (a_Each_writes_events : PySem.W.findIn K (.ref c_Each) "writes_events" = some (some (.ref f_Each_writes_events)))
    (a_Habit_piled_up : PySem.W.findIn K (.ref c_Habit) "piled_up" = some (some (.ref f_Habit_piled_up)))
    (a_Habit_writes_events : PySem.W.findIn K (.ref c_Habit) "writes_events" = some (some (.ref f_Habit_writes_events)))
    (a_greatest_line : PySem.W.nsIn K mainGlobals "greatest_line" = some (some (.ref f_greatest_line)))
    (a_point_ahead : PySem.W.nsIn K mainGlobals "point_ahead" = some (some (.ref f_point_ahead)))
    (a_allowed_points : PySem.W.nsIn K mainGlobals "allowed_points" = some (some (.ref f_allowed_points)))
    (a_broken_by : PySem.W.nsIn K mainGlobals "broken_by" = some (some (.ref f_broken_by)))
    (l_broken_by : K.lookup f_broken_by = some ⟨oV_broken_by, oA_broken_by, .func (PySem.W.fnOf "broken_by" "broken_by" (defArgs s_broken_by) (defBody s_broken_by) (defScope s_broken_by) .none kV_broken_by dV_broken_by pV_broken_by aA_broken_by cV_broken_by tV_broken_by), sl_broken_by⟩)
    (c_broken_by : PySem.W.codeIn K cV_broken_by "broken_by" = true)
    (k_broken_by : PySem.W.keepIn K (.ref f_broken_by) = true)
    (l_allowed_points : K.lookup f_allowed_points = some ⟨oV_allowed_points, oA_allowed_points, .func (PySem.W.fnOf "allowed_points" "allowed_points" (defArgs s_allowed_points) (defBody s_allowed_points) (defScope s_allowed_points) .none kV_allowed_points dV_allowed_points pV_allowed_points aA_allowed_points cV_allowed_points tV_allowed_points), sl_allowed_points⟩)
    (c_allowed_points : PySem.W.codeIn K cV_allowed_points "allowed_points" = true)
    (k_allowed_points : PySem.W.keepIn K (.ref f_allowed_points) = true)
    (l_point_ahead : K.lookup f_point_ahead = some ⟨oV_point_ahead, oA_point_ahead, .func (PySem.W.fnOf "point_ahead" "point_ahead" (defArgs s_point_ahead) (defBody s_point_ahead) (defScope s_point_ahead) .none kV_point_ahead dV_point_ahead pV_point_ahead aA_point_ahead cV_point_ahead tV_point_ahead), sl_point_ahead⟩)
    (c_point_ahead : PySem.W.codeIn K cV_point_ahead "point_ahead" = true)
    (k_point_ahead : PySem.W.keepIn K (.ref f_point_ahead) = true)
    (l_greatest_line : K.lookup f_greatest_line = some ⟨oV_greatest_line, oA_greatest_line, .func (PySem.W.fnOf "greatest_line" "greatest_line" (defArgs s_greatest_line) (defBody s_greatest_line) (defScope s_greatest_line) .none kV_greatest_line dV_greatest_line pV_greatest_line aA_greatest_line cV_greatest_line tV_greatest_line), sl_greatest_line⟩)
    (c_greatest_line : PySem.W.codeIn K cV_greatest_line "greatest_line" = true)
    (k_greatest_line : PySem.W.keepIn K (.ref f_greatest_line) = true)
    (l_Habit_writes_events : K.lookup f_Habit_writes_events = some ⟨oV_Habit_writes_events, oA_Habit_writes_events, .func (PySem.W.fnOf "writes_events" "Habit.writes_events" (defArgs s_Habit_writes_events) (defBody s_Habit_writes_events) (defScope s_Habit_writes_events) .none kV_Habit_writes_events dV_Habit_writes_events pV_Habit_writes_events aA_Habit_writes_events cV_Habit_writes_events tV_Habit_writes_events), sl_Habit_writes_events⟩)
    (c_Habit_writes_events : PySem.W.codeIn K cV_Habit_writes_events "Habit.writes_events" = true)
    (k_Habit_writes_events : PySem.W.keepIn K (.ref f_Habit_writes_events) = true)
    (i_Habit_writes_events : PySem.W.isFn K (.ref f_Habit_writes_events) = true)
    (l_Habit_piled_up : K.lookup f_Habit_piled_up = some ⟨oV_Habit_piled_up, oA_Habit_piled_up, .func (PySem.W.fnOf "piled_up" "Habit.piled_up" (defArgs s_Habit_piled_up) (defBody s_Habit_piled_up) (defScope s_Habit_piled_up) .none kV_Habit_piled_up dV_Habit_piled_up pV_Habit_piled_up aA_Habit_piled_up cV_Habit_piled_up tV_Habit_piled_up), sl_Habit_piled_up⟩)
    (c_Habit_piled_up : PySem.W.codeIn K cV_Habit_piled_up "Habit.piled_up" = true)
    (k_Habit_piled_up : PySem.W.keepIn K (.ref f_Habit_piled_up) = true)
    (i_Habit_piled_up : PySem.W.isFn K (.ref f_Habit_piled_up) = true)
    (l_Each_writes_events : K.lookup f_Each_writes_events = some ⟨oV_Each_writes_events, oA_Each_writes_events, .func (PySem.W.fnOf "writes_events" "Each.writes_events" (defArgs s_Each_writes_events) (defBody s_Each_writes_events) (defScope s_Each_writes_events) .none kV_Each_writes_events dV_Each_writes_events pV_Each_writes_events aA_Each_writes_events cV_Each_writes_events tV_Each_writes_events), sl_Each_writes_events⟩)
    (c_Each_writes_events : PySem.W.codeIn K cV_Each_writes_events "Each.writes_events" = true)
    (k_Each_writes_events : PySem.W.keepIn K (.ref f_Each_writes_events) = true)
    (i_Each_writes_events : PySem.W.isFn K (.ref f_Each_writes_events) = true)
    (l_Each_piled_up : K.lookup f_Each_piled_up = some ⟨oV_Each_piled_up, oA_Each_piled_up, .func (PySem.W.fnOf "piled_up" "Each.piled_up" (defArgs s_Each_piled_up) (defBody s_Each_piled_up) (defScope s_Each_piled_up) .none kV_Each_piled_up dV_Each_piled_up pV_Each_piled_up aA_Each_piled_up cV_Each_piled_up tV_Each_piled_up), sl_Each_piled_up⟩)
    (c_Each_piled_up : PySem.W.codeIn K cV_Each_piled_up "Each.piled_up" = true)
    (k_Each_piled_up : PySem.W.keepIn K (.ref f_Each_piled_up) = true)
    (i_Each_piled_up : PySem.W.isFn K (.ref f_Each_piled_up) = true)
    (l_Bundle_init : K.lookup f_Bundle_init = some ⟨oV_Bundle_init, oA_Bundle_init, .func (PySem.W.fnOf "__init__" "Bundle.__init__" (defArgs s_Bundle_init) (defBody s_Bundle_init) (defScope s_Bundle_init) .none kV_Bundle_init dV_Bundle_init pV_Bundle_init aA_Bundle_init cV_Bundle_init tV_Bundle_init), sl_Bundle_init⟩)
    (c_Bundle_init : PySem.W.codeIn K cV_Bundle_init "Bundle.__init__" = true)
    (k_Bundle_init : PySem.W.keepIn K (.ref f_Bundle_init) = true)
    (i_Bundle_init : PySem.W.isFn K (.ref f_Bundle_init) = true)
    (l_Bundle_writes_events : K.lookup f_Bundle_writes_events = some ⟨oV_Bundle_writes_events, oA_Bundle_writes_events, .func (PySem.W.fnOf "writes_events" "Bundle.writes_events" (defArgs s_Bundle_writes_events) (defBody s_Bundle_writes_events) (defScope s_Bundle_writes_events) .none kV_Bundle_writes_events dV_Bundle_writes_events pV_Bundle_writes_events aA_Bundle_writes_events cV_Bundle_writes_events tV_Bundle_writes_events), sl_Bundle_writes_events⟩)
    (c_Bundle_writes_events : PySem.W.codeIn K cV_Bundle_writes_events "Bundle.writes_events" = true)
    (k_Bundle_writes_events : PySem.W.keepIn K (.ref f_Bundle_writes_events) = true)
    (i_Bundle_writes_events : PySem.W.isFn K (.ref f_Bundle_writes_events) = true)
    (l_Bundle_piled_up : K.lookup f_Bundle_piled_up = some ⟨oV_Bundle_piled_up, oA_Bundle_piled_up, .func (PySem.W.fnOf "piled_up" "Bundle.piled_up" (defArgs s_Bundle_piled_up) (defBody s_Bundle_piled_up) (defScope s_Bundle_piled_up) .none kV_Bundle_piled_up dV_Bundle_piled_up pV_Bundle_piled_up aA_Bundle_piled_up cV_Bundle_piled_up tV_Bundle_piled_up), sl_Bundle_piled_up⟩)
    (c_Bundle_piled_up : PySem.W.codeIn K cV_Bundle_piled_up "Bundle.piled_up" = true)
    (k_Bundle_piled_up : PySem.W.keepIn K (.ref f_Bundle_piled_up) = true)
    (i_Bundle_piled_up : PySem.W.isFn K (.ref f_Bundle_piled_up) = true)
    (l_Event_init : K.lookup f_Event_init = some ⟨oV_Event_init, oA_Event_init, .func (PySem.W.fnOf "__init__" "Event.__init__" (defArgs s_Event_init) (defBody s_Event_init) (defScope s_Event_init) .none kV_Event_init dV_Event_init pV_Event_init aA_Event_init cV_Event_init tV_Event_init), sl_Event_init⟩)
    (c_Event_init : PySem.W.codeIn K cV_Event_init "Event.__init__" = true)
    (k_Event_init : PySem.W.keepIn K (.ref f_Event_init) = true)
    (i_Event_init : PySem.W.isFn K (.ref f_Event_init) = true)
    (l_Thread_init : K.lookup f_Thread_init = some ⟨oV_Thread_init, oA_Thread_init, .func (PySem.W.fnOf "__init__" "Thread.__init__" (defArgs s_Thread_init) (defBody s_Thread_init) (defScope s_Thread_init) .none kV_Thread_init dV_Thread_init pV_Thread_init aA_Thread_init cV_Thread_init tV_Thread_init), sl_Thread_init⟩)
    (c_Thread_init : PySem.W.codeIn K cV_Thread_init "Thread.__init__" = true)
    (k_Thread_init : PySem.W.keepIn K (.ref f_Thread_init) = true)
    (i_Thread_init : PySem.W.isFn K (.ref f_Thread_init) = true)
    (l_Thread_here : K.lookup f_Thread_here = some ⟨oV_Thread_here, oA_Thread_here, .func (PySem.W.fnOf "here" "Thread.here" (defArgs s_Thread_here) (defBody s_Thread_here) (defScope s_Thread_here) .none kV_Thread_here dV_Thread_here pV_Thread_here aA_Thread_here cV_Thread_here tV_Thread_here), sl_Thread_here⟩)
    (c_Thread_here : PySem.W.codeIn K cV_Thread_here "Thread.here" = true)
    (k_Thread_here : PySem.W.keepIn K (.ref f_Thread_here) = true)
    (i_Thread_here : PySem.W.isFn K (.ref f_Thread_here) = true)
    (l_Thread_events : K.lookup f_Thread_events = some ⟨oV_Thread_events, oA_Thread_events, .func (PySem.W.fnOf "events" "Thread.events" (defArgs s_Thread_events) (defBody s_Thread_events) (defScope s_Thread_events) .none kV_Thread_events dV_Thread_events pV_Thread_events aA_Thread_events cV_Thread_events tV_Thread_events), sl_Thread_events⟩)
    (c_Thread_events : PySem.W.codeIn K cV_Thread_events "Thread.events" = true)
    (k_Thread_events : PySem.W.keepIn K (.ref f_Thread_events) = true)
    (i_Thread_events : PySem.W.isFn K (.ref f_Thread_events) = true)
    (l_Thread_do : K.lookup f_Thread_do = some ⟨oV_Thread_do, oA_Thread_do, .func (PySem.W.fnOf "do" "Thread.do" (defArgs s_Thread_do) (defBody s_Thread_do) (defScope s_Thread_do) .none kV_Thread_do dV_Thread_do pV_Thread_do aA_Thread_do cV_Thread_do tV_Thread_do), sl_Thread_do⟩)
    (c_Thread_do : PySem.W.codeIn K cV_Thread_do "Thread.do" = true)
    (k_Thread_do : PySem.W.keepIn K (.ref f_Thread_do) = true)
    (i_Thread_do : PySem.W.isFn K (.ref f_Thread_do) = true)
    (l_Thread_write : K.lookup f_Thread_write = some ⟨oV_Thread_write, oA_Thread_write, .func (PySem.W.fnOf "write" "Thread.write" (defArgs s_Thread_write) (defBody s_Thread_write) (defScope s_Thread_write) .none kV_Thread_write dV_Thread_write pV_Thread_write aA_Thread_write cV_Thread_write tV_Thread_write), sl_Thread_write⟩)
    (c_Thread_write : PySem.W.codeIn K cV_Thread_write "Thread.write" = true)
    (k_Thread_write : PySem.W.keepIn K (.ref f_Thread_write) = true)
    (i_Thread_write : PySem.W.isFn K (.ref f_Thread_write) = true)
    (l_Thread_points : K.lookup f_Thread_points = some ⟨oV_Thread_points, oA_Thread_points, .func (PySem.W.fnOf "points" "Thread.points" (defArgs s_Thread_points) (defBody s_Thread_points) (defScope s_Thread_points) .none kV_Thread_points dV_Thread_points pV_Thread_points aA_Thread_points cV_Thread_points tV_Thread_points), sl_Thread_points⟩)
    (c_Thread_points : PySem.W.codeIn K cV_Thread_points "Thread.points" = true)
    (k_Thread_points : PySem.W.keepIn K (.ref f_Thread_points) = true)
    (i_Thread_points : PySem.W.isFn K (.ref f_Thread_points) = true)
    (l_Thread_state_at : K.lookup f_Thread_state_at = some ⟨oV_Thread_state_at, oA_Thread_state_at, .func (PySem.W.fnOf "state_at" "Thread.state_at" (defArgs s_Thread_state_at) (defBody s_Thread_state_at) (defScope s_Thread_state_at) .none kV_Thread_state_at dV_Thread_state_at pV_Thread_state_at aA_Thread_state_at cV_Thread_state_at tV_Thread_state_at), sl_Thread_state_at⟩)
    (c_Thread_state_at : PySem.W.codeIn K cV_Thread_state_at "Thread.state_at" = true)
    (k_Thread_state_at : PySem.W.keepIn K (.ref f_Thread_state_at) = true)
    (i_Thread_state_at : PySem.W.isFn K (.ref f_Thread_state_at) = true)
    (l_Loom_init : K.lookup f_Loom_init = some ⟨oV_Loom_init, oA_Loom_init, .func (PySem.W.fnOf "__init__" "Loom.__init__" (defArgs s_Loom_init) (defBody s_Loom_init) (defScope s_Loom_init) .none kV_Loom_init dV_Loom_init pV_Loom_init aA_Loom_init cV_Loom_init tV_Loom_init), sl_Loom_init⟩)
    (c_Loom_init : PySem.W.codeIn K cV_Loom_init "Loom.__init__" = true)
    (k_Loom_init : PySem.W.keepIn K (.ref f_Loom_init) = true)
    (i_Loom_init : PySem.W.isFn K (.ref f_Loom_init) = true)
    (l_Loom_thread_of : K.lookup f_Loom_thread_of = some ⟨oV_Loom_thread_of, oA_Loom_thread_of, .func (PySem.W.fnOf "thread_of" "Loom.thread_of" (defArgs s_Loom_thread_of) (defBody s_Loom_thread_of) (defScope s_Loom_thread_of) .none kV_Loom_thread_of dV_Loom_thread_of pV_Loom_thread_of aA_Loom_thread_of cV_Loom_thread_of tV_Loom_thread_of), sl_Loom_thread_of⟩)
    (c_Loom_thread_of : PySem.W.codeIn K cV_Loom_thread_of "Loom.thread_of" = true)
    (k_Loom_thread_of : PySem.W.keepIn K (.ref f_Loom_thread_of) = true)
    (i_Loom_thread_of : PySem.W.isFn K (.ref f_Loom_thread_of) = true)
    (l_Loom_add : K.lookup f_Loom_add = some ⟨oV_Loom_add, oA_Loom_add, .func (PySem.W.fnOf "add" "Loom.add" (defArgs s_Loom_add) (defBody s_Loom_add) (defScope s_Loom_add) .none kV_Loom_add dV_Loom_add pV_Loom_add aA_Loom_add cV_Loom_add tV_Loom_add), sl_Loom_add⟩)
    (c_Loom_add : PySem.W.codeIn K cV_Loom_add "Loom.add" = true)
    (k_Loom_add : PySem.W.keepIn K (.ref f_Loom_add) = true)
    (i_Loom_add : PySem.W.isFn K (.ref f_Loom_add) = true)
    (l_Loom_own : K.lookup f_Loom_own = some ⟨oV_Loom_own, oA_Loom_own, .func (PySem.W.fnOf "own" "Loom.own" (defArgs s_Loom_own) (defBody s_Loom_own) (defScope s_Loom_own) .none kV_Loom_own dV_Loom_own pV_Loom_own aA_Loom_own cV_Loom_own tV_Loom_own), sl_Loom_own⟩)
    (c_Loom_own : PySem.W.codeIn K cV_Loom_own "Loom.own" = true)
    (k_Loom_own : PySem.W.keepIn K (.ref f_Loom_own) = true)
    (i_Loom_own : PySem.W.isFn K (.ref f_Loom_own) = true)
    (l_Loom_use : K.lookup f_Loom_use = some ⟨oV_Loom_use, oA_Loom_use, .func (PySem.W.fnOf "use" "Loom.use" (defArgs s_Loom_use) (defBody s_Loom_use) (defScope s_Loom_use) .none kV_Loom_use dV_Loom_use pV_Loom_use aA_Loom_use cV_Loom_use tV_Loom_use), sl_Loom_use⟩)
    (c_Loom_use : PySem.W.codeIn K cV_Loom_use "Loom.use" = true)
    (k_Loom_use : PySem.W.keepIn K (.ref f_Loom_use) = true)
    (i_Loom_use : PySem.W.isFn K (.ref f_Loom_use) = true)
    (l_Loom_write : K.lookup f_Loom_write = some ⟨oV_Loom_write, oA_Loom_write, .func (PySem.W.fnOf "write" "Loom.write" (defArgs s_Loom_write) (defBody s_Loom_write) (defScope s_Loom_write) .none kV_Loom_write dV_Loom_write pV_Loom_write aA_Loom_write cV_Loom_write tV_Loom_write), sl_Loom_write⟩)
    (c_Loom_write : PySem.W.codeIn K cV_Loom_write "Loom.write" = true)
    (k_Loom_write : PySem.W.keepIn K (.ref f_Loom_write) = true)
    (i_Loom_write : PySem.W.isFn K (.ref f_Loom_write) = true)
    (l_Loom_places : K.lookup f_Loom_places = some ⟨oV_Loom_places, oA_Loom_places, .func (PySem.W.fnOf "places" "Loom.places" (defArgs s_Loom_places) (defBody s_Loom_places) (defScope s_Loom_places) .none kV_Loom_places dV_Loom_places pV_Loom_places aA_Loom_places cV_Loom_places tV_Loom_places), sl_Loom_places⟩)
    (c_Loom_places : PySem.W.codeIn K cV_Loom_places "Loom.places" = true)
    (k_Loom_places : PySem.W.keepIn K (.ref f_Loom_places) = true)
    (i_Loom_places : PySem.W.isFn K (.ref f_Loom_places) = true)
    (l_Loom_states : K.lookup f_Loom_states = some ⟨oV_Loom_states, oA_Loom_states, .func (PySem.W.fnOf "states" "Loom.states" (defArgs s_Loom_states) (defBody s_Loom_states) (defScope s_Loom_states) .none kV_Loom_states dV_Loom_states pV_Loom_states aA_Loom_states cV_Loom_states tV_Loom_states), sl_Loom_states⟩)
    (c_Loom_states : PySem.W.codeIn K cV_Loom_states "Loom.states" = true)
    (k_Loom_states : PySem.W.keepIn K (.ref f_Loom_states) = true)
    (i_Loom_states : PySem.W.isFn K (.ref f_Loom_states) = true)
    (l_Loom_letters_sent : K.lookup f_Loom_letters_sent = some ⟨oV_Loom_letters_sent, oA_Loom_letters_sent, .func (PySem.W.fnOf "letters_sent" "Loom.letters_sent" (defArgs s_Loom_letters_sent) (defBody s_Loom_letters_sent) (defScope s_Loom_letters_sent) .none kV_Loom_letters_sent dV_Loom_letters_sent pV_Loom_letters_sent aA_Loom_letters_sent cV_Loom_letters_sent tV_Loom_letters_sent), sl_Loom_letters_sent⟩)
    (c_Loom_letters_sent : PySem.W.codeIn K cV_Loom_letters_sent "Loom.letters_sent" = true)
    (k_Loom_letters_sent : PySem.W.keepIn K (.ref f_Loom_letters_sent) = true)
    (i_Loom_letters_sent : PySem.W.isFn K (.ref f_Loom_letters_sent) = true)
    (l_Loom_letters_used : K.lookup f_Loom_letters_used = some ⟨oV_Loom_letters_used, oA_Loom_letters_used, .func (PySem.W.fnOf "letters_used" "Loom.letters_used" (defArgs s_Loom_letters_used) (defBody s_Loom_letters_used) (defScope s_Loom_letters_used) .none kV_Loom_letters_used dV_Loom_letters_used pV_Loom_letters_used aA_Loom_letters_used cV_Loom_letters_used tV_Loom_letters_used), sl_Loom_letters_used⟩)
    (c_Loom_letters_used : PySem.W.codeIn K cV_Loom_letters_used "Loom.letters_used" = true)
    (k_Loom_letters_used : PySem.W.keepIn K (.ref f_Loom_letters_used) = true)
    (i_Loom_letters_used : PySem.W.isFn K (.ref f_Loom_letters_used) = true)
    (l_Loom_road : K.lookup f_Loom_road = some ⟨oV_Loom_road, oA_Loom_road, .func (PySem.W.fnOf "road" "Loom.road" (defArgs s_Loom_road) (defBody s_Loom_road) (defScope s_Loom_road) .none kV_Loom_road dV_Loom_road pV_Loom_road aA_Loom_road cV_Loom_road tV_Loom_road), sl_Loom_road⟩)
    (c_Loom_road : PySem.W.codeIn K cV_Loom_road "Loom.road" = true)
    (k_Loom_road : PySem.W.keepIn K (.ref f_Loom_road) = true)
    (i_Loom_road : PySem.W.isFn K (.ref f_Loom_road) = true)
    (l_Loom_points : K.lookup f_Loom_points = some ⟨oV_Loom_points, oA_Loom_points, .func (PySem.W.fnOf "points" "Loom.points" (defArgs s_Loom_points) (defBody s_Loom_points) (defScope s_Loom_points) .none kV_Loom_points dV_Loom_points pV_Loom_points aA_Loom_points cV_Loom_points tV_Loom_points), sl_Loom_points⟩)
    (c_Loom_points : PySem.W.codeIn K cV_Loom_points "Loom.points" = true)
    (k_Loom_points : PySem.W.keepIn K (.ref f_Loom_points) = true)
    (i_Loom_points : PySem.W.isFn K (.ref f_Loom_points) = true)
    (l_Loom_rows : K.lookup f_Loom_rows = some ⟨oV_Loom_rows, oA_Loom_rows, .func (PySem.W.fnOf "rows" "Loom.rows" (defArgs s_Loom_rows) (defBody s_Loom_rows) (defScope s_Loom_rows) .none kV_Loom_rows dV_Loom_rows pV_Loom_rows aA_Loom_rows cV_Loom_rows tV_Loom_rows), sl_Loom_rows⟩)
    (c_Loom_rows : PySem.W.codeIn K cV_Loom_rows "Loom.rows" = true)
    (k_Loom_rows : PySem.W.keepIn K (.ref f_Loom_rows) = true)
    (i_Loom_rows : PySem.W.isFn K (.ref f_Loom_rows) = true)
    (l_law_cell_at : K.lookup f_law_cell_at = some ⟨oV_law_cell_at, oA_law_cell_at, .func (PySem.W.fnOf "_law_cell_at" "_law_cell_at" (defArgs s_law_cell_at) (defBody s_law_cell_at) (defScope s_law_cell_at) .none kV_law_cell_at dV_law_cell_at pV_law_cell_at aA_law_cell_at cV_law_cell_at tV_law_cell_at), sl_law_cell_at⟩)
    (c_law_cell_at : PySem.W.codeIn K cV_law_cell_at "_law_cell_at" = true)
    (k_law_cell_at : PySem.W.keepIn K (.ref f_law_cell_at) = true)
    (l_law_digit : K.lookup f_law_digit = some ⟨oV_law_digit, oA_law_digit, .func (PySem.W.fnOf "_law_digit" "_law_digit" (defArgs s_law_digit) (defBody s_law_digit) (defScope s_law_digit) .none kV_law_digit dV_law_digit pV_law_digit aA_law_digit cV_law_digit tV_law_digit), sl_law_digit⟩)
    (c_law_digit : PySem.W.codeIn K cV_law_digit "_law_digit" = true)
    (k_law_digit : PySem.W.keepIn K (.ref f_law_digit) = true)
    (l_law_led : K.lookup f_law_led = some ⟨oV_law_led, oA_law_led, .func (PySem.W.fnOf "_law_led" "_law_led" (defArgs s_law_led) (defBody s_law_led) (defScope s_law_led) .none kV_law_led dV_law_led pV_law_led aA_law_led cV_law_led tV_law_led), sl_law_led⟩)
    (c_law_led : PySem.W.codeIn K cV_law_led "_law_led" = true)
    (k_law_led : PySem.W.keepIn K (.ref f_law_led) = true)
    (l_law_habits : K.lookup f_law_habits = some ⟨oV_law_habits, oA_law_habits, .func (PySem.W.fnOf "_law_habits" "_law_habits" (defArgs s_law_habits) (defBody s_law_habits) (defScope s_law_habits) .none kV_law_habits dV_law_habits pV_law_habits aA_law_habits cV_law_habits tV_law_habits), sl_law_habits⟩)
    (c_law_habits : PySem.W.codeIn K cV_law_habits "_law_habits" = true)
    (k_law_habits : PySem.W.keepIn K (.ref f_law_habits) = true)
    (l_law_deeds : K.lookup f_law_deeds = some ⟨oV_law_deeds, oA_law_deeds, .func (PySem.W.fnOf "_law_deeds" "_law_deeds" (defArgs s_law_deeds) (defBody s_law_deeds) (defScope s_law_deeds) .none kV_law_deeds dV_law_deeds pV_law_deeds aA_law_deeds cV_law_deeds tV_law_deeds), sl_law_deeds⟩)
    (c_law_deeds : PySem.W.codeIn K cV_law_deeds "_law_deeds" = true)
    (k_law_deeds : PySem.W.keepIn K (.ref f_law_deeds) = true)
    (l_law_woven : K.lookup f_law_woven = some ⟨oV_law_woven, oA_law_woven, .func (PySem.W.fnOf "_law_woven" "_law_woven" (defArgs s_law_woven) (defBody s_law_woven) (defScope s_law_woven) .none kV_law_woven dV_law_woven pV_law_woven aA_law_woven cV_law_woven tV_law_woven), sl_law_woven⟩)
    (c_law_woven : PySem.W.codeIn K cV_law_woven "_law_woven" = true)
    (k_law_woven : PySem.W.keepIn K (.ref f_law_woven) = true)
    (l_law_loom : K.lookup f_law_loom = some ⟨oV_law_loom, oA_law_loom, .func (PySem.W.fnOf "_law_loom" "_law_loom" (defArgs s_law_loom) (defBody s_law_loom) (defScope s_law_loom) .none kV_law_loom dV_law_loom pV_law_loom aA_law_loom (.ref t_law_loom) tV_law_loom), sl_law_loom⟩)
    (c_law_loom : PySem.W.codeIn K (.ref t_law_loom) "_law_loom" = true)
    (k_law_loom : PySem.W.keepIn K (.ref f_law_loom) = true)
    (l_law_fallen : K.lookup f_law_fallen = some ⟨oV_law_fallen, oA_law_fallen, .func (PySem.W.fnOf "_law_fallen" "_law_fallen" (defArgs s_law_fallen) (defBody s_law_fallen) (defScope s_law_fallen) .none kV_law_fallen dV_law_fallen pV_law_fallen aA_law_fallen cV_law_fallen tV_law_fallen), sl_law_fallen⟩)
    (c_law_fallen : PySem.W.codeIn K cV_law_fallen "_law_fallen" = true)
    (k_law_fallen : PySem.W.keepIn K (.ref f_law_fallen) = true)
    (l_law : K.lookup f_law = some ⟨oV_law, oA_law, .func (PySem.W.fnOf "law" "law" (defArgs s_law) (defBody s_law) (defScope s_law) .none kV_law dV_law pV_law aA_law cV_law tV_law), sl_law⟩)
    (c_law : PySem.W.codeIn K cV_law "law" = true)
    (k_law : PySem.W.keepIn K (.ref f_law) = true)
    (e_law_loom : h.get? p_law_loom = some { cls := .none, data := .fields #[] })
    (o_law_loom : K.lookup p_law_loom = none)
    (hd_law_loom : PySem.W.codeHdIn K t_law_loom p_law_loom = true)
    (pg_Habit : PySem.W.plainGet K c_Habit Str.empty = true)
    (hd_Habit : PySem.W.hasDictIn K c_Habit = true)
    (po_Habit : PySem.W.plainOver K c_Habit = true)
    (sa_Habit : PySem.W.findIn K (.ref c_Habit) "__setattr__" = some (some (.builtin "object.__setattr__")))
    (ca_Habit : PySem.W.findIn K (.ref c_Habit) "__class__" = some (some (.builtin "object.__class__")))
    (mr_Habit : PySem.W.mroIn K c_Habit (.type "object") = some true)
    (kc_Habit : PySem.W.keepIn K (.ref c_Habit) = true)
    (mk_Habit : PySem.W.makesIn K c_Habit = true)
    (ni_Habit : PySem.W.findIn K (.ref c_Habit) "__init__" = some (some (.builtin "object.__init__")))
    (pg_Never : PySem.W.plainGet K c_Never Str.empty = true)
    (hd_Never : PySem.W.hasDictIn K c_Never = true)
    (po_Never : PySem.W.plainOver K c_Never = true)
    (sa_Never : PySem.W.findIn K (.ref c_Never) "__setattr__" = some (some (.builtin "object.__setattr__")))
    (ca_Never : PySem.W.findIn K (.ref c_Never) "__class__" = some (some (.builtin "object.__class__")))
    (mr_Never : PySem.W.mroIn K c_Never (.type "object") = some true)
    (kc_Never : PySem.W.keepIn K (.ref c_Never) = true)
    (mk_Never : PySem.W.makesIn K c_Never = true)
    (ni_Never : PySem.W.findIn K (.ref c_Never) "__init__" = some (some (.builtin "object.__init__")))
    (pg_Each : PySem.W.plainGet K c_Each Str.empty = true)
    (hd_Each : PySem.W.hasDictIn K c_Each = true)
    (po_Each : PySem.W.plainOver K c_Each = true)
    (sa_Each : PySem.W.findIn K (.ref c_Each) "__setattr__" = some (some (.builtin "object.__setattr__")))
    (ca_Each : PySem.W.findIn K (.ref c_Each) "__class__" = some (some (.builtin "object.__class__")))
    (mr_Each : PySem.W.mroIn K c_Each (.type "object") = some true)
    (kc_Each : PySem.W.keepIn K (.ref c_Each) = true)
    (mk_Each : PySem.W.makesIn K c_Each = true)
    (ni_Each : PySem.W.findIn K (.ref c_Each) "__init__" = some (some (.builtin "object.__init__")))
    (pg_Bundle : PySem.W.plainGet K c_Bundle Str.empty = true)
    (hd_Bundle : PySem.W.hasDictIn K c_Bundle = true)
    (po_Bundle : PySem.W.plainOver K c_Bundle = true)
    (sa_Bundle : PySem.W.findIn K (.ref c_Bundle) "__setattr__" = some (some (.builtin "object.__setattr__")))
    (ca_Bundle : PySem.W.findIn K (.ref c_Bundle) "__class__" = some (some (.builtin "object.__class__")))
    (mr_Bundle : PySem.W.mroIn K c_Bundle (.type "object") = some true)
    (kc_Bundle : PySem.W.keepIn K (.ref c_Bundle) = true)
    (mk_Bundle : PySem.W.makesIn K c_Bundle = true)
    (pg_Event : PySem.W.plainGet K c_Event Str.empty = true)
    (hd_Event : PySem.W.hasDictIn K c_Event = true)
    (po_Event : PySem.W.plainOver K c_Event = true)
    (sa_Event : PySem.W.findIn K (.ref c_Event) "__setattr__" = some (some (.builtin "object.__setattr__")))
    (ca_Event : PySem.W.findIn K (.ref c_Event) "__class__" = some (some (.builtin "object.__class__")))
    (mr_Event : PySem.W.mroIn K c_Event (.type "object") = some true)
    (kc_Event : PySem.W.keepIn K (.ref c_Event) = true)
    (mk_Event : PySem.W.makesIn K c_Event = true)
    (pg_Thread : PySem.W.plainGet K c_Thread Str.empty = true)
    (hd_Thread : PySem.W.hasDictIn K c_Thread = true)
    (po_Thread : PySem.W.plainOver K c_Thread = true)
    (sa_Thread : PySem.W.findIn K (.ref c_Thread) "__setattr__" = some (some (.builtin "object.__setattr__")))
    (ca_Thread : PySem.W.findIn K (.ref c_Thread) "__class__" = some (some (.builtin "object.__class__")))
    (mr_Thread : PySem.W.mroIn K c_Thread (.type "object") = some true)
    (kc_Thread : PySem.W.keepIn K (.ref c_Thread) = true)
    (mk_Thread : PySem.W.makesIn K c_Thread = true)
    (pg_Loom : PySem.W.plainGet K c_Loom Str.empty = true)
    (hd_Loom : PySem.W.hasDictIn K c_Loom = true)
    (po_Loom : PySem.W.plainOver K c_Loom = true)
    (sa_Loom : PySem.W.findIn K (.ref c_Loom) "__setattr__" = some (some (.builtin "object.__setattr__")))
    (ca_Loom : PySem.W.findIn K (.ref c_Loom) "__class__" = some (some (.builtin "object.__class__")))
    (mr_Loom : PySem.W.mroIn K c_Loom (.type "object") = some true)
    (kc_Loom : PySem.W.keepIn K (.ref c_Loom) = true)
    (mk_Loom : PySem.W.makesIn K c_Loom = true)
    (gs : PySem.W.specialIn K (.builtin "object.__class__") "__get__" = some (some (.builtin "getset_descriptor.__get__")))
    (tk : PySem.W.takesIn K (.builtin "object.__class__") = some true)
    (ah_Never_writes_events : PySem.W.findIn K (.ref c_Never) "writes_events" = some (some (.ref f_Habit_writes_events)))
    (ah_Never_piled_up : PySem.W.findIn K (.ref c_Never) "piled_up" = some (some (.ref f_Habit_piled_up)))
    (n_Bundle_size : PySem.W.findIn K (.ref c_Bundle) "size" = some none)
    (n_Event_said : PySem.W.findIn K (.ref c_Event) "said" = some none)
    (n_Event_sent : PySem.W.findIn K (.ref c_Event) "sent" = some none)
    (n_Event_state : PySem.W.findIn K (.ref c_Event) "state" = some none)
    (n_Event_used : PySem.W.findIn K (.ref c_Event) "used" = some none)
    (n_Loom_does : PySem.W.findIn K (.ref c_Loom) "does" = some none)
    (n_Loom_done : PySem.W.findIn K (.ref c_Loom) "done" = some none)
    (n_Loom_many : PySem.W.findIn K (.ref c_Loom) "many" = some none)
    (n_Loom_order : PySem.W.findIn K (.ref c_Loom) "order" = some none)
    (n_Loom_ordered : PySem.W.findIn K (.ref c_Loom) "ordered" = some none)
    (n_Loom_threads : PySem.W.findIn K (.ref c_Loom) "threads" = some none)
    (n_Thread_done : PySem.W.findIn K (.ref c_Thread) "done" = some none)
    (n_Thread_habit : PySem.W.findIn K (.ref c_Thread) "habit" = some none)
    (n_Thread_pile : PySem.W.findIn K (.ref c_Thread) "pile" = some none)
    (n_Thread_start : PySem.W.findIn K (.ref c_Thread) "start" = some none)
    (n_Thread_writings : PySem.W.findIn K (.ref c_Thread) "writings" = some none)
    (b_enumerate : PySem.W.nsIn K mainGlobals "enumerate" = some none)
    (b_int : PySem.W.nsIn K mainGlobals "int" = some none)
    (b_isinstance : PySem.W.nsIn K mainGlobals "isinstance" = some none)
    (b_len : PySem.W.nsIn K mainGlobals "len" = some none)
    (b_list : PySem.W.nsIn K mainGlobals "list" = some none)
    (b_max : PySem.W.nsIn K mainGlobals "max" = some none)
    (b_min : PySem.W.nsIn K mainGlobals "min" = some none)
    (b_range : PySem.W.nsIn K mainGlobals "range" = some none)
    (b_sorted : PySem.W.nsIn K mainGlobals "sorted" = some none)
    (b_zip : PySem.W.nsIn K mainGlobals "zip" = some none)
    (xP_NoSize : PySem.W.excIn K c_NoSize [.type "ValueError", .type "Exception", .type "BaseException", .type "object"] "ValueError.__new__" = true)
    (kP_NoSize : PySem.W.keepIn K (.ref c_NoSize) = true)
    (bP_NoSize : PySem.W.subIn K (.ref c_NoSize) (.type "BaseException") = some true)
    (tP_NoSize : PySem.W.typeIn K (.ref c_NoSize) = some (.type "type"))
    (dP_NoSize : PySem.W.hasDictIn K c_NoSize = true)
    (hg_NoSize : PySem.W.findIn K (.ref c_NoSize) "__getattribute__" = some (some (.builtin "BaseException.__getattribute__")))
    (hk_NoSize : PySem.W.findIn K (.ref c_NoSize) "__getattr__" = some none)
    (he_NoSize : PySem.W.findIn K (.ref c_NoSize) "__class__" = some (some (.builtin "object.__class__")))
    (hm_NoSize : PySem.W.mroIn K c_NoSize (.type "object") = some true)
    (xP_NoPoint : PySem.W.excIn K c_NoPoint [.type "ValueError", .type "Exception", .type "BaseException", .type "object"] "ValueError.__new__" = true)
    (kP_NoPoint : PySem.W.keepIn K (.ref c_NoPoint) = true)
    (bP_NoPoint : PySem.W.subIn K (.ref c_NoPoint) (.type "BaseException") = some true)
    (tP_NoPoint : PySem.W.typeIn K (.ref c_NoPoint) = some (.type "type"))
    (dP_NoPoint : PySem.W.hasDictIn K c_NoPoint = true)
    (hg_NoPoint : PySem.W.findIn K (.ref c_NoPoint) "__getattribute__" = some (some (.builtin "BaseException.__getattribute__")))
    (hk_NoPoint : PySem.W.findIn K (.ref c_NoPoint) "__getattr__" = some none)
    (he_NoPoint : PySem.W.findIn K (.ref c_NoPoint) "__class__" = some (some (.builtin "object.__class__")))
    (hm_NoPoint : PySem.W.mroIn K c_NoPoint (.type "object") = some true)
    (xP_NoHand : PySem.W.excIn K c_NoHand [.type "ValueError", .type "Exception", .type "BaseException", .type "object"] "ValueError.__new__" = true)
    (kP_NoHand : PySem.W.keepIn K (.ref c_NoHand) = true)
    (bP_NoHand : PySem.W.subIn K (.ref c_NoHand) (.type "BaseException") = some true)
    (tP_NoHand : PySem.W.typeIn K (.ref c_NoHand) = some (.type "type"))
    (dP_NoHand : PySem.W.hasDictIn K c_NoHand = true)
    (hg_NoHand : PySem.W.findIn K (.ref c_NoHand) "__getattribute__" = some (some (.builtin "BaseException.__getattribute__")))
    (hk_NoHand : PySem.W.findIn K (.ref c_NoHand) "__getattr__" = some none)
    (he_NoHand : PySem.W.findIn K (.ref c_NoHand) "__class__" = some (some (.builtin "object.__class__")))
    (hm_NoHand : PySem.W.mroIn K c_NoHand (.type "object") = some true)
    (xP_NoLetter : PySem.W.excIn K c_NoLetter [.type "ValueError", .type "Exception", .type "BaseException", .type "object"] "ValueError.__new__" = true)
    (kP_NoLetter : PySem.W.keepIn K (.ref c_NoLetter) = true)
    (bP_NoLetter : PySem.W.subIn K (.ref c_NoLetter) (.type "BaseException") = some true)
    (tP_NoLetter : PySem.W.typeIn K (.ref c_NoLetter) = some (.type "type"))
    (dP_NoLetter : PySem.W.hasDictIn K c_NoLetter = true)
    (hg_NoLetter : PySem.W.findIn K (.ref c_NoLetter) "__getattribute__" = some (some (.builtin "BaseException.__getattribute__")))
    (hk_NoLetter : PySem.W.findIn K (.ref c_NoLetter) "__getattr__" = some none)
    (he_NoLetter : PySem.W.findIn K (.ref c_NoLetter) "__class__" = some (some (.builtin "object.__class__")))
    (hm_NoLetter : PySem.W.mroIn K c_NoLetter (.type "object") = some true)
    (nd_Never_Each : c_Never ≠ c_Each)
    (nd_Never_Bundle : c_Never ≠ c_Bundle)
    (nd_Each_Bundle : c_Each ≠ c_Bundle)
    (ks_Never_Each : PySem.W.subIn K (.ref c_Never) (.ref c_Each) = some false)
    (tP_Each : PySem.W.typeIn K (.ref c_Each) = some (.type "type"))
    (k0_Each : PySem.W.subIn K (.ref c_Each) (.ref c_Each) = some true)
    (ks_Each_Each : PySem.W.subIn K (.ref c_Each) (.ref c_Each) = some true)
    (ks_Bundle_Each : PySem.W.subIn K (.ref c_Bundle) (.ref c_Each) = some false)
    : ∃ (fd : FuncData) (ts : List (Addr × Addr × Str)), (ts.map (·.2.1)).Nodup ∧ (∀ p ∈ ts, h.get? p.2.1 = some { cls := .none, data := .fields #[] } ∧ K.lookup p.2.1 = none ∧ PySem.W.codeHdIn K p.1 p.2.1 = true) ∧ (∀ (s : Shared) (v : Value), BindsTo s fd ⟨[v], []⟩ [("_law_script", v)]) ∧
      ∀ base : Heap, K.In base → base.Ns mainGlobals mg → (∀ p ∈ ts, LamX.TabB base mg p.1 p.2.1) → @LFn P w K (noGG K) mg base 8 fa fd ["_law_script"] (spLaw (ts.map (·.2))) := by
  obtain rfl : f_law = fa := by have e := hfa.symm.trans (PySem.W.mg_of X G a_law); exact (Value.ref.inj (Option.some.inj e)).symm
  have T : Txt K mg ⟨c_Habit, c_Never, c_Each, c_Bundle, c_Event, c_Thread, c_Loom, 0, c_NoSize, c_NoPoint, c_NoHand, c_NoLetter, f_broken_by, f_allowed_points, f_point_ahead, f_greatest_line, f_Habit_writes_events, f_Habit_piled_up, f_Each_writes_events, f_Each_piled_up, f_Bundle_init, f_Bundle_writes_events, f_Bundle_piled_up, f_Event_init, f_Thread_init, f_Thread_here, f_Thread_events, f_Thread_do, f_Thread_write, f_Thread_points, f_Thread_state_at, f_Loom_init, f_Loom_thread_of, f_Loom_add, f_Loom_own, f_Loom_use, f_Loom_write, f_Loom_places, f_Loom_states, f_Loom_letters_sent, f_Loom_letters_used, f_Loom_road, f_Loom_points, f_Loom_rows, f_law_cell_at, f_law_digit, f_law_led, f_law_habits, f_law_deeds, f_law_woven, f_law_loom, f_law_fallen, f_law, t_law_loom, p_law_loom⟩ ⟨PySem.W.fnOf "broken_by" "broken_by" (defArgs s_broken_by) (defBody s_broken_by) (defScope s_broken_by) .none kV_broken_by dV_broken_by pV_broken_by aA_broken_by cV_broken_by tV_broken_by,
      PySem.W.fnOf "allowed_points" "allowed_points" (defArgs s_allowed_points) (defBody s_allowed_points) (defScope s_allowed_points) .none kV_allowed_points dV_allowed_points pV_allowed_points aA_allowed_points cV_allowed_points tV_allowed_points,
      PySem.W.fnOf "point_ahead" "point_ahead" (defArgs s_point_ahead) (defBody s_point_ahead) (defScope s_point_ahead) .none kV_point_ahead dV_point_ahead pV_point_ahead aA_point_ahead cV_point_ahead tV_point_ahead,
      PySem.W.fnOf "greatest_line" "greatest_line" (defArgs s_greatest_line) (defBody s_greatest_line) (defScope s_greatest_line) .none kV_greatest_line dV_greatest_line pV_greatest_line aA_greatest_line cV_greatest_line tV_greatest_line,
      PySem.W.fnOf "writes_events" "Habit.writes_events" (defArgs s_Habit_writes_events) (defBody s_Habit_writes_events) (defScope s_Habit_writes_events) .none kV_Habit_writes_events dV_Habit_writes_events pV_Habit_writes_events aA_Habit_writes_events cV_Habit_writes_events tV_Habit_writes_events,
      PySem.W.fnOf "piled_up" "Habit.piled_up" (defArgs s_Habit_piled_up) (defBody s_Habit_piled_up) (defScope s_Habit_piled_up) .none kV_Habit_piled_up dV_Habit_piled_up pV_Habit_piled_up aA_Habit_piled_up cV_Habit_piled_up tV_Habit_piled_up,
      PySem.W.fnOf "writes_events" "Each.writes_events" (defArgs s_Each_writes_events) (defBody s_Each_writes_events) (defScope s_Each_writes_events) .none kV_Each_writes_events dV_Each_writes_events pV_Each_writes_events aA_Each_writes_events cV_Each_writes_events tV_Each_writes_events,
      PySem.W.fnOf "piled_up" "Each.piled_up" (defArgs s_Each_piled_up) (defBody s_Each_piled_up) (defScope s_Each_piled_up) .none kV_Each_piled_up dV_Each_piled_up pV_Each_piled_up aA_Each_piled_up cV_Each_piled_up tV_Each_piled_up,
      PySem.W.fnOf "__init__" "Bundle.__init__" (defArgs s_Bundle_init) (defBody s_Bundle_init) (defScope s_Bundle_init) .none kV_Bundle_init dV_Bundle_init pV_Bundle_init aA_Bundle_init cV_Bundle_init tV_Bundle_init,
      PySem.W.fnOf "writes_events" "Bundle.writes_events" (defArgs s_Bundle_writes_events) (defBody s_Bundle_writes_events) (defScope s_Bundle_writes_events) .none kV_Bundle_writes_events dV_Bundle_writes_events pV_Bundle_writes_events aA_Bundle_writes_events cV_Bundle_writes_events tV_Bundle_writes_events,
      PySem.W.fnOf "piled_up" "Bundle.piled_up" (defArgs s_Bundle_piled_up) (defBody s_Bundle_piled_up) (defScope s_Bundle_piled_up) .none kV_Bundle_piled_up dV_Bundle_piled_up pV_Bundle_piled_up aA_Bundle_piled_up cV_Bundle_piled_up tV_Bundle_piled_up,
      PySem.W.fnOf "__init__" "Event.__init__" (defArgs s_Event_init) (defBody s_Event_init) (defScope s_Event_init) .none kV_Event_init dV_Event_init pV_Event_init aA_Event_init cV_Event_init tV_Event_init,
      PySem.W.fnOf "__init__" "Thread.__init__" (defArgs s_Thread_init) (defBody s_Thread_init) (defScope s_Thread_init) .none kV_Thread_init dV_Thread_init pV_Thread_init aA_Thread_init cV_Thread_init tV_Thread_init,
      PySem.W.fnOf "here" "Thread.here" (defArgs s_Thread_here) (defBody s_Thread_here) (defScope s_Thread_here) .none kV_Thread_here dV_Thread_here pV_Thread_here aA_Thread_here cV_Thread_here tV_Thread_here,
      PySem.W.fnOf "events" "Thread.events" (defArgs s_Thread_events) (defBody s_Thread_events) (defScope s_Thread_events) .none kV_Thread_events dV_Thread_events pV_Thread_events aA_Thread_events cV_Thread_events tV_Thread_events,
      PySem.W.fnOf "do" "Thread.do" (defArgs s_Thread_do) (defBody s_Thread_do) (defScope s_Thread_do) .none kV_Thread_do dV_Thread_do pV_Thread_do aA_Thread_do cV_Thread_do tV_Thread_do,
      PySem.W.fnOf "write" "Thread.write" (defArgs s_Thread_write) (defBody s_Thread_write) (defScope s_Thread_write) .none kV_Thread_write dV_Thread_write pV_Thread_write aA_Thread_write cV_Thread_write tV_Thread_write,
      PySem.W.fnOf "points" "Thread.points" (defArgs s_Thread_points) (defBody s_Thread_points) (defScope s_Thread_points) .none kV_Thread_points dV_Thread_points pV_Thread_points aA_Thread_points cV_Thread_points tV_Thread_points,
      PySem.W.fnOf "state_at" "Thread.state_at" (defArgs s_Thread_state_at) (defBody s_Thread_state_at) (defScope s_Thread_state_at) .none kV_Thread_state_at dV_Thread_state_at pV_Thread_state_at aA_Thread_state_at cV_Thread_state_at tV_Thread_state_at,
      PySem.W.fnOf "__init__" "Loom.__init__" (defArgs s_Loom_init) (defBody s_Loom_init) (defScope s_Loom_init) .none kV_Loom_init dV_Loom_init pV_Loom_init aA_Loom_init cV_Loom_init tV_Loom_init,
      PySem.W.fnOf "thread_of" "Loom.thread_of" (defArgs s_Loom_thread_of) (defBody s_Loom_thread_of) (defScope s_Loom_thread_of) .none kV_Loom_thread_of dV_Loom_thread_of pV_Loom_thread_of aA_Loom_thread_of cV_Loom_thread_of tV_Loom_thread_of,
      PySem.W.fnOf "add" "Loom.add" (defArgs s_Loom_add) (defBody s_Loom_add) (defScope s_Loom_add) .none kV_Loom_add dV_Loom_add pV_Loom_add aA_Loom_add cV_Loom_add tV_Loom_add,
      PySem.W.fnOf "own" "Loom.own" (defArgs s_Loom_own) (defBody s_Loom_own) (defScope s_Loom_own) .none kV_Loom_own dV_Loom_own pV_Loom_own aA_Loom_own cV_Loom_own tV_Loom_own,
      PySem.W.fnOf "use" "Loom.use" (defArgs s_Loom_use) (defBody s_Loom_use) (defScope s_Loom_use) .none kV_Loom_use dV_Loom_use pV_Loom_use aA_Loom_use cV_Loom_use tV_Loom_use,
      PySem.W.fnOf "write" "Loom.write" (defArgs s_Loom_write) (defBody s_Loom_write) (defScope s_Loom_write) .none kV_Loom_write dV_Loom_write pV_Loom_write aA_Loom_write cV_Loom_write tV_Loom_write,
      PySem.W.fnOf "places" "Loom.places" (defArgs s_Loom_places) (defBody s_Loom_places) (defScope s_Loom_places) .none kV_Loom_places dV_Loom_places pV_Loom_places aA_Loom_places cV_Loom_places tV_Loom_places,
      PySem.W.fnOf "states" "Loom.states" (defArgs s_Loom_states) (defBody s_Loom_states) (defScope s_Loom_states) .none kV_Loom_states dV_Loom_states pV_Loom_states aA_Loom_states cV_Loom_states tV_Loom_states,
      PySem.W.fnOf "letters_sent" "Loom.letters_sent" (defArgs s_Loom_letters_sent) (defBody s_Loom_letters_sent) (defScope s_Loom_letters_sent) .none kV_Loom_letters_sent dV_Loom_letters_sent pV_Loom_letters_sent aA_Loom_letters_sent cV_Loom_letters_sent tV_Loom_letters_sent,
      PySem.W.fnOf "letters_used" "Loom.letters_used" (defArgs s_Loom_letters_used) (defBody s_Loom_letters_used) (defScope s_Loom_letters_used) .none kV_Loom_letters_used dV_Loom_letters_used pV_Loom_letters_used aA_Loom_letters_used cV_Loom_letters_used tV_Loom_letters_used,
      PySem.W.fnOf "road" "Loom.road" (defArgs s_Loom_road) (defBody s_Loom_road) (defScope s_Loom_road) .none kV_Loom_road dV_Loom_road pV_Loom_road aA_Loom_road cV_Loom_road tV_Loom_road,
      PySem.W.fnOf "points" "Loom.points" (defArgs s_Loom_points) (defBody s_Loom_points) (defScope s_Loom_points) .none kV_Loom_points dV_Loom_points pV_Loom_points aA_Loom_points cV_Loom_points tV_Loom_points,
      PySem.W.fnOf "rows" "Loom.rows" (defArgs s_Loom_rows) (defBody s_Loom_rows) (defScope s_Loom_rows) .none kV_Loom_rows dV_Loom_rows pV_Loom_rows aA_Loom_rows cV_Loom_rows tV_Loom_rows,
      PySem.W.fnOf "_law_cell_at" "_law_cell_at" (defArgs s_law_cell_at) (defBody s_law_cell_at) (defScope s_law_cell_at) .none kV_law_cell_at dV_law_cell_at pV_law_cell_at aA_law_cell_at cV_law_cell_at tV_law_cell_at,
      PySem.W.fnOf "_law_digit" "_law_digit" (defArgs s_law_digit) (defBody s_law_digit) (defScope s_law_digit) .none kV_law_digit dV_law_digit pV_law_digit aA_law_digit cV_law_digit tV_law_digit,
      PySem.W.fnOf "_law_led" "_law_led" (defArgs s_law_led) (defBody s_law_led) (defScope s_law_led) .none kV_law_led dV_law_led pV_law_led aA_law_led cV_law_led tV_law_led,
      PySem.W.fnOf "_law_habits" "_law_habits" (defArgs s_law_habits) (defBody s_law_habits) (defScope s_law_habits) .none kV_law_habits dV_law_habits pV_law_habits aA_law_habits cV_law_habits tV_law_habits,
      PySem.W.fnOf "_law_deeds" "_law_deeds" (defArgs s_law_deeds) (defBody s_law_deeds) (defScope s_law_deeds) .none kV_law_deeds dV_law_deeds pV_law_deeds aA_law_deeds cV_law_deeds tV_law_deeds,
      PySem.W.fnOf "_law_woven" "_law_woven" (defArgs s_law_woven) (defBody s_law_woven) (defScope s_law_woven) .none kV_law_woven dV_law_woven pV_law_woven aA_law_woven cV_law_woven tV_law_woven,
      PySem.W.fnOf "_law_loom" "_law_loom" (defArgs s_law_loom) (defBody s_law_loom) (defScope s_law_loom) .none kV_law_loom dV_law_loom pV_law_loom aA_law_loom (.ref t_law_loom) tV_law_loom,
      PySem.W.fnOf "_law_fallen" "_law_fallen" (defArgs s_law_fallen) (defBody s_law_fallen) (defScope s_law_fallen) .none kV_law_fallen dV_law_fallen pV_law_fallen aA_law_fallen cV_law_fallen tV_law_fallen,
      PySem.W.fnOf "law" "law" (defArgs s_law) (defBody s_law) (defScope s_law) .none kV_law dV_law pV_law aA_law cV_law tV_law⟩ :=
    { F_broken_by := fun_mk (st := s_broken_by) l_broken_by c_broken_by k_broken_by,
      q_broken_by := (fun_mk (st := s_broken_by) l_broken_by c_broken_by k_broken_by).binds (ps := ["loom", "line"]) fun _ _ _ _ _ _ us hl => match us, hl with | [_, _], _ => rfl,
      m_broken_by := PySem.W.mg_of X G a_broken_by,
      k_broken_by := k_broken_by,
      F_allowed_points := fun_mk (st := s_allowed_points) l_allowed_points c_allowed_points k_allowed_points,
      q_allowed_points := (fun_mk (st := s_allowed_points) l_allowed_points c_allowed_points k_allowed_points).binds (ps := ["loom", "fallen"]) fun _ _ _ _ _ _ us hl => match us, hl with | [_, _], _ => rfl,
      m_allowed_points := PySem.W.mg_of X G a_allowed_points,
      k_allowed_points := k_allowed_points,
      F_point_ahead := fun_mk (st := s_point_ahead) l_point_ahead c_point_ahead k_point_ahead,
      q_point_ahead := (fun_mk (st := s_point_ahead) l_point_ahead c_point_ahead k_point_ahead).binds (ps := ["points", "place"]) fun _ _ _ _ _ _ us hl => match us, hl with | [_, _], _ => rfl,
      m_point_ahead := PySem.W.mg_of X G a_point_ahead,
      k_point_ahead := k_point_ahead,
      F_greatest_line := fun_mk (st := s_greatest_line) l_greatest_line c_greatest_line k_greatest_line,
      q_greatest_line := (fun_mk (st := s_greatest_line) l_greatest_line c_greatest_line k_greatest_line).binds (ps := ["loom", "fallen"]) fun _ _ _ _ _ _ us hl => match us, hl with | [_, _], _ => rfl,
      m_greatest_line := PySem.W.mg_of X G a_greatest_line,
      k_greatest_line := k_greatest_line,
      F_Habit_writes_events := fun_mk (st := s_Habit_writes_events) l_Habit_writes_events c_Habit_writes_events k_Habit_writes_events,
      q_Habit_writes_events := (fun_mk (st := s_Habit_writes_events) l_Habit_writes_events c_Habit_writes_events k_Habit_writes_events).binds (ps := ["self"]) fun _ _ _ _ _ _ us hl => match us, hl with | [_], _ => rfl,
      F_Habit_piled_up := fun_mk (st := s_Habit_piled_up) l_Habit_piled_up c_Habit_piled_up k_Habit_piled_up,
      q_Habit_piled_up := (fun_mk (st := s_Habit_piled_up) l_Habit_piled_up c_Habit_piled_up k_Habit_piled_up).binds (ps := ["self", "pile"]) fun _ _ _ _ _ _ us hl => match us, hl with | [_, _], _ => rfl,
      F_Each_writes_events := fun_mk (st := s_Each_writes_events) l_Each_writes_events c_Each_writes_events k_Each_writes_events,
      q_Each_writes_events := (fun_mk (st := s_Each_writes_events) l_Each_writes_events c_Each_writes_events k_Each_writes_events).binds (ps := ["self"]) fun _ _ _ _ _ _ us hl => match us, hl with | [_], _ => rfl,
      F_Each_piled_up := fun_mk (st := s_Each_piled_up) l_Each_piled_up c_Each_piled_up k_Each_piled_up,
      q_Each_piled_up := (fun_mk (st := s_Each_piled_up) l_Each_piled_up c_Each_piled_up k_Each_piled_up).binds (ps := ["self", "pile"]) fun _ _ _ _ _ _ us hl => match us, hl with | [_, _], _ => rfl,
      F_Bundle_init := fun_mk (st := s_Bundle_init) l_Bundle_init c_Bundle_init k_Bundle_init,
      q_Bundle_init := (fun_mk (st := s_Bundle_init) l_Bundle_init c_Bundle_init k_Bundle_init).binds (ps := ["self", "size"]) fun _ _ _ _ _ _ us hl => match us, hl with | [_, _], _ => rfl,
      F_Bundle_writes_events := fun_mk (st := s_Bundle_writes_events) l_Bundle_writes_events c_Bundle_writes_events k_Bundle_writes_events,
      q_Bundle_writes_events := (fun_mk (st := s_Bundle_writes_events) l_Bundle_writes_events c_Bundle_writes_events k_Bundle_writes_events).binds (ps := ["self"]) fun _ _ _ _ _ _ us hl => match us, hl with | [_], _ => rfl,
      F_Bundle_piled_up := fun_mk (st := s_Bundle_piled_up) l_Bundle_piled_up c_Bundle_piled_up k_Bundle_piled_up,
      q_Bundle_piled_up := (fun_mk (st := s_Bundle_piled_up) l_Bundle_piled_up c_Bundle_piled_up k_Bundle_piled_up).binds (ps := ["self", "pile"]) fun _ _ _ _ _ _ us hl => match us, hl with | [_, _], _ => rfl,
      F_Event_init := fun_mk (st := s_Event_init) l_Event_init c_Event_init k_Event_init,
      q_Event_init := (fun_mk (st := s_Event_init) l_Event_init c_Event_init k_Event_init).binds (ps := ["self", "used", "state", "sent", "said"]) fun _ _ _ _ _ _ us hl => match us, hl with | [_, _, _, _, _], _ => rfl,
      F_Thread_init := fun_mk (st := s_Thread_init) l_Thread_init c_Thread_init k_Thread_init,
      q_Thread_init := (fun_mk (st := s_Thread_init) l_Thread_init c_Thread_init k_Thread_init).binds (ps := ["self", "start", "habit"]) fun _ _ _ _ _ _ us hl => match us, hl with | [_, _, _], _ => rfl,
      F_Thread_here := fun_mk (st := s_Thread_here) l_Thread_here c_Thread_here k_Thread_here,
      q_Thread_here := (fun_mk (st := s_Thread_here) l_Thread_here c_Thread_here k_Thread_here).binds (ps := ["self"]) fun _ _ _ _ _ _ us hl => match us, hl with | [_], _ => rfl,
      F_Thread_events := fun_mk (st := s_Thread_events) l_Thread_events c_Thread_events k_Thread_events,
      q_Thread_events := (fun_mk (st := s_Thread_events) l_Thread_events c_Thread_events k_Thread_events).binds (ps := ["self"]) fun _ _ _ _ _ _ us hl => match us, hl with | [_], _ => rfl,
      F_Thread_do := fun_mk (st := s_Thread_do) l_Thread_do c_Thread_do k_Thread_do,
      q_Thread_do := (fun_mk (st := s_Thread_do) l_Thread_do c_Thread_do k_Thread_do).binds (ps := ["self", "event"]) fun _ _ _ _ _ _ us hl => match us, hl with | [_, _], _ => rfl,
      F_Thread_write := fun_mk (st := s_Thread_write) l_Thread_write c_Thread_write k_Thread_write,
      q_Thread_write := (fun_mk (st := s_Thread_write) l_Thread_write c_Thread_write k_Thread_write).binds (ps := ["self"]) fun _ _ _ _ _ _ us hl => match us, hl with | [_], _ => rfl,
      F_Thread_points := fun_mk (st := s_Thread_points) l_Thread_points c_Thread_points k_Thread_points,
      q_Thread_points := (fun_mk (st := s_Thread_points) l_Thread_points c_Thread_points k_Thread_points).binds (ps := ["self"]) fun _ _ _ _ _ _ us hl => match us, hl with | [_], _ => rfl,
      F_Thread_state_at := fun_mk (st := s_Thread_state_at) l_Thread_state_at c_Thread_state_at k_Thread_state_at,
      q_Thread_state_at := (fun_mk (st := s_Thread_state_at) l_Thread_state_at c_Thread_state_at k_Thread_state_at).binds (ps := ["self", "place"]) fun _ _ _ _ _ _ us hl => match us, hl with | [_, _], _ => rfl,
      F_Loom_init := fun_mk (st := s_Loom_init) l_Loom_init c_Loom_init k_Loom_init,
      q_Loom_init := (fun_mk (st := s_Loom_init) l_Loom_init c_Loom_init k_Loom_init).binds (ps := ["self", "does", "starts", "habits", "ordered"]) fun _ _ _ _ _ _ us hl => match us, hl with | [_, _, _, _, _], _ => rfl,
      F_Loom_thread_of := fun_mk (st := s_Loom_thread_of) l_Loom_thread_of c_Loom_thread_of k_Loom_thread_of,
      q_Loom_thread_of := (fun_mk (st := s_Loom_thread_of) l_Loom_thread_of c_Loom_thread_of k_Loom_thread_of).binds (ps := ["self", "hand"]) fun _ _ _ _ _ _ us hl => match us, hl with | [_, _], _ => rfl,
      F_Loom_add := fun_mk (st := s_Loom_add) l_Loom_add c_Loom_add k_Loom_add,
      q_Loom_add := (fun_mk (st := s_Loom_add) l_Loom_add c_Loom_add k_Loom_add).binds (ps := ["self", "hand", "name", "word"]) fun _ _ _ _ _ _ us hl => match us, hl with | [_, _, _, _], _ => rfl,
      F_Loom_own := fun_mk (st := s_Loom_own) l_Loom_own c_Loom_own k_Loom_own,
      q_Loom_own := (fun_mk (st := s_Loom_own) l_Loom_own c_Loom_own k_Loom_own).binds (ps := ["self", "hand"]) fun _ _ _ _ _ _ us hl => match us, hl with | [_, _], _ => rfl,
      F_Loom_use := fun_mk (st := s_Loom_use) l_Loom_use c_Loom_use k_Loom_use,
      q_Loom_use := (fun_mk (st := s_Loom_use) l_Loom_use c_Loom_use k_Loom_use).binds (ps := ["self", "hand", "name"]) fun _ _ _ _ _ _ us hl => match us, hl with | [_, _, _], _ => rfl,
      F_Loom_write := fun_mk (st := s_Loom_write) l_Loom_write c_Loom_write k_Loom_write,
      q_Loom_write := (fun_mk (st := s_Loom_write) l_Loom_write c_Loom_write k_Loom_write).binds (ps := ["self", "hand"]) fun _ _ _ _ _ _ us hl => match us, hl with | [_, _], _ => rfl,
      F_Loom_places := fun_mk (st := s_Loom_places) l_Loom_places c_Loom_places k_Loom_places,
      q_Loom_places := (fun_mk (st := s_Loom_places) l_Loom_places c_Loom_places k_Loom_places).binds (ps := ["self"]) fun _ _ _ _ _ _ us hl => match us, hl with | [_], _ => rfl,
      F_Loom_states := fun_mk (st := s_Loom_states) l_Loom_states c_Loom_states k_Loom_states,
      q_Loom_states := (fun_mk (st := s_Loom_states) l_Loom_states c_Loom_states k_Loom_states).binds (ps := ["self"]) fun _ _ _ _ _ _ us hl => match us, hl with | [_], _ => rfl,
      F_Loom_letters_sent := fun_mk (st := s_Loom_letters_sent) l_Loom_letters_sent c_Loom_letters_sent k_Loom_letters_sent,
      q_Loom_letters_sent := (fun_mk (st := s_Loom_letters_sent) l_Loom_letters_sent c_Loom_letters_sent k_Loom_letters_sent).binds (ps := ["self"]) fun _ _ _ _ _ _ us hl => match us, hl with | [_], _ => rfl,
      F_Loom_letters_used := fun_mk (st := s_Loom_letters_used) l_Loom_letters_used c_Loom_letters_used k_Loom_letters_used,
      q_Loom_letters_used := (fun_mk (st := s_Loom_letters_used) l_Loom_letters_used c_Loom_letters_used k_Loom_letters_used).binds (ps := ["self"]) fun _ _ _ _ _ _ us hl => match us, hl with | [_], _ => rfl,
      F_Loom_road := fun_mk (st := s_Loom_road) l_Loom_road c_Loom_road k_Loom_road,
      q_Loom_road := (fun_mk (st := s_Loom_road) l_Loom_road c_Loom_road k_Loom_road).binds (ps := ["self"]) fun _ _ _ _ _ _ us hl => match us, hl with | [_], _ => rfl,
      F_Loom_points := fun_mk (st := s_Loom_points) l_Loom_points c_Loom_points k_Loom_points,
      q_Loom_points := (fun_mk (st := s_Loom_points) l_Loom_points c_Loom_points k_Loom_points).binds (ps := ["self", "hand"]) fun _ _ _ _ _ _ us hl => match us, hl with | [_, _], _ => rfl,
      F_Loom_rows := fun_mk (st := s_Loom_rows) l_Loom_rows c_Loom_rows k_Loom_rows,
      q_Loom_rows := (fun_mk (st := s_Loom_rows) l_Loom_rows c_Loom_rows k_Loom_rows).binds (ps := ["self"]) fun _ _ _ _ _ _ us hl => match us, hl with | [_], _ => rfl,
      F_law_cell_at := fun_mk (st := s_law_cell_at) l_law_cell_at c_law_cell_at k_law_cell_at,
      q_law_cell_at := (fun_mk (st := s_law_cell_at) l_law_cell_at c_law_cell_at k_law_cell_at).binds (ps := ["_law_script", "_law_k"]) fun _ _ _ _ _ _ us hl => match us, hl with | [_, _], _ => rfl,
      m_law_cell_at := PySem.W.mg_of X G a_law_cell_at,
      k_law_cell_at := k_law_cell_at,
      F_law_digit := fun_mk (st := s_law_digit) l_law_digit c_law_digit k_law_digit,
      q_law_digit := (fun_mk (st := s_law_digit) l_law_digit c_law_digit k_law_digit).binds (ps := ["_law_cell", "_law_k", "_law_base"]) fun _ _ _ _ _ _ us hl => match us, hl with | [_, _, _], _ => rfl,
      m_law_digit := PySem.W.mg_of X G a_law_digit,
      k_law_digit := k_law_digit,
      F_law_led := fun_mk (st := s_law_led) l_law_led c_law_led k_law_led,
      q_law_led := (fun_mk (st := s_law_led) l_law_led c_law_led k_law_led).binds (ps := ["_law_cell", "_law_many", "_law_hand", "_law_state", "_law_word"]) fun _ _ _ _ _ _ us hl => match us, hl with | [_, _, _, _, _], _ => rfl,
      m_law_led := PySem.W.mg_of X G a_law_led,
      k_law_led := k_law_led,
      F_law_habits := fun_mk (st := s_law_habits) l_law_habits c_law_habits k_law_habits,
      q_law_habits := (fun_mk (st := s_law_habits) l_law_habits c_law_habits k_law_habits).binds (ps := ["_law_cell", "_law_many"]) fun _ _ _ _ _ _ us hl => match us, hl with | [_, _], _ => rfl,
      m_law_habits := PySem.W.mg_of X G a_law_habits,
      k_law_habits := k_law_habits,
      F_law_deeds := fun_mk (st := s_law_deeds) l_law_deeds c_law_deeds k_law_deeds,
      q_law_deeds := (fun_mk (st := s_law_deeds) l_law_deeds c_law_deeds k_law_deeds).binds (ps := ["_law_loom_here"]) fun _ _ _ _ _ _ us hl => match us, hl with | [_], _ => rfl,
      m_law_deeds := PySem.W.mg_of X G a_law_deeds,
      k_law_deeds := k_law_deeds,
      F_law_woven := fun_mk (st := s_law_woven) l_law_woven c_law_woven k_law_woven,
      q_law_woven := (fun_mk (st := s_law_woven) l_law_woven c_law_woven k_law_woven).binds (ps := ["_law_loom_here", "_law_cell", "_law_size"]) fun _ _ _ _ _ _ us hl => match us, hl with | [_, _, _], _ => rfl,
      m_law_woven := PySem.W.mg_of X G a_law_woven,
      k_law_woven := k_law_woven,
      G_law_loom := funC_mk (st := s_law_loom) l_law_loom c_law_loom,
      F_law_loom := fun_mk (st := s_law_loom) l_law_loom c_law_loom k_law_loom,
      q_law_loom := (fun_mk (st := s_law_loom) l_law_loom c_law_loom k_law_loom).binds (ps := ["_law_script"]) fun _ _ _ _ _ _ us hl => match us, hl with | [_], _ => rfl,
      m_law_loom := PySem.W.mg_of X G a_law_loom,
      k_law_loom := k_law_loom,
      F_law_fallen := fun_mk (st := s_law_fallen) l_law_fallen c_law_fallen k_law_fallen,
      q_law_fallen := (fun_mk (st := s_law_fallen) l_law_fallen c_law_fallen k_law_fallen).binds (ps := ["_law_cell", "_law_many"]) fun _ _ _ _ _ _ us hl => match us, hl with | [_, _], _ => rfl,
      m_law_fallen := PySem.W.mg_of X G a_law_fallen,
      k_law_fallen := k_law_fallen,
      F_law := fun_mk (st := s_law) l_law c_law k_law,
      q_law := (fun_mk (st := s_law) l_law c_law k_law).binds (ps := ["_law_script"]) fun _ _ _ _ _ _ us hl => match us, hl with | [_], _ => rfl,
      m_law := PySem.W.mg_of X G a_law,
      k_law := k_law,
      cl_Habit := ⟨pg_Habit, hd_Habit, po_Habit, sa_Habit⟩,
      in_Habit := ⟨⟨pg_Habit, hd_Habit, po_Habit, sa_Habit⟩, ca_Habit, gs, tk, mr_Habit⟩,
      m_Habit := PySem.W.mg_of X G a_Habit,
      mkn_Habit := ⟨mk_Habit, ni_Habit, kc_Habit⟩,
      cl_Never := ⟨pg_Never, hd_Never, po_Never, sa_Never⟩,
      in_Never := ⟨⟨pg_Never, hd_Never, po_Never, sa_Never⟩, ca_Never, gs, tk, mr_Never⟩,
      m_Never := PySem.W.mg_of X G a_Never,
      mkn_Never := ⟨mk_Never, ni_Never, kc_Never⟩,
      cl_Each := ⟨pg_Each, hd_Each, po_Each, sa_Each⟩,
      in_Each := ⟨⟨pg_Each, hd_Each, po_Each, sa_Each⟩, ca_Each, gs, tk, mr_Each⟩,
      m_Each := PySem.W.mg_of X G a_Each,
      mkn_Each := ⟨mk_Each, ni_Each, kc_Each⟩,
      cl_Bundle := ⟨pg_Bundle, hd_Bundle, po_Bundle, sa_Bundle⟩,
      in_Bundle := ⟨⟨pg_Bundle, hd_Bundle, po_Bundle, sa_Bundle⟩, ca_Bundle, gs, tk, mr_Bundle⟩,
      m_Bundle := PySem.W.mg_of X G a_Bundle,
      mk_Bundle := ⟨mk_Bundle, a_Bundle_init, i_Bundle_init, kc_Bundle⟩,
      cl_Event := ⟨pg_Event, hd_Event, po_Event, sa_Event⟩,
      in_Event := ⟨⟨pg_Event, hd_Event, po_Event, sa_Event⟩, ca_Event, gs, tk, mr_Event⟩,
      m_Event := PySem.W.mg_of X G a_Event,
      mk_Event := ⟨mk_Event, a_Event_init, i_Event_init, kc_Event⟩,
      cl_Thread := ⟨pg_Thread, hd_Thread, po_Thread, sa_Thread⟩,
      in_Thread := ⟨⟨pg_Thread, hd_Thread, po_Thread, sa_Thread⟩, ca_Thread, gs, tk, mr_Thread⟩,
      m_Thread := PySem.W.mg_of X G a_Thread,
      mk_Thread := ⟨mk_Thread, a_Thread_init, i_Thread_init, kc_Thread⟩,
      cl_Loom := ⟨pg_Loom, hd_Loom, po_Loom, sa_Loom⟩,
      in_Loom := ⟨⟨pg_Loom, hd_Loom, po_Loom, sa_Loom⟩, ca_Loom, gs, tk, mr_Loom⟩,
      m_Loom := PySem.W.mg_of X G a_Loom,
      mk_Loom := ⟨mk_Loom, a_Loom_init, i_Loom_init, kc_Loom⟩,
      mt_Habit_writes_events := ⟨a_Habit_writes_events, i_Habit_writes_events, k_Habit_writes_events⟩,
      mt_Habit_piled_up := ⟨a_Habit_piled_up, i_Habit_piled_up, k_Habit_piled_up⟩,
      mt_Never_writes_events := ⟨ah_Never_writes_events, i_Habit_writes_events, k_Habit_writes_events⟩,
      mt_Never_piled_up := ⟨ah_Never_piled_up, i_Habit_piled_up, k_Habit_piled_up⟩,
      mt_Each_writes_events := ⟨a_Each_writes_events, i_Each_writes_events, k_Each_writes_events⟩,
      mt_Each_piled_up := ⟨a_Each_piled_up, i_Each_piled_up, k_Each_piled_up⟩,
      mt_Bundle_writes_events := ⟨a_Bundle_writes_events, i_Bundle_writes_events, k_Bundle_writes_events⟩,
      mt_Bundle_piled_up := ⟨a_Bundle_piled_up, i_Bundle_piled_up, k_Bundle_piled_up⟩,
      mt_Thread_here := ⟨a_Thread_here, i_Thread_here, k_Thread_here⟩,
      mt_Thread_events := ⟨a_Thread_events, i_Thread_events, k_Thread_events⟩,
      mt_Thread_do := ⟨a_Thread_do, i_Thread_do, k_Thread_do⟩,
      mt_Thread_write := ⟨a_Thread_write, i_Thread_write, k_Thread_write⟩,
      mt_Thread_points := ⟨a_Thread_points, i_Thread_points, k_Thread_points⟩,
      mt_Thread_state_at := ⟨a_Thread_state_at, i_Thread_state_at, k_Thread_state_at⟩,
      mt_Loom_thread_of := ⟨a_Loom_thread_of, i_Loom_thread_of, k_Loom_thread_of⟩,
      mt_Loom_add := ⟨a_Loom_add, i_Loom_add, k_Loom_add⟩,
      mt_Loom_own := ⟨a_Loom_own, i_Loom_own, k_Loom_own⟩,
      mt_Loom_use := ⟨a_Loom_use, i_Loom_use, k_Loom_use⟩,
      mt_Loom_write := ⟨a_Loom_write, i_Loom_write, k_Loom_write⟩,
      mt_Loom_places := ⟨a_Loom_places, i_Loom_places, k_Loom_places⟩,
      mt_Loom_states := ⟨a_Loom_states, i_Loom_states, k_Loom_states⟩,
      mt_Loom_letters_sent := ⟨a_Loom_letters_sent, i_Loom_letters_sent, k_Loom_letters_sent⟩,
      mt_Loom_letters_used := ⟨a_Loom_letters_used, i_Loom_letters_used, k_Loom_letters_used⟩,
      mt_Loom_road := ⟨a_Loom_road, i_Loom_road, k_Loom_road⟩,
      mt_Loom_points := ⟨a_Loom_points, i_Loom_points, k_Loom_points⟩,
      mt_Loom_rows := ⟨a_Loom_rows, i_Loom_rows, k_Loom_rows⟩,
      n_Bundle_size := n_Bundle_size,
      n_Event_said := n_Event_said,
      n_Event_sent := n_Event_sent,
      n_Event_state := n_Event_state,
      n_Event_used := n_Event_used,
      n_Loom_does := n_Loom_does,
      n_Loom_done := n_Loom_done,
      n_Loom_many := n_Loom_many,
      n_Loom_order := n_Loom_order,
      n_Loom_ordered := n_Loom_ordered,
      n_Loom_threads := n_Loom_threads,
      n_Thread_done := n_Thread_done,
      n_Thread_habit := n_Thread_habit,
      n_Thread_pile := n_Thread_pile,
      n_Thread_start := n_Thread_start,
      n_Thread_writings := n_Thread_writings,
      b_enumerate := PySem.W.mg_none_of X G b_enumerate,
      b_int := PySem.W.mg_none_of X G b_int,
      b_isinstance := PySem.W.mg_none_of X G b_isinstance,
      b_len := PySem.W.mg_none_of X G b_len,
      b_list := PySem.W.mg_none_of X G b_list,
      b_max := PySem.W.mg_none_of X G b_max,
      b_min := PySem.W.mg_none_of X G b_min,
      b_range := PySem.W.mg_none_of X G b_range,
      b_sorted := PySem.W.mg_none_of X G b_sorted,
      b_zip := PySem.W.mg_none_of X G b_zip,
      x_NoSize := ⟨xP_NoSize, PySem.W.mg_of X G a_NoSize, kP_NoSize, bP_NoSize, tP_NoSize⟩,
      e_NoSize := ⟨hg_NoSize, hk_NoSize, bP_NoSize, dP_NoSize, he_NoSize, gs, tk, hm_NoSize⟩,
      x_NoPoint := ⟨xP_NoPoint, PySem.W.mg_of X G a_NoPoint, kP_NoPoint, bP_NoPoint, tP_NoPoint⟩,
      e_NoPoint := ⟨hg_NoPoint, hk_NoPoint, bP_NoPoint, dP_NoPoint, he_NoPoint, gs, tk, hm_NoPoint⟩,
      x_NoHand := ⟨xP_NoHand, PySem.W.mg_of X G a_NoHand, kP_NoHand, bP_NoHand, tP_NoHand⟩,
      e_NoHand := ⟨hg_NoHand, hk_NoHand, bP_NoHand, dP_NoHand, he_NoHand, gs, tk, hm_NoHand⟩,
      x_NoLetter := ⟨xP_NoLetter, PySem.W.mg_of X G a_NoLetter, kP_NoLetter, bP_NoLetter, tP_NoLetter⟩,
      e_NoLetter := ⟨hg_NoLetter, hk_NoLetter, bP_NoLetter, dP_NoLetter, he_NoLetter, gs, tk, hm_NoLetter⟩,
      nd_Never_Each := nd_Never_Each,
      nd_Never_Bundle := nd_Never_Bundle,
      nd_Each_Bundle := nd_Each_Bundle,
      kt_Never_Each := kit_ref hd_Each tP_Each k0_Each ks_Never_Each,
      kt_Each_Each := kit_ref hd_Each tP_Each k0_Each ks_Each_Each,
      kt_Bundle_Each := kit_ref hd_Each tP_Each k0_Each ks_Bundle_Each }
  refine ⟨PySem.W.fnOf "law" "law" (defArgs s_law) (defBody s_law) (defScope s_law) .none kV_law dV_law pV_law aA_law cV_law tV_law, [(t_law_loom, p_law_loom, "_law_loom.<locals>.<lambda>")], by simp, ?_, fun s v => .of_eq rfl, fun base KB _ TB => ?_⟩
  · intro p hp
    simp only [List.mem_cons, List.not_mem_nil, or_false] at hp
    rcases hp with rfl
    · exact ⟨e_law_loom, o_law_loom, hd_law_loom⟩
  · letI := noGG K
    exact ok_law T ⟨noGG_in, TB (t_law_loom, p_law_loom, "_law_loom.<locals>.<lambda>") (by simp)⟩
end Law
open PySem PySem.W PyProof.Rows L3 in
set_option maxRecDepth 100000 in
set_option maxHeartbeats 0 in
theorem PySem.Challenge.cw_backline_k33_whole_falls_together_holds : PySem.Challenge.rw_backline_k33_whole_falls_together.Holds := by
  w_on; o_law; k_head; (case hw => w_witness2)
  k_fill
  refine walk_tabs (l := PySem.Challenge.rw_backline_k33_whole_falls_together) (k := 8) (x := "_law_script") rfl rfl ⟨rfl, by decide, by decide⟩ (fun w h Y => PySem.W.km_in_of Y) ?F
  case F =>
    intro w mg fa h Y KX G hmg
    refine' Law.all_mk KX G hmg ?a_NoSize ?a_NoPoint ?a_NoHand ?a_NoLetter ?a_Habit ?a_Never ?a_Each ?a_Bundle ?a_Event ?a_Thread ?a_Loom ?a_law ?a_law_fallen ?a_law_loom ?a_law_woven ?a_law_deeds ?a_law_habits ?a_law_led ?a_law_digit ?a_law_cell_at ?a_Loom_rows ?a_Loom_points ?a_Loom_road ?a_Loom_letters_used ?a_Loom_letters_sent ?a_Loom_states ?a_Loom_places ?a_Loom_write ?a_Loom_use ?a_Loom_own ?a_Loom_add ?a_Loom_thread_of ?a_Loom_init ?a_Thread_state_at ?a_Thread_points ?a_Thread_write ?a_Thread_do ?a_Thread_events ?a_Thread_here ?a_Thread_init ?a_Event_init ?a_Bundle_piled_up ?a_Bundle_writes_events ?a_Bundle_init ?a_Each_piled_up ?a_Each_writes_events ?a_Habit_piled_up ?a_Habit_writes_events ?a_greatest_line ?a_point_ahead ?a_allowed_points ?a_broken_by ?l_broken_by ?c_broken_by ?k_broken_by ?l_allowed_points ?c_allowed_points ?k_allowed_points ?l_point_ahead ?c_point_ahead ?k_point_ahead ?l_greatest_line ?c_greatest_line ?k_greatest_line ?l_Habit_writes_events ?c_Habit_writes_events ?k_Habit_writes_events ?i_Habit_writes_events ?l_Habit_piled_up ?c_Habit_piled_up ?k_Habit_piled_up ?i_Habit_piled_up ?l_Each_writes_events ?c_Each_writes_events ?k_Each_writes_events ?i_Each_writes_events ?l_Each_piled_up ?c_Each_piled_up ?k_Each_piled_up ?i_Each_piled_up ?l_Bundle_init ?c_Bundle_init ?k_Bundle_init ?i_Bundle_init ?l_Bundle_writes_events ?c_Bundle_writes_events ?k_Bundle_writes_events ?i_Bundle_writes_events ?l_Bundle_piled_up ?c_Bundle_piled_up ?k_Bundle_piled_up ?i_Bundle_piled_up ?l_Event_init ?c_Event_init ?k_Event_init ?i_Event_init ?l_Thread_init ?c_Thread_init ?k_Thread_init ?i_Thread_init ?l_Thread_here ?c_Thread_here ?k_Thread_here ?i_Thread_here ?l_Thread_events ?c_Thread_events ?k_Thread_events ?i_Thread_events ?l_Thread_do ?c_Thread_do ?k_Thread_do ?i_Thread_do ?l_Thread_write ?c_Thread_write ?k_Thread_write ?i_Thread_write ?l_Thread_points ?c_Thread_points ?k_Thread_points ?i_Thread_points ?l_Thread_state_at ?c_Thread_state_at ?k_Thread_state_at ?i_Thread_state_at ?l_Loom_init ?c_Loom_init ?k_Loom_init ?i_Loom_init ?l_Loom_thread_of ?c_Loom_thread_of ?k_Loom_thread_of ?i_Loom_thread_of ?l_Loom_add ?c_Loom_add ?k_Loom_add ?i_Loom_add ?l_Loom_own ?c_Loom_own ?k_Loom_own ?i_Loom_own ?l_Loom_use ?c_Loom_use ?k_Loom_use ?i_Loom_use ?l_Loom_write ?c_Loom_write ?k_Loom_write ?i_Loom_write ?l_Loom_places ?c_Loom_places ?k_Loom_places ?i_Loom_places ?l_Loom_states ?c_Loom_states ?k_Loom_states ?i_Loom_states ?l_Loom_letters_sent ?c_Loom_letters_sent ?k_Loom_letters_sent ?i_Loom_letters_sent ?l_Loom_letters_used ?c_Loom_letters_used ?k_Loom_letters_used ?i_Loom_letters_used ?l_Loom_road ?c_Loom_road ?k_Loom_road ?i_Loom_road ?l_Loom_points ?c_Loom_points ?k_Loom_points ?i_Loom_points ?l_Loom_rows ?c_Loom_rows ?k_Loom_rows ?i_Loom_rows ?l_law_cell_at ?c_law_cell_at ?k_law_cell_at ?l_law_digit ?c_law_digit ?k_law_digit ?l_law_led ?c_law_led ?k_law_led ?l_law_habits ?c_law_habits ?k_law_habits ?l_law_deeds ?c_law_deeds ?k_law_deeds ?l_law_woven ?c_law_woven ?k_law_woven ?l_law_loom ?c_law_loom ?k_law_loom ?l_law_fallen ?c_law_fallen ?k_law_fallen ?l_law ?c_law ?k_law ?e_law_loom ?o_law_loom ?hd_law_loom ?pg_Habit ?hd_Habit ?po_Habit ?sa_Habit ?ca_Habit ?mr_Habit ?kc_Habit ?mk_Habit ?ni_Habit ?pg_Never ?hd_Never ?po_Never ?sa_Never ?ca_Never ?mr_Never ?kc_Never ?mk_Never ?ni_Never ?pg_Each ?hd_Each ?po_Each ?sa_Each ?ca_Each ?mr_Each ?kc_Each ?mk_Each ?ni_Each ?pg_Bundle ?hd_Bundle ?po_Bundle ?sa_Bundle ?ca_Bundle ?mr_Bundle ?kc_Bundle ?mk_Bundle ?pg_Event ?hd_Event ?po_Event ?sa_Event ?ca_Event ?mr_Event ?kc_Event ?mk_Event ?pg_Thread ?hd_Thread ?po_Thread ?sa_Thread ?ca_Thread ?mr_Thread ?kc_Thread ?mk_Thread ?pg_Loom ?hd_Loom ?po_Loom ?sa_Loom ?ca_Loom ?mr_Loom ?kc_Loom ?mk_Loom ?gs ?tk ?ah_Never_writes_events ?ah_Never_piled_up ?n_Bundle_size ?n_Event_said ?n_Event_sent ?n_Event_state ?n_Event_used ?n_Loom_does ?n_Loom_done ?n_Loom_many ?n_Loom_order ?n_Loom_ordered ?n_Loom_threads ?n_Thread_done ?n_Thread_habit ?n_Thread_pile ?n_Thread_start ?n_Thread_writings ?b_enumerate ?b_int ?b_isinstance ?b_len ?b_list ?b_max ?b_min ?b_range ?b_sorted ?b_zip ?xP_NoSize ?kP_NoSize ?bP_NoSize ?tP_NoSize ?dP_NoSize ?hg_NoSize ?hk_NoSize ?he_NoSize ?hm_NoSize ?xP_NoPoint ?kP_NoPoint ?bP_NoPoint ?tP_NoPoint ?dP_NoPoint ?hg_NoPoint ?hk_NoPoint ?he_NoPoint ?hm_NoPoint ?xP_NoHand ?kP_NoHand ?bP_NoHand ?tP_NoHand ?dP_NoHand ?hg_NoHand ?hk_NoHand ?he_NoHand ?hm_NoHand ?xP_NoLetter ?kP_NoLetter ?bP_NoLetter ?tP_NoLetter ?dP_NoLetter ?hg_NoLetter ?hk_NoLetter ?he_NoLetter ?hm_NoLetter ?nd_Never_Each ?nd_Never_Bundle ?nd_Each_Bundle ?ks_Never_Each ?tP_Each ?k0_Each ?ks_Each_Each ?ks_Bundle_Each
    (case a_NoSize => k_is)
    (case a_NoPoint => k_is)
    (case a_NoHand => k_is)
    (case a_NoLetter => k_is)
    (case a_Habit => k_is)
    (case a_Never => k_is)
    (case a_Each => k_is)
    (case a_Bundle => k_is)
    (case a_Event => k_is)
    (case a_Thread => k_is)
    (case a_Loom => k_is)
    (case a_law => k_is)
    (case a_law_fallen => k_is)
    (case a_law_loom => k_is)
    (case a_law_woven => k_is)
    (case a_law_deeds => k_is)
    (case a_law_habits => k_is)
    (case a_law_led => k_is)
    (case a_law_digit => k_is)
    (case a_law_cell_at => k_is)
    (case a_Loom_rows => k_is)
    (case a_Loom_points => k_is)
    (case a_Loom_road => k_is)
    (case a_Loom_letters_used => k_is)
    (case a_Loom_letters_sent => k_is)
    (case a_Loom_states => k_is)
    (case a_Loom_places => k_is)
    (case a_Loom_write => k_is)
    (case a_Loom_use => k_is)
    (case a_Loom_own => k_is)
    (case a_Loom_add => k_is)
    (case a_Loom_thread_of => k_is)
    (case a_Loom_init => k_is)
    (case a_Thread_state_at => k_is)
    (case a_Thread_points => k_is)
    (case a_Thread_write => k_is)
    (case a_Thread_do => k_is)
    (case a_Thread_events => k_is)
    (case a_Thread_here => k_is)
    (case a_Thread_init => k_is)
    (case a_Event_init => k_is)
    (case a_Bundle_piled_up => k_is)
    (case a_Bundle_writes_events => k_is)
    (case a_Bundle_init => k_is)
    (case a_Each_piled_up => k_is)
    (case a_Each_writes_events => k_is)
    (case a_Habit_piled_up => k_is)
    (case a_Habit_writes_events => k_is)
    (case a_greatest_line => k_is)
    (case a_point_ahead => k_is)
    (case a_allowed_points => k_is)
    (case a_broken_by => k_is)
    (case l_broken_by => k_is)
    (case c_broken_by => k_is)
    (case k_broken_by => k_is)
    (case l_allowed_points => k_is)
    (case c_allowed_points => k_is)
    (case k_allowed_points => k_is)
    (case l_point_ahead => k_is)
    (case c_point_ahead => k_is)
    (case k_point_ahead => k_is)
    (case l_greatest_line => k_is)
    (case c_greatest_line => k_is)
    (case k_greatest_line => k_is)
    (case l_Habit_writes_events => k_is)
    (case c_Habit_writes_events => k_is)
    (case k_Habit_writes_events => k_is)
    (case i_Habit_writes_events => k_is)
    (case l_Habit_piled_up => k_is)
    (case c_Habit_piled_up => k_is)
    (case k_Habit_piled_up => k_is)
    (case i_Habit_piled_up => k_is)
    (case l_Each_writes_events => k_is)
    (case c_Each_writes_events => k_is)
    (case k_Each_writes_events => k_is)
    (case i_Each_writes_events => k_is)
    (case l_Each_piled_up => k_is)
    (case c_Each_piled_up => k_is)
    (case k_Each_piled_up => k_is)
    (case i_Each_piled_up => k_is)
    (case l_Bundle_init => k_is)
    (case c_Bundle_init => k_is)
    (case k_Bundle_init => k_is)
    (case i_Bundle_init => k_is)
    (case l_Bundle_writes_events => k_is)
    (case c_Bundle_writes_events => k_is)
    (case k_Bundle_writes_events => k_is)
    (case i_Bundle_writes_events => k_is)
    (case l_Bundle_piled_up => k_is)
    (case c_Bundle_piled_up => k_is)
    (case k_Bundle_piled_up => k_is)
    (case i_Bundle_piled_up => k_is)
    (case l_Event_init => k_is)
    (case c_Event_init => k_is)
    (case k_Event_init => k_is)
    (case i_Event_init => k_is)
    (case l_Thread_init => k_is)
    (case c_Thread_init => k_is)
    (case k_Thread_init => k_is)
    (case i_Thread_init => k_is)
    (case l_Thread_here => k_is)
    (case c_Thread_here => k_is)
    (case k_Thread_here => k_is)
    (case i_Thread_here => k_is)
    (case l_Thread_events => k_is)
    (case c_Thread_events => k_is)
    (case k_Thread_events => k_is)
    (case i_Thread_events => k_is)
    (case l_Thread_do => k_is)
    (case c_Thread_do => k_is)
    (case k_Thread_do => k_is)
    (case i_Thread_do => k_is)
    (case l_Thread_write => k_is)
    (case c_Thread_write => k_is)
    (case k_Thread_write => k_is)
    (case i_Thread_write => k_is)
    (case l_Thread_points => k_is)
    (case c_Thread_points => k_is)
    (case k_Thread_points => k_is)
    (case i_Thread_points => k_is)
    (case l_Thread_state_at => k_is)
    (case c_Thread_state_at => k_is)
    (case k_Thread_state_at => k_is)
    (case i_Thread_state_at => k_is)
    (case l_Loom_init => k_is)
    (case c_Loom_init => k_is)
    (case k_Loom_init => k_is)
    (case i_Loom_init => k_is)
    (case l_Loom_thread_of => k_is)
    (case c_Loom_thread_of => k_is)
    (case k_Loom_thread_of => k_is)
    (case i_Loom_thread_of => k_is)
    (case l_Loom_add => k_is)
    (case c_Loom_add => k_is)
    (case k_Loom_add => k_is)
    (case i_Loom_add => k_is)
    (case l_Loom_own => k_is)
    (case c_Loom_own => k_is)
    (case k_Loom_own => k_is)
    (case i_Loom_own => k_is)
    (case l_Loom_use => k_is)
    (case c_Loom_use => k_is)
    (case k_Loom_use => k_is)
    (case i_Loom_use => k_is)
    (case l_Loom_write => k_is)
    (case c_Loom_write => k_is)
    (case k_Loom_write => k_is)
    (case i_Loom_write => k_is)
    (case l_Loom_places => k_is)
    (case c_Loom_places => k_is)
    (case k_Loom_places => k_is)
    (case i_Loom_places => k_is)
    (case l_Loom_states => k_is)
    (case c_Loom_states => k_is)
    (case k_Loom_states => k_is)
    (case i_Loom_states => k_is)
    (case l_Loom_letters_sent => k_is)
    (case c_Loom_letters_sent => k_is)
    (case k_Loom_letters_sent => k_is)
    (case i_Loom_letters_sent => k_is)
    (case l_Loom_letters_used => k_is)
    (case c_Loom_letters_used => k_is)
    (case k_Loom_letters_used => k_is)
    (case i_Loom_letters_used => k_is)
    (case l_Loom_road => k_is)
    (case c_Loom_road => k_is)
    (case k_Loom_road => k_is)
    (case i_Loom_road => k_is)
    (case l_Loom_points => k_is)
    (case c_Loom_points => k_is)
    (case k_Loom_points => k_is)
    (case i_Loom_points => k_is)
    (case l_Loom_rows => k_is)
    (case c_Loom_rows => k_is)
    (case k_Loom_rows => k_is)
    (case i_Loom_rows => k_is)
    (case l_law_cell_at => k_is)
    (case c_law_cell_at => k_is)
    (case k_law_cell_at => k_is)
    (case l_law_digit => k_is)
    (case c_law_digit => k_is)
    (case k_law_digit => k_is)
    (case l_law_led => k_is)
    (case c_law_led => k_is)
    (case k_law_led => k_is)
    (case l_law_habits => k_is)
    (case c_law_habits => k_is)
    (case k_law_habits => k_is)
    (case l_law_deeds => k_is)
    (case c_law_deeds => k_is)
    (case k_law_deeds => k_is)
    (case l_law_woven => k_is)
    (case c_law_woven => k_is)
    (case k_law_woven => k_is)
    (case l_law_loom => k_is)
    (case c_law_loom => k_is)
    (case k_law_loom => k_is)
    (case l_law_fallen => k_is)
    (case c_law_fallen => k_is)
    (case k_law_fallen => k_is)
    (case l_law => k_is)
    (case c_law => k_is)
    (case k_law => k_is)
    (case e_law_loom => exact PySem.W.km_tabs_of Y _ List.mem_cons_self)
    (case o_law_loom => kernel_rfl)
    (case hd_law_loom => kernel_rfl)
    (case pg_Habit => k_is)
    (case hd_Habit => k_is)
    (case po_Habit => k_is)
    (case sa_Habit => k_is)
    (case ca_Habit => k_is)
    (case mr_Habit => k_is)
    (case kc_Habit => k_is)
    (case mk_Habit => k_is)
    (case ni_Habit => k_is)
    (case pg_Never => k_is)
    (case hd_Never => k_is)
    (case po_Never => k_is)
    (case sa_Never => k_is)
    (case ca_Never => k_is)
    (case mr_Never => k_is)
    (case kc_Never => k_is)
    (case mk_Never => k_is)
    (case ni_Never => k_is)
    (case pg_Each => k_is)
    (case hd_Each => k_is)
    (case po_Each => k_is)
    (case sa_Each => k_is)
    (case ca_Each => k_is)
    (case mr_Each => k_is)
    (case kc_Each => k_is)
    (case mk_Each => k_is)
    (case ni_Each => k_is)
    (case pg_Bundle => k_is)
    (case hd_Bundle => k_is)
    (case po_Bundle => k_is)
    (case sa_Bundle => k_is)
    (case ca_Bundle => k_is)
    (case mr_Bundle => k_is)
    (case kc_Bundle => k_is)
    (case mk_Bundle => k_is)
    (case pg_Event => k_is)
    (case hd_Event => k_is)
    (case po_Event => k_is)
    (case sa_Event => k_is)
    (case ca_Event => k_is)
    (case mr_Event => k_is)
    (case kc_Event => k_is)
    (case mk_Event => k_is)
    (case pg_Thread => k_is)
    (case hd_Thread => k_is)
    (case po_Thread => k_is)
    (case sa_Thread => k_is)
    (case ca_Thread => k_is)
    (case mr_Thread => k_is)
    (case kc_Thread => k_is)
    (case mk_Thread => k_is)
    (case pg_Loom => k_is)
    (case hd_Loom => k_is)
    (case po_Loom => k_is)
    (case sa_Loom => k_is)
    (case ca_Loom => k_is)
    (case mr_Loom => k_is)
    (case kc_Loom => k_is)
    (case mk_Loom => k_is)
    (case gs => k_is)
    (case tk => k_is)
    (case ah_Never_writes_events => k_is)
    (case ah_Never_piled_up => k_is)
    (case n_Bundle_size => k_is)
    (case n_Event_said => k_is)
    (case n_Event_sent => k_is)
    (case n_Event_state => k_is)
    (case n_Event_used => k_is)
    (case n_Loom_does => k_is)
    (case n_Loom_done => k_is)
    (case n_Loom_many => k_is)
    (case n_Loom_order => k_is)
    (case n_Loom_ordered => k_is)
    (case n_Loom_threads => k_is)
    (case n_Thread_done => k_is)
    (case n_Thread_habit => k_is)
    (case n_Thread_pile => k_is)
    (case n_Thread_start => k_is)
    (case n_Thread_writings => k_is)
    (case b_enumerate => k_is)
    (case b_int => k_is)
    (case b_isinstance => k_is)
    (case b_len => k_is)
    (case b_list => k_is)
    (case b_max => k_is)
    (case b_min => k_is)
    (case b_range => k_is)
    (case b_sorted => k_is)
    (case b_zip => k_is)
    (case xP_NoSize => k_exc)
    (case kP_NoSize => k_is)
    (case bP_NoSize => k_is)
    (case tP_NoSize => k_is)
    (case dP_NoSize => k_is)
    (case hg_NoSize => k_is)
    (case hk_NoSize => k_is)
    (case he_NoSize => k_is)
    (case hm_NoSize => k_is)
    (case xP_NoPoint => k_exc)
    (case kP_NoPoint => k_is)
    (case bP_NoPoint => k_is)
    (case tP_NoPoint => k_is)
    (case dP_NoPoint => k_is)
    (case hg_NoPoint => k_is)
    (case hk_NoPoint => k_is)
    (case he_NoPoint => k_is)
    (case hm_NoPoint => k_is)
    (case xP_NoHand => k_exc)
    (case kP_NoHand => k_is)
    (case bP_NoHand => k_is)
    (case tP_NoHand => k_is)
    (case dP_NoHand => k_is)
    (case hg_NoHand => k_is)
    (case hk_NoHand => k_is)
    (case he_NoHand => k_is)
    (case hm_NoHand => k_is)
    (case xP_NoLetter => k_exc)
    (case kP_NoLetter => k_is)
    (case bP_NoLetter => k_is)
    (case tP_NoLetter => k_is)
    (case dP_NoLetter => k_is)
    (case hg_NoLetter => k_is)
    (case hk_NoLetter => k_is)
    (case he_NoLetter => k_is)
    (case hm_NoLetter => k_is)
    (case nd_Never_Each => decide)
    (case nd_Never_Bundle => decide)
    (case nd_Each_Bundle => decide)
    (case ks_Never_Each => k_is)
    (case tP_Each => k_is)
    (case k0_Each => k_is)
    (case ks_Each_Each => k_is)
    (case ks_Bundle_Each => k_is)
