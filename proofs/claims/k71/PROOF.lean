import PyProof.Rows.All
import Wide.All
import OpenK.AllK
import Wide.FinOn
import HandS.ForMost
import HandS.ForExc
import HandS.TryMany
import HandS.NestedK
import HandS.Walk
import HandS.CallSlots
import HandS.Deep
import HandS.IsInst
import HandS.SortInts
import HandS.Conv
import HandS.ExcIs
import HandS.Text
import HandS.EndTab
import HandS.DictTup
import HandS.DictEq
import KE.SortData
import HandS.Finally
import KE.KDictKeyed
import HandS.Sort
import HandS.NoneIn
import HandS.TupLe
import KE.KDictSum
import KE.KDictCopyH
import KE.DataMinMax
import HandS.SortKw
import HandS.ListEq
import PyProof.NeKinds
import HandS.Iter
import HandS.Replace
import KE.IntTextLaws
import PySem.Challenge.RW_backline_k71_rows_as_text
set_option Elab.async false
set_option linter.all false
set_option maxRecDepth 100000
set_option maxHeartbeats 4000000
namespace L3
open PySem PySem.Spec L2 NdefX LamX
/-- what the cells of the running frames that functions have captured hold -/
class GG (K : PySem.W.Frag) where
  cell : Addr → Option V

/-- the words of a function that is made within a def: its statement, name, qualified name, captured names -/
structure Ck where
  st : Stmt
  name : Str
  qual : Str
  fr : List Str
abbrev Ck.nf (k : Ck) (cl : List (Str × Addr)) (c : Addr) : NF := NF.of k.st k.name k.qual cl c
/-- a lambda's words: its parameters, its body, its scope -/
def lamOf : Stmt → Option (Arguments × Expr × Scope)
  | .Expr (.Lambda a b sc _) _ => some (a, b, sc)
  | _ => none
def LamP (f : Addr) (q : Str) (L : Arguments × Expr × Scope) (cl : List (Str × Addr)) (c : Addr) : Heap → Prop := fun h => ∃ (od : Option Addr) (sl : Array (Option Value)) (pm ctv : Value),
  h.get? f = some (⟨.type "function", od, .func (PySem.W.kla_fn "<lambda>" q L.1 L.2.1 L.2.2 cl pm (.ref c) ctv), sl⟩ : Obj)
def DefP (f : Addr) (F : NF) : Heap → Prop := fun h => ∃ (od : Option Addr) (sl : Array (Option Value)) (doc pm ctv : Value), h.get? f = some (⟨.type "function", od, .func (F.fd doc pm ctv), sl⟩ : Obj)
def Ck.foP (k : Ck) (f : Addr) (cl : List (Str × Addr)) (c : Addr) : Heap → Prop := match lamOf k.st with
  | some L => LamP f k.qual L cl c
  | none => DefP f (k.nf cl c)
/-- the function's object -/
abbrev Ck.fo (k : Ck) (f : Addr) (cl : List (Str × Addr)) (c : Addr) : HO := .ext (k.foP f cl c)
theorem Ck.fo_def {k : Ck} (h : lamOf k.st = none) (f : Addr) (cl : List (Str × Addr)) (c : Addr) : k.fo f cl c = FnO f (k.nf cl c) := by
  unfold Ck.fo Ck.foP
  rw [h]
  rfl
theorem Ck.fo_lam {k : Ck} {L : Arguments × Expr × Scope} (h : lamOf k.st = some L) (f : Addr) (cl : List (Str × Addr)) (c : Addr) : k.fo f cl c = .ext (LamP f k.qual L cl c) := by
  unfold Ck.fo Ck.foP
  rw [h]
theorem Ck.fo_at {k : Ck} {f : Addr} {cl : List (Str × Addr)} {c : Addr} {P : Program} {w : World} {H : Hp} {h : Heap} (hok : HOk P w H h) (e : H f = some (k.fo f cl c)) : ∃ (od : Option Addr) (fd : FuncData) (sl : Array (Option Value)), h.get? f = some (⟨.type "function", od, .func fd, sl⟩ : Obj) := by
  cases hl : lamOf k.st with
  | none =>
    rw [k.fo_def hl] at e
    obtain ⟨od, sl, doc, pm, ctv, z⟩ := fnO_at hok e
    exact ⟨od, _, sl, z⟩
  | some L =>
    rw [k.fo_lam hl] at e
    obtain ⟨⟨od, sl, pm, ctv, z⟩, _, _⟩ := hok f _ e
    exact ⟨od, _, sl, z⟩
inductive LV where
  | non | bl (b : Bool) | int (i : Int) | str (x : Str) | ty (n : String) | ref (a : Addr) | scr (ns : List Int)
  | tup (xs : List LV) | lst (xs : List LV) | dT (kvs : List (List Key × LV)) | ins (C : Addr) (fs : List (Str × LV))
  | clo (k : Ck) (xs : List LV)
  | exc (C : Addr)

/-- what stands in the store at an address: a thing that may change -/
inductive LO where
  | lst (xs : List LV) | dK (kvs : List (Key × LV)) | dT (kvs : List (List Key × LV)) | ins (C : Addr) (fs : List (Str × LV)) | tab (q : Str)

abbrev LS := Addr → Option LO
def put (s : LS) (a : Addr) (o : LO) : LS := fun b => if b = a then some o else s b
def del (s : LS) (a : Addr) : LS := fun b => if b = a then none else s b
theorem put_same {s : LS} {a : Addr} {o : LO} : put s a o a = some o := by unfold put; rw [if_pos rfl]
theorem put_ne {s : LS} {a b : Addr} {o : LO} (h : b ≠ a) : put s a o b = s b := by unfold put; rw [if_neg h]
theorem put_put {s : LS} {a : Addr} {o u : LO} : put (put s a o) a u = put s a u := by
  funext b; unfold put; split <;> rfl
theorem del_put {s : LS} {a : Addr} {o : LO} (h : s a = none) : del (put s a o) a = s := by
  funext b; unfold del put
  split
  · next e => rw [e, h]
  · rfl
theorem put_self {s : LS} {a : Addr} {o : LO} (h : s a = some o) : put s a o = s := by
  funext b; unfold put
  split
  · next e => rw [e, h]
  · rfl
theorem ne_put {s : LS} {a b : Addr} {o : LO} (h : put s a o b = none) : b ≠ a ∧ s b = none := by
  unfold put at h
  split at h
  · cases h
  · next e => exact ⟨e, h⟩

def isD (us : List (List Key × V)) (o : HO) : Prop := o = .dT us ∨ ∃ ob, o = .frz ob (.dT us)
theorem isD.inj {us vs : List (List Key × V)} {o : HO} (a : isD us o) (b : isD vs o) : us = vs := by
  rcases a with rfl | ⟨_, rfl⟩ <;> rcases b with e | ⟨_, e⟩ <;> cases e <;> rfl
/-- the same; a dict may be locked; a table of code objects may grow -/
def Eqo (o o' : HO) : Prop := o' = o ∨ (∃ us od, o = .dT us ∧ o' = .frz od (.dT us)) ∨ ∃ ps, o = .tbl ps
theorem Eqo.refl (o : HO) : Eqo o o := .inl rfl
theorem isD.notbl {us : List (List Key × V)} {ps : Array Value} (h : isD us (.tbl ps)) : False := by
  rcases h with h | ⟨_, h⟩ <;> cases h
theorem Eqo.trans {a b c : HO} (x : Eqo a b) (y : Eqo b c) : Eqo a c := by
  rcases x with rfl | ⟨us, od, h1, h2⟩ | ⟨ps, rfl⟩
  · exact y
  · rcases y with rfl | ⟨vs, od', h3, h4⟩ | ⟨ps, rfl⟩
    · exact .inr (.inl ⟨us, od, h1, h2⟩)
    · rw [h2] at h3; cases h3
    · cases h2
  · exact .inr (.inr ⟨ps, rfl⟩)
theorem Eqo.same {a o : HO} (h : Eqo a o) (n1 : ∀ us, a ≠ .dT us) (n2 : ∀ ps, a ≠ .tbl ps) : o = a := by
  rcases h with h | ⟨us, od, h1, _⟩ | ⟨ps, h⟩
  · exact h
  · exact (n1 us h1).elim
  · exact (n2 ps h).elim
theorem Eqo.tup {xs : List V} {o : HO} (h : Eqo (.tup xs) o) : o = .tup xs := h.same (fun us z => by cases z) fun ps z => by cases z
theorem Eqo.lst {xs : List V} {o : HO} (h : Eqo (.lst xs) o) : o = .lst xs := h.same (fun us z => by cases z) fun ps z => by cases z
theorem Eqo.ins {C dx : Addr} {xs : List (Str × V)} {o : HO} (h : Eqo (.ins C dx xs) o) : o = .ins C dx xs := h.same (fun us z => by cases z) fun ps z => by cases z
theorem Eqo.frzL {ob : Obj} {xs : List V} {o : HO} (h : Eqo (.frz ob (.lst xs)) o) : o = .frz ob (.lst xs) := h.same (fun us z => by cases z) fun ps z => by cases z
theorem Eqo.frz {ob : Obj} {u o : HO} (h : Eqo (.frz ob u) o) : o = .frz ob u := h.same (fun us z => by cases z) fun ps z => by cases z
theorem Eqo.ext {φ : Heap → Prop} {o : HO} (h : Eqo (.ext φ) o) : o = .ext φ := h.same (fun us z => by cases z) fun ps z => by cases z
theorem Eqo.isD {us : List (List Key × V)} {o o' : HO} (h : Eqo o o') (d : L3.isD us o) : L3.isD us o' := by
  rcases h with rfl | ⟨vs, od, rfl, rfl⟩ | ⟨ps, rfl⟩
  · exact d
  · rcases d with d | ⟨_, d⟩ <;> cases d
    exact .inr ⟨od, rfl⟩
  · exact d.notbl.elim

/-- from one state to a later one: what the store does not hold stands as it stood, and comes into no store again -/
def Step (s : LS) (H : Hp) (s' : LS) (H' : Hp) : Prop := ∀ a o, H a = some o → s a = none → (∃ o', H' a = some o' ∧ Eqo o o') ∧ s' a = none
theorem Step.refl (s : LS) (H : Hp) : Step s H s H := fun a o h n => ⟨⟨o, h, .refl o⟩, n⟩
theorem Step.trans {s s1 s2 : LS} {H H1 H2 : Hp} (a : Step s H s1 H1) (b : Step s1 H1 s2 H2) : Step s H s2 H2 := fun x o h n => by
  obtain ⟨⟨o1, h1, e1⟩, n1⟩ := a x o h n
  obtain ⟨⟨o2, h2, e2⟩, n2⟩ := b x o1 h1 n1
  exact ⟨⟨o2, h2, e1.trans e2⟩, n2⟩

/-- an exception of a class -/
def ExcP (a : Addr) (cls : Value) (d : Option Addr) : Heap → Prop := fun h => ∃ (o : Obj) (vs : Array Value), h.get? a = some o ∧ Zc cls d o ∧ o.data = .fields vs
/-- a captured cell that holds v -/
def CelO (c : Addr) (v : V) : HO := .ext fun h => ∃ u, RelV v u ∧ h.IsCell c (some u)
/-- the captured cell c holds v: its frame is gone, or it runs -/
def CelH (K : PySem.W.Frag) [GG K] (s : LS) (H : Hp) (c : Addr) (v : V) : Prop := (s c = none ∧ H c = some (CelO c v)) ∨ GG.cell K c = some v
section
variable (K : PySem.W.Frag) [GG K] (s : LS) (H : Hp)
def ScrAt (a : Addr) (ns : List Int) : Prop := (s a = none ∧ Rd H a (.lst (ns.map V.int))) ∨
    ∃ (o : Obj) (its : Array Value) (n : Nat), K.lookup a = some o ∧ o.cls = .type "list" ∧ o.dict = none ∧ o.data = .seq its n ∧ its.size ≤ sizeLine ∧ Vals (ns.map V.int) its.toList
mutual
def RV : LV → V → Prop
  | .non, v => v = .non
  | .bl b, v => v = .bl b
  | .int i, v => v = .int i
  | .str x, v => v = .str x
  | .ty n, v => v = .ty n
  | .ref a, v => v = .ref a
  | .scr ns, v => ∃ a, v = .ref a ∧ ScrAt K s H a ns
  | .tup xs, v => ∃ a us, v = .ref a ∧ s a = none ∧ H a = some (.tup us) ∧ RVs xs us
  | .lst xs, v => ∃ a us, v = .ref a ∧ s a = none ∧ H a = some (.lst us) ∧ RVs xs us
  | .dT kvs, v => ∃ a us o, v = .ref a ∧ s a = none ∧ H a = some o ∧ isD us o ∧ RVk kvs us
  | .ins C fs, v => ∃ a dx us, v = .ref a ∧ s a = none ∧ H a = some (.ins C dx us) ∧ RVf fs us
  | .clo k xs, v => ∃ f c cl, v = .ref f ∧ s f = none ∧ H f = some (k.fo f cl c) ∧ s c = none ∧ H c = some (CodeO c k.qual) ∧ cl.map (·.1) = k.fr ∧ (cl.map (·.2)).Nodup ∧ RVc xs (cl.map (·.2))
  | .exc C, v => ∃ a, v = .ref a ∧ s a = none ∧ H a = some (.ext (ExcP a (.ref C) none))
def RVc : List LV → List Addr → Prop
  | [], cs => cs = []
  | x :: xs, cs => ∃ c r u, cs = c :: r ∧ CelH K s H c u ∧ RV x u ∧ RVc xs r
def RVs : List LV → List V → Prop
  | [], us => us = []
  | x :: xs, us => ∃ u r, us = u :: r ∧ RV x u ∧ RVs xs r
def RVk : List (List Key × LV) → List (List Key × V) → Prop
  | [], us => us = []
  | (k, x) :: xs, us => ∃ u r, us = (k, u) :: r ∧ RV x u ∧ RVk xs r
def RVf : List (Str × LV) → List (Str × V) → Prop
  | [], us => us = []
  | (k, x) :: xs, us => ∃ u r, us = (k, u) :: r ∧ RV x u ∧ RVf xs r
end
end
/-- dicts with plain keys (in the store alone) -/
def RVd (K : PySem.W.Frag) [GG K] (s : LS) (H : Hp) : List (Key × LV) → List (Key × V) → Prop
  | [], us => us = []
  | (k, x) :: xs, us => ∃ u r, us = (k, u) :: r ∧ RV K s H x u ∧ RVd K s H xs r
def ObjR (K : PySem.W.Frag) [GG K] (s : LS) (H : Hp) (a : Addr) : LO → Prop
  | .lst xs => ∃ us, H a = some (.lst us) ∧ RVs K s H xs us
  | .dK kvs => ∃ us, H a = some (.dK us) ∧ RVd K s H kvs us
  | .dT kvs => ∃ us, H a = some (.dT us) ∧ RVk K s H kvs us
  | .ins C fs => ∃ dx us, H a = some (.ins C dx us) ∧ RVf K s H fs us
  | .tab q => ∃ ps, H a = some (.tbl ps) ∧ TriplesOk ps.toList ∧ ∀ (pos : Pos) (cv : Value), codeAmong pos ps.toList = some cv → ∃ c, cv = .ref c ∧ s c = none ∧ H c = some (CodeO c q)
def RelS (K : PySem.W.Frag) [GG K] (s : LS) (H : Hp) : Prop := ∀ a o, s a = some o → ObjR K s H a o

section
variable {K : PySem.W.Frag} [GG K] {s s' : LS} {H H' : Hp}
theorem ScrAt.mono (st : Step s H s' H') {a : Addr} {ns : List Int} (h : ScrAt K s H a ns) : ScrAt K s' H' a ns := by
  rcases h with ⟨n, h | ⟨o, h⟩⟩ | h
  · obtain ⟨⟨o', h', e⟩, n'⟩ := st a _ h n
    rw [e.lst] at h'
    exact .inl ⟨n', .inl h'⟩
  · obtain ⟨⟨o', h', e⟩, n'⟩ := st a _ h n
    rw [e.frzL] at h'
    exact .inl ⟨n', .inr ⟨o, h'⟩⟩
  · exact .inr h
theorem CelH.mono (st : Step s H s' H') {c : Addr} {v : V} (h : CelH K s H c v) : CelH K s' H' c v := by
  rcases h with ⟨n, h⟩ | h
  · obtain ⟨⟨o', h', e⟩, n'⟩ := st c _ h n
    rw [e.ext] at h'
    exact .inl ⟨n', h'⟩
  · exact .inr h
mutual
theorem RV.mono (st : Step s H s' H') : ∀ {x : LV} {v : V}, RV K s H x v → RV K s' H' x v
  | .non, _, h => h
  | .bl _, _, h => h
  | .int _, _, h => h
  | .str _, _, h => h
  | .ty _, _, h => h
  | .ref _, _, h => h
  | .scr _, _, h => by
    simp only [RV] at h ⊢
    obtain ⟨a, e, h⟩ := h
    exact ⟨a, e, h.mono st⟩
  | .tup xs, _, h => by
    simp only [RV] at h ⊢
    obtain ⟨a, us, e, n, h, r⟩ := h
    obtain ⟨⟨o', h', q⟩, n'⟩ := st a _ h n
    rw [q.tup] at h'
    exact ⟨a, us, e, n', h', RVs.mono st r⟩
  | .lst xs, _, h => by
    simp only [RV] at h ⊢
    obtain ⟨a, us, e, n, h, r⟩ := h
    obtain ⟨⟨o', h', q⟩, n'⟩ := st a _ h n
    rw [q.lst] at h'
    exact ⟨a, us, e, n', h', RVs.mono st r⟩
  | .dT kvs, _, h => by
    simp only [RV] at h ⊢
    obtain ⟨a, us, o, e, n, h, d, r⟩ := h
    obtain ⟨⟨o', h', q⟩, n'⟩ := st a _ h n
    exact ⟨a, us, o', e, n', h', q.isD d, RVk.mono st r⟩
  | .ins C fs, _, h => by
    simp only [RV] at h ⊢
    obtain ⟨a, dx, us, e, n, h, r⟩ := h
    obtain ⟨⟨o', h', q⟩, n'⟩ := st a _ h n
    rw [q.ins] at h'
    exact ⟨a, dx, us, e, n', h', RVf.mono st r⟩
  | .clo k xs, _, h => by
    simp only [RV] at h ⊢
    obtain ⟨f, c, cl, e, n, h, n2, h2, k, nd, r⟩ := h
    obtain ⟨⟨o', h', q⟩, n'⟩ := st f _ h n
    obtain ⟨⟨o2, h2', q2⟩, n2'⟩ := st c _ h2 n2
    rw [q.ext] at h'
    rw [q2.ext] at h2'
    exact ⟨f, c, cl, e, n', h', n2', h2', k, nd, RVc.mono st r⟩
  | .exc C, _, h => by
    simp only [RV] at h ⊢
    obtain ⟨a, e, n, h⟩ := h
    obtain ⟨⟨o', h', q⟩, n'⟩ := st a _ h n
    rw [q.ext] at h'
    exact ⟨a, e, n', h'⟩
theorem RVc.mono (st : Step s H s' H') : ∀ {xs : List LV} {us : List Addr}, RVc K s H xs us → RVc K s' H' xs us
  | [], _, h => by simp only [RVc] at h ⊢; exact h
  | x :: xs, _, h => by
    simp only [RVc] at h ⊢
    obtain ⟨c, r, u, e, h1, h2, h3⟩ := h
    exact ⟨c, r, u, e, h1.mono st, RV.mono st h2, RVc.mono st h3⟩
theorem RVs.mono (st : Step s H s' H') : ∀ {xs : List LV} {us : List V}, RVs K s H xs us → RVs K s' H' xs us
  | [], _, h => by simp only [RVs] at h ⊢; exact h
  | x :: xs, _, h => by
    simp only [RVs] at h ⊢
    obtain ⟨u, r, e, h1, h2⟩ := h
    exact ⟨u, r, e, RV.mono st h1, RVs.mono st h2⟩
theorem RVk.mono (st : Step s H s' H') : ∀ {xs : List (List Key × LV)} {us : List (List Key × V)}, RVk K s H xs us → RVk K s' H' xs us
  | [], _, h => by simp only [RVk] at h ⊢; exact h
  | (k, x) :: xs, _, h => by
    simp only [RVk] at h ⊢
    obtain ⟨u, r, e, h1, h2⟩ := h
    exact ⟨u, r, e, RV.mono st h1, RVk.mono st h2⟩
theorem RVf.mono (st : Step s H s' H') : ∀ {xs : List (Str × LV)} {us : List (Str × V)}, RVf K s H xs us → RVf K s' H' xs us
  | [], _, h => by simp only [RVf] at h ⊢; exact h
  | (k, x) :: xs, _, h => by
    simp only [RVf] at h ⊢
    obtain ⟨u, r, e, h1, h2⟩ := h
    exact ⟨u, r, e, RV.mono st h1, RVf.mono st h2⟩
end
theorem RVd.mono (st : Step s H s' H') : ∀ {xs : List (Key × LV)} {us : List (Key × V)}, RVd K s H xs us → RVd K s' H' xs us
  | [], _, h => by simp only [RVd] at h ⊢; exact h
  | (k, x) :: xs, _, h => by
    simp only [RVd] at h ⊢
    obtain ⟨u, r, e, h1, h2⟩ := h
    exact ⟨u, r, e, RV.mono st h1, RVd.mono st h2⟩
end

section
variable {K : PySem.W.Frag} [GG K] {s : LS} {H : Hp}
theorem RVs.nil : RVs K s H [] [] := by simp only [RVs]
theorem RVs.cons {x : LV} {u : V} {xs : List LV} {us : List V} (a : RV K s H x u) (b : RVs K s H xs us) : RVs K s H (x :: xs) (u :: us) := by
  simp only [RVs]; exact ⟨u, us, rfl, a, b⟩
theorem RVs.length : ∀ {xs : List LV} {us : List V}, RVs K s H xs us → us.length = xs.length
  | [], _, h => by simp only [RVs] at h; rw [h]; rfl
  | x :: xs, _, h => by
    simp only [RVs] at h
    obtain ⟨u, r, rfl, _, h2⟩ := h
    simp [RVs.length h2]
theorem RVs.get : ∀ {xs : List LV} {us : List V} {i : Nat} {x : LV}, RVs K s H xs us → xs[i]? = some x → ∃ u, us[i]? = some u ∧ RV K s H x u
  | [], _, _, _, _, e => by simp at e
  | y :: xs, _, 0, x, h, e => by
    simp only [RVs] at h
    obtain ⟨u, r, rfl, h1, _⟩ := h
    simp at e; subst e
    exact ⟨u, rfl, h1⟩
  | y :: xs, _, i + 1, x, h, e => by
    simp only [RVs] at h
    obtain ⟨u, r, rfl, _, h2⟩ := h
    obtain ⟨v, a, b⟩ := RVs.get (i := i) (x := x) h2 (by simpa using e)
    exact ⟨v, by simpa using a, b⟩
theorem RVs.get' : ∀ {xs : List LV} {us : List V} {i : Nat} {u : V}, RVs K s H xs us → us[i]? = some u → ∃ x, xs[i]? = some x ∧ RV K s H x u
  | [], _, _, _, h, e => by simp only [RVs] at h; subst h; simp at e
  | y :: xs, _, 0, u, h, e => by
    simp only [RVs] at h
    obtain ⟨v, r, rfl, h1, _⟩ := h
    simp at e; subst e
    exact ⟨y, rfl, h1⟩
  | y :: xs, _, i + 1, u, h, e => by
    simp only [RVs] at h
    obtain ⟨v, r, rfl, _, h2⟩ := h
    obtain ⟨w, a, b⟩ := RVs.get' (i := i) (u := u) h2 (by simpa using e)
    exact ⟨w, by simpa using a, b⟩
theorem RVs.append : ∀ {xs ys : List LV} {us vs : List V}, RVs K s H xs us → RVs K s H ys vs → RVs K s H (xs ++ ys) (us ++ vs)
  | [], _, _, _, h, g => by simp only [RVs] at h; subst h; exact g
  | x :: xs, _, _, _, h, g => by
    simp only [RVs] at h
    obtain ⟨u, r, rfl, h1, h2⟩ := h
    exact .cons h1 (RVs.append h2 g)
theorem RVs.take : ∀ {xs : List LV} {us : List V} (n : Nat), RVs K s H xs us → RVs K s H (xs.take n) (us.take n)
  | [], _, n, h => by simp only [RVs] at h; subst h; simp; exact .nil
  | x :: xs, _, 0, h => .nil
  | x :: xs, _, n + 1, h => by
    simp only [RVs] at h
    obtain ⟨u, r, rfl, h1, h2⟩ := h
    exact .cons h1 (RVs.take n h2)
theorem RVs.drop : ∀ {xs : List LV} {us : List V} (n : Nat), RVs K s H xs us → RVs K s H (xs.drop n) (us.drop n)
  | _, _, 0, h => h
  | [], _, n + 1, h => by simp only [RVs] at h; subst h; simp; exact .nil
  | x :: xs, _, n + 1, h => by
    simp only [RVs] at h
    obtain ⟨u, r, rfl, h1, h2⟩ := h
    exact RVs.drop n h2
theorem RVs.set : ∀ {xs : List LV} {us : List V} (i : Nat) {x : LV} {u : V}, RVs K s H xs us → RV K s H x u → RVs K s H (xs.set i x) (us.set i u)
  | [], _, _, _, _, h, _ => by simp only [RVs] at h; subst h; exact .nil
  | y :: xs, _, 0, _, _, h, g => by
    simp only [RVs] at h
    obtain ⟨u, r, rfl, h1, h2⟩ := h
    exact .cons g h2
  | y :: xs, _, i + 1, _, _, h, g => by
    simp only [RVs] at h
    obtain ⟨u, r, rfl, h1, h2⟩ := h
    exact .cons h1 (RVs.set i h2 g)
theorem RVs.ints : ∀ (ns : List Int), RVs K s H (ns.map LV.int) (ns.map V.int)
  | [] => .nil
  | n :: ns => .cons (by simp only [RV]) (RVs.ints ns)
theorem RVs.of_ints : ∀ {ns : List Int} {us : List V}, RVs K s H (ns.map LV.int) us → us = ns.map V.int
  | [], _, h => by simpa only [List.map_nil, RVs] using h
  | n :: ns, _, h => by
    simp only [List.map_cons, RVs, RV] at h
    obtain ⟨u, r, rfl, rfl, h2⟩ := h
    rw [RVs.of_ints h2]; rfl
theorem RVs.reverse : ∀ {xs : List LV} {us : List V}, RVs K s H xs us → RVs K s H xs.reverse us.reverse
  | [], _, h => by simp only [RVs] at h; subst h; exact .nil
  | x :: xs, _, h => by
    simp only [RVs] at h
    obtain ⟨u, r, rfl, h1, h2⟩ := h
    rw [List.reverse_cons, List.reverse_cons]
    exact (RVs.reverse h2).append (.cons h1 .nil)
def putL (f : Str) (v : LV) : List (Str × LV) → List (Str × LV)
  | [] => [(f, v)]
  | (g, u) :: r => if g = f then (g, v) :: r else (g, u) :: putL f v r
theorem RVf.look : ∀ {fs : List (Str × LV)} {us : List (Str × V)} {f : Str} {x : LV}, RVf K s H fs us → fs.lookup f = some x → ∃ v, us.lookup f = some v ∧ RV K s H x v
  | [], _, _, _, _, e => by simp at e
  | (g, y) :: fs, _, f, x, h, e => by
    simp only [RVf] at h
    obtain ⟨u, r, rfl, h1, h2⟩ := h
    rw [List.lookup_cons] at e ⊢
    cases q : f == g with
    | true => rw [q] at e; cases e; exact ⟨u, rfl, h1⟩
    | false => rw [q] at e; exact RVf.look h2 e
theorem RVf.look0 : ∀ {fs : List (Str × LV)} {us : List (Str × V)} {f : Str}, RVf K s H fs us → fs.lookup f = none → us.lookup f = none
  | [], _, _, h, e => by simp only [RVf] at h; subst h; rfl
  | (g, y) :: fs, _, f, h, e => by
    simp only [RVf] at h
    obtain ⟨u, r, rfl, h1, h2⟩ := h
    rw [List.lookup_cons] at e ⊢
    cases q : f == g with
    | true => rw [q] at e; cases e
    | false => rw [q] at e; exact RVf.look0 h2 e
theorem RVf.put : ∀ {fs : List (Str × LV)} {us : List (Str × V)} (f : Str) {x : LV} {v : V}, RVf K s H fs us → RV K s H x v → RVf K s H (putL f x fs) (putF f v us)
  | [], _, f, x, v, h, g => by
    simp only [RVf] at h; subst h
    show RVf K s H [(f, x)] [(f, v)]
    simp only [RVf]
    exact ⟨v, [], rfl, g, rfl⟩
  | (k, y) :: fs, _, f, x, v, h, g => by
    simp only [RVf] at h
    obtain ⟨u, r, rfl, h1, h2⟩ := h
    show RVf K s H (if k = f then (k, x) :: fs else (k, y) :: putL f x fs) (if k = f then (k, v) :: r else (k, u) :: putF f v r)
    split
    · simp only [RVf]; exact ⟨v, r, rfl, g, h2⟩
    · simp only [RVf]; exact ⟨u, _, rfl, h1, RVf.put f h2 g⟩
theorem RVf.length : ∀ {xs : List (Str × LV)} {us : List (Str × V)}, RVf K s H xs us → us.length = xs.length
  | [], _, h => by simp only [RVf] at h; rw [h]; rfl
  | (k, x) :: xs, _, h => by
    simp only [RVf] at h
    obtain ⟨u, r, rfl, _, h2⟩ := h
    simp [RVf.length h2]
theorem RVk.length : ∀ {xs : List (List Key × LV)} {us : List (List Key × V)}, RVk K s H xs us → us.length = xs.length
  | [], _, h => by simp only [RVk] at h; rw [h]; rfl
  | (k, x) :: xs, _, h => by
    simp only [RVk] at h
    obtain ⟨u, r, rfl, _, h2⟩ := h
    simp [RVk.length h2]
/-- the value at a key -/
def valL {κ : Type} [DecidableEq κ] : List (κ × LV) → κ → Option LV
  | [], _ => none
  | (j, x) :: r, k => if j = k then some x else valL r k
def putD {κ : Type} [DecidableEq κ] (kvs : List (κ × LV)) (k : κ) (v : LV) : List (κ × LV) :=
  if (kvs.any fun p => decide (p.1 = k)) = true then kvs.map (fun p => if p.1 = k then (p.1, v) else p) else kvs ++ [(k, v)]
end
end L3

namespace L3
open PySem PySem.Spec L2

abbrev LSt := List (Option LV)
abbrev LVK := LV → LS → Prop
/-- an exception that leaves: its class, the store -/
abbrev LX := Addr → LS → Prop
/-- .. with the slots -/
abbrev LXS := Addr → LSt → LS → Prop
abbrev LTE := LSt → LS → LVK → LX → Prop
abbrev LTT := LSt → LS → (Bool → LS → Prop) → LX → Prop
abbrev LTA := LSt → LS → (List LV → LS → Prop) → LX → Prop
structure LEnds where
  nx : LSt → LS → Prop
  rt : LVK
  bk : LSt → LS → Prop
  ct : LSt → LS → Prop
  ex : LXS
@[reducible] def LEnds.wnx (D : LEnds) (u : LSt → LS → Prop) : LEnds := { D with nx := u }
@[reducible] def LEnds.wex (D : LEnds) (u : LXS) : LEnds := { D with ex := u }
/-- within a loop: the next turn -/
@[reducible] def LEnds.wlp (D : LEnds) (u : LSt → LS → Prop) : LEnds := { D with nx := u, ct := u, bk := D.nx }
abbrev LTS := LEnds → LSt → LS → Prop
abbrev LTG := LV → LSt → LS → (LSt → LS → Prop) → LX → Prop

section
variable (K : PySem.W.Frag) [GG K] (s : LS) (H : Hp)
def RSt : LSt → St → Prop
  | [], vs => vs = []
  | none :: xs, vs => ∃ v r, vs = v :: r ∧ RSt xs r
  | some x :: xs, vs => ∃ v r, vs = some v :: r ∧ RV K s H x v ∧ RSt xs r
end
section
variable {K : PySem.W.Frag} [GG K] {s s' : LS} {H H' : Hp}
theorem RSt.mono (st : Step s H s' H') : ∀ {xs : LSt} {vs : St}, RSt K s H xs vs → RSt K s' H' xs vs
  | [], _, h => h
  | none :: xs, _, h => let ⟨v, r, e, h⟩ := h; ⟨v, r, e, RSt.mono st h⟩
  | some x :: xs, _, h => let ⟨v, r, e, g, h⟩ := h; ⟨v, r, e, g.mono st, RSt.mono st h⟩
theorem RSt.get : ∀ {xs : LSt} {vs : St} {i : Nat} {x : LV}, RSt K s H xs vs → xs[i]? = some (some x) → ∃ v, vs[i]? = some (some v) ∧ RV K s H x v
  | [], _, _, _, _, e => by simp at e
  | none :: xs, _, 0, _, _, e => by simp at e
  | some y :: xs, _, 0, x, h, e => by
    obtain ⟨v, r, rfl, g, h⟩ := h
    simp at e; subst e
    exact ⟨v, rfl, g⟩
  | none :: xs, _, i + 1, x, h, e => by
    obtain ⟨v, r, rfl, h⟩ := h
    obtain ⟨w, a, b⟩ := RSt.get (i := i) (x := x) h (by simpa using e)
    exact ⟨w, by simpa using a, b⟩
  | some y :: xs, _, i + 1, x, h, e => by
    obtain ⟨v, r, rfl, g, h⟩ := h
    obtain ⟨w, a, b⟩ := RSt.get (i := i) (x := x) h (by simpa using e)
    exact ⟨w, by simpa using a, b⟩
theorem RSt.set : ∀ {xs : LSt} {vs : St} (i : Nat) {x : LV} {v : V}, RSt K s H xs vs → RV K s H x v → RSt K s H (xs.set i (some x)) (vs.set i (some v))
  | [], _, _, _, _, h, _ => by cases h; rfl
  | none :: xs, _, 0, _, _, h, g => by obtain ⟨v, r, rfl, h⟩ := h; exact ⟨_, r, rfl, g, h⟩
  | some y :: xs, _, 0, _, _, h, g => by obtain ⟨v, r, rfl, _, h⟩ := h; exact ⟨_, r, rfl, g, h⟩
  | none :: xs, _, i + 1, _, _, h, g => by obtain ⟨v, r, rfl, h⟩ := h; exact ⟨v, _, rfl, RSt.set i h g⟩
  | some y :: xs, _, i + 1, _, _, h, g => by obtain ⟨v, r, rfl, g', h⟩ := h; exact ⟨v, _, rfl, g', RSt.set i h g⟩
theorem RSt.setN : ∀ {xs : LSt} {vs : St} (i : Nat) (v : Option V), RSt K s H xs vs → RSt K s H (xs.set i none) (vs.set i v)
  | [], _, _, _, h => by cases h; rfl
  | none :: xs, _, 0, v, h => by obtain ⟨_, r, rfl, h⟩ := h; exact ⟨v, r, rfl, h⟩
  | some y :: xs, _, 0, v, h => by obtain ⟨_, r, rfl, _, h⟩ := h; exact ⟨v, r, rfl, h⟩
  | none :: xs, _, i + 1, v, h => by obtain ⟨_, r, rfl, h⟩ := h; exact ⟨_, _, rfl, RSt.setN i v h⟩
  | some y :: xs, _, i + 1, v, h => by obtain ⟨_, r, rfl, g, h⟩ := h; exact ⟨_, _, rfl, g, RSt.setN i v h⟩
theorem RSt.nones : ∀ (n : Nat), RSt K s H (List.replicate n none) (List.replicate n none)
  | 0 => rfl
  | n + 1 => ⟨none, _, rfl, RSt.nones n⟩
theorem RSt.append : ∀ {xs ys : LSt} {us vs : St}, RSt K s H xs us → RSt K s H ys vs → RSt K s H (xs ++ ys) (us ++ vs)
  | [], _, _, _, h, g => by cases h; exact g
  | none :: xs, _, _, _, h, g => by obtain ⟨v, r, rfl, h⟩ := h; exact ⟨v, _, rfl, RSt.append h g⟩
  | some x :: xs, _, _, _, h, g => by obtain ⟨v, r, rfl, g', h⟩ := h; exact ⟨v, _, rfl, g', RSt.append h g⟩
theorem RSt.vals : ∀ {xs : List LV} {us : List V}, RVs K s H xs us → RSt K s H (xs.map some) (us.map some)
  | [], _, h => by simp only [RVs] at h; subst h; rfl
  | x :: xs, _, h => by
    simp only [RVs] at h
    obtain ⟨u, r, rfl, h1, h2⟩ := h
    exact ⟨u, _, rfl, h1, RSt.vals h2⟩
end

/-- the wish about exceptions, lifted -/
def WL (K : PySem.W.Frag) [GG K] (s0 : LS) (H0 : Hp) (E : LXS) : WX := fun cls d σ H => ∃ C σl s, cls = .ref C ∧ d = none ∧ RSt K s H σl σ ∧ RelS K s H ∧ Step s0 H0 s H ∧ E C σl s
def up (K : PySem.W.Frag) [GG K] (s0 : LS) (H0 : Hp) (E : LXS) (t : LTE) : TE := fun σ H Q => ∃ σl s Q0 E1, RSt K s H σl σ ∧ RelS K s H ∧ Step s0 H0 s H ∧ (∀ C s', E1 C s' → E C σl s') ∧ t σl s Q0 E1 ∧
  ∀ lv s' v H', Q0 lv s' → Step s H s' H' → RelS K s' H' → RV K s' H' lv v → Q v H'
def upT (K : PySem.W.Frag) [GG K] (s0 : LS) (H0 : Hp) (E : LXS) (t : LTT) : TT := fun σ H Q => ∃ σl s Q0 E1, RSt K s H σl σ ∧ RelS K s H ∧ Step s0 H0 s H ∧ (∀ C s', E1 C s' → E C σl s') ∧ t σl s Q0 E1 ∧
  ∀ b s' H', Q0 b s' → Step s H s' H' → RelS K s' H' → Q b H'
def upA (K : PySem.W.Frag) [GG K] (s0 : LS) (H0 : Hp) (E : LXS) (t : LTA) : TA := fun σ H Q => ∃ σl s Q0 E1, RSt K s H σl σ ∧ RelS K s H ∧ Step s0 H0 s H ∧ (∀ C s', E1 C s' → E C σl s') ∧ t σl s Q0 E1 ∧
  ∀ lvs s' vs H', Q0 lvs s' → Step s H s' H' → RelS K s' H' → RVs K s' H' lvs vs → Q vs H'
/-- the ends, lifted, from the state s, H -/
structure DnE (K : PySem.W.Frag) [GG K] (E : LXS) (s : LS) (H : Hp) (Dl : LEnds) (D : Ends) : Prop where
  nx : ∀ σl s' σ H', Dl.nx σl s' → Step s H s' H' → RelS K s' H' → RSt K s' H' σl σ → D.nx σ H'
  rt : ∀ lv s' v H', Dl.rt lv s' → Step s H s' H' → RelS K s' H' → RV K s' H' lv v → D.rt v H'
  bk : ∀ σl s' σ H', Dl.bk σl s' → Step s H s' H' → RelS K s' H' → RSt K s' H' σl σ → D.bk σ H'
  ct : ∀ σl s' σ H', Dl.ct σl s' → Step s H s' H' → RelS K s' H' → RSt K s' H' σl σ → D.ct σ H'
  ex : ∀ C σl s', Dl.ex C σl s' → E C σl s'
theorem DnE.mono {K : PySem.W.Frag} [GG K] {E : LXS} {s s1 : LS} {H H1 : Hp} {Dl : LEnds} {D : Ends} (d : DnE K E s H Dl D) (st : Step s H s1 H1) : DnE K E s1 H1 Dl D :=
  ⟨fun a b c e h t => d.nx a b c e h (st.trans t), fun a b c e h t => d.rt a b c e h (st.trans t), fun a b c e h t => d.bk a b c e h (st.trans t), fun a b c e h t => d.ct a b c e h (st.trans t), d.ex⟩
def upS (K : PySem.W.Frag) [GG K] (s0 : LS) (H0 : Hp) (E : LXS) (t : LTS) : TS := fun D σ H => ∃ σl s Dl, RSt K s H σl σ ∧ RelS K s H ∧ Step s0 H0 s H ∧ t Dl σl s ∧ DnE K E s H Dl D
def upG (K : PySem.W.Frag) [GG K] (s0 : LS) (H0 : Hp) (E : LXS) (t : LTG) : TG := fun v σ H Q => ∃ lv σl s Q0 E1, RSt K s H σl σ ∧ RelS K s H ∧ Step s0 H0 s H ∧ RV K s H lv v ∧ (∀ C s', E1 C s' → E C σl s') ∧ t lv σl s Q0 E1 ∧
  ∀ σl' s' σ' H', Q0 σl' s' → Step s H s' H' → RelS K s' H' → RSt K s' H' σl' σ' → Q σ' H'

def LE (X : Cx) [GG X.K] (e : Expr) (t : LTE) : Prop := ∀ s0 H0 E, Takes X (WL X.K s0 H0 E) → PE X e (up X.K s0 H0 E t)
def LT (X : Cx) [GG X.K] (e : Expr) (t : LTT) : Prop := ∀ s0 H0 E, Takes X (WL X.K s0 H0 E) → PT X e (upT X.K s0 H0 E t)
def LW (X : Cx) [GG X.K] (e : Expr) (t : LTT) : Prop := ∀ s0 H0 E, Takes X (WL X.K s0 H0 E) → PW X e (upT X.K s0 H0 E t)
def LA (X : Cx) [GG X.K] (es : List Expr) (t : LTA) : Prop := ∀ s0 H0 E, Takes X (WL X.K s0 H0 E) → PA X es (upA X.K s0 H0 E t)
def LP (X : Cx) [GG X.K] (st : Stmt) (t : LTS) : Prop := ∀ s0 H0 E, Takes X (WL X.K s0 H0 E) → PassesOwn (model X.prog X.w) X.A X.env X.xe → PS X st (upS X.K s0 H0 E t)
def LPs (X : Cx) [GG X.K] (st : List Stmt) (t : LTS) : Prop := ∀ s0 H0 E, Takes X (WL X.K s0 H0 E) → PassesOwn (model X.prog X.w) X.A X.env X.xe → PSs X st (upS X.K s0 H0 E t)
def LG (X : Cx) [GG X.K] (e : Expr) (t : LTG) : Prop := ∀ s0 H0 E, Takes X (WL X.K s0 H0 E) → PG X e (upG X.K s0 H0 E t)

theorem _root_.L2.PE.imp {X : Cx} [GG X.K] {e : Expr} {t t' : TE} (h : PE X e t) (i : ∀ σ H Q, t' σ H Q → t σ H Q) : PE X e t' := ⟨fun pins s σ H Q I q => h.run pins s σ H Q I (i _ _ _ q)⟩
theorem _root_.L2.PT.imp {X : Cx} [GG X.K] {e : Expr} {t t' : TT} (h : PT X e t) (i : ∀ σ H Q, t' σ H Q → t σ H Q) : PT X e t' := ⟨fun pins s σ H Q I q => h.run pins s σ H Q I (i _ _ _ q)⟩
theorem _root_.L2.PW.imp {X : Cx} [GG X.K] {e : Expr} {t t' : TT} (h : PW X e t) (i : ∀ σ H Q, t' σ H Q → t σ H Q) : PW X e t' := ⟨fun wh pins s σ H Q I q => h.run wh pins s σ H Q I (i _ _ _ q)⟩
theorem _root_.L2.PA.imp {X : Cx} [GG X.K] {e : List Expr} {t t' : TA} (h : PA X e t) (i : ∀ σ H Q, t' σ H Q → t σ H Q) : PA X e t' := ⟨fun pos pins s σ H Q I q => h.run pos pins s σ H Q I (i _ _ _ q)⟩
theorem _root_.L2.PS.imp {X : Cx} [GG X.K] {e : Stmt} {t t' : TS} (h : PS X e t) (i : ∀ D σ H, t' D σ H → t D σ H) : PS X e t' := ⟨fun pins s σ H D I q => h.run pins s σ H D I (i _ _ _ q)⟩
theorem _root_.L2.PSs.imp {X : Cx} [GG X.K] {e : List Stmt} {t t' : TS} (h : PSs X e t) (i : ∀ D σ H, t' D σ H → t D σ H) : PSs X e t' := ⟨fun pins s σ H D I q => h.run pins s σ H D I (i _ _ _ q)⟩
theorem _root_.L2.PG.imp {X : Cx} [GG X.K] {e : Expr} {t t' : TG} (h : PG X e t) (i : ∀ v σ H Q, t' v σ H Q → t v σ H Q) : PG X e t' := ⟨fun pins s σ H v u Q I r q => h.run pins s σ H v u Q I r (i _ _ _ _ q)⟩

def lVar (i : Nat) : LTE := fun σ s Q _ => match σ[i]? with
  | some (some v) => Q v s
  | _ => False
def lC (v : LV) : LTE := fun _ s Q _ => Q v s
section
variable {X : Cx} [GG X.K] {e a b : Expr} {pos : Pos}
theorem le_of_pe_var {i : Nat} (h : PE X e (tVar i)) : LE X e (lVar i) := fun s0 H0 E tk => h.imp fun σ H Q ⟨σl, s, Q0, E1, hσ, hs, st, hE, h, k⟩ => by
  unfold lVar at h
  split at h
  · next v e =>
    obtain ⟨u, hu, r⟩ := hσ.get e
    exact ⟨u, hu, k _ _ _ _ h (.refl _ _) hs r⟩
  · exact h.elim
theorem lv (i : Nat) {x : Str} {pos : Pos} (hN : X.N[i]? = some x := by rfl) (hv : Vis X.env.scope x := by first | exact Or.inl rfl | exact Or.inr (Or.inl rfl) | exact Or.inr (Or.inr rfl)) (hd : (x == ("__debug__" : Str)) = false := by decide)
    (hcd : (x == ("__classdict__" : Str)) = false := by decide) : LE X (.Name x pos) (lVar i) := le_of_pe_var (pe_var hN hv hd hcd)
theorem le_of_pe_c {v : V} {x : LV} (h : PE X e (tC v)) (r : ∀ s H, RV X.K s H x v) : LE X e (lC x) := fun s0 H0 E tk => h.imp fun σ H Q ⟨σl, s, Q0, E1, hσ, hs, st, hE, h, k⟩ =>
  k _ _ _ _ h (.refl _ _) hs (r _ _)
theorem le_int {i j} : LE X (.Constant (.int i) j pos) (lC (.int i)) := le_of_pe_c pe_int fun _ _ => by simp only [RV]
theorem le_bl {i j} : LE X (.Constant (.bool i) j pos) (lC (.bl i)) := le_of_pe_c pe_bl fun _ _ => by simp only [RV]
theorem le_non {j} : LE X (.Constant .none j pos) (lC .non) := le_of_pe_c pe_non fun _ _ => by simp only [RV]
theorem le_str {x j} : LE X (.Constant (.str x) j pos) (lC (.str x)) := le_of_pe_c pe_str fun _ _ => by simp only [RV]
/-- a class or a def of the module as a value -/
theorem le_glob {x : Str} {c : Addr} (hg : Gl X x) (hm : X.mg x = some (.ref c)) (hd : (x == ("__debug__" : Str)) = false := by decide) : LE X (.Name x pos) (lC (.ref c)) :=
  le_of_pe_c (v := .ref c) (pe_glob hg hm rfl hd) fun _ _ => by simp only [RV]
theorem le_bty {x : Str} {n : String} (hg : Gl X x) (hm : X.mg x = none) (hv : bootBuiltins x = some (.type n)) (hn : x ≠ "__name__" := by decide) (hd : (x == ("__debug__" : Str)) = false := by decide) : LE X (.Name x pos) (lC (.ty n)) :=
  le_of_pe_c (v := .ty n) (pe_bltn hg hm hv rfl hn hd) fun _ _ => by simp only [RV]

abbrev LR2 := LV → LV → LS → LVK → Prop
abbrev LR1 := LV → LS → LVK → Prop
def lOp (r : LR2) (ta tb : LTE) : LTE := fun σ s Q E => ta σ s (fun x s1 => tb σ s1 (fun y s2 => r x y s2 Q) E) E
def lUn (r : LR1) (ta : LTE) : LTE := fun σ s Q E => ta σ s (fun x s1 => r x s1 Q) E
/-- what lies between: a rule on values -/
def Up2 (K : PySem.W.Frag) [GG K] (r : R2) (rl : LR2) : Prop := ∀ x y s H lx ly Q0 Q, RelS K s H → RV K s H lx x → RV K s H ly y → rl lx ly s Q0 →
  (∀ lv s' v H', Q0 lv s' → Step s H s' H' → RelS K s' H' → RV K s' H' lv v → Q v H') → r x y H Q
def Up1 (K : PySem.W.Frag) [GG K] (r : V → Hp → VK → Prop) (rl : LR1) : Prop := ∀ x s H lx Q0 Q, RelS K s H → RV K s H lx x → rl lx s Q0 →
  (∀ lv s' v H', Q0 lv s' → Step s H s' H' → RelS K s' H' → RV K s' H' lv v → Q v H') → r x H Q
variable {ta tb tc te : LTE}
theorem up_op {K : PySem.W.Frag} [GG K] {s0 : LS} {H0 : Hp} {E : LXS} {r : R2} {rl : LR2} (u : Up2 K r rl) {σ : St} {H : Hp} {Q : VK} (h : up K s0 H0 E (lOp rl ta tb) σ H Q) : tOp r (up K s0 H0 E ta) (up K s0 H0 E tb) σ H Q := by
  obtain ⟨σl, s, Q0, E1, hσ, hs, st, hE, h, k⟩ := h
  refine ⟨σl, s, _, E1, hσ, hs, st, hE, h, fun lx s1 x H1 h st1 hs1 rx => ?_⟩
  refine ⟨σl, s1, _, E1, hσ.mono st1, hs1, st.trans st1, hE, h, fun ly s2 y H2 h st2 hs2 ry => ?_⟩
  exact u x y s2 H2 lx ly Q0 Q hs2 (rx.mono st2) ry h fun lv s3 v H3 q st3 => k lv s3 v H3 q ((st1.trans st2).trans st3)
theorem le_op {op : Operator} {r : R2} {rl : LR2} (ho : OpR X (binaryOp op) r) (u : Up2 X.K r rl) (ha : LE X a ta) (hb : LE X b tb) : LE X (.BinOp a op b pos) (lOp rl ta tb) := fun s0 H0 E tk =>
  (pe_op ho (ha s0 H0 E tk) (hb s0 H0 E tk)).imp fun σ H Q h => up_op u h
theorem le_cmp {op : CmpOp} {r : R2} {rl : LR2} (ho : OpR X (compareOp op) r) (u : Up2 X.K r rl) (ha : LE X a ta) (hb : LE X b tb) (hm : behindInMarks op b = false) : LE X (.Compare a [op] [b] pos) (lOp rl ta tb) := fun s0 H0 E tk =>
  (pe_cmpR ho (ha s0 H0 E tk) (hb s0 H0 E tk) hm).imp fun σ H Q h => up_op u h
theorem le_ix {r : R2} {rl : LR2} (ho : IxR X r) (u : Up2 X.K r rl) (ha : LE X a ta) (hb : LE X b tb) (hs : PlainIx b) : LE X (.Subscript a b pos) (lOp rl ta tb) := fun s0 H0 E tk =>
  (pe_ix ho (ha s0 H0 E tk) (hb s0 H0 E tk) hs).imp fun σ H Q h => up_op u h
theorem le_un {op : UnaryOp} {r : V → Hp → VK → Prop} {rl : LR1} (ho : UnR X (unaryOp op) r) (u : Up1 X.K r rl) (ha : LE X a ta) : LE X (.UnaryOp op a pos) (lUn rl ta) := fun s0 H0 E tk =>
  (pe_un ho (ha s0 H0 E tk)).imp fun σ H Q ⟨σl, s, Q0, E1, hσ, hs, st, hE, h, k⟩ => ⟨σl, s, _, E1, hσ, hs, st, hE, h, fun lx s1 x H1 h st1 hs1 rx => u x s1 H1 lx Q0 Q hs1 rx h fun lv s3 v H3 q st3 => k lv s3 v H3 q (st1.trans st3)⟩

/-- a value that is a bool, as a test -/
def isBl (x : LV) (k : Bool → Prop) : Prop := match x with
  | .bl c => k c
  | _ => False
def lB (t : LTE) : LTT := fun σ s Q E => t σ s (fun x s1 => isBl x fun c => Q c s1) E
theorem lb_ok {x : LV} {k : Bool → Prop} (h : isBl x k) : ∃ c, x = .bl c ∧ k c := by
  cases x <;> first | exact ⟨_, rfl, h⟩ | exact h.elim
theorem RV.bl' {K : PySem.W.Frag} [GG K] {s : LS} {H : Hp} {b : Bool} {v : V} (h : RV K s H (.bl b) v) : v = .bl b := by simpa only [RV] using h
theorem RV.int' {K : PySem.W.Frag} [GG K] {s : LS} {H : Hp} {b : Int} {v : V} (h : RV K s H (.int b) v) : v = .int b := by simpa only [RV] using h
theorem RV.str' {K : PySem.W.Frag} [GG K] {s : LS} {H : Hp} {b : Str} {v : V} (h : RV K s H (.str b) v) : v = .str b := by simpa only [RV] using h
theorem RV.ref' {K : PySem.W.Frag} [GG K] {s : LS} {H : Hp} {b : Addr} {v : V} (h : RV K s H (.ref b) v) : v = .ref b := by simpa only [RV] using h
theorem RV.non' {K : PySem.W.Frag} [GG K] {s : LS} {H : Hp} {v : V} (h : RV K s H .non v) : v = .non := by simpa only [RV] using h
theorem RV.bl {K : PySem.W.Frag} [GG K] {s : LS} {H : Hp} {b : Bool} : RV K s H (.bl b) (.bl b) := by simp only [RV]
theorem RV.int {K : PySem.W.Frag} [GG K] {s : LS} {H : Hp} {b : Int} : RV K s H (.int b) (.int b) := by simp only [RV]
theorem RV.str {K : PySem.W.Frag} [GG K] {s : LS} {H : Hp} {b : Str} : RV K s H (.str b) (.str b) := by simp only [RV]
theorem RV.ref {K : PySem.W.Frag} [GG K] {s : LS} {H : Hp} {b : Addr} : RV K s H (.ref b) (.ref b) := by simp only [RV]
theorem RV.non {K : PySem.W.Frag} [GG K] {s : LS} {H : Hp} : RV K s H .non .non := by simp only [RV]
theorem lt_val (ha : LE X a ta) (he : ∀ whole, isTrue a X.env whole = (do let v ← whole; standAt a.pos; holding [v] (truthy v)) := by intro _; rfl) : LT X a (lB ta) := fun s0 H0 E tk =>
  (pt_val (ha s0 H0 E tk) he).imp fun σ H Q ⟨σl, s, Q0, E1, hσ, hs, st, hE, h, k⟩ => ⟨σl, s, _, E1, hσ, hs, st, hE, h, fun lx s1 x H1 h st1 hs1 rx => by
    obtain ⟨c, rfl, h⟩ := lb_ok h
    exact ⟨c, rx.bl', k _ _ _ h st1 hs1⟩⟩
theorem lt_cmp {op : CmpOp} {r : R2} {rl : LR2} (ho : OpR X (compareOp op) r) (u : Up2 X.K r rl) (ha : LE X a ta) (hb : LE X b tb) (hm : behindInMarks op b = false) : LT X (.Compare a [op] [b] pos) (lB (lOp rl ta tb)) := fun s0 H0 E tk =>
  (pt_cmpR ho (ha s0 H0 E tk) (hb s0 H0 E tk) hm).imp fun σ H Q ⟨σl, s, Q0, E1, hσ, hs, st, hE, h, k⟩ => by
    refine up_op u (Q := fun x H' => ∃ k, x = .bl k ∧ Q k H') ⟨σl, s, _, E1, hσ, hs, st, hE, h, fun lx s1 x H1 h st1 hs1 rx => ?_⟩
    obtain ⟨c, rfl, h⟩ := lb_ok h
    exact ⟨c, rx.bl', k _ _ _ h st1 hs1⟩
variable {tA tB : LTT} {rest : List Expr}
def lAnd (t u : LTT) : LTT := fun σ s Q E => t σ s (fun c s1 => (c = true → u σ s1 Q E) ∧ (c = false → Q false s1)) E
def lOr (t u : LTT) : LTT := fun σ s Q E => t σ s (fun c s1 => (c = true → Q true s1) ∧ (c = false → u σ s1 Q E)) E
def lNot (t : LTT) : LTT := fun σ s Q E => t σ s (fun c s1 => Q (!c) s1) E
theorem LW.lt (h : LW X e tA) : LT X e tA := fun s0 H0 E tk => (h s0 H0 E tk).pt
theorem lw_and1 (ha : LT X a tA) : LW X (.BoolOp .And [a] pos) tA := fun s0 H0 E tk => pw_and1 (ha s0 H0 E tk)
theorem lw_or1 (ha : LT X a tA) : LW X (.BoolOp .Or [a] pos) tA := fun s0 H0 E tk => pw_or1 (ha s0 H0 E tk)
theorem lw_and (ha : LT X a tA) (hb : LW X (.BoolOp .And (b :: rest) pos) tB) : LW X (.BoolOp .And (a :: b :: rest) pos) (lAnd tA tB) := fun s0 H0 E tk =>
  (pw_and (ha s0 H0 E tk) (hb s0 H0 E tk)).imp fun σ H Q ⟨σl, s, Q0, E1, hσ, hs, st, hE, h, k⟩ => ⟨σl, s, _, E1, hσ, hs, st, hE, h, fun c s1 H1 h st1 hs1 => by
    cases c with
    | true => exact ⟨σl, s1, _, E1, hσ.mono st1, hs1, st.trans st1, hE, h.1 rfl, fun b s2 H2 q st2 => k b s2 H2 q (st1.trans st2)⟩
    | false => exact k _ _ _ (h.2 rfl) st1 hs1⟩
theorem lw_or (ha : LT X a tA) (hb : LW X (.BoolOp .Or (b :: rest) pos) tB) : LW X (.BoolOp .Or (a :: b :: rest) pos) (lOr tA tB) := fun s0 H0 E tk =>
  (pw_or (ha s0 H0 E tk) (hb s0 H0 E tk)).imp fun σ H Q ⟨σl, s, Q0, E1, hσ, hs, st, hE, h, k⟩ => ⟨σl, s, _, E1, hσ, hs, st, hE, h, fun c s1 H1 h st1 hs1 => by
    cases c with
    | true => exact k _ _ _ (h.1 rfl) st1 hs1
    | false => exact ⟨σl, s1, _, E1, hσ.mono st1, hs1, st.trans st1, hE, h.2 rfl, fun b s2 H2 q st2 => k b s2 H2 q (st1.trans st2)⟩⟩
theorem lt_not (ha : LT X a tA) : LT X (.UnaryOp .Not a pos) (lNot tA) := fun s0 H0 E tk =>
  (pt_not (ha s0 H0 E tk)).imp fun σ H Q ⟨σl, s, Q0, E1, hσ, hs, st, hE, h, k⟩ => ⟨σl, s, _, E1, hσ, hs, st, hE, h, fun c s1 H1 h st1 hs1 => k _ _ _ h st1 hs1⟩
/-- .. as values -/
def lAndV (ta tb : LTE) : LTE := fun σ s Q E => lB ta σ s (fun c s1 => (c = true → tb σ s1 Q E) ∧ (c = false → Q (.bl false) s1)) E
def lOrV (ta tb : LTE) : LTE := fun σ s Q E => lB ta σ s (fun c s1 => (c = true → Q (.bl true) s1) ∧ (c = false → tb σ s1 Q E)) E
def lNotV (ta : LTE) : LTE := fun σ s Q E => lB ta σ s (fun c s1 => Q (.bl (!c)) s1) E
theorem le_one {op} (h : LE X a ta) : LE X (.BoolOp op [a] pos) ta := fun s0 H0 E tk => pe_one (h s0 H0 E tk)
theorem le_and (ha : LE X a ta) (hb : LE X (.BoolOp .And (b :: rest) pos) tb) : LE X (.BoolOp .And (a :: b :: rest) pos) (lAndV ta tb) := fun s0 H0 E tk =>
  (pe_and (ha s0 H0 E tk) (hb s0 H0 E tk)).imp fun σ H Q ⟨σl, s, Q0, E1, hσ, hs, st, hE, h, k⟩ => ⟨σl, s, _, E1, hσ, hs, st, hE, h, fun lx s1 x H1 h st1 hs1 rx => by
    obtain ⟨c, rfl, h⟩ := lb_ok h
    refine ⟨c, rx.bl', ?_⟩
    cases c with
    | true => exact ⟨σl, s1, _, E1, hσ.mono st1, hs1, st.trans st1, hE, h.1 rfl, fun b s2 v H2 q st2 => k b s2 v H2 q (st1.trans st2)⟩
    | false => exact k _ _ _ _ (h.2 rfl) st1 hs1 .bl⟩
theorem le_or (ha : LE X a ta) (hb : LE X (.BoolOp .Or (b :: rest) pos) tb) : LE X (.BoolOp .Or (a :: b :: rest) pos) (lOrV ta tb) := fun s0 H0 E tk =>
  (pe_or (ha s0 H0 E tk) (hb s0 H0 E tk)).imp fun σ H Q ⟨σl, s, Q0, E1, hσ, hs, st, hE, h, k⟩ => ⟨σl, s, _, E1, hσ, hs, st, hE, h, fun lx s1 x H1 h st1 hs1 rx => by
    obtain ⟨c, rfl, h⟩ := lb_ok h
    refine ⟨c, rx.bl', ?_⟩
    cases c with
    | true => exact k _ _ _ _ (h.1 rfl) st1 hs1 .bl
    | false => exact ⟨σl, s1, _, E1, hσ.mono st1, hs1, st.trans st1, hE, h.2 rfl, fun b s2 v H2 q st2 => k b s2 v H2 q (st1.trans st2)⟩⟩
theorem le_not (ha : LE X a ta) : LE X (.UnaryOp .Not a pos) (lNotV ta) := fun s0 H0 E tk =>
  (pe_not (ha s0 H0 E tk)).imp fun σ H Q ⟨σl, s, Q0, E1, hσ, hs, st, hE, h, k⟩ => ⟨σl, s, _, E1, hσ, hs, st, hE, h, fun lx s1 x H1 h st1 hs1 rx => by
    obtain ⟨c, rfl, h⟩ := lb_ok h
    exact ⟨c, rx.bl', k _ _ _ _ h st1 hs1 .bl⟩⟩
def lCutT (t : LTT) : LTT := fun σ s Q E => ∃ b, t σ s (fun b' s' => b' = b ∧ s' = s) E ∧ Q b s
theorem lt_cut (h : LT X e tA) : LT X e (lCutT tA) := fun s0 H0 E tk => (h s0 H0 E tk).imp fun σ H Q ⟨σl, s, Q0, E1, hσ, hs, st, hE, ⟨b, h, q⟩, k⟩ =>
  ⟨σl, s, _, E1, hσ, hs, st, hE, h, fun b' s' H' ⟨e1, e2⟩ st1 hs1 => by subst e1 e2; exact k _ _ _ q st1 hs1⟩
def lCutE (t : LTE) : LTE := fun σ s Q E => ∃ v, t σ s (fun v' s' => v' = v ∧ s' = s) E ∧ Q v s
theorem le_cut (h : LE X e ta) : LE X e (lCutE ta) := fun s0 H0 E tk => (h s0 H0 E tk).imp fun σ H Q ⟨σl, s, Q0, E1, hσ, hs, st, hE, ⟨b, h, q⟩, k⟩ =>
  ⟨σl, s, _, E1, hσ, hs, st, hE, h, fun b' s' v H' ⟨e1, e2⟩ st1 hs1 r => by subst e1 e2; exact k _ _ _ _ q st1 hs1 r⟩

def lNil : LTA := fun _ s Q _ => Q [] s
def lCons (t : LTE) (u : LTA) : LTA := fun σ s Q E => t σ s (fun x s1 => u σ s1 (fun xs s2 => Q (x :: xs) s2) E) E
variable {tas : LTA} {es : List Expr}
theorem la_nil : LA X [] lNil := fun s0 H0 E tk => pa_nil.imp fun σ H Q ⟨σl, s, Q0, E1, hσ, hs, st, hE, h, k⟩ => k _ _ _ _ h (.refl _ _) hs .nil
theorem la_cons (h : LE X e te) (t : LA X es tas) (hs : starEach (e :: es) X.env = (false, eval e X.env) :: starEach es X.env := by rfl) : LA X (e :: es) (lCons te tas) := fun s0 H0 E tk =>
  (pa_cons (h s0 H0 E tk) (t s0 H0 E tk) hs).imp fun σ H Q ⟨σl, s, Q0, E1, hσ, hs, st, hE, h, k⟩ => ⟨σl, s, _, E1, hσ, hs, st, hE, h, fun lx s1 x H1 h st1 hs1 rx =>
    ⟨σl, s1, _, E1, hσ.mono st1, hs1, st.trans st1, hE, h, fun ly s2 y H2 h st2 hs2 ry => k _ _ _ _ h (st1.trans st2) hs2 (.cons (rx.mono st2) ry)⟩⟩

variable {st : Stmt} {sts : List Stmt} {t u : LTS}
def lNext : LTS := fun D σ s => D.nx σ s
def lSeq (t u : LTS) : LTS := fun D σ s => t (D.wnx (u D)) σ s
theorem lps_nil : LPs X [] lNext := fun s0 H0 E tk hp => pss_nil.imp fun D σ H ⟨σl, s, Dl, hσ, hs, st, h, d⟩ => d.nx _ _ _ _ h (.refl _ _) hs hσ
theorem lps_cons (h1 : LP X st t) (h2 : LPs X sts u) : LPs X (st :: sts) (lSeq t u) := fun s0 H0 E tk hp => (pss_cons (h1 s0 H0 E tk hp) (h2 s0 H0 E tk hp)).imp fun D σ H ⟨σl, s, Dl, hσ, hs, st, h, d⟩ =>
  ⟨σl, s, _, hσ, hs, st, h, ⟨fun σl1 s1 σ1 H1 h1 st1 hs1 r1 => ⟨σl1, s1, Dl, r1, hs1, st.trans st1, h1, d.mono st1⟩, d.rt, d.bk, d.ct, d.ex⟩⟩
theorem lps_one (h1 : LP X st t) : LPs X [st] t := fun s0 H0 E tk hp => pss_one (h1 s0 H0 E tk hp)
theorem lp_pass : LP X (.Pass pos) lNext := fun s0 H0 E tk hp => ps_pass.imp fun D σ H ⟨σl, s, Dl, hσ, hs, st, h, d⟩ => d.nx _ _ _ _ h (.refl _ _) hs hσ
def lBreak : LTS := fun D σ s => D.bk σ s
def lCont : LTS := fun D σ s => D.ct σ s
theorem lp_break : LP X (.Break pos) lBreak := fun s0 H0 E tk hp => ps_break.imp fun D σ H ⟨σl, s, Dl, hσ, hs, st, h, d⟩ => d.bk _ _ _ _ h (.refl _ _) hs hσ
theorem lp_continue : LP X (.Continue pos) lCont := fun s0 H0 E tk hp => ps_continue.imp fun D σ H ⟨σl, s, Dl, hσ, hs, st, h, d⟩ => d.ct _ _ _ _ h (.refl _ _) hs hσ
theorem lp_doc {x j pos pos'} : LP X (.Expr (.Constant (.str x) j pos) pos') lNext := fun s0 H0 E tk hp => ps_doc.imp fun D σ H ⟨σl, s, Dl, hσ, hs, st, h, d⟩ => d.nx _ _ _ _ h (.refl _ _) hs hσ
def lDrop (te : LTE) : LTS := fun D σ s => te σ s (fun _ s1 => D.nx σ s1) (fun C s1 => D.ex C σ s1)
theorem lp_expr (he : LE X e te) (hs : swapsWith e none pos.line X.env = pure false := by rfl) : LP X (.Expr e pos) (lDrop te) := fun s0 H0 E tk hp =>
  (ps_expr (he s0 H0 E tk) hs).imp fun D σ H ⟨σl, s, Dl, hσ, hs, st, h, d⟩ =>
    ⟨σl, s, _, _, hσ, hs, st, fun C s' q => d.ex C σl s' q, h, fun lv s1 v H1 h1 st1 hs1 r1 => d.nx _ _ _ _ h1 st1 hs1 (hσ.mono st1)⟩
end
end L3

namespace L3
open PySem PySem.Spec L2
section
variable {X : Cx} [GG X.K] {e a b c : Expr} {pos : Pos} {ta tb tc te : LTE} {tt : LTT} {t u : LTS} {st : Stmt} {sts sts2 : List Stmt}
def lRet (te : LTE) : LTS := fun D σ s => te σ s D.rt (fun C s1 => D.ex C σ s1)
theorem lp_ret (he : LE X e te) : LP X (.Return (some e) pos) (lRet te) := fun s0 H0 E tk hp => (ps_ret (he s0 H0 E tk)).imp fun D σ H ⟨σl, s, Dl, hσ, hs, st, h, d⟩ =>
  ⟨σl, s, _, _, hσ, hs, st, fun C s' q => d.ex C σl s' q, h, d.rt⟩
def lRetN : LTS := fun D _ s => D.rt .non s
theorem lp_retN : LP X (.Return none pos) lRetN := fun s0 H0 E tk hp => ps_retN.imp fun D σ H ⟨σl, s, Dl, hσ, hs, st, h, d⟩ => d.rt _ _ _ _ h (.refl _ _) hs .non
def lIf (c : LTT) (t u : LTS) : LTS := fun D σ s => c σ s (fun b s1 => (b = true → t D σ s1) ∧ (b = false → u D σ s1)) (fun C s1 => D.ex C σ s1)
theorem lp_if (hc : LT X c tt) (ha : LPs X sts t) (hb : LPs X sts2 u) : LP X (.If c sts sts2 pos) (lIf tt t u) := fun s0 H0 E tk hp =>
  (ps_if (hc s0 H0 E tk) (ha s0 H0 E tk hp) (hb s0 H0 E tk hp)).imp fun D σ H ⟨σl, s, Dl, hσ, hs, st, h, d⟩ =>
    ⟨σl, s, _, _, hσ, hs, st, fun C s' q => d.ex C σl s' q, h, fun b s1 H1 h st1 hs1 => by
      cases b with
      | true => exact ⟨σl, s1, Dl, hσ.mono st1, hs1, st.trans st1, h.1 rfl, d.mono st1⟩
      | false => exact ⟨σl, s1, Dl, hσ.mono st1, hs1, st.trans st1, h.2 rfl, d.mono st1⟩⟩
/-- a cut behind a statement, a block: what holds there is said -/
def lCut (t : LTS) : LTS := fun D σ s => ∃ R : LSt → LS → Prop, t (D.wnx R) σ s ∧ ∀ σ' s', R σ' s' → D.nx σ' s'
theorem lp_cut (h : LP X st t) : LP X st (lCut t) := fun s0 H0 E tk hp => (h s0 H0 E tk hp).imp fun D σ H ⟨σl, s, Dl, hσ, hs, st, ⟨R, h, r⟩, d⟩ =>
  ⟨σl, s, _, hσ, hs, st, h, ⟨fun σl1 s1 σ1 H1 h1 => d.nx σl1 s1 σ1 H1 (r _ _ h1), d.rt, d.bk, d.ct, d.ex⟩⟩
def lNever : LTS := fun _ _ _ => False
theorem lp_never : LP X st lNever := fun s0 H0 E tk hp => ps_never.imp fun D σ H ⟨_, _, _, _, _, _, h, _⟩ => h
theorem lps_never : LPs X sts lNever := fun s0 H0 E tk hp => pss_never.imp fun D σ H ⟨_, _, _, _, _, _, h, _⟩ => h

def lgName (i : Nat) : LTG := fun v σ s Q _ => Q (σ.set i (some v)) s
theorem lg_name {i : Nat} {x : Str} (hN : X.N.Nodup) (hi : X.N[i]? = some x) (hx : Loc X.env.scope x) (hf : X.fn x = true ∨ X.env.scope.names.lookup x = some .local := by first | exact .inl rfl | exact .inr rfl | assumption) : LG X (.Name x pos) (lgName i) := fun s0 H0 E tk =>
  (pg_name hN hi hx hf).imp fun v σ H Q ⟨lv, σl, s, Q0, E1, hσ, hs, st, rv, hE, h, k⟩ => k _ _ _ _ h (.refl _ _) hs (hσ.set i rv)
/-- several names, from the left -/
def lSets : List Nat → List LV → LSt → Option LSt
  | [], [], σ => some σ
  | i :: is, v :: vs, σ => lSets is vs (σ.set i (some v))
  | _, _, _ => none
def lgTup (is : List Nat) : LTG := fun v σ s Q _ => match v with
  | .tup xs => (match lSets is xs σ with
    | some σ' => Q σ' s
    | none => False)
  | _ => False
/-- the real targets of names -/
def gNames : List Nat → TGs
  | [] => gNil
  | i :: is => gCons (gName i) (gNames is)
theorem gNames_ok {K : PySem.W.Frag} [GG K] {s : LS} {H : Hp} {Q : St → Hp → Prop} : ∀ {is : List Nat} {xs : List LV} {vs : List V} {σl σl' : LSt} {σ : St}, RSt K s H σl σ → RVs K s H xs vs → lSets is xs σl = some σl' →
    (∀ σ', RSt K s H σl' σ' → Q σ' H) → gNames is vs σ H Q
  | [], [], _, _, _, σ, hσ, rv, e, k => by
    simp only [RVs] at rv
    subst rv
    cases e
    exact ⟨rfl, k _ hσ⟩
  | i :: is, x :: xs, _, _, _, σ, hσ, rv, e, k => by
    simp only [RVs] at rv
    obtain ⟨u, r, rfl, r1, r2⟩ := rv
    exact ⟨u, r, rfl, gNames_ok (is := is) (hσ.set i r1) r2 e k⟩
  | [], _ :: _, _, _, _, _, _, _, e, _ => by cases e
  | _ :: _, [], _, _, _, _, _, _, e, _ => by cases e
theorem lSets_len : ∀ {is : List Nat} {xs : List LV} {σ σ' : LSt}, lSets is xs σ = some σ' → xs.length = is.length
  | [], [], _, _, _ => rfl
  | i :: is, x :: xs, _, _, e => by simp [lSets_len (is := is) e]
  | [], _ :: _, _, _, e => by cases e
  | _ :: _, [], _, _, e => by cases e
theorem lg_tup {es : List Expr} {k : Nat} {is : List Nat} (hc : X.calm = true) (h : PGs X es (gNames is)) (hn : (assignEach es X.env).length = is.length := by rfl) (hst : (assignEach es X.env).findIdx? (·.1) = none := by rfl) :
    LG X (.Tuple es k pos) (lgTup is) := fun s0 H0 E tk => (pg_tup hc h hn hst).imp fun v σ H Q ⟨lv, σl, s, Q0, E1, hσ, hs, st, rv, hE, h, k⟩ => by
  cases lv with
  | tup xs =>
    simp only [RV] at rv
    obtain ⟨a, us, rfl, n, hh, r⟩ := rv
    simp only [lgTup] at h
    split at h
    · next σ' e => exact ⟨a, us, rfl, SqT.of hh, by rw [r.length, lSets_len e], gNames_ok hσ r e fun σ2 q => k _ _ _ _ h (.refl _ _) hs q⟩
    · exact h.elim
  | _ => exact h.elim
/-- target = value -/
def lAsg (te : LTE) (g : LTG) : LTS := fun D σ s => te σ s (fun x s1 => g x σ s1 D.nx (fun C s2 => D.ex C σ s2)) (fun C s1 => D.ex C σ s1)
theorem lp_asg {tg : Expr} {g : LTG} (he : LE X e te) (hg : LG X tg g) (hs : swapsWithSole [tg] e pos.line X.env = pure false := by rfl) (hw : swappedStores [tg] e X.env = pure none := by rfl)
    (h1 : (assignEach [tg] X.env).map (·.2) = [assign tg X.env] := by rfl) : LP X (.Assign [tg] e pos) (lAsg te g) := fun s0 H0 E tk hp =>
  (ps_asg (he s0 H0 E tk) (hg s0 H0 E tk) hs hw h1).imp fun D σ H ⟨σl, s, Dl, hσ, hs, st, h, d⟩ =>
    ⟨σl, s, _, _, hσ, hs, st, fun C s' q => d.ex C σl s' q, h, fun lx s1 x H1 h st1 hs1 rx => ⟨lx, σl, s1, _, _, hσ.mono st1, hs1, st.trans st1, rx, fun C s' q => d.ex C σl s' q, h, (d.mono st1).nx⟩⟩
theorem lp_set {i : Nat} {x : Str} {pos' : Pos} (hN : X.N.Nodup) (hi : X.N[i]? = some x) (hx : Loc X.env.scope x) (he : LE X e te) (hs : swapsWith e (some (.Name x pos')) pos.line X.env = pure false := by rfl)
    (hf : X.fn x = true ∨ X.env.scope.names.lookup x = some .local := by first | exact .inl rfl | exact .inr rfl | assumption) : LP X (.Assign [.Name x pos'] e pos) (lAsg te (lgName i)) := fun s0 H0 E tk hp =>
  (ps_set hN hi hx (he s0 H0 E tk) hs hf).imp fun D σ H ⟨σl, s, Dl, hσ, hs, st, h, d⟩ =>
    ⟨σl, s, _, _, hσ, hs, st, fun C s' q => d.ex C σl s' q, h, fun lx s1 x H1 h st1 hs1 rx => d.nx _ _ _ _ h st1 hs1 ((hσ.mono st1).set i rx)⟩

def lWhile (c : LTT) (tb : LTS) : LTS := fun D σ s => ∃ W : Nat → LSt → LS → Prop, (∃ m, W m σ s) ∧ ∀ m σ s, W m σ s →
  c σ s (fun b s1 => (b = true → tb (D.wlp fun σ' s' => ∃ m', m' < m ∧ W m' σ' s') σ s1) ∧ (b = false → D.nx σ s1)) (fun C s1 => D.ex C σ s1)
theorem lp_while (hc : LT X c tt) (hb : LPs X sts t) : LP X (.While c sts [] pos) (lWhile tt t) := fun s0 H0 E tk hp =>
  (ps_while hp (hc s0 H0 E tk) (hb s0 H0 E tk hp)).imp fun D σ H ⟨σl, s, Dl, hσ, hs, st, ⟨W, ⟨m0, w0⟩, turn⟩, d⟩ => by
    refine ⟨fun m σ' H' => ∃ σl' s', RSt X.K s' H' σl' σ' ∧ RelS X.K s' H' ∧ Step s H s' H' ∧ W m σl' s', ⟨m0, σl, s, hσ, hs, .refl _ _, w0⟩, ?_⟩
    rintro m σ1 H1 ⟨σl1, s1, hσ1, hs1, st1, w1⟩
    refine ⟨σl1, s1, _, _, hσ1, hs1, st.trans st1, fun C s' q => d.ex C σl1 s' q, turn m σl1 s1 w1, fun b s2 H2 h st2 hs2 => ?_⟩
    have st12 := st1.trans st2
    cases b with
    | true =>
      refine iteT ?_
      refine ⟨fun σ' H' => ∃ m', m' < m ∧ ∃ σl' s', RSt X.K s' H' σl' σ' ∧ RelS X.K s' H' ∧ Step s H s' H' ∧ W m' σl' s', fun σ' H' q => q, σl1, s2, _, hσ1.mono st2, hs2, st.trans st12, h.1 rfl, ?_⟩
      exact ⟨fun σl3 s3 σ3 H3 ⟨m', lt, w⟩ st3 hs3 r3 => ⟨m', lt, σl3, s3, r3, hs3, st12.trans st3, w⟩, (d.mono st12).rt, (d.mono st12).nx, fun σl3 s3 σ3 H3 ⟨m', lt, w⟩ st3 hs3 r3 => ⟨m', lt, σl3, s3, r3, hs3, st12.trans st3, w⟩, d.ex⟩
    | false =>
      refine iteF ?_
      exact d.nx _ _ _ _ (h.2 rfl) st12 hs2 (hσ1.mono st2)

abbrev LTI := LSt → LS → (List LV → (LS → Prop) → LS → Prop) → LX → Prop
structure ItR (K : PySem.W.Frag) [GG K] (J : It) (xs : List LV) (stb : LS → Prop) (s1 : LS) (H1 : Hp) : Prop where
  go : ∀ i s H, i < xs.length → Step s1 H1 s H → RelS K s H → stb s → J.go i H
  stop : ∀ s H, Step s1 H1 s H → RelS K s H → stb s → J.stop xs.length H
  yld : ∀ i s H x H', i < xs.length → Step s1 H1 s H → RelS K s H → stb s → J.yld i H x H' → ∃ lx, xs[i]? = some lx ∧ RV K s H' lx x ∧ Step s H s H' ∧ RelS K s H'
def upI (K : PySem.W.Frag) [GG K] (s0 : LS) (H0 : Hp) (E : LXS) (t : LTI) : TI := fun σ H R => ∃ σl s Q0 E1, RSt K s H σl σ ∧ RelS K s H ∧ Step s0 H0 s H ∧ (∀ C s', E1 C s' → E C σl s') ∧ t σl s Q0 E1 ∧
  ∀ xs stb s' H' J, Q0 xs stb s' → Step s H s' H' → RelS K s' H' → ItR K J xs stb s' H' → R J H'
def LI (X : Cx) [GG X.K] (tg iter : Expr) (t : LTI) : Prop := ∀ s0 H0 E, Takes X (WL X.K s0 H0 E) → PI X tg iter (upI X.K s0 H0 E t)
theorem _root_.L2.PI.imp {X : Cx} [GG X.K] {tg e : Expr} {t t' : TI} (h : PI X tg e t) (i : ∀ σ H R, t' σ H R → t σ H R) : PI X tg e t' := ⟨fun pins s σ H R I q => h.run pins s σ H R I (i _ _ _ q)⟩

def lLoop (g : LTG) (tb : LTS) (stb : LS → Prop) (D : LEnds) : List LV → LSt → LS → Prop
  | [], σ, s => stb s ∧ D.nx σ s
  | x :: xs, σ, s => stb s ∧ g x σ s (fun σ2 s2 => tb (D.wlp (lLoop g tb stb D xs)) σ2 s2) (fun C s1 => D.ex C σ s1)
def lFor (it : LTI) (g : LTG) (tb : LTS) : LTS := fun D σ s => it σ s (fun xs stb s1 => lLoop g tb stb D xs σ s1) (fun C s1 => D.ex C σ s1)
theorem lLoop_stb {g : LTG} {tb : LTS} {stb : LS → Prop} {D : LEnds} : ∀ {xs : List LV} {σ : LSt} {s : LS}, lLoop g tb stb D xs σ s → stb s
  | [], _, _, h => h.1
  | _ :: _, _, _, h => h.1
theorem lp_for {tg iter : Expr} {it : LTI} {g : LTG} (hc : X.calm = true) (hi : LI X tg iter it) (hg : LG X tg g) (hb : LPs X sts t) (hs : ∀ x, foldedSetIterable iter X.env x = pure x := by intro _; rfl) :
    LP X (.For tg iter sts [] pos) (lFor it g t) := fun s0 H0 E tk hp =>
  (ps_for hp hc (hi s0 H0 E tk) (hg s0 H0 E tk) (hb s0 H0 E tk hp) hs).imp fun D σ H ⟨σl, s, Dl, hσ, hs, st, h, d⟩ => by
    refine ⟨σl, s, _, _, hσ, hs, st, fun C s' q => d.ex C σl s' q, h, fun xs stb s1 H1 J h st1 hs1 it => ?_⟩
    have d1 := d.mono st1
    refine ⟨fun i m σ' H' => ∃ σl' s', RSt X.K s' H' σl' σ' ∧ RelS X.K s' H' ∧ Step s1 H1 s' H' ∧ m = xs.length - i ∧ i ≤ xs.length ∧ lLoop g t stb Dl (xs.drop i) σl' s', ⟨xs.length, σl, s1, hσ.mono st1, hs1, .refl _ _, by simp, Nat.zero_le _, h⟩, ?_⟩
    rintro i m σ2 H2 ⟨σl2, s2, hσ2, hs2, st2, rfl, hi, h2⟩
    by_cases hlt : i < xs.length
    · rw [List.drop_eq_getElem_cons hlt] at h2
      refine .inr ⟨it.go i s2 H2 hlt st2 hs2 h2.1, fun σ' H' => ∃ σl' s', RSt X.K s' H' σl' σ' ∧ RelS X.K s' H' ∧ Step s1 H1 s' H' ∧ lLoop g t stb Dl (xs.drop (i + 1)) σl' s', fun σ' H' ⟨σl', s', q1, q2, q3, q4⟩ => ⟨xs.length - (i + 1), by omega, σl', s', q1, q2, q3, rfl, hlt, q4⟩, fun x H' y => ?_⟩
      obtain ⟨lx, ex, rx, st3, hs3⟩ := it.yld i s2 H2 x H' hlt st2 hs2 h2.1 y
      rw [List.getElem?_eq_getElem hlt] at ex
      cases ex
      have st23 := st2.trans st3
      refine ⟨_, σl2, s2, _, _, hσ2.mono st3, hs3, (st.trans st1).trans st23, rx, fun C s' q => d.ex C σl2 s' q, h2.2, fun σl4 s4 σ4 H4 q st4 hs4 hσ4 => ?_⟩
      have st24 := st23.trans st4
      refine ⟨σl4, s4, _, hσ4, hs4, (st.trans st1).trans st24, q, ?_⟩
      exact ⟨fun σl5 s5 σ5 H5 w st5 hs5 r5 => ⟨σl5, s5, r5, hs5, st24.trans st5, w⟩, (d1.mono st24).rt, (d1.mono st24).nx, fun σl5 s5 σ5 H5 w st5 hs5 r5 => ⟨σl5, s5, r5, hs5, st24.trans st5, w⟩, d.ex⟩
    · have ei : i = xs.length := by omega
      subst ei
      rw [List.drop_length] at h2
      exact .inl ⟨it.stop s2 H2 st2 hs2 h2.1, (d1.mono st2).nx _ _ _ _ h2.2 (.refl _ _) hs2 hσ2⟩
/-- a loop by a fold: its state after the items -/
theorem lLoop_fold {α : Type} {g : LTG} {tb : LTS} {stb : LS → Prop} {D : LEnds} {mkσ : α → LSt} {mks : α → LS} {f : α → LV → α} {P : α → Prop} : ∀ (xs : List LV) (z : α), P z → (∀ z, P z → stb (mks z)) →
    (∀ z x, P z → x ∈ xs → ∀ N : LSt → LS → Prop, (P (f z x) → N (mkσ (f z x)) (mks (f z x))) → g x (mkσ z) (mks z) (fun σ2 s2 => tb (D.wlp (N)) σ2 s2) (fun C s1 => D.ex C (mkσ z) s1)) →
    (∀ z x, P z → x ∈ xs → P (f z x)) → D.nx (mkσ (xs.foldl f z)) (mks (xs.foldl f z)) → lLoop g tb stb D xs (mkσ z) (mks z)
  | [], z, pz, hst, _, _, hn => ⟨hst z pz, hn⟩
  | x :: xs, z, pz, hst, hs, hp, hn => ⟨hst z pz, hs z x pz (by simp) _ fun p' =>
      lLoop_fold xs (f z x) p' hst (fun z y pz hy => hs z y pz (by simp [hy])) (fun z y pz hy => hp z y pz (by simp [hy])) hn⟩
/-- a loop by an invariant over what is done and what is left -/
theorem lLoop_inv {g : LTG} {tb : LTS} {stb : LS → Prop} {D : LEnds} (I : List LV → List LV → LSt → LS → Prop) {σ : LSt} {s : LS} {xs : List LV} (h0 : I [] xs σ s) (hst : ∀ p r σ s, I p r σ s → stb s)
    (hs : ∀ p x r σ s, p ++ x :: r = xs → I p (x :: r) σ s → g x σ s (fun σ2 s2 => tb (D.wlp (I (p ++ [x]) r)) σ2 s2) (fun C s1 => D.ex C σ s1))
    (mono : ∀ x σ s (N N' : LSt → LS → Prop), (∀ σ s, N σ s → N' σ s) → g x σ s (fun σ2 s2 => tb (D.wlp (N)) σ2 s2) (fun C s1 => D.ex C σ s1) → g x σ s (fun σ2 s2 => tb (D.wlp (N')) σ2 s2) (fun C s1 => D.ex C σ s1))
    (hn : ∀ σ s, I xs [] σ s → D.nx σ s) : lLoop g tb stb D xs σ s := by
  have go : ∀ (r p : List LV) (σ : LSt) (s : LS), p ++ r = xs → I p r σ s → lLoop g tb stb D r σ s := by
    intro r
    induction r with
    | nil =>
      intro p σ s e i
      rw [List.append_nil] at e
      subst e
      exact ⟨hst _ _ _ _ i, hn _ _ i⟩
    | cons x r ih =>
      intro p σ s e i
      exact ⟨hst _ _ _ _ i, mono x σ s _ _ (fun σ' s' q => ih (p ++ [x]) σ' s' (by simp [e]) q) (hs p x r σ s e i)⟩
  exact go xs [] σ s rfl h0
end
end L3

namespace L3
open PySem PySem.Spec L2
section
variable {K : PySem.W.Frag} [GG K] {s s' : LS} {H H' : Hp}
theorem RelS.ins {a : Addr} {C : Addr} {fs : List (Str × LV)} (r : RelS K s H) (h : s a = some (.ins C fs)) : ∃ dx us, H a = some (.ins C dx us) ∧ RVf K s H fs us := r a _ h
theorem RelS.lst {a : Addr} {xs : List LV} (r : RelS K s H) (h : s a = some (.lst xs)) : ∃ us, H a = some (.lst us) ∧ RVs K s H xs us := r a _ h
theorem RelS.some {a : Addr} {o : LO} (r : RelS K s H) (h : s a = some o) : ∃ u, H a = some u := by
  cases o with
  | lst xs => obtain ⟨us, h, _⟩ := r a _ h; exact ⟨_, h⟩
  | dK xs => obtain ⟨us, h, _⟩ := r a _ h; exact ⟨_, h⟩
  | dT xs => obtain ⟨us, h, _⟩ := r a _ h; exact ⟨_, h⟩
  | ins C xs => obtain ⟨dx, us, h, _⟩ := r a _ h; exact ⟨_, h⟩
  | tab q => obtain ⟨ps, h, _⟩ := r a _ h; exact ⟨_, h⟩
theorem RelS.free {a : Addr} (r : RelS K s H) (h : H a = none) : s a = none := by
  cases e : s a with
  | none => rfl
  | some o =>
    obtain ⟨u, q⟩ := r.some e
    rw [h] at q
    cases q
/-- a write at an address of the store, or a new one -/
theorem Step.put {a : Addr} {o : LO} {u : HO} (h : s a ≠ none ∨ H a = none) : Step s H (put s a o) (upd H a u) := fun b v hb nb => by
  have ne : b ≠ a := by
    rintro rfl
    rcases h with h | h
    · exact h nb
    · rw [h] at hb; cases hb
  rw [upd_ne ne, put_ne ne]
  exact ⟨⟨v, hb, .refl v⟩, nb⟩
theorem ObjR.mono {a : Addr} {o : LO} (st : Step s H s' H') (k : ∀ u, H a = some u → H' a = some u) (h : ObjR K s H a o) : ObjR K s' H' a o := by
  cases o with
  | lst xs => obtain ⟨us, h, r⟩ := h; exact ⟨us, k _ h, r.mono st⟩
  | dK xs => obtain ⟨us, h, r⟩ := h; exact ⟨us, k _ h, r.mono st⟩
  | dT xs => obtain ⟨us, h, r⟩ := h; exact ⟨us, k _ h, r.mono st⟩
  | ins C xs => obtain ⟨dx, us, h, r⟩ := h; exact ⟨dx, us, k _ h, r.mono st⟩
  | tab q =>
    obtain ⟨ps, h, t, r⟩ := h
    refine ⟨ps, k _ h, t, fun pos cv e => ?_⟩
    obtain ⟨c, e1, e2, e3⟩ := r pos cv e
    obtain ⟨⟨o', h', q⟩, n'⟩ := st c _ e3 e2
    rw [q.ext] at h'
    exact ⟨c, e1, n', h'⟩
theorem RelS.put {a : Addr} {o : LO} {u : HO} (r : RelS K s H) (h : s a ≠ none ∨ H a = none) (n : ObjR K (put s a o) (upd H a u) a o) : RelS K (put s a o) (upd H a u) := fun b v hb => by
  by_cases e : b = a
  · subst e
    rw [put_same] at hb
    cases hb
    exact n
  · rw [put_ne e] at hb
    exact (r b v hb).mono (.put h) fun w q => by rw [upd_ne e]; exact q
/-- forgetting what the store holds at an address -/
theorem Step.del (r : RelS K s H) (a : Addr) : Step s H (del s a) H := fun b v hb nb => ⟨⟨v, hb, .refl v⟩, by unfold L3.del; split <;> first | rfl | exact nb⟩
theorem RelS.del (r : RelS K s H) (a : Addr) : RelS K (del s a) H := fun b v hb => by
  unfold L3.del at hb
  split at hb
  · cases hb
  · exact (r b v hb).mono (.del r a) fun _ q => q
/-- a new frozen object -/
theorem Step.new {a : Addr} {u : HO} (r : RelS K s H) (h : H a = none) : Step s H s (upd H a u) := fun b v hb nb => by
  rw [upd_ne (ne_of_none hb h)]
  exact ⟨⟨v, hb, .refl v⟩, nb⟩
theorem RelS.new {a : Addr} {u : HO} (r : RelS K s H) (h : H a = none) : RelS K s (upd H a u) := fun b v hb =>
  (r b v hb).mono (.new r h) fun w q => by rw [upd_ne (ne_of_none q h)]; exact q
theorem RVs.tupAt {a : Addr} {xs : List LV} {us : List V} (r : RelS K s H) (h : H a = none) (q : RVs K s H xs us) : RV K s (upd H a (.tup us)) (.tup xs) (.ref a) := by
  simp only [RV]
  exact ⟨a, us, rfl, r.free h, upd_same, q.mono (.new r h)⟩
theorem RVs.lstAt {a : Addr} {xs : List LV} {us : List V} (r : RelS K s H) (h : H a = none) (q : RVs K s H xs us) : RV K s (upd H a (.lst us)) (.lst xs) (.ref a) := by
  simp only [RV]
  exact ⟨a, us, rfl, r.free h, upd_same, q.mono (.new r h)⟩
end

section
variable {X : Cx} [GG X.K] {e a b c o : Expr} {es : List Expr} {pos : Pos} {ta tb tc te : LTE} {tas : LTA} {tt : LTT} {t u : LTS} {st : Stmt} {sts sts2 : List Stmt}
/-- an expression that makes a new list; what it holds -/
abbrev LTL := LTA
def upL (K : PySem.W.Frag) [GG K] (s0 : LS) (H0 : Hp) (E : LXS) (t : LTL) : TE := fun σ H Q => ∃ σl s Q0 E1, RSt K s H σl σ ∧ RelS K s H ∧ Step s0 H0 s H ∧ (∀ C s', E1 C s' → E C σl s') ∧ t σl s Q0 E1 ∧
  ∀ xs s' us H', Q0 xs s' → Step s H s' H' → RelS K s' H' → RVs K s' H' xs us → ∀ p, H' p = none → Q (.ref p) (upd H' p (.lst us))
def LL (X : Cx) [GG X.K] (e : Expr) (t : LTL) : Prop := ∀ s0 H0 E, Takes X (WL X.K s0 H0 E) → PE X e (upL X.K s0 H0 E t)
def lFz (t : LTL) : LTE := fun σ s Q E => t σ s (fun xs s1 => Q (.lst xs) s1) E
def lNew (t : LTL) : LTE := fun σ s Q E => t σ s (fun xs s1 => ∀ p, s1 p = none → Q (.ref p) (put s1 p (.lst xs))) E
theorem fz_up {K : PySem.W.Frag} [GG K] {s0 : LS} {H0 : Hp} {E : LXS} {tl : LTL} {σ : St} {H : Hp} {Q : VK} (h : up K s0 H0 E (lFz tl) σ H Q) : upL K s0 H0 E tl σ H Q := by
  obtain ⟨σl, s, Q0, E1, hσ, hs, st, hE, h, k⟩ := h
  exact ⟨σl, s, _, E1, hσ, hs, st, hE, h, fun xs s1 us H1 h st1 hs1 r p np => k _ _ _ _ h (st1.trans (.new hs1 np)) (hs1.new np) (r.lstAt hs1 np)⟩
theorem new_up {K : PySem.W.Frag} [GG K] {s0 : LS} {H0 : Hp} {E : LXS} {tl : LTL} {σ : St} {H : Hp} {Q : VK} (h : up K s0 H0 E (lNew tl) σ H Q) : upL K s0 H0 E tl σ H Q := by
  obtain ⟨σl, s, Q0, E1, hσ, hs, st, hE, h, k⟩ := h
  exact ⟨σl, s, _, E1, hσ, hs, st, hE, h, fun xs s1 us H1 h st1 hs1 r p np => k _ _ _ _ (h p (hs1.free np)) (st1.trans (.put (.inr np))) (hs1.put (.inr np) ⟨us, upd_same, r.mono (.put (.inr np))⟩) .ref⟩
theorem le_fz {tl : LTL} (h : LL X e tl) : LE X e (lFz tl) := fun s0 H0 E tk => (h s0 H0 E tk).imp fun σ H Q q => fz_up q
theorem le_new {tl : LTL} (h : LL X e tl) : LE X e (lNew tl) := fun s0 H0 E tk => (h s0 H0 E tk).imp fun σ H Q q => new_up q
def lDisp (t : LTA) : LTL := fun σ s Q E => t σ s (fun xs s1 => xs.length ≤ 16777216 ∧ Q xs s1) E
theorem ll_disp (h : LA X es tas) : LL X (.List es pos) (lDisp tas) := fun s0 H0 E tk => (pe_lst (h s0 H0 E tk)).imp fun σ H Q ⟨σl, s, Q0, E1, hσ, hs, st, hE, h, k⟩ =>
  ⟨σl, s, _, E1, hσ, hs, st, hE, h, fun xs s1 us H1 h st1 hs1 r => ⟨by rw [r.length, sizeLine_eq]; exact h.1, fun p np => k _ _ _ _ h.2 st1 hs1 r p np⟩⟩
def lTup (t : LTA) : LTE := fun σ s Q E => t σ s (fun xs s1 => xs.length ≤ 16777216 ∧ Q (.tup xs) s1) E
theorem le_tup {k : Nat} (h : LA X es tas) : LE X (.Tuple es k pos) (lTup tas) := fun s0 H0 E tk => (pe_tup (h s0 H0 E tk)).imp fun σ H Q ⟨σl, s, Q0, E1, hσ, hs, st, hE, h, k⟩ =>
  ⟨σl, s, _, E1, hσ, hs, st, hE, h, fun xs s1 us H1 h st1 hs1 r => ⟨by rw [r.length, sizeLine_eq]; exact h.1, fun p np => k _ _ _ _ h.2 (st1.trans (.new hs1 np)) (hs1.new np) (r.tupAt hs1 np)⟩⟩

/-- the field f of the instance x of the class C -/
def fldAt (C : Addr) (f : Str) (x : LV) (s : LS) (k : LV → Prop) : Prop := match x with
  | .ref a => (match s a with
    | some (.ins D fs) => D = C ∧ (match fs.lookup f with
      | some v => k v
      | none => False)
    | _ => False)
  | .ins D fs => D = C ∧ (match fs.lookup f with
    | some v => k v
    | none => False)
  | _ => False
theorem fldAt_ok {K : PySem.W.Frag} [GG K] {s : LS} {H : Hp} {C : Addr} {f : Str} {x : LV} {v : V} {k : LV → Prop} (r : RelS K s H) (rx : RV K s H x v) (h : fldAt C f x s k) :
    ∃ a dx us lv w, v = .ref a ∧ H a = some (.ins C dx us) ∧ us.lookup f = some w ∧ RV K s H lv w ∧ k lv := by
  cases x with
  | ref a =>
    simp only [fldAt] at h
    split at h
    · next D fs e =>
      obtain ⟨rfl, h⟩ := h
      split at h
      · next lv el =>
        obtain ⟨dx, us, hh, rf⟩ := r.ins e
        obtain ⟨w, e1, e2⟩ := rf.look el
        exact ⟨a, dx, us, lv, w, rx.ref', hh, e1, e2, h⟩
      · exact h.elim
    · exact h.elim
  | ins D fs =>
    simp only [fldAt] at h
    obtain ⟨rfl, h⟩ := h
    split at h
    · next lv el =>
      simp only [RV] at rx
      obtain ⟨a, dx, us, rfl, _, hh, rf⟩ := rx
      obtain ⟨w, e1, e2⟩ := rf.look el
      exact ⟨a, dx, us, lv, w, rfl, hh, e1, e2, h⟩
    · exact h.elim
  | _ => exact h.elim
def lFld (C : Addr) (f : Str) (ta : LTE) : LTE := fun σ s Q E => ta σ s (fun x s1 => fldAt C f x s1 fun v => Q v s1) E
theorem le_fld {C : Addr} {f : Str} (hc : Cls X.K C) (hn : NoAttr X.K C f) (ha : LE X a ta) (hb : attributeBase a f X.env (eval a X.env) = eval a X.env := by rfl) : LE X (.Attribute a f pos) (lFld C f ta) := fun s0 H0 E tk =>
  (pe_fld (ha s0 H0 E tk) hb).imp fun σ H Q ⟨σl, s, Q0, E1, hσ, hs, st, hE, h, k⟩ => ⟨σl, s, _, E1, hσ, hs, st, hE, h, fun lx s1 x H1 h st1 hs1 rx => by
    obtain ⟨p, dx, us, lv, w, rfl, hh, e1, e2, h⟩ := fldAt_ok hs1 rx h
    exact ⟨p, C, dx, us, w, rfl, hh, hc, hn, e1, k _ _ _ _ h st1 hs1 e2⟩⟩
/-- o.f = e -/
def lSetF (C : Addr) (f : Str) (ta tv : LTE) : LTS := fun D σ s => tv σ s (fun y s1 => ta σ s1 (fun x s2 => match x with
  | .ref a => (match s2 a with
    | some (.ins B fs) => B = C ∧ fs.length < 1000 ∧ D.nx σ (put s2 a (.ins C (putL f y fs)))
    | _ => False)
  | _ => False) (fun C s3 => D.ex C σ s3)) (fun C s3 => D.ex C σ s3)
theorem lp_fld {C : Addr} {f : Str} {pos' : Pos} (hc : Cls X.K C) (hn : NoAttr X.K C f) (ha : LE X a ta) (hv : LE X e te) (hs : swapsWith e (some (.Attribute a f pos')) pos.line X.env = pure false := by rfl) :
    LP X (.Assign [.Attribute a f pos'] e pos) (lSetF C f ta te) := fun s0 H0 E tk hp => (ps_fld (ha s0 H0 E tk) (hv s0 H0 E tk) hs).imp fun D σ H ⟨σl, s, Dl, hσ, hs, st, h, d⟩ =>
  ⟨σl, s, _, _, hσ, hs, st, fun C s' q => d.ex C σl s' q, h, fun ly s1 y H1 h st1 hs1 ry => ⟨σl, s1, _, _, hσ.mono st1, hs1, st.trans st1, fun C s' q => d.ex C σl s' q, h, fun lx s2 x H2 h st2 hs2 rx => by
    cases lx with
    | ref p =>
      have h : (match s2 p with
        | some (.ins B fs) => B = C ∧ fs.length < 1000 ∧ Dl.nx σl (put s2 p (.ins C (putL f ly fs)))
        | _ => False) := h
      split at h
      · next B fs e =>
        obtain ⟨rfl, hl, h⟩ := h
        obtain ⟨dx, us, hh, rf⟩ := hs2.ins e
        have nn : s2 p ≠ none ∨ H2 p = none := .inl (by rw [e]; simp)
        have st3 : Step s2 H2 (put s2 p (.ins B (putL f ly fs))) (upd H2 p (.ins B dx (putF f y us))) := .put nn
        refine ⟨p, B, dx, us, rx.ref', hh, hc, hn, by rw [rf.length]; exact hl, ?_⟩
        refine d.nx _ _ _ _ h ((st1.trans st2).trans st3) (hs2.put nn ⟨dx, _, upd_same, (rf.put f (ry.mono st2)).mono st3⟩) (hσ.mono ((st1.trans st2).trans st3))
      · exact h.elim
    | _ => exact False.elim h⟩⟩

abbrev LSp := List LV → LS → LVK → LX → Prop
def dn (K : PySem.W.Frag) [GG K] (sp : LSp) : Sp := fun vs H Q E => ∃ lvs s Q0 E0, RVs K s H lvs vs ∧ RelS K s H ∧ sp lvs s Q0 E0 ∧ (∀ lv s' v H', Q0 lv s' → Step s H s' H' → RelS K s' H' → RV K s' H' lv v → Q v H') ∧
  ∀ C s' H', E0 C s' → Step s H s' H' → RelS K s' H' → E (.ref C) none H'
abbrev LFn (P : Program) (w : World) (K : PySem.W.Frag) [GG K] (mg : Str → Option Value) (base : Heap) (k : Nat) (f : Addr) (fd : FuncData) (ps : List Str) (sp : LSp) : Prop := FnOk P w K mg base (L2.CX P w) k f fd ps (dn K sp)
theorem LFn.imp {P : Program} {w : World} {K : PySem.W.Frag} [GG K] {mg : Str → Option Value} {base : Heap} {k : Nat} {f : Addr} {fd : FuncData} {ps : List Str} {sp sp' : LSp} (F : LFn P w K mg base k f fd ps sp)
    (h : ∀ vs s Q E, sp' vs s Q E → sp vs s Q E) : LFn P w K mg base k f fd ps sp' := FnOk.imp F fun vs H Q E ⟨lvs, s, Q0, E0, a, b, c, d, e⟩ => ⟨lvs, s, Q0, E0, a, b, h _ _ _ _ c, d, e⟩
/-- what a callee lets out, at our slots -/
theorem dn_call {s0 : LS} {H0 : Hp} {E : LXS} {σ : St} {H : Hp} {Q : VK} {sp : LSp} {K : PySem.W.Frag} [GG K] {σl : LSt} {s : LS} {lvs : List LV} {vs : List V} {Q0 : LVK} {E1 : LX} (hσ : RSt K s H σl σ) (hs : RelS K s H) (st : Step s0 H0 s H)
    (hE : ∀ C s', E1 C s' → E C σl s') (r : RVs K s H lvs vs) (h : sp lvs s Q0 E1) (k : ∀ lv s' v H', Q0 lv s' → Step s H s' H' → RelS K s' H' → RV K s' H' lv v → Q v H') : dn K sp vs H Q (WE (WL K s0 H0 E) σ) :=
  ⟨lvs, s, Q0, E1, r, hs, h, k, fun C s' H' q st1 hs1 => ⟨C, σl, s', rfl, rfl, hσ.mono st1, hs1, st.trans st1, hE _ _ q⟩⟩
theorem LE.go {s0 : LS} {H0 : Hp} {E : LXS} {σ : St} {H : Hp} {σl : LSt} {s : LS} {Q0 : LVK} {E1 : LX} {pins : List (Addr × Obj)} {si : Shared} (ha : LE X o ta) (tk : Takes X (WL X.K s0 H0 E)) (I : Inv X pins σ H si) (hσ : RSt X.K s H σl σ) (hs : RelS X.K s H)
    (st : Step s0 H0 s H) (hE : ∀ C s', E1 C s' → E C σl s') (h : ta σl s Q0 E1) :
    wpAny (model X.prog X.w) X.A (eval o X.env) (fun u si1 => ∃ x H1, Inv X pins σ H1 si1 ∧ RelV x u ∧ ∃ lx s1, Step s H s1 H1 ∧ RelS X.K s1 H1 ∧ RV X.K s1 H1 lx x ∧ Q0 lx s1) X.xe si :=
  (ha s0 H0 E tk).run pins si σ H (fun x H1 => ∃ lx s1, Step s H s1 H1 ∧ RelS X.K s1 H1 ∧ RV X.K s1 H1 lx x ∧ Q0 lx s1) I ⟨σl, s, Q0, E1, hσ, hs, st, hE, h, fun lx s1 x H1 h st1 hs1 rx => ⟨lx, s1, st1, hs1, rx, h⟩⟩
theorem LA.go {s0 : LS} {H0 : Hp} {E : LXS} {σ : St} {H : Hp} {σl : LSt} {s : LS} {Q0 : List LV → LS → Prop} {E1 : LX} {pins : List (Addr × Obj)} {si : Shared} (ha : LA X es tas) (tk : Takes X (WL X.K s0 H0 E)) (pos : Pos) (I : Inv X pins σ H si) (hσ : RSt X.K s H σl σ) (hs : RelS X.K s H)
    (st : Step s0 H0 s H) (hE : ∀ C s', E1 C s' → E C σl s') (h : tas σl s Q0 E1) :
    wpAny (model X.prog X.w) X.A (spliced (backTo pos (starEach es X.env))) (fun us si1 => ∃ vs H1, Inv X pins σ H1 si1 ∧ Vals vs us ∧ ∃ lvs s1, Step s H s1 H1 ∧ RelS X.K s1 H1 ∧ RVs X.K s1 H1 lvs vs ∧ Q0 lvs s1) X.xe si :=
  (ha s0 H0 E tk).run pos pins si σ H (fun vs H1 => ∃ lvs s1, Step s H s1 H1 ∧ RelS X.K s1 H1 ∧ RVs X.K s1 H1 lvs vs ∧ Q0 lvs s1) I ⟨σl, s, Q0, E1, hσ, hs, st, hE, h, fun lx s1 x H1 h st1 hs1 rx => ⟨lx, s1, st1, hs1, rx, h⟩⟩
def lCall (sp : LSp) (t : LTA) : LTE := fun σ s Q E => t σ s (fun vs s1 => sp vs s1 Q E) E
variable {k : Nat} {f C : Addr} {fd : FuncData} {ps : List Str} {sp : LSp} {x m : Str} {p apos : Pos}
theorem le_call (F : LFn X.prog X.w X.K X.mg X.base k f fd ps sp) (hr : Room k X.A) (hg : Gl X x) (hm : X.mg x = some (.ref f)) (hk : PySem.W.keepIn X.K (.ref f) = true) (hb : Binds X.K fd ps []) (ha : LA X (e :: es) tas)
    (hdb : (x == ("__debug__" : Str)) = false := by decide) (he : starEach (e :: es) X.env = (false, eval e X.env) :: starEach es X.env := by rfl) (hpl : (backTo pos (starEach es X.env)).any (·.1) = false := by rfl) :
    LE X (.Call (.Name x p) (e :: es) [] pos) (lCall sp tas) := fun s0 H0 E tk => (pe_callS F hr hg hm hk hb (fun σ => passAt tk σ) (ha s0 H0 E tk) hdb he hpl).imp fun σ H Q ⟨σl, s, Q0, E1, hσ, hs, st, hE, h, kk⟩ =>
  ⟨σl, s, _, E1, hσ, hs, st, hE, h, fun lvs s1 vs H1 h st1 hs1 r => dn_call (hσ.mono st1) hs1 (st.trans st1) hE r h fun lv s2 v H2 q st2 => kk lv s2 v H2 q (st1.trans st2)⟩
theorem le_call0 (F : LFn X.prog X.w X.K X.mg X.base k f fd ps sp) (hr : Room k X.A) (hg : Gl X x) (hm : X.mg x = some (.ref f)) (hk : PySem.W.keepIn X.K (.ref f) = true) (hb : Binds X.K fd ps [])
    (hdb : (x == ("__debug__" : Str)) = false := by decide) : LE X (.Call (.Name x p) [] [] pos) (lCall sp lNil) := fun s0 H0 E tk => ⟨fun pins s1 σ H Q I ⟨σl, s, Q0, E1, hσ, hs, st, hE, h, kk⟩ =>
  wpAny_Call_Name_kw (ld_glob I hg hm (PySem.W.callWith_K0 I.kIn hk (run_fnS (E := fun _ => WE (WL X.K s0 H0 E) σ) (us := []) F hr hb (passAt tk σ) I .nil (dn_call hσ hs st hE .nil h kk))) hdb)⟩
def methAt (C : Addr) (m : Str) (x : LV) (s : LS) : Prop := match x with
  | .ref a => (match s a with
    | some (.ins B fs) => B = C ∧ fs.lookup m = none
    | _ => False)
  | .ins B fs => B = C ∧ fs.lookup m = none
  | _ => False
def lMeth (C : Addr) (m : Str) (sp : LSp) (ta : LTE) (t : LTA) : LTE := fun σ s Q E => ta σ s (fun x s1 => methAt C m x s1 ∧ t σ s1 (fun vs s2 => sp (x :: vs) s2 Q E) E) E
theorem meth_ok {K : PySem.W.Frag} [GG K] {s : LS} {H : Hp} {x : LV} {v : V} (r : RelS K s H) (rx : RV K s H x v) (h : methAt C m x s) : ∃ a dx us, v = .ref a ∧ H a = some (.ins C dx us) ∧ us.lookup m = none := by
  cases x with
  | ref a =>
    simp only [methAt] at h
    split at h
    · next B fs e =>
      obtain ⟨rfl, h⟩ := h
      obtain ⟨dx, us, hh, rf⟩ := r.ins e
      exact ⟨a, dx, us, rx.ref', hh, rf.look0 h⟩
    · exact h.elim
  | ins B fs =>
    simp only [methAt] at h
    obtain ⟨rfl, h⟩ := h
    simp only [RV] at rx
    obtain ⟨a, dx, us, rfl, _, hh, rf⟩ := rx
    exact ⟨a, dx, us, rfl, hh, rf.look0 h⟩
  | _ => exact h.elim
theorem le_meth {pl : Sem Bool} (ha : LE X o ta) (c : Cls X.K C) (hm : Meth X.K C m f) (F : LFn X.prog X.w X.K X.mg X.base k f fd ps sp) (hr : Room k X.A) (hb : Binds X.K fd ps []) (hes : LA X (e :: es) tas)
    (hst : starEach (e :: es) X.env = (false, eval e X.env) :: starEach es X.env := by rfl) (hpl : (backTo pos (starEach es X.env)).any (·.1) = false := by rfl)
    (ht : eval (.Call (.Attribute o m apos) (e :: es) [] pos) X.env = (do
      let ov ← eval o X.env
      standAt apos.atName
      let (f, first) ← holding [ov] (getMethod ov m pl)
      callWith pos f first (backTo pos (starEach (e :: es) X.env)) (backToKw pos (keywordEach [] X.env))) := by rfl) : LE X (.Call (.Attribute o m apos) (e :: es) [] pos) (lMeth C m sp ta tas) := fun s0 H0 E tk =>
  ⟨fun pins si σ H Q I ⟨σl, s, Q0, E1, hσ, hs, st, hE, h, kk⟩ => by
    refine PySem.W.methodCall_KW (pl := pl) (thn (ha.go tk I hσ hs st hE h) fun u si1 hx => ?_) ht
    obtain ⟨x, H1, I1, rv, lx, s1, st1, hs1, rx, h⟩ := hx
    obtain ⟨a, dx, us, rfl, hh, l⟩ := meth_ok hs1 rx h.1
    obtain rfl : u = Value.ref a := rv
    refine getmeth_ok I1 hh c hm l ?_
    refine PySem.W.callWith_K (first := [.ref a]) (h₀ := X.base) I.ok.mod.kin hm.kp (thn (hes.go tk pos I1 (hσ.mono st1) hs1 (st.trans st1) hE h.2) fun us si2 hx2 => ?_) hst hpl
    obtain ⟨vs, H2, I2, rvs, lvs, s2, st2, hs2, r, h⟩ := hx2
    refine ⟨I2.kIn, ?_⟩
    have st12 := st1.trans st2
    exact run_fnS (E := fun _ => WE (WL X.K s0 H0 E) σ) (us := .ref a :: us) (vs := .ref a :: vs) F hr hb (passAt tk σ) I2 (.cons rfl rvs) (dn_call (hσ.mono st12) hs2 (st.trans st12) hE (.cons (rx.mono st2) r) h fun lv s3 v H3 q st3 => kk lv s3 v H3 q (st12.trans st3))⟩
theorem le_meth0 {pl : Sem Bool} (ha : LE X o ta) (c : Cls X.K C) (hm : Meth X.K C m f) (F : LFn X.prog X.w X.K X.mg X.base k f fd ps sp) (hr : Room k X.A) (hb : Binds X.K fd ps [])
    (ht : eval (.Call (.Attribute o m apos) [] [] pos) X.env = (do
      let ov ← eval o X.env
      standAt apos.atName
      let (f, first) ← holding [ov] (getMethod ov m pl)
      callWith pos f first (backTo pos (starEach [] X.env)) (backToKw pos (keywordEach [] X.env))) := by rfl) : LE X (.Call (.Attribute o m apos) [] [] pos) (lMeth C m sp ta lNil) := fun s0 H0 E tk =>
  ⟨fun pins si σ H Q I ⟨σl, s, Q0, E1, hσ, hs, st, hE, h, kk⟩ => by
    refine PySem.W.methodCall_KW (pl := pl) (thn (ha.go tk I hσ hs st hE h) fun u si1 hx => ?_) ht
    obtain ⟨x, H1, I1, rv, lx, s1, st1, hs1, rx, h⟩ := hx
    obtain ⟨a, dx, us, rfl, hh, l⟩ := meth_ok hs1 rx h.1
    obtain rfl : u = Value.ref a := rv
    refine getmeth_ok I1 hh c hm l ?_
    exact PySem.W.callWith_K0 (first := [.ref a]) I1.kIn hm.kp (run_fnS (E := fun _ => WE (WL X.K s0 H0 E) σ) (us := [.ref a]) (vs := [.ref a]) F hr hb (passAt tk σ) I1 (.cons rfl .nil)
      (dn_call (hσ.mono st1) hs1 (st.trans st1) hE (.cons rx .nil) h.2 fun lv s3 v H3 q st3 => kk lv s3 v H3 q (st1.trans st3)))⟩
/-- C(..): a new instance in the store, then its __init__ -/
def lMake (C : Addr) (sp : LSp) (t : LTA) : LTE := fun σ s Q E => t σ s (fun vs s1 => ∀ x, s1 x = none → sp (.ref x :: vs) (put s1 x (.ins C [])) (fun v s2 => v = .non ∧ Q (.ref x) s2) E) E
/-- .. frozen behind it -/
def lMakeF (C : Addr) (sp : LSp) (t : LTA) : LTE := fun σ s Q E => t σ s (fun vs s1 => ∀ x, s1 x = none → sp (.ref x :: vs) (put s1 x (.ins C [])) (fun v s2 => v = .non ∧ ∃ fs, s2 x = some (.ins C fs) ∧ Q (.ins C fs) (del s2 x)) E) E
theorem run_makeS {pins : List (Addr × Obj)} {σ : St} {H : Hp} {s : Shared} {Q : VK} {us : List Value} {vs : List V} {spr : Sp} {E : XK} (M : Mk X.K C f) (F : FnOk X.prog X.w X.K X.mg X.base (L2.CX X.prog X.w) k f fd ps spr) (hr : Room (k + 1) X.A) (hb : Binds X.K fd ps [])
    (hx : PassesAt (L2.CX X.prog X.w) X σ E) (I : Inv X pins σ H s) (r : Vals vs us) (h : ∀ x dx, H x = none → H dx = none → dx ≠ x → spr (.ref x :: vs) (upd (upd H dx (.own x)) x (.ins C dx [])) (fun v H2 => v = .non ∧ Q (.ref x) H2) E) :
    wpAny (model X.prog X.w) X.A (call (.ref C) us) (EP X pins σ Q) X.xe s := by
  have q0 := h (s.heap.objs.size + 1) s.heap.objs.size (I.hok.fresh (Nat.le_succ _)) (I.hok.fresh (Nat.le_refl _)) (Nat.ne_of_lt (Nat.lt_succ_self _))
  have J := Inv.made (C := C) I
  have r1 : Vals (V.ref (s.heap.objs.size + 1) :: vs) (Value.ref (s.heap.objs.size + 1) :: us) := .cons rfl r
  have hl : (Value.ref (s.heap.objs.size + 1) :: us).length = ps.length := r1.length.symm.trans (F.len _ _ _ _ q0)
  have bb := hb { s with heap := _ } (Value.ref (s.heap.objs.size + 1) :: us) J.kIn (by rw [List.append_nil]; exact hl)
  rw [List.append_nil] at bb
  refine wpAny_call (make_map (f := f) I.kIn M.makes M.init (beq_iff_eq.mp M.fn) (codeAny_mono (F.run _ X.stack _ _ ⟨Value.ref (s.heap.objs.size + 1) :: us, []⟩ _ _ _ E (hr.make C us []) (J.env0.make C us []) bb r1 q0) fun r s' hq => ?_))
  cases r with
  | error e => exact hx pins _ _ e s' J hq
  | ok fl =>
    cases fl with
    | ret u =>
      obtain ⟨v, H', I3, rv, ev, q3⟩ := J.after hq
      subst ev
      exact ⟨rv, ⟨V.ref (s.heap.objs.size + 1), H', I3, rfl, q3⟩⟩
    | next => exact hq.elim
    | brk => exact hq.elim
    | cont => exact hq.elim
theorem made_step {K : PySem.W.Frag} [GG K] {s : LS} {H : Hp} {x dx : Addr} (hs : RelS K s H) (nx : H x = none) (nd : H dx = none) (ne : dx ≠ x) : Step s H (put s x (.ins C [])) (upd (upd H dx (.own x)) x (.ins C dx [])) ∧ RelS K (put s x (.ins C [])) (upd (upd H dx (.own x)) x (.ins C dx [])) := by
  have s1 := hs.new (u := .own x) nd
  have n1 : upd H dx (.own x) x = none := by rw [upd_ne (Ne.symm ne)]; exact nx
  exact ⟨(Step.new hs nd).trans (.put (.inr n1)), s1.put (.inr n1) ⟨dx, [], upd_same, by simp only [RVf]⟩⟩
theorem le_make (M : Mk X.K C f) (F : LFn X.prog X.w X.K X.mg X.base k f fd ps sp) (hr : Room (k + 1) X.A) (hg : Gl X x) (hm : X.mg x = some (.ref C)) (hb : Binds X.K fd ps []) (ha : LA X (e :: es) tas)
    (hdb : (x == ("__debug__" : Str)) = false := by decide) (he : starEach (e :: es) X.env = (false, eval e X.env) :: starEach es X.env := by rfl) (hpl : (backTo pos (starEach es X.env)).any (·.1) = false := by rfl) :
    LE X (.Call (.Name x p) (e :: es) [] pos) (lMake C sp tas) := fun s0 H0 E tk => ⟨fun pins si σ H Q I ⟨σl, s, Q0, E1, hσ, hs, st, hE, h, kk⟩ => by
  refine wpAny_Call_Name_kw (ld_glob I hg hm ?_ hdb)
  refine PySem.W.callWith_K (h₀ := X.base) I.ok.mod.kin M.kp (thn (ha.go tk pos I hσ hs st hE h) fun us si1 hx => ?_) he hpl
  obtain ⟨vs, H1, I1, rvs, lvs, s1, st1, hs1, r, h⟩ := hx
  refine ⟨I1.kIn, run_makeS M F hr hb (passAt tk σ) I1 rvs fun y dx ny nd ne => ?_⟩
  obtain ⟨stm, hsm⟩ := made_step (C := C) hs1 ny nd ne
  have st2 := st1.trans stm
  exact dn_call (hσ.mono st2) hsm (st.trans st2) hE (.cons .ref (r.mono stm)) (h y (hs1.free ny)) fun lv s3 v H3 q st3 hs3 rv => ⟨by rw [q.1] at rv; exact rv.non', kk _ s3 _ H3 q.2 (st2.trans st3) hs3 .ref⟩⟩
theorem le_make0 (M : Mk X.K C f) (F : LFn X.prog X.w X.K X.mg X.base k f fd ps sp) (hr : Room (k + 1) X.A) (hg : Gl X x) (hm : X.mg x = some (.ref C)) (hb : Binds X.K fd ps [])
    (hdb : (x == ("__debug__" : Str)) = false := by decide) : LE X (.Call (.Name x p) [] [] pos) (lMake C sp lNil) := fun s0 H0 E tk => ⟨fun pins si σ H Q I ⟨σl, s, Q0, E1, hσ, hs, st, hE, h, kk⟩ => by
  refine wpAny_Call_Name_kw (ld_glob I hg hm ?_ hdb)
  refine PySem.W.callWith_K0 I.kIn M.kp (run_makeS (us := []) M F hr hb (passAt tk σ) I .nil fun y dx ny nd ne => ?_)
  obtain ⟨stm, hsm⟩ := made_step (C := C) hs ny nd ne
  exact dn_call (hσ.mono stm) hsm (st.trans stm) hE (.cons .ref .nil) (h y (hs.free ny)) fun lv s3 v H3 q st3 hs3 rv => ⟨by rw [q.1] at rv; exact rv.non', kk _ s3 _ H3 q.2 (stm.trans st3) hs3 .ref⟩⟩
/-- a value frozen: what it is to the store s1, it is, by value, to the store s2, that holds less -/
def Frz (x : LV) (s1 : LS) (y : LV) (s2 : LS) : Prop := ∀ (K : PySem.W.Frag) [GG K] H v, RelS K s1 H → RV K s1 H x v → RV K s2 H y v ∧ RelS K s2 H ∧ Step s1 H s2 H
def lFrz (t : LTE) : LTE := fun σ s Q E => t σ s (fun x s1 => ∃ y s2, Frz x s1 y s2 ∧ Q y s2) E
theorem le_frz (h : LE X e te) : LE X e (lFrz te) := fun s0 H0 E tk => (h s0 H0 E tk).imp fun σ H Q ⟨σl, s, Q0, E1, hσ, hs, st, hE, h, k⟩ => ⟨σl, s, _, E1, hσ, hs, st, hE, h, fun lx s1 x H1 ⟨y, s2, fz, h⟩ st1 hs1 rx => by
  obtain ⟨a, b, c⟩ := fz _ _ _ hs1 rx
  exact k _ _ _ _ h (st1.trans c) b a⟩
theorem Frz.refl (x : LV) (s : LS) : Frz x s x s := fun _ _ H _ hs r => ⟨r, hs, .refl s H⟩
/-- less is held -/
def Sub (s2 s1 : LS) : Prop := ∀ a, s2 a = none ∨ s2 a = s1 a
theorem Sub.step {s1 s2 : LS} {H : Hp} (h : Sub s2 s1) : Step s1 H s2 H := fun a o e n => ⟨⟨o, e, .refl o⟩, by
  rcases h a with h | h
  · exact h
  · rw [h]; exact n⟩
theorem Sub.rel {K : PySem.W.Frag} [GG K] {s1 s2 : LS} {H : Hp} (h : Sub s2 s1) (r : RelS K s1 H) : RelS K s2 H := fun a o e => by
  rcases h a with q | q
  · rw [q] at e; cases e
  · rw [q] at e
    exact (r a o e).mono h.step fun _ z => z
theorem Frz.sub {x : LV} {s1 s2 : LS} (h : Sub s2 s1) : Frz x s1 x s2 := fun _ _ H _ hs r => ⟨r.mono h.step, h.rel hs, h.step⟩
theorem Frz.lst {a : Addr} {xs : List LV} {s1 s2 : LS} (e : s1 a = some (.lst xs)) (n : s2 a = none) (h : Sub s2 s1) : Frz (.ref a) s1 (.lst xs) s2 := fun K _ H v hs r => by
  obtain ⟨us, hh, q⟩ := hs.lst e
  refine ⟨?_, h.rel hs, h.step⟩
  simp only [RV]
  exact ⟨a, us, r.ref', n, hh, q.mono h.step⟩
theorem Frz.ins {a C : Addr} {fs : List (Str × LV)} {s1 s2 : LS} (e : s1 a = some (.ins C fs)) (n : s2 a = none) (h : Sub s2 s1) : Frz (.ref a) s1 (.ins C fs) s2 := fun K _ H v hs r => by
  obtain ⟨dx, us, hh, q⟩ := hs.ins e
  refine ⟨?_, h.rel hs, h.step⟩
  simp only [RV]
  exact ⟨a, dx, us, r.ref', n, hh, q.mono h.step⟩
theorem Frz.dT {a : Addr} {kvs : List (List Key × LV)} {s1 s2 : LS} (e : s1 a = some (.dT kvs)) (n : s2 a = none) (h : Sub s2 s1) : Frz (.ref a) s1 (.dT kvs) s2 := fun K _ H v hs r => by
  obtain ⟨us, hh, q⟩ := hs a _ e
  refine ⟨?_, h.rel hs, h.step⟩
  simp only [RV]
  exact ⟨a, us, _, r.ref', n, hh, .inl rfl, q.mono h.step⟩
end
end L3

namespace L3
open PySem PySem.Spec L2
/-- some value: then k of it -/
def opt {α : Type} (o : Option α) (k : α → Prop) : Prop := match o with
  | some v => k v
  | none => False
theorem opt_ok {α : Type} {o : Option α} {k : α → Prop} (h : opt o k) : ∃ v, o = some v ∧ k v := by
  cases o with
  | none => exact h.elim
  | some v => exact ⟨v, rfl, h⟩
section
variable {X : Cx} [GG X.K] {K : PySem.W.Frag} [GG K] {s : LS} {H : Hp}
def rl2 (C : Int → Int → Prop) (g : Int → Int → LV) : LR2 := fun x y s Q => match x, y with
  | .int i, .int j => C i j ∧ Q (g i j) s
  | _, _ => False
def rl2' (g : Int → Int → LV) : LR2 := fun x y s Q => match x, y with
  | .int i, .int j => Q (g i j) s
  | _, _ => False
theorem up2_I {C : Int → Int → Prop} {g : Int → Int → V} {gl : Int → Int → LV} (hg : ∀ s H i j, RV K s H (gl i j) (g i j)) : Up2 K (rI C g) (rl2 C gl) := fun x y s H lx ly Q0 Q hs rx ry h k => by
  cases lx <;> try exact False.elim h
  cases ly <;> try exact False.elim h
  exact ⟨_, _, rx.int', ry.int', h.1, k _ _ _ _ h.2 (.refl _ _) hs (hg _ _ _ _)⟩
theorem up2_I0 {g : Int → Int → V} {gl : Int → Int → LV} (hg : ∀ s H i j, RV K s H (gl i j) (g i j)) : Up2 K (rI0 g) (rl2' gl) := fun x y s H lx ly Q0 Q hs rx ry h k => by
  cases lx <;> try exact False.elim h
  cases ly <;> try exact False.elim h
  exact ⟨_, _, rx.int', ry.int', k _ _ _ _ h (.refl _ _) hs (hg _ _ _ _)⟩
variable {a b e : Expr} {pos : Pos} {ta tb : LTE}
abbrev rSubI : LR2 := rl2' fun i j => .int (i - j)
abbrev rMulI : LR2 := rl2 CMul fun i j => .int (i * j)
abbrev rDivI : LR2 := rl2 CDiv fun i j => .int (i / j)
abbrev rModI : LR2 := rl2 (fun _ j => 0 < j) fun i j => .int (i % j)
abbrev rPowI : LR2 := rl2 CPow fun i j => .int (i ^ j.toNat)
abbrev rShrI : LR2 := rl2 (fun _ j => 0 ≤ j) fun i j => .int (i / 2 ^ j.toNat)
abbrev rAndI : LR2 := rl2' fun i j => .int (Builtin.bitAnd i j)
abbrev rXorI : LR2 := rl2' fun i j => .int (Builtin.bitXor i j)
theorem le_sub (ha : LE X a ta) (hb : LE X b tb) : LE X (.BinOp a .Sub b pos) (lOp rSubI ta tb) := le_op op_sub (up2_I0 fun _ _ _ _ => .int) ha hb
theorem le_mul (ha : LE X a ta) (hb : LE X b tb) : LE X (.BinOp a .Mult b pos) (lOp rMulI ta tb) := le_op op_mul (up2_I fun _ _ _ _ => .int) ha hb
theorem le_div (ha : LE X a ta) (hb : LE X b tb) : LE X (.BinOp a .FloorDiv b pos) (lOp rDivI ta tb) := le_op op_fdiv (up2_I fun _ _ _ _ => .int) ha hb
theorem le_mod (ha : LE X a ta) (hb : LE X b tb) : LE X (.BinOp a .Mod b pos) (lOp rModI ta tb) := le_op op_mod (up2_I fun _ _ _ _ => .int) ha hb
theorem le_pow (ha : LE X a ta) (hb : LE X b tb) : LE X (.BinOp a .Pow b pos) (lOp rPowI ta tb) := le_op op_pow (up2_I fun _ _ _ _ => .int) ha hb
theorem le_shr (ha : LE X a ta) (hb : LE X b tb) : LE X (.BinOp a .RShift b pos) (lOp rShrI ta tb) := le_op op_shr (up2_I fun _ _ _ _ => .int) ha hb
theorem le_band (ha : LE X a ta) (hb : LE X b tb) : LE X (.BinOp a .BitAnd b pos) (lOp rAndI ta tb) := le_op op_and (up2_I0 fun _ _ _ _ => .int) ha hb
theorem le_bxor (ha : LE X a ta) (hb : LE X b tb) : LE X (.BinOp a .BitXor b pos) (lOp rXorI ta tb) := le_op op_xor (up2_I0 fun _ _ _ _ => .int) ha hb
def rNegI : LR1 := fun x s Q => match x with
  | .int i => Q (.int (-i)) s
  | _ => False
theorem le_neg (ha : LE X a ta) : LE X (.UnaryOp .USub a pos) (lUn rNegI ta) := le_un un_neg (fun x s H lx Q0 Q hs rx h k => by
  cases lx <;> try exact False.elim h
  exact ⟨_, rx.int', k _ _ _ _ h (.refl _ _) hs .int⟩) ha
def rAddL : LR2 := fun x y s Q => match x, y with
  | .int i, .int j => Q (.int (i + j)) s
  | .str i, .str j => i.length + j.length ≤ 16777216 ∧ Q (.str (i ++ j)) s
  | _, _ => False
theorem OpR.or2 {f : Value → Value → Sem Value} {r r' : R2} (h : OpR X f r) (h' : OpR X f r') : OpR X f (fun x y H Q => r x y H Q ∨ r' x y H Q) := h.or h'
theorem le_add (ha : LE X a ta) (hb : LE X b tb) : LE X (.BinOp a .Add b pos) (lOp rAddL ta tb) := le_op (op_add.or op_add_str) (fun x y s H lx ly Q0 Q hs rx ry h k => by
  cases lx <;> try exact False.elim h
  · cases ly <;> try exact False.elim h
    exact .inl ⟨_, _, rx.int', ry.int', k _ _ _ _ h (.refl _ _) hs .int⟩
  · cases ly <;> try exact False.elim h
    exact .inr ⟨_, _, rx.str', ry.str', by rw [sizeLine_eq]; exact h.1, k _ _ _ _ h.2 (.refl _ _) hs .str⟩) ha hb
/-- the list that a value is, frozen or in the store -/
def seqL (x : LV) (s : LS) : Option (List LV) := match x with
  | .lst xs => some xs
  | .ref a => (match s a with
    | some (.lst xs) => some xs
    | _ => none)
  | _ => none
theorem seqL_ok {x : LV} {xs : List LV} {v : V} (r : RelS K s H) (rx : RV K s H x v) (h : seqL x s = some xs) : ∃ a us, v = .ref a ∧ H a = some (.lst us) ∧ RVs K s H xs us := by
  cases x with
  | lst ys =>
    cases h
    simp only [RV] at rx
    obtain ⟨a, us, rfl, _, hh, q⟩ := rx
    exact ⟨a, us, rfl, hh, q⟩
  | ref a =>
    simp only [seqL] at h
    split at h
    · next ys e =>
      cases h
      obtain ⟨us, hh, q⟩ := r.lst e
      exact ⟨a, us, rx.ref', hh, q⟩
    · cases h
  | _ => cases h
/-- a new list of two values: r tells its items -/
def UpL2 (K : PySem.W.Frag) [GG K] (r : R2) (rl : LV → LV → LS → (List LV → LS → Prop) → Prop) : Prop := ∀ x y s H lx ly Q0 Q, RelS K s H → RV K s H lx x → RV K s H ly y → rl lx ly s Q0 →
  (∀ xs s' us H', Q0 xs s' → Step s H s' H' → RelS K s' H' → RVs K s' H' xs us → ∀ p, H' p = none → Q (.ref p) (upd H' p (.lst us))) → r x y H Q
def lOpL (r : LV → LV → LS → (List LV → LS → Prop) → Prop) (ta tb : LTE) : LTL := fun σ s Q E => ta σ s (fun x s1 => tb σ s1 (fun y s2 => r x y s2 Q) E) E
theorem ll_op {op : Operator} {r : R2} {rl : LV → LV → LS → (List LV → LS → Prop) → Prop} (ho : OpR X (binaryOp op) r) (u : UpL2 X.K r rl) (ha : LE X a ta) (hb : LE X b tb) : LL X (.BinOp a op b pos) (lOpL rl ta tb) := fun s0 H0 E tk =>
  (pe_op ho (ha s0 H0 E tk) (hb s0 H0 E tk)).imp fun σ H Q ⟨σl, s, Q0, E1, hσ, hs, st, hE, h, k⟩ => ⟨σl, s, _, E1, hσ, hs, st, hE, h, fun lx s1 x H1 h st1 hs1 rx =>
    ⟨σl, s1, _, E1, hσ.mono st1, hs1, st.trans st1, hE, h, fun ly s2 y H2 h st2 hs2 ry => u x y s2 H2 lx ly Q0 Q hs2 (rx.mono st2) ry h fun xs s3 us H3 q st3 => k xs s3 us H3 q ((st1.trans st2).trans st3)⟩⟩
def rCatL : LV → LV → LS → (List LV → LS → Prop) → Prop := fun x y s Q => opt (seqL x s) fun xs => opt (seqL y s) fun ys => xs.length + ys.length ≤ 16777216 ∧ Q (xs ++ ys) s
theorem ll_cat (ha : LE X a ta) (hb : LE X b tb) : LL X (.BinOp a .Add b pos) (lOpL rCatL ta tb) := ll_op op_cat (fun x y s H lx ly Q0 Q hs rx ry h k => by
  obtain ⟨xs, e1, h⟩ := opt_ok h
  obtain ⟨ys, e2, hl, h⟩ := opt_ok h
  obtain ⟨p, us, rfl, h1, r1⟩ := seqL_ok hs rx e1
  obtain ⟨q, ws, rfl, h2, r2⟩ := seqL_ok hs ry e2
  exact ⟨p, q, us, ws, rfl, rfl, h1, h2, by rw [r1.length, r2.length, sizeLine_eq]; exact hl, fun l hn => k _ _ _ _ h (.refl _ _) hs (r1.append r2) l hn⟩) ha hb
def rRepL : LV → LV → LS → (List LV → LS → Prop) → Prop := fun x y s Q => opt (seqL x s) fun xs => match y with
  | .int k => -(2 ^ 63) ≤ k ∧ k < 2 ^ 63 ∧ xs.length * k.toNat ≤ 16777216 ∧ Q (List.replicate k.toNat xs).flatten s
  | _ => False
theorem RVs.rep {xs : List LV} {us : List V} (h : RVs K s H xs us) : ∀ k : Nat, RVs K s H (List.replicate k xs).flatten (List.replicate k us).flatten
  | 0 => .nil
  | k + 1 => by
    rw [List.replicate_succ, List.replicate_succ, List.flatten_cons, List.flatten_cons]
    exact h.append (RVs.rep h k)
theorem ll_rep (ha : LE X a ta) (hb : LE X b tb) : LL X (.BinOp a .Mult b pos) (lOpL rRepL ta tb) := ll_op op_rep (fun x y s H lx ly Q0 Q hs rx ry h k => by
  obtain ⟨xs, e1, h⟩ := opt_ok h
  obtain ⟨p, us, rfl, h1, r1⟩ := seqL_ok hs rx e1
  cases ly with
  | int n => exact ⟨p, n, us, rfl, ry.int', h1, h.1, h.2.1, by rw [r1.length, sizeLine_eq]; exact h.2.2.1, fun l hn => k _ _ _ _ h.2.2.2 (.refl _ _) hs (r1.rep _) l hn⟩
  | _ => exact False.elim h) ha hb
abbrev rLtI : LR2 := rl2' fun i j => .bl (decide (i < j))
abbrev rLeI : LR2 := rl2' fun i j => .bl (decide (i ≤ j))
abbrev rGtI : LR2 := rl2' fun i j => .bl (decide (j < i))
abbrev rGeI : LR2 := rl2' fun i j => .bl (decide (j ≤ i))
theorem le_lt (ha : LE X a ta) (hb : LE X b tb) : LE X (.Compare a [.Lt] [b] pos) (lOp rLtI ta tb) := le_cmp op_lt (up2_I0 fun _ _ _ _ => .bl) ha hb (nomark _)
theorem le_le (ha : LE X a ta) (hb : LE X b tb) : LE X (.Compare a [.LtE] [b] pos) (lOp rLeI ta tb) := le_cmp op_le (up2_I0 fun _ _ _ _ => .bl) ha hb (nomark _)
theorem le_gt (ha : LE X a ta) (hb : LE X b tb) : LE X (.Compare a [.Gt] [b] pos) (lOp rGtI ta tb) := le_cmp op_gt (up2_I0 fun _ _ _ _ => .bl) ha hb (nomark _)
theorem le_ge (ha : LE X a ta) (hb : LE X b tb) : LE X (.Compare a [.GtE] [b] pos) (lOp rGeI ta tb) := le_cmp op_ge (up2_I0 fun _ _ _ _ => .bl) ha hb (nomark _)
theorem lt_lt (ha : LE X a ta) (hb : LE X b tb) : LT X (.Compare a [.Lt] [b] pos) (lB (lOp rLtI ta tb)) := lt_cmp op_lt (up2_I0 fun _ _ _ _ => .bl) ha hb (nomark _)
theorem lt_le (ha : LE X a ta) (hb : LE X b tb) : LT X (.Compare a [.LtE] [b] pos) (lB (lOp rLeI ta tb)) := lt_cmp op_le (up2_I0 fun _ _ _ _ => .bl) ha hb (nomark _)
theorem lt_gt (ha : LE X a ta) (hb : LE X b tb) : LT X (.Compare a [.Gt] [b] pos) (lB (lOp rGtI ta tb)) := lt_cmp op_gt (up2_I0 fun _ _ _ _ => .bl) ha hb (nomark _)
theorem lt_ge (ha : LE X a ta) (hb : LE X b tb) : LT X (.Compare a [.GtE] [b] pos) (lB (lOp rGeI ta tb)) := lt_cmp op_ge (up2_I0 fun _ _ _ _ => .bl) ha hb (nomark _)
mutual
/-- the value is the data d, read through the store -/
def Isd (s : LS) : PyData → LV → Prop
  | .none, x => x = .non
  | .bool b, x => x = .bl b
  | .int i, x => x = .int i
  | .str z, x => x = .str z
  | .list ds, x => (∃ xs, x = .lst xs ∧ Isds s ds xs) ∨ ∃ a xs, x = .ref a ∧ s a = some (.lst xs) ∧ Isds s ds xs
  | .tuple ds, x => ∃ xs, x = .tup xs ∧ Isds s ds xs
  | .dict _, _ => False
def Isds (s : LS) : List PyData → List LV → Prop
  | [], xs => xs = []
  | d :: ds, xs => ∃ y r, xs = y :: r ∧ Isd s d y ∧ Isds s ds r
end
mutual
theorem Isd.dp (hs : RelS K s H) : ∀ {d : PyData} {x : LV} {v : V}, Isd s d x → RV K s H x v → Dp K H v d
  | .none, _, _, h, r => by simp only [Isd] at h; subst h; rw [r.non']; exact .non
  | .bool b, _, _, h, r => by simp only [Isd] at h; subst h; rw [r.bl']; exact .bl b
  | .int b, _, _, h, r => by simp only [Isd] at h; subst h; rw [r.int']; exact .int b
  | .str b, _, _, h, r => by simp only [Isd] at h; subst h; rw [r.str']; exact .str b
  | .list ds, _, _, h, r => by
    simp only [Isd] at h
    rcases h with ⟨xs, rfl, h⟩ | ⟨a, xs, rfl, e, h⟩
    · simp only [RV] at r
      obtain ⟨a, us, rfl, _, hh, q⟩ := r
      exact .lst (SqL.of hh) (Isds.dp hs h q)
    · obtain ⟨us, hh, q⟩ := hs.lst e
      rw [r.ref']
      exact .lst (SqL.of hh) (Isds.dp hs h q)
  | .tuple ds, _, _, h, r => by
    simp only [Isd] at h
    obtain ⟨xs, rfl, h⟩ := h
    simp only [RV] at r
    obtain ⟨a, us, rfl, _, hh, q⟩ := r
    exact .tup (SqT.of hh) (Isds.dp hs h q)
  | .dict _, _, _, h, _ => by simp only [Isd] at h
theorem Isds.dp (hs : RelS K s H) : ∀ {ds : List PyData} {xs : List LV} {us : List V}, Isds s ds xs → RVs K s H xs us → DpAll K H us ds
  | [], _, _, h, r => by
    simp only [Isds] at h
    subst h
    simp only [RVs] at r
    subst r
    exact .nil
  | d :: ds, _, _, h, r => by
    simp only [Isds] at h
    obtain ⟨y, q, rfl, h1, h2⟩ := h
    simp only [RVs] at r
    obtain ⟨u, w, rfl, r1, r2⟩ := r
    exact .cons (Isd.dp hs h1 r1) (Isds.dp hs h2 r2)
end
def rEqL : LR2 := fun x y s Q => ∃ d e, Isd s d x ∧ Isd s e y ∧ SeqAt.shaped d = true ∧ SeqAt.shaped e = true ∧ Q (.bl (PyData.eqv d e)) s
def rNeL : LR2 := fun x y s Q => ∃ d e, Isd s d x ∧ Isd s e y ∧ SeqAt.shaped d = true ∧ SeqAt.shaped e = true ∧ Q (.bl (!PyData.eqv d e)) s
theorem up_eqL : Up2 K (rEqD K) rEqL := fun x y s H lx ly Q0 Q hs rx ry ⟨d, e, h1, h2, s1, s2, q⟩ k => ⟨d, e, h1.dp hs rx, h2.dp hs ry, s1, s2, k _ _ _ _ q (.refl _ _) hs .bl⟩
theorem up_neL : Up2 K (rNeD K) rNeL := fun x y s H lx ly Q0 Q hs rx ry ⟨d, e, h1, h2, s1, s2, q⟩ k => ⟨d, e, h1.dp hs rx, h2.dp hs ry, s1, s2, k _ _ _ _ q (.refl _ _) hs .bl⟩
theorem le_eqD (hu : X.A.units + 64 < cLine) (ha : LE X a ta) (hb : LE X b tb) : LE X (.Compare a [.Eq] [b] pos) (lOp rEqL ta tb) := le_cmp (op_eqD hu) up_eqL ha hb (nomark _)
theorem le_neD (hu : X.A.units + 64 < cLine) (ha : LE X a ta) (hb : LE X b tb) : LE X (.Compare a [.NotEq] [b] pos) (lOp rNeL ta tb) := le_cmp (op_neD hu) up_neL ha hb (nomark _)
theorem lt_eqD (hu : X.A.units + 64 < cLine) (ha : LE X a ta) (hb : LE X b tb) : LT X (.Compare a [.Eq] [b] pos) (lB (lOp rEqL ta tb)) := lt_cmp (op_eqD hu) up_eqL ha hb (nomark _)
theorem lt_neD (hu : X.A.units + 64 < cLine) (ha : LE X a ta) (hb : LE X b tb) : LT X (.Compare a [.NotEq] [b] pos) (lB (lOp rNeL ta tb)) := lt_cmp (op_neD hu) up_neL ha hb (nomark _)
/-- == of two ints, bools or texts, both of one kind -/
def rEqS : LR2 := fun x y s Q => match x, y with
  | .int i, .int j => Q (.bl (decide (i = j))) s
  | .bl i, .bl j => Q (.bl (decide (i = j))) s
  | .str i, .str j => Q (.bl (decide (i = j))) s
  | _, _ => False
def rNeS : LR2 := fun x y s Q => match x, y with
  | .int i, .int j => Q (.bl (!decide (i = j))) s
  | .bl i, .bl j => Q (.bl (!decide (i = j))) s
  | .str i, .str j => Q (.bl (!decide (i = j))) s
  | _, _ => False
theorem dci {i j : Int} : decide (V.int i = V.int j) = decide (i = j) := by by_cases h : i = j <;> simp [h]
theorem dcb {i j : Bool} : decide (V.bl i = V.bl j) = decide (i = j) := by by_cases h : i = j <;> simp [h]
theorem dcs {i j : Str} : decide (V.str i = V.str j) = decide (i = j) := by by_cases h : i = j <;> simp [h]
theorem up_eqS : Up2 K rEq rEqS := fun x y s H lx ly Q0 Q hs rx ry h k => by
  cases lx <;> cases ly <;> first
    | exact False.elim h
    | (rw [rx.int', ry.int']; exact ⟨rfl, by rw [dci]; exact k _ _ _ _ h (.refl _ _) hs .bl⟩)
    | (rw [rx.bl', ry.bl']; exact ⟨rfl, by rw [dcb]; exact k _ _ _ _ h (.refl _ _) hs .bl⟩)
    | (rw [rx.str', ry.str']; exact ⟨rfl, by rw [dcs]; exact k _ _ _ _ h (.refl _ _) hs .bl⟩)
theorem up_neS : Up2 K rNe rNeS := fun x y s H lx ly Q0 Q hs rx ry h k => by
  cases lx <;> cases ly <;> first
    | exact False.elim h
    | (rw [rx.int', ry.int']; exact ⟨rfl, by rw [dci]; exact k _ _ _ _ h (.refl _ _) hs .bl⟩)
    | (rw [rx.bl', ry.bl']; exact ⟨rfl, by rw [dcb]; exact k _ _ _ _ h (.refl _ _) hs .bl⟩)
    | (rw [rx.str', ry.str']; exact ⟨rfl, by rw [dcs]; exact k _ _ _ _ h (.refl _ _) hs .bl⟩)
theorem le_eq (ha : LE X a ta) (hb : LE X b tb) : LE X (.Compare a [.Eq] [b] pos) (lOp rEqS ta tb) := le_cmp op_eq up_eqS ha hb (nomark _)
theorem le_ne (ha : LE X a ta) (hb : LE X b tb) : LE X (.Compare a [.NotEq] [b] pos) (lOp rNeS ta tb) := le_cmp op_ne up_neS ha hb (nomark _)
theorem lt_eq (ha : LE X a ta) (hb : LE X b tb) : LT X (.Compare a [.Eq] [b] pos) (lB (lOp rEqS ta tb)) := lt_cmp op_eq up_eqS ha hb (nomark _)
theorem lt_ne (ha : LE X a ta) (hb : LE X b tb) : LT X (.Compare a [.NotEq] [b] pos) (lB (lOp rNeS ta tb)) := lt_cmp op_ne up_neS ha hb (nomark _)
/-- is None -/
def rIsNonL : LR2 := fun x y s Q => match y, x with
  | .non, .non => Q (.bl true) s
  | .non, .bl _ => Q (.bl false) s
  | .non, .int _ => Q (.bl false) s
  | .non, .str _ => Q (.bl false) s
  | .non, .ref _ => Q (.bl false) s
  | .non, .tup _ => Q (.bl false) s
  | .non, .lst _ => Q (.bl false) s
  | .non, .dT _ => Q (.bl false) s
  | .non, .ins _ _ => Q (.bl false) s
  | _, _ => False
def rNotNonL : LR2 := fun x y s Q => rIsNonL x y s fun v s' => match v with
  | .bl c => Q (.bl (!c)) s'
  | _ => False
theorem isNon_ok {x y : LV} {v w : V} {Q : LVK} (rx : RV K s H x v) (ry : RV K s H y w) (h : rIsNonL x y s Q) : w = .non ∧ Q (.bl (decide (v = .non))) s := by
  cases y <;> try exact False.elim h
  refine ⟨ry.non', ?_⟩
  cases x with
  | non => rw [rx.non']; exact h
  | bl b => rw [rx.bl']; exact h
  | int b => rw [rx.int']; exact h
  | str b => rw [rx.str']; exact h
  | ref b => rw [rx.ref']; exact h
  | tup xs => simp only [RV] at rx; obtain ⟨a, us, rfl, _⟩ := rx; exact h
  | lst xs => simp only [RV] at rx; obtain ⟨a, us, rfl, _⟩ := rx; exact h
  | dT xs => simp only [RV] at rx; obtain ⟨a, us, o, rfl, _⟩ := rx; exact h
  | ins C xs => simp only [RV] at rx; obtain ⟨a, dx, us, rfl, _⟩ := rx; exact h
  | _ => exact False.elim h
theorem up_isN : Up2 K (fun x y H Q => y = .non ∧ Q (.bl (decide (x = .non))) H) rIsNonL := fun x y s H lx ly Q0 Q hs rx ry h k => by
  obtain ⟨e, q⟩ := isNon_ok rx ry h
  exact ⟨e, k _ _ _ _ q (.refl _ _) hs .bl⟩
theorem up_notN : Up2 K (fun x y H Q => y = .non ∧ Q (.bl (!decide (x = .non))) H) rNotNonL := fun x y s H lx ly Q0 Q hs rx ry h k => by
  obtain ⟨e, q⟩ := isNon_ok rx ry h
  exact ⟨e, k _ _ _ _ q (.refl _ _) hs .bl⟩
theorem le_isN (ha : LE X a ta) (hb : LE X b tb) : LE X (.Compare a [.Is] [b] pos) (lOp rIsNonL ta tb) := le_cmp op_isN up_isN ha hb (nomark _)
theorem le_notN (ha : LE X a ta) (hb : LE X b tb) : LE X (.Compare a [.IsNot] [b] pos) (lOp rNotNonL ta tb) := le_cmp op_notN up_notN ha hb (nomark _)
theorem lt_isN (ha : LE X a ta) (hb : LE X b tb) : LT X (.Compare a [.Is] [b] pos) (lB (lOp rIsNonL ta tb)) := lt_cmp op_isN up_isN ha hb (nomark _)
theorem lt_notN (ha : LE X a ta) (hb : LE X b tb) : LT X (.Compare a [.IsNot] [b] pos) (lB (lOp rNotNonL ta tb)) := lt_cmp op_notN up_notN ha hb (nomark _)
/-- x in a list of ints, by places -/
def rInL (neg : Bool) : LR2 := fun x y s Q => opt (seqL y s) fun xs => ∃ d ds, Isd s d x ∧ Isds s ds xs ∧ SeqAt.shaped d = true ∧ SeqAt.shaped (.list ds) = true ∧ Q (.bl (neg.xor (ds.any fun z => PyData.eqv z d))) s
theorem up_inL : Up2 K (rInD K) (rInL false) := fun x y s H lx ly Q0 Q hs rx ry h k => by
  obtain ⟨xs, e, d, ds, h1, h2, s1, s2, q⟩ := opt_ok h
  obtain ⟨p, us, rfl, hh, r⟩ := seqL_ok hs ry e
  rw [Bool.false_xor] at q
  exact ⟨d, ds, h1.dp hs rx, .lst (SqL.of hh) (h2.dp hs r), s1, s2, k _ _ _ _ q (.refl _ _) hs .bl⟩
theorem up_ninL : Up2 K (rNotInD K) (rInL true) := fun x y s H lx ly Q0 Q hs rx ry h k => by
  obtain ⟨xs, e, d, ds, h1, h2, s1, s2, q⟩ := opt_ok h
  obtain ⟨p, us, rfl, hh, r⟩ := seqL_ok hs ry e
  rw [Bool.true_xor] at q
  exact ⟨d, ds, h1.dp hs rx, .lst (SqL.of hh) (h2.dp hs r), s1, s2, k _ _ _ _ q (.refl _ _) hs .bl⟩
theorem le_inL (hu : X.A.units + 65 < cLine) (ha : LE X a ta) (hb : LE X b tb) (hm : behindInMarks .In b = false) : LE X (.Compare a [.In] [b] pos) (lOp (rInL false) ta tb) := le_cmp (op_inD hu) up_inL ha hb hm
theorem le_ninL (hu : X.A.units + 65 < cLine) (ha : LE X a ta) (hb : LE X b tb) (hm : behindInMarks .NotIn b = false) : LE X (.Compare a [.NotIn] [b] pos) (lOp (rInL true) ta tb) := le_cmp (op_notInD hu) up_ninL ha hb hm
theorem lt_inL (hu : X.A.units + 65 < cLine) (ha : LE X a ta) (hb : LE X b tb) (hm : behindInMarks .In b = false) : LT X (.Compare a [.In] [b] pos) (lB (lOp (rInL false) ta tb)) := lt_cmp (op_inD hu) up_inL ha hb hm
theorem lt_ninL (hu : X.A.units + 65 < cLine) (ha : LE X a ta) (hb : LE X b tb) (hm : behindInMarks .NotIn b = false) : LT X (.Compare a [.NotIn] [b] pos) (lB (lOp (rInL true) ta tb)) := lt_cmp (op_notInD hu) up_ninL ha hb hm
/-- x in a dict whose keys are tuples -/
def keyL : LV → Option Key
  | .int i => some (.inl i)
  | .str z => some (.inr z)
  | _ => none
def keysL : List LV → Option (List Key)
  | [] => some []
  | x :: xs => (keyL x).bind fun k => (keysL xs).map (k :: ·)
theorem keysL_ok : ∀ {xs : List LV} {ks : List Key} {us : List V}, keysL xs = some ks → RVs K s H xs us → us = ks.map kV
  | [], _, _, e, r => by
    simp only [RVs] at r
    subst r
    cases e
    rfl
  | x :: xs, _, _, e, r => by
    simp only [RVs] at r
    obtain ⟨u, w, rfl, r1, r2⟩ := r
    unfold keysL at e
    obtain ⟨k, ek, e⟩ := Option.bind_eq_some_iff.mp e
    obtain ⟨ks, eks, rfl⟩ := Option.map_eq_some_iff.mp e
    rw [keysL_ok eks r2]
    cases x with
    | int i => cases ek; rw [r1.int']; rfl
    | str z => cases ek; rw [r1.str']; rfl
    | _ => cases ek
/-- the dict with tuple keys that a value is -/
def dicT (x : LV) (s : LS) : Option (List (List Key × LV)) := match x with
  | .dT kvs => some kvs
  | .ref a => (match s a with
    | some (.dT kvs) => some kvs
    | _ => none)
  | _ => none
theorem dicT_ok {x : LV} {kvs : List (List Key × LV)} {v : V} (r : RelS K s H) (rx : RV K s H x v) (h : dicT x s = some kvs) : ∃ a us o, v = .ref a ∧ H a = some o ∧ isD us o ∧ RVk K s H kvs us := by
  cases x with
  | dT ys =>
    cases h
    simp only [RV] at rx
    obtain ⟨a, us, o, rfl, _, hh, d, q⟩ := rx
    exact ⟨a, us, o, rfl, hh, d, q⟩
  | ref a =>
    simp only [dicT] at h
    split at h
    · next ys e =>
      cases h
      obtain ⟨us, hh, q⟩ := r a _ e
      exact ⟨a, us, _, rx.ref', hh, .inl rfl, q⟩
    · cases h
  | _ => cases h
theorem isD.rd {a : Addr} {us : List (List Key × V)} {o : HO} (h : H a = some o) (d : isD us o) : Rd H a (.dT us) := by
  rcases d with rfl | ⟨ob, rfl⟩
  · exact .inl h
  · exact .inr ⟨ob, h⟩
theorem RVk.val : ∀ {kvs : List (List Key × LV)} {us : List (List Key × V)} (k : List Key), RVk K s H kvs us → match valL kvs k with
    | some x => ∃ v, valV us k = some v ∧ RV K s H x v
    | none => valV us k = none
  | [], _, k, h => by simp only [RVk] at h; subst h; rfl
  | (j, x) :: kvs, _, k, h => by
    simp only [RVk] at h
    obtain ⟨u, r, rfl, h1, h2⟩ := h
    by_cases e : j = k
    · simp only [valL, if_pos e]
      exact ⟨u, valV_pos e, h1⟩
    · simp only [valL, if_neg e]
      rw [valV_neg (p := (j, u)) e]
      exact RVk.val k h2
/-- the dict with plain keys that stands in the store -/
def dicK (x : LV) (s : LS) : Option (List (Key × LV)) := match x with
  | .ref a => (match s a with
    | some (.dK kvs) => some kvs
    | _ => none)
  | _ => none
theorem dicK_ok {x : LV} {kvs : List (Key × LV)} {v : V} (r : RelS K s H) (rx : RV K s H x v) (h : dicK x s = some kvs) : ∃ a us, x = .ref a ∧ v = .ref a ∧ H a = some (.dK us) ∧ RVd K s H kvs us := by
  cases x with
  | ref a =>
    simp only [dicK] at h
    split at h
    · next ys e =>
      cases h
      obtain ⟨us, hh, q⟩ := r a _ e
      exact ⟨a, us, rfl, rx.ref', hh, q⟩
    · cases h
  | _ => cases h
theorem RVd.val : ∀ {kvs : List (Key × LV)} {us : List (Key × V)} (k : Key), RVd K s H kvs us → match valL kvs k with
    | some x => ∃ v, valV us k = some v ∧ RV K s H x v
    | none => valV us k = none
  | [], _, k, h => by cases h; rfl
  | (j, x) :: kvs, _, k, h => by
    obtain ⟨u, r, rfl, h1, h2⟩ := h
    by_cases e : j = k
    · simp only [valL, if_pos e]
      exact ⟨u, valV_pos e, h1⟩
    · simp only [valL, if_neg e]
      rw [valV_neg (p := (j, u)) e]
      exact RVd.val k h2
end
end L3

namespace L3
open PySem PySem.Spec L2
section
variable {X : Cx} [GG X.K] {K : PySem.W.Frag} [GG K] {s : LS} {H : Hp} {a b e o : Expr} {es : List Expr} {pos : Pos} {ta tb te : LTE} {tas : LTA}
def rIxD : R2 := fun x y H Q => ∃ a v, x = .ref a ∧ DGet H a y (some v) ∧ Q v H
theorem ix_dict (hu : X.A.units + 1 < cLine) : IxR X rIxD := by
  intro value slice pins s σ H x y v u Q I rx ry h hs
  obtain ⟨a, w, rfl, g, q⟩ := h
  cases rx
  exact PyProof.Rows.tail_any (dict_typeIs I g) PySem.F.slot_dict_getitem.lookup (d_getItem hu I g ry fun w' s' I' rw' => ⟨w, H, I', rw', q⟩) hs
def seqT : LV → Option (List LV)
  | .tup xs => some xs
  | _ => none
def rIxL : LR2 := fun x y s Q => match y with
  | .int i => (match x with
    | .lst xs => opt (atI xs i) fun v => Q v s
    | .tup xs => opt (atI xs i) fun v => Q v s
    | .scr ns => opt (atI ns i) fun n => Q (.int n) s
    | .str z => z.length ≤ 16777216 ∧ opt (atI z.cps.toList i) fun c => Q (.str ⟨#[c]⟩) s
    | .ref a => (match s a with
      | some (.lst xs) => opt (atI xs i) fun v => Q v s
      | some (.dK kvs) => opt (valL kvs (.inl i)) fun v => Q v s
      | _ => False)
    | _ => False)
  | .str z => opt (dicK x s) fun kvs => opt (valL kvs (.inr z)) fun v => Q v s
  | .tup ks => opt (dicT x s) fun kvs => opt (keysL ks) fun k => opt (valL kvs k) fun v => Q v s
  | _ => False
theorem RVs.atI {xs : List LV} {us : List V} {i : Int} {x : LV} (r : RVs K s H xs us) (h : L2.atI xs i = some x) : ∃ u, L2.atI us i = some u ∧ RV K s H x u := by
  unfold L2.atI at h ⊢
  rw [r.length]
  obtain ⟨j, e1, e2⟩ := Option.bind_eq_some_iff.mp h
  obtain ⟨u, e3, e4⟩ := r.get e2
  exact ⟨u, by rw [e1]; exact e3, e4⟩
theorem atI_map {α β : Type} (f : α → β) (xs : List α) (i : Int) : L2.atI (xs.map f) i = (L2.atI xs i).map f := by
  unfold L2.atI
  rw [List.length_map]
  cases ixN xs.length i with
  | none => rfl
  | some j => simp
theorem up_ix : Up2 K (fun x y H Q => rIx K x y H Q ∨ rIxD x y H Q) rIxL := fun x y s H lx ly Q0 Q hs rx ry h k => by
  cases ly with
  | int i =>
    cases lx with
    | lst xs =>
      obtain ⟨w, e, h⟩ := opt_ok h
      simp only [RV] at rx
      obtain ⟨p, us, rfl, _, hh, r⟩ := rx
      obtain ⟨u, e2, ru⟩ := r.atI e
      exact .inl (.inl ⟨p, us, i, u, rfl, ry.int', SqL.of hh, e2, k _ _ _ _ h (.refl _ _) hs ru⟩)
    | tup xs =>
      obtain ⟨w, e, h⟩ := opt_ok h
      simp only [RV] at rx
      obtain ⟨p, us, rfl, _, hh, r⟩ := rx
      obtain ⟨u, e2, ru⟩ := r.atI e
      exact .inl (.inr (.inl ⟨p, us, i, u, rfl, ry.int', SqT.of hh, e2, k _ _ _ _ h (.refl _ _) hs ru⟩))
    | scr ns =>
      obtain ⟨w, e, h⟩ := opt_ok h
      simp only [RV] at rx
      obtain ⟨p, rfl, hh⟩ := rx
      refine .inl (.inl ⟨p, ns.map V.int, i, .int w, rfl, ry.int', ?_, by rw [atI_map, e]; rfl, k _ _ _ _ h (.refl _ _) hs .int⟩)
      rcases hh with ⟨_, hh⟩ | hh
      · exact .inl hh
      · exact .inr hh
    | str z =>
      obtain ⟨hl, h⟩ := h
      obtain ⟨w, e, h⟩ := opt_ok h
      exact .inl (.inr (.inr ⟨z, i, w, rx.str', ry.int', by rw [sizeLine_eq]; exact hl, e, k _ _ _ _ h (.refl _ _) hs .str⟩))
    | ref p =>
      simp only [rIxL] at h
      split at h
      · next xs ex =>
        obtain ⟨w, e, h⟩ := opt_ok h
        obtain ⟨us, hh, r⟩ := hs.lst ex
        obtain ⟨u, e2, ru⟩ := r.atI e
        exact .inl (.inl ⟨p, us, i, u, rx.ref', ry.int', SqL.of hh, e2, k _ _ _ _ h (.refl _ _) hs ru⟩)
      · next kvs ex =>
        obtain ⟨w, e, h⟩ := opt_ok h
        obtain ⟨us, hh, r⟩ := hs p _ ex
        have q := r.val (.inl i)
        rw [e] at q
        obtain ⟨u, e2, ru⟩ := q
        refine .inr ⟨p, u, rx.ref', ?_, k _ _ _ _ h (.refl _ _) hs ru⟩
        rw [ry.int', ← e2]
        exact DGet.k (k := .inl i) hh
      · exact h.elim
    | _ => exact False.elim h
  | str z =>
    have h : opt (dicK lx s) (fun kvs => opt (valL kvs (.inr z)) fun v => Q0 v s) := h
    obtain ⟨kvs, ed, h1⟩ := opt_ok h
    obtain ⟨w, e, h2⟩ := opt_ok h1
    obtain ⟨p, us, _, rfl, hh, r⟩ := dicK_ok hs rx ed
    have q := r.val (.inr z)
    rw [e] at q
    obtain ⟨u, e2, ru⟩ := q
    refine .inr ⟨p, u, rfl, ?_, k _ _ _ _ h2 (.refl _ _) hs ru⟩
    rw [ry.str', ← e2]
    exact DGet.k (k := .inr z) hh
  | tup ks =>
    simp only [rIxL] at h
    obtain ⟨kvs, ed, h⟩ := opt_ok h
    obtain ⟨kk, ek, h⟩ := opt_ok h
    obtain ⟨w, e, h⟩ := opt_ok h
    obtain ⟨p, us, ob, rfl, hh, d, r⟩ := dicT_ok hs rx ed
    have q := r.val kk
    rw [e] at q
    obtain ⟨u, e2, ru⟩ := q
    simp only [RV] at ry
    obtain ⟨t, ts, rfl, _, ht, rt⟩ := ry
    rw [keysL_ok ek rt] at ht
    exact .inr ⟨p, u, rfl, .inr ⟨us, kk, t, d.rd hh, rfl, ht, e2.symm⟩, k _ _ _ _ h (.refl _ _) hs ru⟩
  | _ => exact False.elim h
theorem le_item (hu : X.A.units + 1 < cLine) (ha : LE X a ta) (hb : LE X b tb) (hs : PlainIx b := by exact fun _ _ => rfl) : LE X (.Subscript a b pos) (lOp rIxL ta tb) := le_ix (ix_seq.or (ix_dict hu)) up_ix ha hb hs

abbrev LTO := LSt → LS → (Option Int → LS → Prop) → LX → Prop
def upO (K : PySem.W.Frag) [GG K] (s0 : LS) (H0 : Hp) (E : LXS) (t : LTO) : TO := fun σ H Q => ∃ σl s Q0 E1, RSt K s H σl σ ∧ RelS K s H ∧ Step s0 H0 s H ∧ (∀ C s', E1 C s' → E C σl s') ∧ t σl s Q0 E1 ∧
  ∀ i s' H', Q0 i s' → Step s H s' H' → RelS K s' H' → Q i H'
def LO' (X : Cx) [GG X.K] (e : Option Expr) (t : LTO) : Prop := ∀ s0 H0 E, Takes X (WL X.K s0 H0 E) → PO X e (upO X.K s0 H0 E t)
theorem _root_.L2.PO.imp {X : Cx} [GG X.K] {e : Option Expr} {t t' : TO} (h : PO X e t) (i : ∀ σ H Q, t' σ H Q → t σ H Q) : PO X e t' := ⟨fun pins s σ H Q I q => h.run pins s σ H Q I (i _ _ _ q)⟩
def lNoP : LTO := fun _ s Q _ => Q none s
def lPart (t : LTE) : LTO := fun σ s Q E => t σ s (fun x s1 => match x with
  | .int i => Q (some i) s1
  | _ => False) E
theorem lo_none : LO' X none lNoP := fun s0 H0 E tk => po_none.imp fun σ H Q ⟨σl, s, Q0, E1, hσ, hs, st, hE, h, k⟩ => k _ _ _ h (.refl _ _) hs
theorem lo_some (h : LE X e te) : LO' X (some e) (lPart te) := fun s0 H0 E tk => (po_some (h s0 H0 E tk)).imp fun σ H Q ⟨σl, s, Q0, E1, hσ, hs, st, hE, h, k⟩ =>
  ⟨σl, s, _, E1, hσ, hs, st, hE, h, fun lx s1 x H1 h st1 hs1 rx => by
    cases lx with
    | int i => exact ⟨i, rx.int', k _ _ _ h st1 hs1⟩
    | _ => exact False.elim h⟩
def cutL (xs : List LV) (lo hi : Option Int) : List LV := (xs.drop (HT.sIx xs.length 0 lo)).take (HT.sIx xs.length xs.length hi - HT.sIx xs.length 0 lo)
/-- the list that is read: the script too -/
def seqR (x : LV) (s : LS) : Option (List LV) := match x with
  | .scr ns => some (ns.map .int)
  | _ => seqL x s
theorem seqR_ok {x : LV} {xs : List LV} {v : V} (r : RelS K s H) (rx : RV K s H x v) (h : seqR x s = some xs) : ∃ a us, v = .ref a ∧ SqL K H a us ∧ RVs K s H xs us := by
  have old : seqL x s = some xs → ∃ a us, v = .ref a ∧ SqL K H a us ∧ RVs K s H xs us := fun h => by
    obtain ⟨a, us, e, hh, q⟩ := seqL_ok r rx h
    exact ⟨a, us, e, SqL.of hh, q⟩
  cases x with
  | scr ns =>
    cases h
    simp only [RV] at rx
    obtain ⟨a, rfl, hh⟩ := rx
    refine ⟨a, _, rfl, ?_, .ints ns⟩
    rcases hh with ⟨_, hh⟩ | hh
    · exact .inl hh
    · exact .inr hh
  | _ => exact old h
theorem seqR_stay {x : LV} {xs : List LV} {s1 s2 : LS} {H1 H2 : Hp} {v : V} (st : Step s1 H1 s2 H2) (r : RelS K s2 H2) (rx : RV K s1 H1 x v) (h : seqR x s2 = some xs) : ∃ a us, v = .ref a ∧ SqL K H2 a us ∧ RVs K s2 H2 xs us := seqR_ok r (rx.mono st) h
def lSl (te : LTE) (tl th : LTO) : LTL := fun σ s Q E => te σ s (fun x s1 => tl σ s1 (fun lo s2 => th σ s2 (fun hi s3 => opt (seqR x s3) fun xs => Q (cutL xs lo hi) s3) E) E) E
theorem ll_slice {lo hi : Option Expr} {tl th : LTO} {p2 : Pos} (he : LE X e te) (hl : LO' X lo tl) (hh : LO' X hi th) : LL X (.Subscript e (.Slice lo hi none p2) pos) (lSl te tl th) := fun s0 H0 E tk =>
  (pe_slice sl_list (he s0 H0 E tk) (hl s0 H0 E tk) (hh s0 H0 E tk)).imp fun σ H Q ⟨σl, s, Q0, E1, hσ, hs, st, hE, h, k⟩ => ⟨σl, s, _, E1, hσ, hs, st, hE, h, fun lx s1 x H1 h st1 hs1 rx =>
    ⟨σl, s1, _, E1, hσ.mono st1, hs1, st.trans st1, hE, h, fun i s2 H2 h st2 hs2 => ⟨σl, s2, _, E1, hσ.mono (st1.trans st2), hs2, st.trans (st1.trans st2), hE, h, fun j s3 H3 h st3 hs3 => by
      obtain ⟨xs, e, h⟩ := opt_ok h
      obtain ⟨p, us, rfl, hh, r⟩ := seqR_stay (st2.trans st3) hs3 rx e
      refine ⟨p, us, rfl, hh, fun q nq => ?_⟩
      have z := k _ s3 (cutV us i j) H3 h ((st1.trans st2).trans st3) hs3
      refine z ?_ q nq
      unfold cutV cutL
      rw [r.length]
      exact (r.drop _).take _⟩⟩⟩

abbrev LRc := List LV → LS → LVK → Prop
def UpC (K : PySem.W.Frag) [GG K] (r : List V → Hp → VK → Prop) (rl : LRc) : Prop := ∀ vs s H lvs Q0 Q, RelS K s H → RVs K s H lvs vs → rl lvs s Q0 →
  (∀ lv s' v H', Q0 lv s' → Step s H s' H' → RelS K s' H' → RV K s' H' lv v → Q v H') → r vs H Q
def lCB (r : LRc) (t : LTA) : LTE := fun σ s Q E => t σ s (fun vs s1 => r vs s1 Q) E
variable {x : Str} {p : Pos} {id T : String} {r : List V → Hp → VK → Prop} {rl : LRc}
theorem le_cb (hc : CallR X (.builtin id) r) (u : UpC X.K r rl) (hg : Gl X x) (hm : X.mg x = none) (hv : bootBuiltins x = some (.builtin id)) (ha : LA X (e :: es) tas) (hn : x ≠ "__name__" := by decide) (hdb : (x == ("__debug__" : Str)) = false := by decide)
    (he : starEach (e :: es) X.env = (false, eval e X.env) :: starEach es X.env := by rfl) (hpl : (backTo pos (starEach es X.env)).any (·.1) = false := by rfl) : LE X (.Call (.Name x p) (e :: es) [] pos) (lCB rl tas) := fun s0 H0 E tk =>
  (pe_callB hc hg hm hv (ha s0 H0 E tk) hn hdb he hpl).imp fun σ H Q ⟨σl, s, Q0, E1, hσ, hs, st, hE, h, k⟩ => ⟨σl, s, _, E1, hσ, hs, st, hE, h, fun lvs s1 vs H1 h st1 hs1 r => u vs s1 H1 lvs Q0 Q hs1 r h fun lv s2 v H2 q st2 => k lv s2 v H2 q (st1.trans st2)⟩
theorem le_cty (hc : CallR X (.type T) r) (u : UpC X.K r rl) (hg : Gl X x) (hm : X.mg x = none) (hv : bootBuiltins x = some (.type T)) (ha : LA X (e :: es) tas) (hn : x ≠ "__name__" := by decide) (hdb : (x == ("__debug__" : Str)) = false := by decide)
    (he : starEach (e :: es) X.env = (false, eval e X.env) :: starEach es X.env := by rfl) (hpl : (backTo pos (starEach es X.env)).any (·.1) = false := by rfl) : LE X (.Call (.Name x p) (e :: es) [] pos) (lCB rl tas) := fun s0 H0 E tk =>
  (pe_callTy hc hg hm hv (ha s0 H0 E tk) hn hdb he hpl).imp fun σ H Q ⟨σl, s, Q0, E1, hσ, hs, st, hE, h, k⟩ => ⟨σl, s, _, E1, hσ, hs, st, hE, h, fun lvs s1 vs H1 h st1 hs1 r => u vs s1 H1 lvs Q0 Q hs1 r h fun lv s2 v H2 q st2 => k lv s2 v H2 q (st1.trans st2)⟩
/-- .. that makes a new list -/
def UpCL (K : PySem.W.Frag) [GG K] (r : List V → Hp → VK → Prop) (rl : List LV → LS → (List LV → LS → Prop) → Prop) : Prop := ∀ vs s H lvs Q0 Q, RelS K s H → RVs K s H lvs vs → rl lvs s Q0 →
  (∀ xs s' us H', Q0 xs s' → Step s H s' H' → RelS K s' H' → RVs K s' H' xs us → ∀ p, H' p = none → Q (.ref p) (upd H' p (.lst us))) → r vs H Q
def lCBL (r : List LV → LS → (List LV → LS → Prop) → Prop) (t : LTA) : LTL := fun σ s Q E => t σ s (fun vs s1 => r vs s1 Q) E
theorem ll_cb {rl : List LV → LS → (List LV → LS → Prop) → Prop} (hc : CallR X (.builtin id) r) (u : UpCL X.K r rl) (hg : Gl X x) (hm : X.mg x = none) (hv : bootBuiltins x = some (.builtin id)) (ha : LA X (e :: es) tas) (hn : x ≠ "__name__" := by decide) (hdb : (x == ("__debug__" : Str)) = false := by decide)
    (he : starEach (e :: es) X.env = (false, eval e X.env) :: starEach es X.env := by rfl) (hpl : (backTo pos (starEach es X.env)).any (·.1) = false := by rfl) : LL X (.Call (.Name x p) (e :: es) [] pos) (lCBL rl tas) := fun s0 H0 E tk =>
  (pe_callB hc hg hm hv (ha s0 H0 E tk) hn hdb he hpl).imp fun σ H Q ⟨σl, s, Q0, E1, hσ, hs, st, hE, h, k⟩ => ⟨σl, s, _, E1, hσ, hs, st, hE, h, fun lvs s1 vs H1 h st1 hs1 r => u vs s1 H1 lvs Q0 Q hs1 r h fun xs s2 us H2 q st2 => k xs s2 us H2 q (st1.trans st2)⟩
theorem ll_cty {rl : List LV → LS → (List LV → LS → Prop) → Prop} (hc : CallR X (.type T) r) (u : UpCL X.K r rl) (hg : Gl X x) (hm : X.mg x = none) (hv : bootBuiltins x = some (.type T)) (ha : LA X (e :: es) tas) (hn : x ≠ "__name__" := by decide) (hdb : (x == ("__debug__" : Str)) = false := by decide)
    (he : starEach (e :: es) X.env = (false, eval e X.env) :: starEach es X.env := by rfl) (hpl : (backTo pos (starEach es X.env)).any (·.1) = false := by rfl) : LL X (.Call (.Name x p) (e :: es) [] pos) (lCBL rl tas) := fun s0 H0 E tk =>
  (pe_callTy hc hg hm hv (ha s0 H0 E tk) hn hdb he hpl).imp fun σ H Q ⟨σl, s, Q0, E1, hσ, hs, st, hE, h, k⟩ => ⟨σl, s, _, E1, hσ, hs, st, hE, h, fun lvs s1 vs H1 h st1 hs1 r => u vs s1 H1 lvs Q0 Q hs1 r h fun xs s2 us H2 q st2 => k xs s2 us H2 q (st1.trans st2)⟩
def lenL (x : LV) (s : LS) : Option Nat := match x with
  | .lst xs => some xs.length
  | .tup xs => some xs.length
  | .scr ns => some ns.length
  | .ref a => (match s a with
    | some (.lst xs) => some xs.length
    | _ => none)
  | _ => none
def rLenL : LRc := fun vs s Q => match vs with
  | [.str z] => z.length ≤ 16777216 ∧ Q (.int z.length) s
  | [x] => opt (lenL x s) fun n => Q (.int (n : Int)) s
  | _ => False
theorem RVs.one {x : LV} {us : List V} (r : RVs K s H [x] us) : ∃ u, us = [u] ∧ RV K s H x u := by
  simp only [RVs] at r
  obtain ⟨u, w, rfl, r1, r2⟩ := r
  exact ⟨u, by rw [r2], r1⟩
theorem RVs.two {x y : LV} {us : List V} (r : RVs K s H [x, y] us) : ∃ u v, us = [u, v] ∧ RV K s H x u ∧ RV K s H y v := by
  simp only [RVs] at r
  obtain ⟨u, w, rfl, r1, v, z, rfl, r2, r3⟩ := r
  exact ⟨u, v, by rw [r3], r1, r2⟩
theorem RVd.length : ∀ {xs : List (Key × LV)} {us : List (Key × V)}, RVd K s H xs us → us.length = xs.length
  | [], _, h => by cases h; rfl
  | (k, x) :: xs, _, h => by
    obtain ⟨u, r, rfl, _, h2⟩ := h
    simp [RVd.length h2]
theorem up_len : UpC K (fun xs H Q => ∃ x n, xs = [x] ∧ LenV K x H n ∧ Q (.int n) H) rLenL := fun vs s H lvs Q0 Q hs r h k => by
  rcases lvs with _ | ⟨x, _ | ⟨y, l⟩⟩
  · exact False.elim h
  rotate_left
  · exact False.elim (by cases x <;> exact h)
  · obtain ⟨u, rfl, r1⟩ := r.one
    clear r
    have r := r1
    clear r1
    cases x with
    | str z => exact ⟨u, z.length, rfl, by rw [r.str']; exact ⟨by rw [sizeLine_eq]; exact h.1, rfl⟩, k _ _ _ _ h.2 (.refl _ _) hs .int⟩
    | lst xs =>
      have h : Q0 (.int (xs.length : Int)) s := h
      simp only [RV] at r
      obtain ⟨a, us, rfl, _, hh, q⟩ := r
      exact ⟨_, us.length, rfl, .inl ⟨us, SqL.of hh, rfl⟩, by rw [q.length]; exact k _ _ _ _ h (.refl _ _) hs .int⟩
    | tup xs =>
      have h : Q0 (.int (xs.length : Int)) s := h
      simp only [RV] at r
      obtain ⟨a, us, rfl, _, hh, q⟩ := r
      exact ⟨_, us.length, rfl, .inr ⟨us, SqT.of hh, rfl⟩, by rw [q.length]; exact k _ _ _ _ h (.refl _ _) hs .int⟩
    | scr ns =>
      have h : Q0 (.int (ns.length : Int)) s := h
      obtain ⟨a, us, rfl, hh, q⟩ := seqR_ok hs r rfl
      exact ⟨_, us.length, rfl, .inl ⟨us, hh, rfl⟩, by rw [q.length, List.length_map]; exact k _ _ _ _ h (.refl _ _) hs .int⟩
    | ref a =>
      simp only [rLenL, lenL] at h
      split at h
      · next xs ex =>
        have h : Q0 (.int (xs.length : Int)) s := h
        obtain ⟨us, hh, q⟩ := hs.lst ex
        exact ⟨_, us.length, rfl, by rw [r.ref']; exact .inl ⟨us, SqL.of hh, rfl⟩, by rw [q.length]; exact k _ _ _ _ h (.refl _ _) hs .int⟩
      · exact h.elim
    | _ => exact False.elim h
theorem le_len (hg : Gl X "len") (hm : X.mg "len" = none) (ha : LA X [e] tas) (he : starEach [e] X.env = (false, eval e X.env) :: starEach [] X.env := by rfl) (hpl : (backTo pos (starEach [] X.env)).any (·.1) = false := by rfl) :
    LE X (.Call (.Name "len" p) [e] [] pos) (lCB rLenL tas) := le_cb call_len up_len hg hm PySem.boot_len ha (by decide) (by decide) he hpl
end
end L3

namespace L3
open PySem PySem.Spec L2
section
variable {X : Cx} [GG X.K] {K : PySem.W.Frag} [GG K] {s : LS} {H : Hp} {a b e o : Expr} {es : List Expr} {pos : Pos} {ta tb te to : LTE} {tas : LTA}
variable {x : Str} {p : Pos}
/-- the type of a value, as isinstance asks it; CT: what is said of an own class -/
def tyAt (CT : Addr → Prop) (x : LV) (s : LS) : Option Value := match x with
  | .non => some (.type "NoneType")
  | .bl _ => some (.type "bool")
  | .int _ => some (.type "int")
  | .str _ => some (.type "str")
  | .lst _ => some (.type "list")
  | .tup _ => some (.type "tuple")
  | .ins C _ => some (.ref C)
  | .ref a => (match s a with
    | some (.lst _) => some (.type "list")
    | some (.dK _) => some (.type "dict")
    | some (.dT _) => some (.type "dict")
    | some (.ins C _) => some (.ref C)
    | _ => none)
  | _ => none
/-- what an own class must say, for isinstance -/
structure InsC (K : PySem.W.Frag) (C : Addr) : Prop where
  cl : Cls K C
  ha : PySem.W.findIn K (.ref C) "__class__" = some (some (.builtin "object.__class__"))
  hn : PySem.W.specialIn K (.builtin "object.__class__") "__get__" = some (some (.builtin "getset_descriptor.__get__"))
  ht : PySem.W.takesIn K (.builtin "object.__class__") = some true
  hm : PySem.W.mroIn K C (.type "object") = some true
def clsVal : LV → Option Value
  | .ref a => some (.ref a)
  | .ty n => some (.type n)
  | _ => none
def rIsiL (K : PySem.W.Frag) : LRc := fun vs s Q => match vs with
  | [x, c] => opt (tyAt (fun _ => True) x s) fun t => opt (clsVal c) fun u => (∀ C, t = .ref C → InsC K C) ∧ ∃ b, PySem.W.kitOne K t u = some b ∧ Q (.bl b) s
  | _ => False
theorem tyAt_ok {x : LV} {v : V} {t : Value} (hs : RelS K s H) (rx : RV K s H x v) (h : tyAt (fun _ => True) x s = some t) (hc : ∀ C, t = .ref C → InsC K C) : TyX K H v t := by
  cases x with
  | non => cases h; rw [rx.non']; exact .base .non
  | bl b => cases h; rw [rx.bl']; exact .base (.bl b)
  | int b => cases h; rw [rx.int']; exact .base (.int b)
  | str b => cases h; rw [rx.str']; exact .base (.str b)
  | lst xs =>
    cases h
    simp only [RV] at rx
    obtain ⟨a, us, rfl, _, hh, _⟩ := rx
    exact .base (.lst hh)
  | tup xs =>
    cases h
    simp only [RV] at rx
    obtain ⟨a, us, rfl, _, hh, _⟩ := rx
    exact .base (.tup hh)
  | ins C fs =>
    cases h
    simp only [RV] at rx
    obtain ⟨a, dx, us, rfl, _, hh, _⟩ := rx
    have c := hc C rfl
    exact .base (.ins hh c.cl c.ha c.hn c.ht c.hm)
  | ref a =>
    rw [rx.ref']
    simp only [tyAt] at h
    split at h
    · next e => cases h; obtain ⟨us, hh, _⟩ := hs a _ e; exact .base (.lst hh)
    · next e => cases h; obtain ⟨us, hh, _⟩ := hs a _ e; exact .base (.dK hh)
    · next e => cases h; obtain ⟨us, hh, _⟩ := hs a _ e; exact .base (.dT hh)
    · next C fs e =>
      cases h
      obtain ⟨dx, us, hh, _⟩ := hs a _ e
      have c := hc C rfl
      exact .base (.ins hh c.cl c.ha c.hn c.ht c.hm)
    · cases h
  | _ => cases h
theorem clsVal_ok {c : LV} {v : V} {u : Value} (rx : RV K s H c v) (h : clsVal c = some u) : ClsV v u := by
  cases c with
  | ref a => cases h; rw [rx.ref']; exact .own a
  | ty n => cases h; simp only [RV] at rx; rw [rx]; exact .ty n
  | _ => cases h
theorem up_isi : UpC K (L2.rIsi K) (rIsiL K) := fun vs s H lvs Q0 Q hs r h k => by
  rcases lvs with _ | ⟨x, _ | ⟨c, _ | ⟨y, l⟩⟩⟩
  · exact False.elim h
  · exact False.elim h
  · obtain ⟨t, e1, h⟩ := opt_ok h
    obtain ⟨u, e2, hc, b, e3, h⟩ := opt_ok h
    obtain ⟨v, w, rfl, r1, r2⟩ := r.two
    exact ⟨v, w, t, u, b, rfl, clsVal_ok r2 e2, tyAt_ok hs r1 e1 hc, e3, k _ _ _ _ h (.refl _ _) hs .bl⟩
  · exact False.elim h
theorem le_isi (hg : Gl X "isinstance") (hm : X.mg "isinstance" = none) (ha : LA X (e :: es) tas) (he : starEach (e :: es) X.env = (false, eval e X.env) :: starEach es X.env := by rfl) (hpl : (backTo pos (starEach es X.env)).any (·.1) = false := by rfl) :
    LE X (.Call (.Name "isinstance" p) (e :: es) [] pos) (lCB (rIsiL X.K) tas) := le_cb call_isi up_isi hg hm (by decide +kernel) ha (by decide) (by decide) he hpl

def rMax2L : LRc := fun vs s Q => match vs with
  | [.int i, .int j] => Q (.int (if j > i then j else i)) s
  | _ => False
def rMin2L : LRc := fun vs s Q => match vs with
  | [.int i, .int j] => Q (.int (if j < i then j else i)) s
  | _ => False
theorem ints2 {lvs : List LV} {k : Int → Int → Prop} (h : match lvs with
  | [.int i, .int j] => k i j
  | _ => False) : ∃ i j, lvs = [.int i, .int j] ∧ k i j := by
  rcases lvs with _ | ⟨x, _ | ⟨c, _ | ⟨y, l⟩⟩⟩
  · exact h.elim
  · exact False.elim (by cases x <;> exact h)
  · cases x <;> cases c <;> first | exact h.elim | exact ⟨_, _, rfl, h⟩
  · exact False.elim (by cases x <;> cases c <;> exact h)
theorem up_max2 : UpC K (fun xs H Q => ∃ i j, xs = [.int i, .int j] ∧ Q (.int (if j > i then j else i)) H) rMax2L := fun vs s H lvs Q0 Q hs r h k => by
  obtain ⟨i, j, rfl, h⟩ := ints2 (k := fun i j => Q0 (.int (if j > i then j else i)) s) h
  obtain ⟨v, w, rfl, r1, r2⟩ := r.two
  exact ⟨i, j, by rw [r1.int', r2.int'], k _ _ _ _ h (.refl _ _) hs .int⟩
theorem up_min2 : UpC K (fun xs H Q => ∃ i j, xs = [.int i, .int j] ∧ Q (.int (if j < i then j else i)) H) rMin2L := fun vs s H lvs Q0 Q hs r h k => by
  obtain ⟨i, j, rfl, h⟩ := ints2 (k := fun i j => Q0 (.int (if j < i then j else i)) s) h
  obtain ⟨v, w, rfl, r1, r2⟩ := r.two
  exact ⟨i, j, by rw [r1.int', r2.int'], k _ _ _ _ h (.refl _ _) hs .int⟩
theorem le_max2 (hc : X.calm = true) (hg : Gl X "max") (hm : X.mg "max" = none) (ha : LA X (e :: es) tas) (he : starEach (e :: es) X.env = (false, eval e X.env) :: starEach es X.env := by rfl) (hpl : (backTo pos (starEach es X.env)).any (·.1) = false := by rfl) :
    LE X (.Call (.Name "max" p) (e :: es) [] pos) (lCB rMax2L tas) := le_cb (call_max2 hc) up_max2 hg hm (by decide +kernel) ha (by decide) (by decide) he hpl
theorem le_min2 (hc : X.calm = true) (hg : Gl X "min") (hm : X.mg "min" = none) (ha : LA X (e :: es) tas) (he : starEach (e :: es) X.env = (false, eval e X.env) :: starEach es X.env := by rfl) (hpl : (backTo pos (starEach es X.env)).any (·.1) = false := by rfl) :
    LE X (.Call (.Name "min" p) (e :: es) [] pos) (lCB rMin2L tas) := le_cb (call_min2 hc) up_min2 hg hm (by decide +kernel) ha (by decide) (by decide) he hpl
def rIntL : LRc := fun vs s Q => match vs with
  | [.int i] => Q (.int i) s
  | [.bl k] => Q (.int (if k then 1 else 0)) s
  | _ => False
theorem up_int1 : UpC K (fun xs H Q => (∃ i, xs = [.int i] ∧ Q (.int i) H) ∨ ∃ k, xs = [.bl k] ∧ Q (.int (if k then 1 else 0)) H) rIntL := fun vs s H lvs Q0 Q hs r h k => by
  rcases lvs with _ | ⟨x, _ | ⟨c, l⟩⟩
  · exact False.elim h
  · obtain ⟨v, rfl, r1⟩ := r.one
    cases x with
    | int i => exact .inl ⟨i, by rw [r1.int'], k _ _ _ _ h (.refl _ _) hs .int⟩
    | bl i => exact .inr ⟨i, by rw [r1.bl'], k _ _ _ _ h (.refl _ _) hs .int⟩
    | _ => exact False.elim h
  · exact False.elim (by cases x <;> exact h)
theorem le_int1 (hg : Gl X "int") (hm : X.mg "int" = none) (ha : LA X (e :: es) tas) (he : starEach (e :: es) X.env = (false, eval e X.env) :: starEach es X.env := by rfl) (hpl : (backTo pos (starEach es X.env)).any (·.1) = false := by rfl) :
    LE X (.Call (.Name "int" p) (e :: es) [] pos) (lCB rIntL tas) := le_cty call_int1 up_int1 hg hm PyProof.Rows.boot_int ha (by decide) (by decide) he hpl

def intsOf : List LV → Option (List Int)
  | [] => some []
  | .int i :: xs => (intsOf xs).map (i :: ·)
  | _ :: _ => none
theorem intsOf_ok : ∀ {xs : List LV} {ns : List Int}, intsOf xs = some ns → xs = ns.map .int
  | [], _, h => by cases h; rfl
  | x :: xs, ns, h => by
    cases x with
    | int i =>
      obtain ⟨r, e, rfl⟩ := Option.map_eq_some_iff.mp (show (intsOf xs).map (i :: ·) = some ns from h)
      rw [intsOf_ok e]
      rfl
    | _ => cases h
theorem intsOf_map (ns : List Int) : intsOf (ns.map .int) = some ns := by
  induction ns with
  | nil => rfl
  | cons n ns ih => simp [intsOf, ih]
def blsOf : List LV → Option (List Bool)
  | [] => some []
  | .bl i :: xs => (blsOf xs).map (i :: ·)
  | _ :: _ => none
theorem blsOf_ok : ∀ {xs : List LV} {ns : List Bool}, blsOf xs = some ns → xs = ns.map .bl
  | [], _, h => by cases h; rfl
  | x :: xs, ns, h => by
    cases x with
    | bl i =>
      obtain ⟨r, e, rfl⟩ := Option.map_eq_some_iff.mp (show (blsOf xs).map (i :: ·) = some ns from h)
      rw [blsOf_ok e]
      rfl
    | _ => cases h
theorem blsOf_map (ns : List Bool) : blsOf (ns.map .bl) = some ns := by
  induction ns with
  | nil => rfl
  | cons n ns ih => simp [blsOf, ih]
theorem RVs.of_bls : ∀ {ns : List Bool} {us : List V}, RVs K s H (ns.map LV.bl) us → us = ns.map V.bl
  | [], _, h => by simpa only [List.map_nil, RVs] using h
  | n :: ns, _, h => by
    simp only [List.map_cons, RVs, RV] at h
    obtain ⟨u, r, rfl, rfl, h2⟩ := h
    rw [RVs.of_bls h2]; rfl
def one1 (vs : List LV) (k : LV → Prop) : Prop := match vs with
  | [x] => k x
  | _ => False
theorem one1_ok {vs : List LV} {k : LV → Prop} (h : one1 vs k) : ∃ x, vs = [x] ∧ k x := by
  rcases vs with _ | ⟨x, _ | ⟨c, l⟩⟩
  · exact h.elim
  · exact ⟨x, rfl, h⟩
  · exact h.elim
/-- sorted of ints -/
def rSrtI : List LV → LS → (List LV → LS → Prop) → Prop := fun vs s Q => one1 vs fun x => opt (seqL x s) fun xs => opt (intsOf xs) fun ns => ∀ ns' : List Int, ns'.Perm ns → ns'.Pairwise (· ≤ ·) → Q (ns'.map .int) s
theorem up_srtI : UpCL K (rSortedI K) rSrtI := fun vs s H lvs Q0 Q hs r h k => by
  obtain ⟨x, rfl, h⟩ := one1_ok h
  obtain ⟨xs, e1, h⟩ := opt_ok h
  obtain ⟨ns, e2, h⟩ := opt_ok h
  obtain ⟨v, rfl, r1⟩ := r.one
  obtain ⟨q, us, rfl, hh, r2⟩ := seqL_ok hs r1 e1
  rw [intsOf_ok e2] at r2
  rw [r2.of_ints] at hh
  exact ⟨q, ns, rfl, SqL.of hh, fun ns' l pm so np => k _ _ _ _ (h ns' pm so) (.refl _ _) hs (.ints ns') l np⟩
theorem ll_sortedI (hg : Gl X "sorted") (hm : X.mg "sorted" = none) (ha : LA X (e :: es) tas) (he : starEach (e :: es) X.env = (false, eval e X.env) :: starEach es X.env := by rfl) (hpl : (backTo pos (starEach es X.env)).any (·.1) = false := by rfl) :
    LL X (.Call (.Name "sorted" p) (e :: es) [] pos) (lCBL rSrtI tas) := ll_cb cr_sortedI up_srtI hg hm (by decide +kernel) ha (by decide) (by decide) he hpl
/-- list of a list, of a tuple -/
def rLstOf : List LV → LS → (List LV → LS → Prop) → Prop := fun vs s Q => one1 vs fun x => match x with
  | .tup xs => Q xs s
  | _ => opt (seqR x s) fun xs => Q xs s
theorem up_lstOf : UpCL K (fun xs H Q => ∃ p ys, xs = [.ref p] ∧ (SqL K H p ys ∨ SqT K H p ys) ∧ ∀ l, H l = none → Q (.ref l) (upd H l (.lst ys))) rLstOf := fun vs s H lvs Q0 Q hs r h k => by
  obtain ⟨x, rfl, h⟩ := one1_ok h
  obtain ⟨v, rfl, r1⟩ := r.one
  have go : opt (seqR x s) (fun xs => Q0 xs s) → ∃ p ys, [v] = [V.ref p] ∧ (SqL K H p ys ∨ SqT K H p ys) ∧ ∀ l, H l = none → Q (.ref l) (upd H l (.lst ys)) := fun h => by
    obtain ⟨xs, e1, h⟩ := opt_ok h
    obtain ⟨q, us, rfl, hh, r2⟩ := seqR_ok hs r1 e1
    exact ⟨q, us, rfl, .inl hh, fun l np => k _ _ _ _ h (.refl _ _) hs r2 l np⟩
  cases x with
  | tup xs =>
    simp only [RV] at r1
    obtain ⟨a, us, rfl, _, hh, q⟩ := r1
    exact ⟨a, us, rfl, .inr (SqT.of hh), fun l np => k _ _ _ _ h (.refl _ _) hs q l np⟩
  | _ => exact go h
theorem ll_list (hg : Gl X "list") (hm : X.mg "list" = none) (ha : LA X (e :: es) tas) (he : starEach (e :: es) X.env = (false, eval e X.env) :: starEach es X.env := by rfl) (hpl : (backTo pos (starEach es X.env)).any (·.1) = false := by rfl) :
    LL X (.Call (.Name "list" p) (e :: es) [] pos) (lCBL rLstOf tas) := ll_cty call_list_of up_lstOf hg hm PyProof.Rows.boot_list ha (by decide) (by decide) he hpl
/-- list(range(a, b)) -/
def rgL (a b : Int) : List LV := (List.range (b - a).toNat).map fun i => LV.int (a + (i : Nat))
theorem RVs.rg (a b : Int) : RVs K s H (rgL a b) (rgV a b) := by
  have e : rgL a b = ((List.range (b - a).toNat).map fun i => a + ((i : Nat) : Int)).map LV.int := by unfold rgL; rw [List.map_map]; rfl
  have e2 : rgV a b = ((List.range (b - a).toNat).map fun i => a + ((i : Nat) : Int)).map V.int := by unfold rgV; rw [List.map_map]; rfl
  rw [e, e2]
  exact .ints _
def lLstRg2 (ta tb : LTE) : LTL := fun σ s Q E => ta σ s (fun x s1 => tb σ s1 (fun y s2 => match x, y with
  | .int i, .int j => RgOk i j ∧ Q (rgL i j) s2
  | _, _ => False) E) E
def lLstRg1 (ta : LTE) : LTL := fun σ s Q E => ta σ s (fun x s1 => match x with
  | .int j => RgOk 0 j ∧ Q (rgL 0 j) s1
  | _ => False) E
theorem ll_listRg2 {p2 pos2 : Pos} (hc : X.calm = true) (hg : Gl X "list") (hm : X.mg "list" = none) (hg2 : Gl X "range") (hm2 : X.mg "range" = none) (ha : LE X a ta) (hb : LE X b tb)
    (n1 : starEach [a, b] X.env = (false, eval a X.env) :: starEach [b] X.env := by rfl) (n2 : starEach [b] X.env = (false, eval b X.env) :: starEach [] X.env := by rfl)
    (na : starEach [.Call (.Name "range" p2) [a, b] [] pos2] X.env = (false, eval (.Call (.Name "range" p2) [a, b] [] pos2) X.env) :: starEach [] X.env := by rfl) (hq : (backTo pos2 (starEach [b] X.env)).any (·.1) = false := by rfl) :
    LL X (.Call (.Name "list" p) [.Call (.Name "range" p2) [a, b] [] pos2] [] pos) (lLstRg2 ta tb) := fun s0 H0 E tk =>
  (pe_listRg hc hg hm (prg_2 hg2 hm2 (ha s0 H0 E tk) (hb s0 H0 E tk) n1 n2 hq) na).imp fun σ H Q ⟨σl, s, Q0, E1, hσ, hs, st, hE, h, k⟩ => ⟨σl, s, _, E1, hσ, hs, st, hE, h, fun lx s1 x H1 h st1 hs1 rx =>
    ⟨σl, s1, _, E1, hσ.mono st1, hs1, st.trans st1, hE, h, fun ly s2 y H2 h st2 hs2 ry => by
      cases lx <;> try exact False.elim h
      cases ly <;> try exact False.elim h
      exact ⟨_, _, rx.int', ry.int', h.1, fun q nq => k _ _ _ _ h.2 (st1.trans st2) hs2 (.rg _ _) q nq⟩⟩⟩
theorem ll_listRg1 {p2 pos2 : Pos} (hc : X.calm = true) (hg : Gl X "list") (hm : X.mg "list" = none) (hg2 : Gl X "range") (hm2 : X.mg "range" = none) (ha : LE X a ta)
    (n1 : starEach [a] X.env = (false, eval a X.env) :: starEach [] X.env := by rfl)
    (na : starEach [.Call (.Name "range" p2) [a] [] pos2] X.env = (false, eval (.Call (.Name "range" p2) [a] [] pos2) X.env) :: starEach [] X.env := by rfl) :
    LL X (.Call (.Name "list" p) [.Call (.Name "range" p2) [a] [] pos2] [] pos) (lLstRg1 ta) := fun s0 H0 E tk =>
  (pe_listRg hc hg hm (prg_1 hg2 hm2 (ha s0 H0 E tk) n1) na).imp fun σ H Q ⟨σl, s, Q0, E1, hσ, hs, st, hE, h, k⟩ => ⟨σl, s, _, E1, hσ, hs, st, hE, h, fun lx s1 x H1 h st1 hs1 rx => by
      cases lx <;> try exact False.elim h
      exact ⟨_, rx.int', h.1, fun q nq => k _ _ _ _ h.2 st1 hs1 (.rg _ _) q nq⟩⟩
def rAllL : LRc := fun vs s Q => one1 vs fun x => opt (seqL x s) fun xs => opt (blsOf xs) fun bs => Q (.bl (bs.all id)) s
def rAnyL : LRc := fun vs s Q => one1 vs fun x => opt (seqL x s) fun xs => opt (blsOf xs) fun bs => Q (.bl (bs.any id)) s
theorem up_all : UpC K (L2.rAll K) rAllL := fun vs s H lvs Q0 Q hs r h k => by
  obtain ⟨x, rfl, h⟩ := one1_ok h
  obtain ⟨xs, e1, h⟩ := opt_ok h
  obtain ⟨ns, e2, h⟩ := opt_ok h
  obtain ⟨v, rfl, r1⟩ := r.one
  obtain ⟨q, us, rfl, hh, r2⟩ := seqL_ok hs r1 e1
  rw [blsOf_ok e2] at r2
  rw [r2.of_bls] at hh
  exact ⟨q, ns, rfl, SqL.of hh, k _ _ _ _ h (.refl _ _) hs .bl⟩
theorem up_any : UpC K (L2.rAny K) rAnyL := fun vs s H lvs Q0 Q hs r h k => by
  obtain ⟨x, rfl, h⟩ := one1_ok h
  obtain ⟨xs, e1, h⟩ := opt_ok h
  obtain ⟨ns, e2, h⟩ := opt_ok h
  obtain ⟨v, rfl, r1⟩ := r.one
  obtain ⟨q, us, rfl, hh, r2⟩ := seqL_ok hs r1 e1
  rw [blsOf_ok e2] at r2
  rw [r2.of_bls] at hh
  exact ⟨q, ns, rfl, SqL.of hh, k _ _ _ _ h (.refl _ _) hs .bl⟩
theorem le_all (hc : X.calm = true) (hg : Gl X "all") (hm : X.mg "all" = none) (ha : LA X (e :: es) tas) (he : starEach (e :: es) X.env = (false, eval e X.env) :: starEach es X.env := by rfl) (hpl : (backTo pos (starEach es X.env)).any (·.1) = false := by rfl) :
    LE X (.Call (.Name "all" p) (e :: es) [] pos) (lCB rAllL tas) := le_cb (cr_all hc) up_all hg hm (by decide +kernel) ha (by decide) (by decide) he hpl
theorem le_any (hc : X.calm = true) (hg : Gl X "any") (hm : X.mg "any" = none) (ha : LA X (e :: es) tas) (he : starEach (e :: es) X.env = (false, eval e X.env) :: starEach es X.env := by rfl) (hpl : (backTo pos (starEach es X.env)).any (·.1) = false := by rfl) :
    LE X (.Call (.Name "any" p) (e :: es) [] pos) (lCB rAnyL tas) := le_cb (cr_any hc) up_any hg hm (by decide +kernel) ha (by decide) (by decide) he hpl
/-- max, min of a list of ints -/
def rMaxL : LRc := fun vs s Q => one1 vs fun x => opt (seqL x s) fun xs => opt (intsOf xs) fun ns => 0 < ns.length ∧ ∀ m, m ∈ ns → (∀ y, y ∈ ns → y ≤ m) → Q (.int m) s
def rMinL : LRc := fun vs s Q => one1 vs fun x => opt (seqL x s) fun xs => opt (intsOf xs) fun ns => 0 < ns.length ∧ ∀ m, m ∈ ns → (∀ y, y ∈ ns → m ≤ y) → Q (.int m) s
theorem up_max : UpC K (L2.rMax K) rMaxL := fun vs s H lvs Q0 Q hs r h k => by
  obtain ⟨x, rfl, h⟩ := one1_ok h
  obtain ⟨xs, e1, h⟩ := opt_ok h
  obtain ⟨ns, e2, h0, h⟩ := opt_ok h
  obtain ⟨v, rfl, r1⟩ := r.one
  obtain ⟨q, us, rfl, hh, r2⟩ := seqL_ok hs r1 e1
  rw [intsOf_ok e2] at r2
  rw [r2.of_ints] at hh
  exact ⟨q, ns, rfl, SqL.of hh, h0, fun m hm hle => k _ _ _ _ (h m hm hle) (.refl _ _) hs .int⟩
theorem up_min : UpC K (L2.rMin K) rMinL := fun vs s H lvs Q0 Q hs r h k => by
  obtain ⟨x, rfl, h⟩ := one1_ok h
  obtain ⟨xs, e1, h⟩ := opt_ok h
  obtain ⟨ns, e2, h0, h⟩ := opt_ok h
  obtain ⟨v, rfl, r1⟩ := r.one
  obtain ⟨q, us, rfl, hh, r2⟩ := seqL_ok hs r1 e1
  rw [intsOf_ok e2] at r2
  rw [r2.of_ints] at hh
  exact ⟨q, ns, rfl, SqL.of hh, h0, fun m hm hle => k _ _ _ _ (h m hm hle) (.refl _ _) hs .int⟩
theorem le_max (hc : X.calm = true) (hg : Gl X "max") (hm : X.mg "max" = none) (ha : LA X (e :: es) tas) (he : starEach (e :: es) X.env = (false, eval e X.env) :: starEach es X.env := by rfl) (hpl : (backTo pos (starEach es X.env)).any (·.1) = false := by rfl) :
    LE X (.Call (.Name "max" p) (e :: es) [] pos) (lCB rMaxL tas) := le_cb (cr_max hc) up_max hg hm (by decide +kernel) ha (by decide) (by decide) he hpl
theorem le_min (hc : X.calm = true) (hg : Gl X "min") (hm : X.mg "min" = none) (ha : LA X (e :: es) tas) (he : starEach (e :: es) X.env = (false, eval e X.env) :: starEach es X.env := by rfl) (hpl : (backTo pos (starEach es X.env)).any (·.1) = false := by rfl) :
    LE X (.Call (.Name "min" p) (e :: es) [] pos) (lCB rMinL tas) := le_cb (cr_min hc) up_min hg hm (by decide +kernel) ha (by decide) (by decide) he hpl

abbrev LRm := LV → List LV → LS → LVK → Prop
def UpM (K : PySem.W.Frag) [GG K] (r : V → List V → Hp → VK → Prop) (rl : LRm) : Prop := ∀ x vs s H lx lvs Q0 Q, RelS K s H → RV K s H lx x → RVs K s H lvs vs → rl lx lvs s Q0 →
  (∀ lv s' v H', Q0 lv s' → Step s H s' H' → RelS K s' H' → RV K s' H' lv v → Q v H') → r x vs H Q
def lBML (r : LRm) (to : LTE) (t : LTA) : LTE := fun σ s Q E => to σ s (fun x s1 => (seqL x s1).isSome = true ∧ t σ s1 (fun vs s2 => r x vs s2 Q) E) E
variable {name : Str} {apos cpos : Pos} {id : String} {r : V → List V → Hp → VK → Prop} {rl : LRm}
theorem isSeq_ty {x : LV} {v : V} (hs : RelS K s H) (rx : RV K s H x v) (h : (seqL x s).isSome = true) : tyV K "list" v H := by
  obtain ⟨xs, e⟩ := Option.isSome_iff_exists.mp h
  obtain ⟨a, us, rfl, hh, _⟩ := seqL_ok hs rx e
  exact .inl ⟨rfl, us, SqL.of hh⟩
theorem le_bml (slot : Slot "list" name id) (hty : typeOf (.builtin id) = pure (.type "method_descriptor")) (hm : MtR X id r) (u : UpM X.K r rl) (ho : LE X o to) (ha : LA X (e :: es) tas)
    (hbase : attributeBase o name X.env (eval o X.env) = eval o X.env := by rfl)
    (hfew : ((backTo cpos (starEach (e :: es) X.env)).all (fun x => !x.1) && (backToKw cpos (keywordEach [] X.env)).all (fun x => x.1.isSome)
      && decide ((e :: es).length + ([] : List Keyword).length + (if ([] : List Keyword).isEmpty then 0 else 1) < 30)) = true := by rfl)
    (hline : (apos.endLine == cpos.line) = true := by rfl) (hs : starEach (e :: es) X.env = (false, eval e X.env) :: starEach es X.env := by rfl) (hplain : (backTo cpos (starEach es X.env)).any (·.1) = false := by rfl) :
    LE X (.Call (.Attribute o name apos) (e :: es) [] cpos) (lBML rl to tas) := fun s0 H0 E tk => (pe_bm PySem.F.plainAttrs_list slot hty hm (ho s0 H0 E tk) (ha s0 H0 E tk) hbase hfew hline hs hplain).imp fun σ H Q ⟨σl, s, Q0, E1, hσ, hs, st, hE, h, k⟩ =>
  ⟨σl, s, _, E1, hσ, hs, st, hE, h, fun lx s1 x H1 h st1 hs1 rx => ⟨isSeq_ty hs1 rx h.1, σl, s1, _, E1, hσ.mono st1, hs1, st.trans st1, hE, h.2, fun lvs s2 vs H2 h st2 hs2 rs => u x vs s2 H2 lx lvs Q0 Q hs2 (rx.mono st2) rs h fun lv s3 v H3 q st3 => k lv s3 v H3 q ((st1.trans st2).trans st3)⟩⟩
theorem le_bml0 (slot : Slot "list" name id) (hty : typeOf (.builtin id) = pure (.type "method_descriptor")) (hm : MtR X id r) (u : UpM X.K r rl) (ho : LE X o to)
    (hbase : attributeBase o name X.env (eval o X.env) = eval o X.env := by rfl) (hline : (apos.endLine == cpos.line) = true := by rfl) :
    LE X (.Call (.Attribute o name apos) [] [] cpos) (lBML rl to lNil) := fun s0 H0 E tk => (pe_bm0 PySem.F.plainAttrs_list slot hty hm (ho s0 H0 E tk) hbase hline).imp fun σ H Q ⟨σl, s, Q0, E1, hσ, hs, st, hE, h, k⟩ =>
  ⟨σl, s, _, E1, hσ, hs, st, hE, h, fun lx s1 x H1 h st1 hs1 rx => ⟨isSeq_ty hs1 rx h.1, u x [] s1 H1 lx [] Q0 Q hs1 rx .nil h.2 fun lv s3 v H3 q st3 => k lv s3 v H3 q (st1.trans st3)⟩⟩
/-- the list in the store at a -/
def atL (x : LV) (s : LS) (k : Addr → List LV → Prop) : Prop := match x with
  | .ref a => (match s a with
    | some (.lst xs) => k a xs
    | _ => False)
  | _ => False
theorem atL_ok {x : LV} {s : LS} {k : Addr → List LV → Prop} (h : atL x s k) : ∃ a xs, x = .ref a ∧ s a = some (.lst xs) ∧ k a xs := by
  cases x with
  | ref a =>
    simp only [atL] at h
    split at h
    · next xs e => exact ⟨a, xs, rfl, e, h⟩
    · exact h.elim
  | _ => exact h.elim
def rAppL : LRm := fun x vs s Q => one1 vs fun y => atL x s fun a xs => xs.length < 16777216 ∧ Q .non (put s a (.lst (xs ++ [y])))
theorem up_app : UpM K rAppend rAppL := fun x vs s H lx lvs Q0 Q hs rx rs h k => by
  obtain ⟨y, rfl, h⟩ := one1_ok h
  obtain ⟨a, xs, rfl, e, hl, h⟩ := atL_ok h
  obtain ⟨v, rfl, r1⟩ := rs.one
  obtain ⟨us, hh, q⟩ := hs.lst e
  have nn : s a ≠ none ∨ H a = none := .inl (by rw [e]; simp)
  exact ⟨a, us, v, rx.ref', rfl, hh, by rw [q.length, sizeLine_eq]; exact hl, k _ _ _ _ h (.put nn) (hs.put nn ⟨_, upd_same, (q.append (.cons r1 .nil)).mono (.put nn)⟩) .non⟩
theorem le_append (ho : LE X o to) (ha : LA X (e :: es) tas)
    (hbase : attributeBase o "append" X.env (eval o X.env) = eval o X.env := by rfl)
    (hfew : ((backTo cpos (starEach (e :: es) X.env)).all (fun x => !x.1) && (backToKw cpos (keywordEach [] X.env)).all (fun x => x.1.isSome)
      && decide ((e :: es).length + ([] : List Keyword).length + (if ([] : List Keyword).isEmpty then 0 else 1) < 30)) = true := by rfl)
    (hline : (apos.endLine == cpos.line) = true := by rfl) (hs : starEach (e :: es) X.env = (false, eval e X.env) :: starEach es X.env := by rfl) (hplain : (backTo cpos (starEach es X.env)).any (·.1) = false := by rfl) :
    LE X (.Call (.Attribute o "append" apos) (e :: es) [] cpos) (lBML rAppL to tas) := le_bml PySem.F.slot_list_append PySem.F.type_list_append mt_append up_app ho ha hbase hfew hline hs hplain
def rClrL : LRm := fun x vs s Q => vs = [] ∧ atL x s fun a xs => Q .non (put s a (.lst []))
theorem up_clear : UpM K rClear rClrL := fun x vs s H lx lvs Q0 Q hs rx rs ⟨h0, h⟩ k => by
  subst h0
  obtain ⟨a, xs, rfl, e, h⟩ := atL_ok h
  simp only [RVs] at rs
  obtain ⟨us, hh, q⟩ := hs.lst e
  have nn : s a ≠ none ∨ H a = none := .inl (by rw [e]; simp)
  exact ⟨a, us, rx.ref', rs, hh, k _ _ _ _ h (.put nn) (hs.put nn ⟨_, upd_same, .nil⟩) .non⟩
theorem le_clear (ho : LE X o to) (hbase : attributeBase o "clear" X.env (eval o X.env) = eval o X.env := by rfl) (hline : (apos.endLine == cpos.line) = true := by rfl) :
    LE X (.Call (.Attribute o "clear" apos) [] [] cpos) (lBML rClrL to lNil) := le_bml0 PySem.F.slot_list_clear PySem.F.type_list_clear mt_clear up_clear ho hbase hline
def rPopL : LRm := fun x vs s Q => vs = [] ∧ atL x s fun a xs => opt (xs[xs.length - 1]?) fun y => Q y (put s a (.lst xs.dropLast))
theorem RVs.dropLast {xs : List LV} {us : List V} (h : RVs K s H xs us) : RVs K s H xs.dropLast us.dropLast := by
  rw [List.dropLast_eq_take, List.dropLast_eq_take, h.length]
  exact h.take _
theorem up_pop : UpM K rPop rPopL := fun x vs s H lx lvs Q0 Q hs rx rs ⟨h0, h⟩ k => by
  subst h0
  obtain ⟨a, xs, rfl, e, h⟩ := atL_ok h
  obtain ⟨y, ey, h⟩ := opt_ok h
  simp only [RVs] at rs
  obtain ⟨us, hh, q⟩ := hs.lst e
  obtain ⟨u, eu, ru⟩ := q.get ey
  have nn : s a ≠ none ∨ H a = none := .inl (by rw [e]; simp)
  exact ⟨a, us, u, rx.ref', rs, hh, by rw [q.length]; exact eu, k _ _ _ _ h (.put nn) (hs.put nn ⟨_, upd_same, q.dropLast.mono (.put nn)⟩) (ru.mono (.put nn))⟩
theorem le_pop (ho : LE X o to) (hbase : attributeBase o "pop" X.env (eval o X.env) = eval o X.env := by rfl) (hline : (apos.endLine == cpos.line) = true := by rfl) :
    LE X (.Call (.Attribute o "pop" apos) [] [] cpos) (lBML rPopL to lNil) := le_bml0 PySem.F.slot_list_pop PySem.F.type_list_pop mt_pop up_pop ho hbase hline
def rExtL : LRm := fun x vs s Q => one1 vs fun y => opt (seqL y s) fun ys => atL x s fun a xs => xs.length + ys.length ≤ 16777216 ∧ Q .non (put s a (.lst (xs ++ ys)))
theorem up_ext : UpM K rExtend rExtL := fun x vs s H lx lvs Q0 Q hs rx rs h k => by
  obtain ⟨y, rfl, h⟩ := one1_ok h
  obtain ⟨ys, e2, h⟩ := opt_ok h
  obtain ⟨a, xs, rfl, e, hl, h⟩ := atL_ok h
  obtain ⟨v, rfl, r1⟩ := rs.one
  obtain ⟨us, hh, q⟩ := hs.lst e
  obtain ⟨b, ws, rfl, hh2, q2⟩ := seqL_ok hs r1 e2
  have nn : s a ≠ none ∨ H a = none := .inl (by rw [e]; simp)
  exact ⟨a, b, us, ws, rx.ref', rfl, hh, hh2, by rw [q.length, q2.length, sizeLine_eq]; exact hl, k _ _ _ _ h (.put nn) (hs.put nn ⟨_, upd_same, (q.append q2).mono (.put nn)⟩) .non⟩
theorem le_extend (ho : LE X o to) (ha : LA X (e :: es) tas)
    (hbase : attributeBase o "extend" X.env (eval o X.env) = eval o X.env := by rfl)
    (hfew : ((backTo cpos (starEach (e :: es) X.env)).all (fun x => !x.1) && (backToKw cpos (keywordEach [] X.env)).all (fun x => x.1.isSome)
      && decide ((e :: es).length + ([] : List Keyword).length + (if ([] : List Keyword).isEmpty then 0 else 1) < 30)) = true := by rfl)
    (hline : (apos.endLine == cpos.line) = true := by rfl) (hs : starEach (e :: es) X.env = (false, eval e X.env) :: starEach es X.env := by rfl) (hplain : (backTo cpos (starEach es X.env)).any (·.1) = false := by rfl) :
    LE X (.Call (.Attribute o "extend" apos) (e :: es) [] cpos) (lBML rExtL to tas) := le_bml PySem.F.slot_list_extend PySem.F.type_list_extend mt_extend up_ext ho ha hbase hfew hline hs hplain
end
end L3

namespace L3
open PySem PySem.Spec L2
section
variable {X : Cx} [GG X.K] {K : PySem.W.Frag} [GG K] {s : LS} {H : Hp} {a b e o i : Expr} {es : List Expr} {pos : Pos} {ta tb te to ti : LTE} {tas : LTA}
variable {x : Str} {p : Pos}
theorem set_dict (hu : X.A.units + 1 < cLine) : PSet X (fun o i v H Q => ∃ a H', o = .ref a ∧ DPut H a i v H' ∧ Q H') := by
  intro pins s σ H o i v ov iv u Q I ro ri rv h
  obtain ⟨a, H', rfl, g, q⟩ := h
  cases ro
  exact d_setItem hu I g ri rv fun s' I' => ⟨H', I', q⟩
theorem PSet.or {t t' : TSet} (h : PSet X t) (h' : PSet X t') : PSet X (fun o i v H Q => t o i v H Q ∨ t' o i v H Q) := by
  intro pins s σ H o i v ov iv u Q I ro ri rv q
  rcases q with q | q
  · exact h pins s σ H o i v ov iv u Q I ro ri rv q
  · exact h' pins s σ H o i v ov iv u Q I ro ri rv q
def rSetL (x y v : LV) (s : LS) (Q : LS → Prop) : Prop := match x with
  | .ref a => (match s a, y with
    | some (.lst xs), .int k => opt (ixN xs.length k) fun j => Q (put s a (.lst (xs.set j v)))
    | some (.dK kvs), .int k => kvs.length < 16777216 ∧ Q (put s a (.dK (putD kvs (.inl k) v)))
    | some (.dK kvs), .str k => kvs.length < 16777216 ∧ Q (put s a (.dK (putD kvs (.inr k) v)))
    | some (.dT kvs), .tup ks => opt (keysL ks) fun k => kvs.length < 16777216 ∧ Q (put s a (.dT (putD kvs k v)))
    | _, _ => False)
  | _ => False
theorem RVd.any : ∀ {kvs : List (Key × LV)} {us : List (Key × V)} (k : Key), RVd K s H kvs us → (us.any fun p => decide (p.1 = k)) = (kvs.any fun p => decide (p.1 = k))
  | [], _, _, h => by cases h; rfl
  | (j, y) :: kvs, _, k, h => by
    obtain ⟨u, r, rfl, _, h2⟩ := h
    simp only [List.any_cons, RVd.any k h2]
theorem RVd.map : ∀ {kvs : List (Key × LV)} {us : List (Key × V)} (k : Key) {x : LV} {v : V}, RVd K s H kvs us → RV K s H x v → RVd K s H (kvs.map fun p => if p.1 = k then (p.1, x) else p) (us.map fun p => if p.1 = k then (p.1, v) else p)
  | [], _, _, _, _, h, _ => by cases h; rfl
  | (j, y) :: kvs, _, k, x, v, h, g => by
    obtain ⟨u, r, rfl, h1, h2⟩ := h
    simp only [List.map_cons]
    by_cases e : j = k
    · simp only [if_pos e]; exact ⟨v, _, rfl, g, RVd.map k h2 g⟩
    · simp only [if_neg e]; exact ⟨u, _, rfl, h1, RVd.map k h2 g⟩
theorem RVd.snoc : ∀ {kvs : List (Key × LV)} {us : List (Key × V)} (k : Key) {x : LV} {v : V}, RVd K s H kvs us → RV K s H x v → RVd K s H (kvs ++ [(k, x)]) (us ++ [(k, v)])
  | [], _, _, _, v, h, g => by cases h; exact ⟨v, [], rfl, g, rfl⟩
  | (j, y) :: kvs, _, k, x, v, h, g => by
    obtain ⟨u, r, rfl, h1, h2⟩ := h
    exact ⟨u, _, rfl, h1, RVd.snoc k h2 g⟩
theorem RVd.put {kvs : List (Key × LV)} {us : List (Key × V)} (k : Key) {x : LV} {v : V} (h : RVd K s H kvs us) (g : RV K s H x v) : RVd K s H (putD kvs k x) (putK us k v) := by
  unfold putD putK
  rw [h.any k]
  split
  · exact h.map k g
  · exact h.snoc k g
theorem RVk.any : ∀ {kvs : List (List Key × LV)} {us : List (List Key × V)} (k : List Key), RVk K s H kvs us → (us.any fun p => decide (p.1 = k)) = (kvs.any fun p => decide (p.1 = k))
  | [], _, _, h => by simp only [RVk] at h; subst h; rfl
  | (j, y) :: kvs, _, k, h => by
    simp only [RVk] at h
    obtain ⟨u, r, rfl, _, h2⟩ := h
    simp only [List.any_cons, RVk.any k h2]
theorem RVk.map : ∀ {kvs : List (List Key × LV)} {us : List (List Key × V)} (k : List Key) {x : LV} {v : V}, RVk K s H kvs us → RV K s H x v → RVk K s H (kvs.map fun p => if p.1 = k then (p.1, x) else p) (us.map fun p => if p.1 = k then (p.1, v) else p)
  | [], _, _, _, _, h, _ => by simp only [RVk] at h; subst h; simp only [List.map_nil, RVk]
  | (j, y) :: kvs, _, k, x, v, h, g => by
    simp only [RVk] at h
    obtain ⟨u, r, rfl, h1, h2⟩ := h
    simp only [List.map_cons]
    by_cases e : j = k
    · simp only [if_pos e, RVk]; exact ⟨v, _, rfl, g, RVk.map k h2 g⟩
    · simp only [if_neg e, RVk]; exact ⟨u, _, rfl, h1, RVk.map k h2 g⟩
theorem RVk.snoc : ∀ {kvs : List (List Key × LV)} {us : List (List Key × V)} (k : List Key) {x : LV} {v : V}, RVk K s H kvs us → RV K s H x v → RVk K s H (kvs ++ [(k, x)]) (us ++ [(k, v)])
  | [], _, _, _, v, h, g => by simp only [RVk] at h; subst h; simp only [List.nil_append, RVk]; exact ⟨v, [], rfl, g, rfl⟩
  | (j, y) :: kvs, _, k, x, v, h, g => by
    simp only [RVk] at h
    obtain ⟨u, r, rfl, h1, h2⟩ := h
    simp only [List.cons_append, RVk]
    exact ⟨u, _, rfl, h1, RVk.snoc k h2 g⟩
theorem RVk.put {kvs : List (List Key × LV)} {us : List (List Key × V)} (k : List Key) {x : LV} {v : V} (h : RVk K s H kvs us) (g : RV K s H x v) : RVk K s H (putD kvs k x) (putK us k v) := by
  unfold putD putK
  rw [h.any k]
  split
  · exact h.map k g
  · exact h.snoc k g
theorem up_set {x y v : V} {lx ly lv : LV} {Q0 : LS → Prop} {Q : Hp → Prop} (hs : RelS K s H) (rx : RV K s H lx x) (ry : RV K s H ly y) (rv : RV K s H lv v) (h : rSetL lx ly lv s Q0) (k : ∀ s' H', Q0 s' → Step s H s' H' → RelS K s' H' → Q H') :
    L2.rSetL x y v H Q ∨ ∃ a H', x = .ref a ∧ DPut H a y v H' ∧ Q H' := by
  cases lx with
  | ref a =>
    simp only [rSetL] at h
    split at h
    · next xs n e =>
      obtain ⟨j, ej, h⟩ := opt_ok h
      obtain ⟨us, hh, q⟩ := hs.lst e
      have nn : s a ≠ none ∨ H a = none := .inl (by rw [e]; simp)
      exact .inl ⟨a, us, n, j, rx.ref', ry.int', hh, by rw [q.length]; exact ej, k _ _ h (.put nn) (hs.put nn ⟨_, upd_same, (q.set j rv).mono (.put nn)⟩)⟩
    · next kvs n e =>
      obtain ⟨us, hh, q⟩ := hs a _ e
      have nn : s a ≠ none ∨ H a = none := .inl (by rw [e]; simp)
      refine .inr ⟨a, _, rx.ref', ?_, k _ _ h.2 (.put nn) (hs.put nn ⟨_, upd_same, (q.put (.inl n) rv).mono (.put nn)⟩)⟩
      rw [ry.int']
      exact DPut.k (k := .inl n) hh (by rw [q.length, sizeLine_eq]; exact h.1)
    · next kvs n e =>
      obtain ⟨us, hh, q⟩ := hs a _ e
      have nn : s a ≠ none ∨ H a = none := .inl (by rw [e]; simp)
      refine .inr ⟨a, _, rx.ref', ?_, k _ _ h.2 (.put nn) (hs.put nn ⟨_, upd_same, (q.put (.inr n) rv).mono (.put nn)⟩)⟩
      rw [ry.str']
      exact DPut.k (k := .inr n) hh (by rw [q.length, sizeLine_eq]; exact h.1)
    · next kvs ks e =>
      obtain ⟨kk, ek, hl, h⟩ := opt_ok h
      obtain ⟨us, hh, q⟩ := hs a _ e
      have nn : s a ≠ none ∨ H a = none := .inl (by rw [e]; simp)
      simp only [RV] at ry
      obtain ⟨t, ts, rfl, _, ht, rt⟩ := ry
      rw [keysL_ok ek rt] at ht
      exact .inr ⟨a, _, rx.ref', DPut.t hh ht (by rw [q.length, sizeLine_eq]; exact hl), k _ _ h (.put nn) (hs.put nn ⟨_, upd_same, (q.put kk rv).mono (.put nn)⟩)⟩
    · exact h.elim
  | _ => exact False.elim h
def lgSub (to ti : LTE) : LTG := fun v σ s Q E => to σ s (fun o s1 => ti σ s1 (fun i s2 => rSetL o i v s2 fun s3 => Q σ s3) E) E
theorem lg_sub (hu : X.A.units + 1 < cLine) (ho : LE X o to) (hi : LE X i ti) (ha : ∀ v, assign (.Subscript o i pos) X.env v = (do
      let ov ← holding [v] (eval o X.env)
      let iv ← holding [v, ov] (eval i X.env)
      standAt pos
      holding [v, ov, iv] (setItem ov iv v)
      release [v, ov, iv] []) := by intro _; rfl) : LG X (.Subscript o i pos) (lgSub to ti) := fun s0 H0 E tk =>
  (pg_sub (ho s0 H0 E tk) (hi s0 H0 E tk) (PSet.or set_list (set_dict hu)) ha).imp fun v σ H Q ⟨lv, σl, s, Q0, E1, hσ, hs, st, rv, hE, h, k⟩ => ⟨σl, s, _, E1, hσ, hs, st, hE, h, fun lx s1 x H1 h st1 hs1 rx =>
    ⟨σl, s1, _, E1, hσ.mono st1, hs1, st.trans st1, hE, h, fun ly s2 y H2 h st2 hs2 ry => up_set hs2 (rx.mono st2) ry (rv.mono (st1.trans st2)) h fun s3 H3 q st3 hs3 =>
      k _ _ _ _ q ((st1.trans st2).trans st3) hs3 (hσ.mono ((st1.trans st2).trans st3))⟩⟩

def lPairs (P : Addr) : List (Str × LTE) → LSt → LS → (List (Key × LV) → LS → Prop) → LX → Prop
  | [], _, s, Q, _ => Q [] s
  | (k, t) :: r, σ, s, Q, E => t σ s (fun v s1 => lPairs P r σ s1 (fun ps s2 => Q ((.inr k, v) :: ps) s2) E) E
/-- pairs with written texts as keys -/
structure LPP (X : Cx) [GG X.K] (pos : Pos) (keys : List (Option Expr)) (values : List Expr) (trs : List (Str × LTE)) : Prop where
  run : ∀ s0 H0 E, Takes X (WL X.K s0 H0 E) → PPs X pos keys values (trs.map fun p => (tC (.str p.1), up X.K s0 H0 E p.2))
theorem lpp_nil : LPP X pos [] [] [] := ⟨fun s0 H0 E tk => pps_nil⟩
theorem lpp_cons {z : Str} {j : Nat} {p2 : Pos} {ks : List (Option Expr)} {vs : List Expr} {trs : List (Str × LTE)} (hv : LE X e te) (hr : LPP X pos ks vs trs) : LPP X pos (some (.Constant (.str z) j p2) :: ks) (e :: vs) ((z, te) :: trs) :=
  ⟨fun s0 H0 E tk => pps_cons pe_str (hv s0 H0 E tk) (hr.run s0 H0 E tk)⟩
def lDisK (trs : List (Str × LTE)) : LTE := fun σ s Q E => ∀ p, s p = none → lPairs p trs σ (put s p (.dK [])) (fun kvs s2 => s2 p = some (.dK []) ∧ kvs.length ≤ 15 ∧ (kvs.map (·.1)).Nodup ∧ Q (.ref p) (put s2 p (.dK kvs))) E
theorem pairs_up {s0 : LS} {H0 : Hp} {E : LXS} {σ : St} {σl : LSt} {E1 : LX} {P : Addr} : ∀ {trs : List (Str × LTE)} {s : LS} {H : Hp} {Q0 : List (Key × LV) → LS → Prop} {Q : List (V × V) → Hp → Prop}, RSt K s H σl σ → RelS K s H → Step s0 H0 s H → (∀ C s', E1 C s' → E C σl s') →
    lPairs P trs σl s Q0 E1 → (∀ kvs s' us H', Q0 kvs s' → Step s H s' H' → RelS K s' H' → RVd K s' H' kvs us → Q (us.map fun p => (kV p.1, p.2)) H') → tPairs (trs.map fun p => (tC (.str p.1), up K s0 H0 E p.2)) σ H Q
  | [], s, H, Q0, Q, hσ, hs, st, hE, h, k => k _ _ [] _ h (.refl _ _) hs rfl
  | (z, t) :: r, s, H, Q0, Q, hσ, hs, st, hE, h, k => by
    refine ⟨σl, s, _, E1, hσ, hs, st, hE, h, fun lv s1 v H1 h st1 hs1 rv => ?_⟩
    exact pairs_up (trs := r) (hσ.mono st1) hs1 (st.trans st1) hE h fun kvs s2 us H2 q st2 hs2 r2 => k _ s2 ((.inr z, v) :: us) H2 q (st1.trans st2) hs2 ⟨v, us, rfl, rv.mono st2, r2⟩
theorem putK_snoc : ∀ {us : List (Key × V)} {k : Key} {v : V}, (∀ p ∈ us, p.1 ≠ k) → putK us k v = us ++ [(k, v)] := fun {us k v} h => by
  unfold putK
  rw [if_neg]
  intro e
  obtain ⟨p, hp, q⟩ := List.any_eq_true.mp e
  exact h p hp (of_decide_eq_true q)
theorem mergeK_app : ∀ (us acc : List (Key × V)), ((acc ++ us).map (·.1)).Nodup → mergeK acc us = acc ++ us
  | [], acc, _ => by simp [mergeK]
  | (k, v) :: us, acc, nd => by
    have e : mergeK acc ((k, v) :: us) = mergeK (putK acc k v) us := rfl
    rw [e, putK_snoc, mergeK_app us (acc ++ [(k, v)]) (by simpa using nd)]
    · simp
    · intro p hp z
      simp only [List.map_append, List.map_cons, List.nodup_append] at nd
      exact nd.2.2 p.1 (List.mem_map.mpr ⟨p, hp, rfl⟩) k (by simp) z
theorem mergeK_nd {us : List (Key × V)} (nd : (us.map (·.1)).Nodup) : mergeK [] us = us := by
  rw [mergeK_app us [] (by simpa using nd)]
  rfl
theorem RVd.keys : ∀ {kvs : List (Key × LV)} {us : List (Key × V)}, RVd K s H kvs us → us.map (·.1) = kvs.map (·.1)
  | [], _, h => by cases h; rfl
  | (j, y) :: kvs, _, h => by
    obtain ⟨u, r, rfl, _, h2⟩ := h
    simp [RVd.keys h2]
theorem le_disK {keys : List (Option Expr)} {values : List Expr} {trs : List (Str × LTE)} (h : LPP X pos keys values trs) (hall : keys.all (·.isSome) = true) (hl : keys.length = values.length) (h0 : keys ≠ []) (h15 : keys.length ≤ 15) :
    LE X (.Dict keys values pos) (lDisK trs) := fun s0 H0 E tk => (pe_disp (h.run s0 H0 E tk) hall hl h0 h15).imp fun σ H Q ⟨σl, s, Q0, E1, hσ, hs, st, hE, h, k⟩ => fun p np => by
  have st1 : Step s H (put s p (.dK [])) (upd H p (.dK [])) := .put (.inr np)
  have hs1 : RelS X.K (put s p (.dK [])) (upd H p (.dK [])) := hs.put (.inr np) ⟨[], upd_same, rfl⟩
  refine pairs_up (hσ.mono st1) hs1 (st.trans st1) hE (h p (hs.free np)) fun kvs s2 us H2 q st2 hs2 r2 => ?_
  obtain ⟨e, hl2, nd, q⟩ := q
  obtain ⟨ws, hh, r0⟩ := hs2 p _ e
  cases r0
  have nn : s2 p ≠ none ∨ H2 p = none := .inl (by rw [e]; simp)
  refine ⟨hh, us, rfl, ?_, ?_⟩
  · rw [r2.length]; exact hl2
  · rw [mergeK_nd (by rw [r2.keys]; exact nd)]
    exact k _ _ _ _ q ((st1.trans st2).trans (.put nn)) (hs2.put nn ⟨us, upd_same, r2.mono (.put nn)⟩) .ref
end
end L3

namespace L3
open PySem PySem.Spec L2
section
variable {X : Cx} [GG X.K] {K : PySem.W.Frag} [GG K] {s : LS} {H : Hp} {a b e o i : Expr} {es : List Expr} {pos : Pos} {ta tb te to ti : LTE} {tas : LTA} {tg : Expr}
variable {x : Str} {p : Pos}
/-- a list, a tuple, the script: its items; a list in the store stands still -/
def iSeq (te : LTE) : LTI := fun σ s Q E => te σ s (fun x s1 => match x with
  | .ref a => (match s1 a with
    | some (.lst xs) => Q xs (fun s2 => s2 a = some (.lst xs)) s1
    | _ => False)
  | _ => opt (seqR x s1) fun xs => Q xs (fun _ => True) s1) E
def iTupl (te : LTE) : LTI := fun σ s Q E => te σ s (fun x s1 => match x with
  | .tup xs => Q xs (fun _ => True) s1
  | _ => False) E
theorem it_list {J : Addr} {xs : List LV} {stb : LS → Prop} {s1 : LS} {H1 : Hp} (h : ∀ s H, Step s1 H1 s H → RelS K s H → stb s → ∃ us, SqL K H J us ∧ RVs K s H xs us) : ItR K (Itl K J) xs stb s1 H1 where
  go := fun i s H hi st hs b => by
    obtain ⟨us, q, r⟩ := h s H st hs b
    exact ⟨us, us[i]'(by rw [r.length]; exact hi), q, by simp⟩
  stop := fun s H st hs b => by
    obtain ⟨us, q, r⟩ := h s H st hs b
    exact ⟨us, q, by rw [r.length]; exact Nat.le_refl _⟩
  yld := fun i s H x H' hi st hs b y => by
    obtain ⟨us, q, r⟩ := h s H st hs b
    obtain ⟨rfl, y⟩ := y
    obtain ⟨lx, e1, e2⟩ := r.get' (y us q)
    exact ⟨lx, e1, e2, .refl _ _, hs⟩
theorem li_seq (he : LE X e te) : LI X tg e (iSeq te) := fun s0 H0 E tk => (pi_list (he s0 H0 E tk)).imp fun σ H R ⟨σl, s, Q0, E1, hσ, hs, st, hE, h, k⟩ => ⟨σl, s, _, E1, hσ, hs, st, hE, h, fun lx s1 x H1 h st1 hs1 rx => by
  have frozen : opt (seqR lx s1) (fun xs => Q0 xs (fun _ => True) s1) → (∀ s2 xs, seqR lx s1 = some xs → seqR lx s2 = some xs) → ∃ a, x = .ref a ∧ (∃ xs, SqL X.K H1 a xs) ∧ R (Itl X.K a) H1 := fun h same => by
    obtain ⟨xs, e, h⟩ := opt_ok h
    obtain ⟨a, us, rfl, hh, r⟩ := seqR_ok hs1 rx e
    exact ⟨a, rfl, ⟨us, hh⟩, k _ _ _ _ _ h st1 hs1 (it_list fun s2 H2 st2 hs2 _ => by
      obtain ⟨a', us', ea, hh', r'⟩ := seqR_ok hs2 (rx.mono st2) (same s2 xs e)
      cases ea
      exact ⟨us', hh', r'⟩)⟩
  cases lx with
  | ref a =>
    simp only at h
    split at h
    · next xs e =>
      obtain ⟨us, hh, r⟩ := hs1.lst e
      exact ⟨a, rx.ref', ⟨us, SqL.of hh⟩, k _ _ _ _ _ h st1 hs1 (it_list fun s2 H2 st2 hs2 b => by
        obtain ⟨us2, hh2, r2⟩ := hs2.lst b
        exact ⟨us2, SqL.of hh2, r2⟩)⟩
    · exact h.elim
  | lst xs => exact frozen h fun _ _ e => e
  | scr xs => exact frozen h fun _ _ e => e
  | _ => exact False.elim h⟩
theorem li_tup (he : LE X e te) : LI X tg e (iTupl te) := fun s0 H0 E tk => (pi_tup (he s0 H0 E tk)).imp fun σ H R ⟨σl, s, Q0, E1, hσ, hs, st, hE, h, k⟩ => ⟨σl, s, _, E1, hσ, hs, st, hE, h, fun lx s1 x H1 h st1 hs1 rx => by
  cases lx with
  | tup xs =>
    have rx0 := rx
    simp only [RV] at rx
    obtain ⟨a, us, rfl, n, hh, r⟩ := rx
    refine ⟨a, rfl, ⟨us, SqT.of hh⟩, k _ _ _ _ _ h st1 hs1 ?_⟩
    have go : ∀ s2 H2, Step s1 H1 s2 H2 → H2 a = some (.tup us) ∧ RVs X.K s2 H2 xs us := fun s2 H2 st2 => by
      obtain ⟨⟨o', h', q⟩, _⟩ := st2 a _ hh n
      rw [q.tup] at h'
      exact ⟨h', r.mono st2⟩
    refine ⟨fun i s2 H2 hi st2 hs2 _ => ⟨us, us[i]'(by rw [r.length]; exact hi), SqT.of (go s2 H2 st2).1, by simp⟩, fun s2 H2 st2 hs2 _ => ⟨us, SqT.of (go s2 H2 st2).1, by rw [r.length]; exact Nat.le_refl _⟩, fun i s2 H2 y H3 hi st2 hs2 _ hy => ?_⟩
    obtain ⟨rfl, hy⟩ := hy
    obtain ⟨lx, e1, e2⟩ := (go s2 _ st2).2.get' (hy us (SqT.of (go s2 _ st2).1))
    exact ⟨lx, e1, e2, .refl _ _, hs2⟩
  | _ => exact False.elim h⟩
/-- range -/
theorem rgL_get {lo hi : Int} {i : Nat} (h : i < (hi - lo).toNat) : (rgL lo hi)[i]? = some (.int (lo + (i : Nat))) := by
  unfold rgL
  simp [h]
theorem rgL_len {lo hi : Int} : (rgL lo hi).length = (hi - lo).toNat := by unfold rgL; simp
theorem it_range {lo hi : Int} {s1 : LS} {H1 : Hp} : ItR K (Itr lo (hi - lo).toNat) (rgL lo hi) (fun _ => True) s1 H1 where
  go := fun i s H h _ _ _ => by rw [rgL_len] at h; exact h
  stop := fun s H _ _ _ => by rw [rgL_len]; exact Nat.le_refl _
  yld := fun i s H x H' h st hs _ y => by
    rw [rgL_len] at h
    obtain ⟨rfl, rfl⟩ := y
    exact ⟨_, rgL_get h, .int, .refl _ _, hs⟩
def isInt (x : LV) (k : Int → Prop) : Prop := match x with
  | .int i => k i
  | _ => False
theorem isInt_ok {x : LV} {k : Int → Prop} (h : isInt x k) : ∃ i, x = .int i ∧ k i := by
  cases x <;> first | exact ⟨_, rfl, h⟩ | exact h.elim
def two2 (vs : List LV) (k : LV → LV → Prop) : Prop := match vs with
  | [x, y] => k x y
  | _ => False
theorem two2_ok {vs : List LV} {k : LV → LV → Prop} (h : two2 vs k) : ∃ x y, vs = [x, y] ∧ k x y := by
  rcases vs with _ | ⟨x, _ | ⟨c, _ | ⟨d, l⟩⟩⟩
  · exact h.elim
  · exact h.elim
  · exact ⟨x, c, rfl, h⟩
  · exact h.elim
def iRg1 (ta : LTA) : LTI := fun σ s Q E => ta σ s (fun vs s1 => one1 vs fun x => isInt x fun j => -(2 ^ 62) ≤ j ∧ j < 2 ^ 62 ∧ Q (rgL 0 j) (fun _ => True) s1) E
def iRg2 (ta : LTA) : LTI := fun σ s Q E => ta σ s (fun vs s1 => two2 vs fun x y => isInt x fun i => isInt y fun j => (-(2 ^ 62) ≤ i ∧ i < 2 ^ 62 ∧ -(2 ^ 62) ≤ j ∧ j < 2 ^ 62) ∧ Q (rgL i j) (fun _ => True) s1) E
theorem li_range1 (hg : Gl X "range") (hm : X.mg "range" = none) (ha : LA X [a] tas) (hs : starEach [a] X.env = [(false, eval a X.env)] := by rfl) : LI X tg (.Call (.Name "range" p) [a] [] pos) (iRg1 tas) := fun s0 H0 E tk =>
  (pi_range1 hg hm (ha s0 H0 E tk) hs).imp fun σ H R ⟨σl, s, Q0, E1, hσ, hs, st, hE, h, k⟩ => ⟨σl, s, _, E1, hσ, hs, st, hE, h, fun lvs s1 vs H1 h st1 hs1 rs => by
    obtain ⟨lx, rfl, h⟩ := one1_ok h
    obtain ⟨j, rfl, h1, h2, h⟩ := isInt_ok h
    obtain ⟨v, rfl, r⟩ := rs.one
    exact ⟨j, by rw [r.int'], h1, h2, k _ _ _ _ _ h st1 hs1 (by have q := it_range (K := X.K) (lo := 0) (hi := j) (s1 := s1) (H1 := H1); rw [Int.sub_zero] at q; exact q)⟩⟩
theorem li_range2 (hg : Gl X "range") (hm : X.mg "range" = none) (ha : LA X [a, b] tas) (hs : starEach [a, b] X.env = [(false, eval a X.env), (false, eval b X.env)] := by rfl) (hs2 : starEach [b] X.env = [(false, eval b X.env)] := by rfl) :
    LI X tg (.Call (.Name "range" p) [a, b] [] pos) (iRg2 tas) := fun s0 H0 E tk =>
  (pi_range2 hg hm (ha s0 H0 E tk) hs hs2).imp fun σ H R ⟨σl, s, Q0, E1, hσ, hs, st, hE, h, k⟩ => ⟨σl, s, _, E1, hσ, hs, st, hE, h, fun lvs s1 vs H1 h st1 hs1 rs => by
    obtain ⟨lx, ly, rfl, h⟩ := two2_ok h
    obtain ⟨i, rfl, h⟩ := isInt_ok h
    obtain ⟨j, rfl, hb, h⟩ := isInt_ok h
    obtain ⟨v, w, rfl, r1, r2⟩ := rs.two
    exact ⟨i, j, by rw [r1.int', r2.int'], hb, k _ _ _ _ _ h st1 hs1 it_range⟩⟩
/-- enumerate, zip: new pairs -/
theorem it_pairs {J : It} {xs ys : List LV} {n : Nat} {stb : LS → Prop} {s1 : LS} {H1 : Hp} (hn : n = min xs.length ys.length)
    (hg : ∀ i s H, i < n → Step s1 H1 s H → RelS K s H → stb s → J.go i H) (hst : ∀ s H, Step s1 H1 s H → RelS K s H → stb s → J.stop n H)
    (hy : ∀ i s H v H', i < n → Step s1 H1 s H → RelS K s H → stb s → J.yld i H v H' → ∃ T x y lx ly, v = .ref T ∧ H T = none ∧ H' = upd H T (.tup [x, y]) ∧ xs[i]? = some lx ∧ ys[i]? = some ly ∧ RV K s H lx x ∧ RV K s H ly y) :
    ItR K J ((xs.zip ys).map fun p => .tup [p.1, p.2]) stb s1 H1 := by
  have hl : ((xs.zip ys).map fun p => LV.tup [p.1, p.2]).length = n := by rw [List.length_map, List.length_zip, hn]
  refine ⟨fun i s H h => hg i s H (by omega), fun s H => by rw [hl]; exact hst s H, fun i s H x H' h st hs b y => ?_⟩
  obtain ⟨T, x, y, lx, ly, rfl, nT, rfl, e1, e2, r1, r2⟩ := hy i s H x H' (by omega) st hs b y
  refine ⟨.tup [lx, ly], ?_, RVs.tupAt hs nT (.cons r1 (.cons r2 .nil)), .new hs nT, hs.new nT⟩
  rw [List.getElem?_map, List.getElem?_zip_eq_some (z := (lx, ly)) |>.mpr ⟨e1, e2⟩]
  rfl
def stbOf (x : LV) (xs : List LV) : LS → Prop := match x with
  | .ref a => fun s => s a = some (.lst xs)
  | _ => fun _ => True
theorem seq_later {lx : LV} {xs : List LV} {s1 s2 : LS} {H1 H2 : Hp} {v : V} (rx : RV K s1 H1 lx v) (hs1 : RelS K s1 H1) (e : seqR lx s1 = some xs) (st : Step s1 H1 s2 H2) (hs2 : RelS K s2 H2) (b : stbOf lx xs s2) :
    ∃ a us, v = .ref a ∧ SqL K H2 a us ∧ RVs K s2 H2 xs us := by
  cases lx with
  | ref a =>
    obtain ⟨us, hh, r⟩ := hs2.lst b
    exact ⟨a, us, rx.ref', SqL.of hh, r⟩
  | lst ys => exact seqR_ok hs2 (rx.mono st) e
  | scr ys => exact seqR_ok hs2 (rx.mono st) e
  | _ => cases e
def iEnumL (ta : LTA) : LTI := fun σ s Q E => ta σ s (fun vs s1 => one1 vs fun x => opt (seqR x s1) fun xs => Q ((rgL 0 xs.length).zip xs |>.map fun p => .tup [p.1, p.2]) (stbOf x xs) s1) E
def iZipL (ta : LTA) : LTI := fun σ s Q E => ta σ s (fun vs s1 => two2 vs fun x y => opt (seqR x s1) fun xs => opt (seqR y s1) fun ys => Q ((xs.zip ys).map fun p => .tup [p.1, p.2]) (fun s2 => stbOf x xs s2 ∧ stbOf y ys s2) s1) E
theorem li_enum {elts : List Expr} {kk : Nat} {tpos : Pos} (hg : Gl X "enumerate") (hm : X.mg "enumerate" = none) (ha : LA X [a] tas) (hs : starEach [a] X.env = [(false, eval a X.env)] := by rfl) :
    LI X (.Tuple elts kk tpos) (.Call (.Name "enumerate" p) [a] [] pos) (iEnumL tas) := fun s0 H0 E tk =>
  (pi_enum hg hm (ha s0 H0 E tk) hs).imp fun σ H R ⟨σl, s, Q0, E1, hσ, hs, st, hE, h, k⟩ => ⟨σl, s, _, E1, hσ, hs, st, hE, h, fun lvs s1 vs H1 h st1 hs1 rs => by
    obtain ⟨lx, rfl, h⟩ := one1_ok h
    obtain ⟨xs, e, h⟩ := opt_ok h
    obtain ⟨v, rfl, rx⟩ := rs.one
    obtain ⟨q, us, rfl, hh, r⟩ := seqR_ok hs1 rx e
    refine ⟨q, us, rfl, hh, k _ _ _ _ _ h st1 hs1 (it_pairs (n := xs.length) (by rw [rgL_len]; omega) (fun i s2 H2 hi st2 hs2 b => ?_) (fun s2 H2 st2 hs2 b => ?_) fun i s2 H2 v H' hi st2 hs2 b y => ?_)⟩
    · obtain ⟨q', us', eq, hh', r'⟩ := seq_later rx hs1 e st2 hs2 b
      cases eq
      exact ⟨us', us'[i]'(by rw [r'.length]; exact hi), hh', by simp⟩
    · obtain ⟨q', us', eq, hh', r'⟩ := seq_later rx hs1 e st2 hs2 b
      cases eq
      exact ⟨us', hh', by rw [r'.length]; exact Nat.le_refl _⟩
    · obtain ⟨q', us', eq, hh', r'⟩ := seq_later rx hs1 e st2 hs2 b
      cases eq
      obtain ⟨T, x, rfl, nT, rfl, hx⟩ := y
      obtain ⟨lx, e1, e2⟩ := r'.get' (hx us' hh')
      exact ⟨T, .int (i : Nat), x, .int ((i : Nat) : Int), lx, rfl, nT, rfl, by rw [rgL_get (by omega), Int.zero_add], e1, .int, e2⟩⟩
theorem li_zip {elts : List Expr} {kk : Nat} {tpos : Pos} (hg : Gl X "zip") (hm : X.mg "zip" = none) (ha : LA X [a, b] tas) (hs : starEach [a, b] X.env = (false, eval a X.env) :: starEach [b] X.env := by rfl) (hpl : (backTo pos (starEach [b] X.env)).any (·.1) = false := by rfl) :
    LI X (.Tuple elts kk tpos) (.Call (.Name "zip" p) [a, b] [] pos) (iZipL tas) := fun s0 H0 E tk =>
  (pi_zip hg hm (ha s0 H0 E tk) hs hpl).imp fun σ H R ⟨σl, s, Q0, E1, hσ, hs, st, hE, h, k⟩ => ⟨σl, s, _, E1, hσ, hs, st, hE, h, fun lvs s1 vs H1 h st1 hs1 rs => by
    obtain ⟨lx, ly, rfl, h⟩ := two2_ok h
    obtain ⟨xs, e1, h⟩ := opt_ok h
    obtain ⟨ys, e2, h⟩ := opt_ok h
    obtain ⟨v, w, rfl, rx, ry⟩ := rs.two
    obtain ⟨q, us, rfl, hh, r⟩ := seqR_ok hs1 rx e1
    obtain ⟨q2, us2, rfl, hh2, r2⟩ := seqR_ok hs1 ry e2
    refine ⟨q, q2, us, us2, rfl, hh, hh2, k _ _ _ _ _ h st1 hs1 (it_pairs (n := min xs.length ys.length) rfl (fun i s2 H2 hi st2 hs2 b => ?_) (fun s2 H2 st2 hs2 b => ?_) fun i s2 H2 v H' hi st2 hs2 b y => ?_)⟩
    · obtain ⟨q', us', eq, hh', r'⟩ := seq_later rx hs1 e1 st2 hs2 b.1
      cases eq
      obtain ⟨q', us2', eq, hh2', r2'⟩ := seq_later ry hs1 e2 st2 hs2 b.2
      cases eq
      exact ⟨us', us2', us'[i]'(by rw [r'.length]; omega), us2'[i]'(by rw [r2'.length]; omega), hh', hh2', by simp, by simp⟩
    · obtain ⟨q', us', eq, hh', r'⟩ := seq_later rx hs1 e1 st2 hs2 b.1
      cases eq
      obtain ⟨q', us2', eq, hh2', r2'⟩ := seq_later ry hs1 e2 st2 hs2 b.2
      cases eq
      exact ⟨us', us2', hh', hh2', by rw [r'.length, r2'.length]; omega⟩
    · obtain ⟨q', us', eq, hh', r'⟩ := seq_later rx hs1 e1 st2 hs2 b.1
      cases eq
      obtain ⟨q', us2', eq, hh2', r2'⟩ := seq_later ry hs1 e2 st2 hs2 b.2
      cases eq
      obtain ⟨T, x, z, rfl, nT, rfl, hx, hz⟩ := y
      obtain ⟨lx, f1, f2⟩ := r'.get' (hx us' hh')
      obtain ⟨lz, g1, g2⟩ := r2'.get' (hz us2' hh2')
      exact ⟨T, x, z, lx, lz, rfl, nT, rfl, f1, g1, f2, g2⟩⟩

/-- targets of a comprehension: a name, names; the slots is are its own -/
inductive CTg : Type where
  | one (i : Nat)
  | many (is : List Nat)
def CTg.real (K : PySem.W.Frag) : CTg → TG
  | .one i => gName i
  | .many is => gTup K is.length (gNames is)
def CTg.lift : CTg → LTG
  | .one i => lgName i
  | .many is => lgTup is
def CTg.slots : CTg → List Nat
  | .one i => [i]
  | .many is => is
def lwipe (σ : LSt) : List Nat → LSt
  | [] => σ
  | v :: vs => (lwipe σ vs).set v none
theorem RSt.wipe {σl : LSt} {σ : St} (h : RSt K s H σl σ) : ∀ vs : List Nat, RSt K s H (lwipe σl vs) (L2.wipe σ vs)
  | [] => h
  | v :: vs => (RSt.wipe h vs).setN v none
theorem wipe_set {σ : St} {i : Nat} {v : Option V} : ∀ {vs : List Nat}, i ∈ vs → L2.wipe (σ.set i v) vs = L2.wipe σ vs
  | w :: vs, h => by
    simp only [L2.wipe]
    have com : ∀ (vs : List Nat), L2.wipe (σ.set i v) vs = (L2.wipe σ vs).set i v ∨ L2.wipe (σ.set i v) vs = L2.wipe σ vs := by
      intro vs
      induction vs with
      | nil => exact .inl rfl
      | cons w vs ih =>
        simp only [L2.wipe]
        rcases ih with ih | ih
        · rw [ih]
          by_cases e : i = w
          · subst e; right; rw [List.set_set]
          · left; rw [List.set_comm _ _ e]
        · right; rw [ih]
    rcases com vs with e | e
    · rw [e]
      by_cases q : i = w
      · subst q; rw [List.set_set]
      · rcases List.mem_cons.mp h with z | z
        · exact absurd z q
        · have := wipe_set (σ := σ) (v := v) z
          rw [← e, this]
    · rw [e]
theorem wipe_idem {σ : St} {vs : List Nat} : ∀ {ws : List Nat}, (∀ i ∈ ws, i ∈ vs) → L2.wipe (L2.wipe σ ws) vs = L2.wipe σ vs
  | [], _ => rfl
  | w :: ws, h => by
    show L2.wipe ((L2.wipe σ ws).set w none) vs = _
    rw [wipe_set (h w (by simp)), wipe_idem fun i hi => h i (by simp [hi])]
/-- a heap without what stands at an address -/
def cutH (H : Hp) (D : Addr) : Hp := fun b => if b = D then none else H b
theorem cutH_same {D : Addr} : cutH H D D = none := by unfold cutH; rw [if_pos rfl]
theorem cutH_ne {D b : Addr} (h : b ≠ D) : cutH H D b = H b := by unfold cutH; rw [if_neg h]
theorem cutH_upd {D : Addr} {u : HO} (h : H D = some u) : upd (cutH H D) D u = H := by
  funext b
  by_cases e : b = D
  · subst e; rw [upd_same, h]
  · rw [upd_ne e, cutH_ne e]
theorem cutH_step {D : Addr} {o : LO} (e : s D = some o) : Step s H (del s D) (cutH H D) := fun b u hb nb => by
  have ne : b ≠ D := by rintro rfl; rw [e] at nb; cases nb
  rw [cutH_ne ne]
  exact ⟨⟨u, hb, .refl u⟩, by unfold L3.del; rw [if_neg ne]; exact nb⟩
theorem cutH_rel {D : Addr} {o : LO} (hs : RelS K s H) (e : s D = some o) : RelS K (del s D) (cutH H D) := fun b v hb => by
  by_cases q : b = D
  · subst q; unfold L3.del at hb; rw [if_pos rfl] at hb; cases hb
  · unfold L3.del at hb
    rw [if_neg q] at hb
    exact (hs b v hb).mono (cutH_step e) fun u z => by rw [cutH_ne q]; exact z
theorem gNames_wipe {Q : St → Hp → Prop} {vs : List Nat} : ∀ {is : List Nat} {us : List V} {σ : St}, (∀ i ∈ is, i ∈ vs) → gNames is us σ H Q → gNames is us σ H (fun σ2 H2 => L2.wipe σ2 vs = L2.wipe σ vs ∧ Q σ2 H2)
  | [], _, _, _, ⟨e, q⟩ => ⟨e, rfl, q⟩
  | i :: is, _, σ, hm, ⟨v, r, e, q⟩ => by
    refine ⟨v, r, e, ?_⟩
    have z := gNames_wipe (is := is) (us := r) (σ := σ.set i (some v)) (vs := vs) (fun j hj => hm j (by simp [hj])) q
    rw [wipe_set (hm i (by simp))] at z
    exact z
theorem ctg_wipe {g : CTg} {v : V} {σ : St} {Q : St → Hp → Prop} {vs : List Nat} (hm : ∀ i ∈ g.slots, i ∈ vs) (h : g.real K v σ H Q) : g.real K v σ H (fun σ2 H2 => L2.wipe σ2 vs = L2.wipe σ vs ∧ Q σ2 H2) := by
  cases g with
  | one i => exact ⟨wipe_set (hm i (by simp [CTg.slots])), h⟩
  | many is =>
    obtain ⟨a, xs, e, h1, h2, h⟩ := h
    exact ⟨a, xs, e, h1, h2, gNames_wipe hm h⟩
/-- the target's reading -/
theorem ctg_up {g : CTg} {lv : LV} {v : V} {σl : LSt} {σ : St} {Q0 : LSt → LS → Prop} {Q : St → Hp → Prop} {E : LX} (hσ : RSt K s H σl σ) (hs : RelS K s H) (rv : RV K s H lv v) (h : g.lift lv σl s Q0 E) (k : ∀ σl' σ', Q0 σl' s → RSt K s H σl' σ' → Q σ' H) : g.real K v σ H Q := by
  cases g with
  | one i => exact k _ _ h (hσ.set i rv)
  | many is =>
    cases lv with
    | tup xs =>
      simp only [CTg.lift, lgTup] at h
      simp only [RV] at rv
      obtain ⟨a, us, rfl, n, hh, r⟩ := rv
      split at h
      · next σ' e => exact ⟨a, us, rfl, SqT.of hh, by rw [r.length, lSets_len e], gNames_ok hσ r e fun σ2 q => k _ _ h q⟩
      · exact h.elim
    | _ => exact False.elim h
def noX : LXS := fun _ _ _ => False
theorem takes_no {X : Cx} [GG X.K] {K : PySem.W.Frag} [GG K] {s0 : LS} {H0 : Hp} : Takes X (WL K s0 H0 noX) := fun u s' x => by
  obtain ⟨_, _, _, _, _, _, _, _, _, _, _, _, _, _, _, _, w⟩ := x
  obtain ⟨_, _, _, _, _, _, _, _, z⟩ := w
  exact z.elim
def lYes : LTT := fun _ s Q _ => Q true s
/-- the loop of a comprehension whose list stands at D -/
def lcLoop (D : Addr) (g : CTg) (tt : LTT) (te : LTE) (stb : LS → Prop) (σw : LSt) (Q : List LV → LS → Prop) : List LV → LS → Prop
  | [], s => stb s ∧ match s D with
    | some (.lst acc) => Q acc (del s D)
    | _ => False
  | x :: xs, s => stb s ∧ g.lift x σw s (fun σ2 s2 => tt σ2 s2 (fun b s3 => (b = true → te σ2 s3 (fun y s4 => match s4 D with
      | some (.lst acc) => acc.length < 16777216 ∧ lcLoop D g tt te stb σw Q xs (put s4 D (.lst (acc ++ [y])))
      | _ => False) fun _ _ => False) ∧ (b = false → lcLoop D g tt te stb σw Q xs s3)) fun _ _ => False) fun _ _ => False
def lLc (it : LTI) (g : CTg) (tt : LTT) (te : LTE) (vs : List Nat) : LTL := fun σ s Q E => it σ s (fun xs stb s1 => ∀ D, s1 D = none → lcLoop D g tt te stb (lwipe σ vs) Q xs (put s1 D (.lst []))) E
def LTs (X : Cx) [GG X.K] (ifs : List Expr) (t : LTT) : Prop := ∀ s0 H0 E, Takes X (WL X.K s0 H0 E) → PTs X ifs (upT X.K s0 H0 E t)
theorem lts_nil : LTs X [] lYes := fun s0 H0 E tk => ⟨fun pins si σ H Q I ⟨σl, s, Q0, E1, hσ, hs, st, hE, h, k⟩ => pts_nil.run pins si σ H Q I (k _ _ _ h (.refl _ _) hs)⟩
theorem lts_one {c : Expr} {t : LTT} (h : LT X c t) : LTs X [c] t := fun s0 H0 E tk => pts_one (h s0 H0 E tk)
theorem lcLoop_stb {D : Addr} {g : CTg} {tt : LTT} {te : LTE} {stb : LS → Prop} {σw : LSt} {Q : List LV → LS → Prop} : ∀ {xs : List LV} {s : LS}, lcLoop D g tt te stb σw Q xs s → stb s
  | [], _, h => h.1
  | _ :: _, _, h => h.1
theorem lc_imp {it : LTI} {g : CTg} {tt : LTT} {te : LTE} {own : List (Str × Nat)} {s0 : LS} {H0 : Hp} {E : LXS} (hm : ∀ i ∈ g.slots, i ∈ own.map (·.2)) : ∀ σ H Q, upL X.K s0 H0 E (lLc it g tt te (own.map (·.2))) σ H Q →
    tLc (upI X.K s0 H0 E it) (g.real X.K) (upT X.K s0 H0 noX tt) (up X.K s0 H0 noX te) (own.map (·.2)) σ H Q :=
  fun σ H Q ⟨σl, s, Q0, E1, hσ, hs, st, hE, h, k⟩ => by
    refine ⟨σl, s, _, E1, hσ, hs, st, hE, h, fun xs stb s1 H1 J h st1 hs1 itr => fun D nD => ?_⟩
    have hD := hs1.free nD
    have st2 : Step s1 H1 (put s1 D (.lst [])) (upd H1 D (.lst [])) := .put (.inr nD)
    have hs2 : RelS X.K (put s1 D (.lst [])) (upd H1 D (.lst [])) := hs1.put (.inr nD) ⟨[], upd_same, .nil⟩
    refine ⟨fun i m H' => ∃ s', RelS X.K s' H' ∧ Step s1 H1 s' H' ∧ m = xs.length - i ∧ i ≤ xs.length ∧ lcLoop D g tt te stb (lwipe σl (own.map (·.2))) Q0 (xs.drop i) s', ⟨xs.length, _, hs2, st2, by simp, Nat.zero_le _, h D hD⟩, ?_⟩
    rintro i m H3 ⟨s3, hs3, st3, rfl, hi, h3⟩
    have st13 := st1.trans st3
    by_cases hlt : i < xs.length
    · rw [List.drop_eq_getElem_cons hlt] at h3
      refine .inr ⟨itr.go i s3 H3 hlt st3 hs3 h3.1, fun H' => ∃ s', RelS X.K s' H' ∧ Step s1 H1 s' H' ∧ lcLoop D g tt te stb (lwipe σl (own.map (·.2))) Q0 (xs.drop (i + 1)) s', fun H' ⟨s', q1, q2, q3⟩ => ⟨xs.length - (i + 1), by omega, s', q1, q2, rfl, hlt, q3⟩, fun x H4 y => ?_⟩
      obtain ⟨lx, ex, rx, st4, hs4⟩ := itr.yld i s3 H3 x H4 hlt st3 hs3 h3.1 y
      rw [List.getElem?_eq_getElem hlt] at ex
      cases ex
      have st14 := st13.trans st4
      rw [← wipe_idem (σ := σ) (vs := own.map (·.2)) (ws := own.map (·.2)) fun i hi => hi]
      have wi : ∀ Q, g.real X.K x (L2.wipe σ (own.map (·.2))) H4 Q → g.real X.K x (L2.wipe (L2.wipe σ (own.map (·.2))) (own.map (·.2))) H4 Q := fun Q h => by rw [wipe_idem fun i hi => hi]; exact h
      refine wi _ (ctg_wipe hm (ctg_up ((hσ.mono st14).wipe _) hs4 rx h3.2 fun σl5 σ5 h5 hσ5 => ?_))
      refine ⟨σl5, s3, _, _, hσ5, hs4, (st.trans st14), fun C s' z => z, h5, fun b s6 H6 h6 st6 hs6 => ?_⟩
      have st46 := st4.trans st6
      cases b with
      | true =>
        refine iteT ⟨σl5, s6, _, _, hσ5.mono st6, hs6, (st.trans st14).trans st6, fun C s' z => z, h6.1 rfl, fun ly s7 y H7 h7 st7 hs7 ry => ?_⟩
        have st17 := (st3.trans st46).trans st7
        split at h7
        · next acc eD =>
          obtain ⟨us, hh, r⟩ := hs7.lst eD
          have nn : s7 D ≠ none ∨ H7 D = none := .inl (by rw [eD]; simp)
          exact ⟨us, hh, by rw [r.length, sizeLine_eq]; exact h7.1, put s7 D (.lst (acc ++ [ly])), hs7.put nn ⟨_, upd_same, (r.append (.cons ry .nil)).mono (.put nn)⟩, st17.trans (.put nn), h7.2⟩
        · exact h7.elim
      | false => exact iteF ⟨s6, hs6, st3.trans st46, h6.2 rfl⟩
    · have ei : i = xs.length := by omega
      subst ei
      rw [List.drop_length] at h3
      obtain ⟨b3, h3⟩ := h3
      refine .inl ⟨itr.stop s3 H3 st3 hs3 b3, ?_⟩
      split at h3
      · next acc eD =>
        obtain ⟨us, hh, r⟩ := hs3.lst eD
        have stc : Step s3 H3 (del s3 D) (cutH H3 D) := cutH_step eD
        have z := k acc (del s3 D) us (cutH H3 D) h3 (st13.trans stc) (cutH_rel hs3 eD) (r.mono stc) D cutH_same
        rw [cutH_upd hh] at z
        exact z
      · exact h3.elim
theorem ll_lc {elt iter : Expr} {ifs : List Expr} {scope : Scope} {own : List (Str × Nat)} {it : LTI} {g : CTg} {tt : LTT} {te : LTE} (hc : X.calm = true) (hN : X.N.Nodup) (hi : LI X tg iter it) (ok : BlkOk X.N X.env.scope scope own) (hm : ∀ i ∈ g.slots, i ∈ own.map (·.2))
    (hg : ∀ (s : Shared) (H : Hp) (C : Addr) (cl : List (Str × Addr)) (fp : List Addr), PG (X.blk s H scope (compEnvC scope cl C X.env) fp) tg (g.real X.K)) (ht : ∀ (s : Shared) (H : Hp) (C : Addr) (cl : List (Str × Addr)) (fp : List Addr), LTs (X.blk s H scope (compEnvC scope cl C X.env) fp) ifs tt)
    (he : ∀ (s : Shared) (H : Hp) (C : Addr) (cl : List (Str × Addr)) (fp : List Addr), LE (X.blk s H scope (compEnvC scope cl C X.env) fp) elt te) (hs : ∀ x, foldedSetIterable iter X.env x = pure x := by intro _; rfl) :
    LL X (.ListComp elt [⟨tg, iter, ifs, 0⟩] scope pos) (lLc it g tt te (own.map (·.2))) := fun s0 H0 E tk =>
  (pe_lc (g := g.real X.K) (tt := upT X.K s0 H0 noX tt) (te := up X.K s0 H0 noX te) hc hN (hi s0 H0 E tk) ok hg (fun s H C cl fp => ht s H C cl fp s0 H0 noX takes_no) (fun s H C cl fp => he s H C cl fp s0 H0 noX takes_no) hs).imp (lc_imp hm)
/-- name = [..] -/
theorem lp_setLcF {i : Nat} {y : Str} {py : Pos} {elt iter : Expr} {ifs : List Expr} {scope : Scope} {own : List (Str × Nat)} {spos : Pos} {it : LTI} {g : CTg} {tt : LTT} {te : LTE} (hc : X.calm = true) (hN : X.N.Nodup) (hy : X.N[i]? = some y) (hyl : X.env.scope.names.lookup y = some .local)
    (hi : LI X tg iter it) (ok : BlkOk X.N X.env.scope scope own) (hm : ∀ i ∈ g.slots, i ∈ own.map (·.2))
    (hg : ∀ (s : Shared) (H : Hp) (C : Addr) (cl : List (Str × Addr)) (fp : List Addr), PG (X.blk s H scope (compEnvC scope cl C X.env) fp) tg (g.real X.K)) (ht : ∀ (s : Shared) (H : Hp) (C : Addr) (cl : List (Str × Addr)) (fp : List Addr), LTs (X.blk s H scope (compEnvC scope cl C X.env) fp) ifs tt)
    (he : ∀ (s : Shared) (H : Hp) (C : Addr) (cl : List (Str × Addr)) (fp : List Addr), LE (X.blk s H scope (compEnvC scope cl C X.env) fp) elt te)
    (hsw : swapsWith (.ListComp elt [⟨tg, iter, ifs, 0⟩] scope pos) (some (.Name y py)) spos.line X.env = pure true) (hs : ∀ x, foldedSetIterable iter X.env x = pure x := by intro _; rfl) :
    LP X (.Assign [.Name y py] (.ListComp elt [⟨tg, iter, ifs, 0⟩] scope pos) spos) (lAsg (lFz (lLc it g tt te (own.map (·.2)))) (lgName i)) := fun s0 H0 E tk hp =>
  (ps_setLc (g := g.real X.K) (tt := upT X.K s0 H0 noX tt) (te := up X.K s0 H0 noX te) hc hN hy hyl hsw (hi s0 H0 E tk) ok hg (fun s H C cl fp => ht s H C cl fp s0 H0 noX takes_no) (fun s H C cl fp => he s H C cl fp s0 H0 noX takes_no) hs).imp fun D σ H ⟨σl, s, Dl, hσ, hs, st, h, d⟩ =>
    lc_imp hm σ H _ (fz_up ⟨σl, s, _, _, hσ, hs, st, fun C s' q => d.ex C σl s' q, h, fun lx s1 x H1 h st1 hs1 rx => d.nx _ _ _ _ h st1 hs1 ((hσ.mono st1).set i rx)⟩)
theorem lp_setLcN {i : Nat} {y : Str} {py : Pos} {elt iter : Expr} {ifs : List Expr} {scope : Scope} {own : List (Str × Nat)} {spos : Pos} {it : LTI} {g : CTg} {tt : LTT} {te : LTE} (hc : X.calm = true) (hN : X.N.Nodup) (hy : X.N[i]? = some y) (hyl : X.env.scope.names.lookup y = some .local)
    (hi : LI X tg iter it) (ok : BlkOk X.N X.env.scope scope own) (hm : ∀ i ∈ g.slots, i ∈ own.map (·.2))
    (hg : ∀ (s : Shared) (H : Hp) (C : Addr) (cl : List (Str × Addr)) (fp : List Addr), PG (X.blk s H scope (compEnvC scope cl C X.env) fp) tg (g.real X.K)) (ht : ∀ (s : Shared) (H : Hp) (C : Addr) (cl : List (Str × Addr)) (fp : List Addr), LTs (X.blk s H scope (compEnvC scope cl C X.env) fp) ifs tt)
    (he : ∀ (s : Shared) (H : Hp) (C : Addr) (cl : List (Str × Addr)) (fp : List Addr), LE (X.blk s H scope (compEnvC scope cl C X.env) fp) elt te)
    (hsw : swapsWith (.ListComp elt [⟨tg, iter, ifs, 0⟩] scope pos) (some (.Name y py)) spos.line X.env = pure true) (hs : ∀ x, foldedSetIterable iter X.env x = pure x := by intro _; rfl) :
    LP X (.Assign [.Name y py] (.ListComp elt [⟨tg, iter, ifs, 0⟩] scope pos) spos) (lAsg (lNew (lLc it g tt te (own.map (·.2)))) (lgName i)) := fun s0 H0 E tk hp =>
  (ps_setLc (g := g.real X.K) (tt := upT X.K s0 H0 noX tt) (te := up X.K s0 H0 noX te) hc hN hy hyl hsw (hi s0 H0 E tk) ok hg (fun s H C cl fp => ht s H C cl fp s0 H0 noX takes_no) (fun s H C cl fp => he s H C cl fp s0 H0 noX takes_no) hs).imp fun D σ H ⟨σl, s, Dl, hσ, hs, st, h, d⟩ =>
    lc_imp hm σ H _ (new_up ⟨σl, s, _, _, hσ, hs, st, fun C s' q => d.ex C σl s' q, h, fun lx s1 x H1 h st1 hs1 rx => d.nx _ _ _ _ h st1 hs1 ((hσ.mono st1).set i rx)⟩)
end
end L3

namespace L3
open PySem PySem.Spec L2
section
variable {X : Cx} [GG X.K] {K : PySem.W.Frag} [GG K] {s : LS} {H : Hp} {a b e o i : Expr} {es : List Expr} {pos : Pos} {ta tb te to ti : LTE} {tas : LTA} {tg : Expr}
variable {x m : Str} {p p2 pos2 : Pos} {j : Nat} {C : Addr}
/-- what is known of an own exception class -/
structure ExK (K : PySem.W.Frag) (mg : Str → Option Value) (x : Str) (C : Addr) : Prop where
  xP : PySem.W.excIn K C [.type "ValueError", .type "Exception", .type "BaseException", .type "object"] "ValueError.__new__" = true
  gP : mg x = some (.ref C)
  kP : PySem.W.keepIn K (.ref C) = true
  bP : PySem.W.subIn K (.ref C) (.type "BaseException") = some true
  tP : PySem.W.typeIn K (.ref C) = some (.type "type")
def lRaise (C : Addr) : LTS := fun D σ s => D.ex C σ s
theorem lp_raise (T : ExK X.K X.mg x C) (hc : X.calm = true) (hg : Gl X x) (hdb : (x == ("__debug__" : Str)) = false := by decide) : LP X (.Raise (some (.Call (.Name x p) [.Constant (.str m) j p2] [] pos)) none pos2) (lRaise C) := fun s0 H0 E tk hp =>
  (ps_raise hc tk (pmk_own PySem.F.excBase_ValueError T.xP T.gP T.kP (raises_own T.bP T.tP) hg hdb)).imp fun D σ H ⟨σl, s, Dl, hσ, hs, st, h, d⟩ => ⟨C, σl, s, rfl, rfl, hσ, hs, st, d.ex _ _ _ h⟩
def lTryX (K : PySem.W.Frag) (c : Value) (tb : LTS) (ts : Addr → LTS) : LTS := fun D σ s => tb (D.wex fun C σ' s' => ∃ b, PySem.W.exmOne K (.ref C) c = some b ∧ (b = true → ts C (D.wex noX) σ' s') ∧ (b = false → D.ex C σ' s')) σ s
theorem DnE.noX {E : LXS} {Dl : LEnds} {D : Ends} (d : DnE K E s H Dl D) : DnE K L3.noX s H (Dl.wex L3.noX) D := ⟨d.nx, d.rt, d.bk, d.ct, fun _ _ _ h => h⟩
variable {body suite : List Stmt} {b₀ : Stmt} {np pos' : Pos} {c : Value} {tbd : LTS} {ts : Addr → LTS}
theorem lp_try_only (hs' : X.stack = X.env :: X.outer) (hf : X.env.frame = some X.env.locals) (hc : Names X x c)
    (hb : ∀ (pn : List (Addr × Obj)) (xe : Value → Shared → Prop), LPs (X.tr pn xe) body tbd)
    (hsu : ∀ (a : Addr) (oe : Obj) (C : Addr) (pn : List (Addr × Obj)), Zc (.ref C) none oe → (∃ vs, oe.data = .fields vs) → LPs (X.suite a ((a, oe) :: pn)) (b₀ :: suite) (ts C)) :
    LP X (.Try body [.ExceptHandler (some (.Name x np)) none (b₀ :: suite) pos'] [] [] pos) (lTryX X.K c tbd ts) := fun s0 H0 E tk hp => by
  refine (ps_try_only (tb := fun W D σ H => ∃ s1 H1 E', (∀ cls d σ H, WL X.K s1 H1 E' cls d σ H → W cls d σ H) ∧ upS X.K s1 H1 E' tbd D σ H)
    (ts := fun a cls d D σ H => ∃ C s1 H1, cls = .ref C ∧ d = none ∧ upS X.K s1 H1 noX (ts C) D σ H) hs' hf hc tk (fun W pn xe tk' po => ⟨fun pins si σ H D I ⟨s1, H1, E', hw, h⟩ => ?_⟩) (fun a oe cls d pn hz hv => ⟨fun pins si σ H D I ⟨C, s1, H1, e1, e2, h⟩ => ?_⟩)).imp ?_
  · exact (hb pn xe s1 H1 E' (tk'.imp hw) po).run pins si σ H D I h
  · subst e1 e2
    exact (hsu a oe C pn hz hv s1 H1 noX takes_no PassesOwn.never).run pins si σ H D I h
  · intro D σ H ⟨σl, s, Dl, hσ, hs, st, h, d⟩
    refine ⟨s, H, fun C σ' s' => ∃ b, PySem.W.exmOne X.K (.ref C) c = some b ∧ (b = true → ts C (Dl.wex noX) σ' s') ∧ (b = false → Dl.ex C σ' s'), fun cls dd σ' H' ⟨C, σl', s', e1, e2, hσ', hs1, st1, b, eb, h1, h2⟩ => ?_, σl, s, _, hσ, hs, .refl _ _, h, ⟨d.nx, d.rt, d.bk, d.ct, fun _ _ _ q => q⟩⟩
    subst e1 e2
    refine ⟨b, eb, fun q a na => ⟨C, s', H', rfl, rfl, σl', s', _, hσ', hs1, .refl _ _, h1 q, (d.mono st1).noX⟩, fun q => ⟨C, σl', s', rfl, rfl, hσ', hs1, st.trans st1, d.ex _ _ _ (h2 q)⟩⟩
/-- except x as n: the exception lies at slot i meanwhile -/
def lTryAs (K : PySem.W.Frag) (c : Value) (i : Nat) (tb : LTS) (ts : Addr → Addr → LTS) : LTS := fun D σ s => tb (D.wex fun C σ' s' => ∃ b, PySem.W.exmOne K (.ref C) c = some b ∧
  (b = true → ∀ a, ts a C { nx := fun σ' s' => D.nx (σ'.set i none) s', rt := D.rt, bk := fun σ' s' => D.bk (σ'.set i none) s', ct := fun σ' s' => D.ct (σ'.set i none) s', ex := noX } (σ'.set i (some (.ref a))) s') ∧ (b = false → D.ex C σ' s')) σ s
theorem lp_try_as {n : Str} {i : Nat} {ts : Addr → Addr → LTS} (hs' : X.stack = X.env :: X.outer) (hf : X.env.frame = some X.env.locals) (hN : X.N.Nodup) (hi : X.N[i]? = some n) (hln : X.env.kindOf n = some .local) (hc : Names X x c)
    (hb : ∀ (pn : List (Addr × Obj)) (xe : Value → Shared → Prop), LPs (X.tr pn xe) body tbd)
    (hsu : ∀ (a : Addr) (oe : Obj) (C : Addr) (pn : List (Addr × Obj)), Zc (.ref C) none oe → (∃ vs, oe.data = .fields vs) → LPs (X.suite a ((a, oe) :: pn)) (b₀ :: suite) (ts a C)) :
    LP X (.Try body [.ExceptHandler (some (.Name x np)) (some n) (b₀ :: suite) pos'] [] [] pos) (lTryAs X.K c i tbd ts) := fun s0 H0 E tk hp => by
  refine (ps_try_as (tb := fun W D σ H => ∃ s1 H1 E', (∀ cls d σ H, WL X.K s1 H1 E' cls d σ H → W cls d σ H) ∧ upS X.K s1 H1 E' tbd D σ H)
    (ts := fun a cls d D σ H => ∃ C s1 H1, cls = .ref C ∧ d = none ∧ upS X.K s1 H1 noX (ts a C) D σ H) hs' hf hN hi hln hc tk (fun W pn xe tk' po => ⟨fun pins si σ H D I ⟨s1, H1, E', hw, h⟩ => ?_⟩) (fun a oe cls d pn hz hv => ⟨fun pins si σ H D I ⟨C, s1, H1, e1, e2, h⟩ => ?_⟩)).imp ?_
  · exact (hb pn xe s1 H1 E' (tk'.imp hw) po).run pins si σ H D I h
  · subst e1 e2
    exact (hsu a oe C pn hz hv s1 H1 noX takes_no PassesOwn.never).run pins si σ H D I h
  · intro D σ H ⟨σl, s, Dl, hσ, hs, st, h, d⟩
    refine ⟨s, H, fun C σ' s' => ∃ b, PySem.W.exmOne X.K (.ref C) c = some b ∧
      (b = true → ∀ a, ts a C { nx := fun σ' s' => Dl.nx (σ'.set i none) s', rt := Dl.rt, bk := fun σ' s' => Dl.bk (σ'.set i none) s', ct := fun σ' s' => Dl.ct (σ'.set i none) s', ex := noX } (σ'.set i (some (.ref a))) s') ∧ (b = false → Dl.ex C σ' s'), fun cls dd σ' H' ⟨C, σl', s', e1, e2, hσ', hs1, st1, b, eb, h1, h2⟩ => ?_, σl, s, _, hσ, hs, .refl _ _, h, ⟨d.nx, d.rt, d.bk, d.ct, fun _ _ _ q => q⟩⟩
    subst e1 e2
    have d1 := d.mono st1
    refine ⟨b, eb, fun q a na => ⟨C, s', H', rfl, rfl, _, s', _, hσ'.set i .ref, hs1, .refl _ _, h1 q a, ⟨?_, d1.rt, ?_, ?_, fun _ _ _ z => z⟩⟩, fun q => ⟨C, σl', s', rfl, rfl, hσ', hs1, st.trans st1, d.ex _ _ _ (h2 q)⟩⟩
    · exact fun σ2 s2 σr H2 z st2 hs2 r2 => d1.nx _ _ _ _ z st2 hs2 (r2.setN i none)
    · exact fun σ2 s2 σr H2 z st2 hs2 r2 => d1.bk _ _ _ _ z st2 hs2 (r2.setN i none)
    · exact fun σ2 s2 σr H2 z st2 hs2 r2 => d1.ct _ _ _ _ z st2 hs2 (r2.setN i none)
/-- isinstance(e, c) of the exception in hand -/
def rIsEL (K : PySem.W.Frag) (a C : Addr) : LRc := fun vs s Q => two2 vs fun x c => x = .ref a ∧ ExcC K C ∧ opt (clsVal c) fun u => ∃ b, PySem.W.kitOne K (.ref C) u = some b ∧ Q (.bl b) s
theorem le_isE {a C : Addr} {oe : Obj} {pn : List (Addr × Obj)} (hz : Zc (.ref C) none oe) (hf : ∃ vs, oe.data = .fields vs) (hg : Gl (X.suite a ((a, oe) :: pn)) "isinstance") (hm : X.mg "isinstance" = none) (ha : LA (X.suite a ((a, oe) :: pn)) (e :: es) tas)
    (he : starEach (e :: es) (X.suite a ((a, oe) :: pn)).env = (false, eval e (X.suite a ((a, oe) :: pn)).env) :: starEach es (X.suite a ((a, oe) :: pn)).env := by rfl) (hpl : (backTo pos (starEach es (X.suite a ((a, oe) :: pn)).env)).any (·.1) = false := by rfl) :
    LE (X.suite a ((a, oe) :: pn)) (.Call (.Name "isinstance" p) (e :: es) [] pos) (lCB (rIsEL X.K a C) tas) :=
  le_cb (r := fun vs H Q => ExcC X.K C ∧ rIsE X.K C a vs H Q) (fun pins si σ H xs us Q I r ⟨hC, q⟩ => call_isE hC hz hf pins si σ H xs us Q I r q) (fun vs s H lvs Q0 Q hs r h k => by
    obtain ⟨lx, lc, rfl, e0, hC, h1⟩ := two2_ok h
    obtain ⟨u, e1, b, e2, h2⟩ := opt_ok h1
    obtain ⟨v, w, rfl, r1, r2⟩ := r.two
    rw [e0] at r1
    exact ⟨hC, w, u, b, by rw [r1.ref'], fun u' ru => (clsVal_ok r2 e1).eq ru, e2, k _ _ _ _ h2 (.refl _ _) hs .bl⟩) hg hm (by decide +kernel) ha (by decide) (by decide) he hpl

def clsAt (x : LV) (s : LS) (k : Addr → List (Str × LV) → Prop) : Prop := match x with
  | .ref a => (match s a with
    | some (.ins B fs) => k B fs
    | _ => False)
  | .ins B fs => k B fs
  | _ => False
theorem clsAt_ok {x : LV} {v : V} {k : Addr → List (Str × LV) → Prop} (r : RelS K s H) (rx : RV K s H x v) (h : clsAt x s k) : ∃ a dx us B fs, v = .ref a ∧ H a = some (.ins B dx us) ∧ RVf K s H fs us ∧ k B fs := by
  cases x with
  | ref a =>
    simp only [clsAt] at h
    split at h
    · next B fs e =>
      obtain ⟨dx, us, hh, rf⟩ := r.ins e
      exact ⟨a, dx, us, B, fs, rx.ref', hh, rf, h⟩
    · exact h.elim
  | ins B fs =>
    simp only [RV] at rx
    obtain ⟨a, dx, us, rfl, _, hh, rf⟩ := rx
    exact ⟨a, dx, us, B, fs, rfl, hh, rf, h⟩
  | _ => exact h.elim
def lMethD (m : Str) (Tb : Addr → LSp → Prop) (ta : LTE) (t : LTA) : LTE := fun σ s Q E => ta σ s (fun x s1 => clsAt x s1 fun B fs => fs.lookup m = none ∧ ∃ sp, Tb B sp ∧ t σ s1 (fun vs s2 => sp (x :: vs) s2 Q E) E) E
/-- what the classes of the table have as m -/
def MethT (X : Cx) [GG X.K] (m : Str) (Tb : Addr → LSp → Prop) : Prop := ∀ C sp, Tb C sp → Cls X.K C ∧ ∃ f fd ps k, Meth X.K C m f ∧ LFn X.prog X.w X.K X.mg X.base k f fd ps sp ∧ Room k X.A ∧ Binds X.K fd ps []
variable {apos : Pos} {Tb : Addr → LSp → Prop}
theorem le_methD {pl : Sem Bool} (ha : LE X o ta) (hT : MethT X m Tb) (hes : LA X (e :: es) tas)
    (hst : starEach (e :: es) X.env = (false, eval e X.env) :: starEach es X.env := by rfl) (hpl : (backTo pos (starEach es X.env)).any (·.1) = false := by rfl)
    (ht : eval (.Call (.Attribute o m apos) (e :: es) [] pos) X.env = (do
      let ov ← eval o X.env
      standAt apos.atName
      let (f, first) ← holding [ov] (getMethod ov m pl)
      callWith pos f first (backTo pos (starEach (e :: es) X.env)) (backToKw pos (keywordEach [] X.env))) := by rfl) : LE X (.Call (.Attribute o m apos) (e :: es) [] pos) (lMethD m Tb ta tas) := fun s0 H0 E tk =>
  ⟨fun pins si σ H Q I ⟨σl, s, Q0, E1, hσ, hs, st, hE, h, kk⟩ => by
    refine PySem.W.methodCall_KW (pl := pl) (thn (ha.go tk I hσ hs st hE h) fun u si1 hx => ?_) ht
    obtain ⟨x, H1, I1, rv, lx, s1, st1, hs1, rx, h⟩ := hx
    obtain ⟨a, dx, us, B, fs, rfl, hh, rf, l, sp, tb, h⟩ := clsAt_ok hs1 rx h
    obtain ⟨c, f, fd, ps, k, hm, F, hr, hb⟩ := hT B sp tb
    obtain rfl : u = Value.ref a := rv
    refine getmeth_ok I1 hh c hm (rf.look0 l) ?_
    refine PySem.W.callWith_K (first := [.ref a]) (h₀ := X.base) I.ok.mod.kin hm.kp (thn (hes.go tk pos I1 (hσ.mono st1) hs1 (st.trans st1) hE h) fun us si2 hx2 => ?_) hst hpl
    obtain ⟨vs, H2, I2, rvs, lvs, s2, st2, hs2, r, h⟩ := hx2
    refine ⟨I2.kIn, ?_⟩
    have st12 := st1.trans st2
    exact run_fnS (E := fun _ => WE (WL X.K s0 H0 E) σ) (us := .ref a :: us) (vs := .ref a :: vs) F hr hb (passAt tk σ) I2 (.cons rfl rvs) (dn_call (hσ.mono st12) hs2 (st.trans st12) hE (.cons (rx.mono st2) r) h fun lv s3 v H3 q st3 => kk lv s3 v H3 q (st12.trans st3))⟩
theorem le_methD0 {pl : Sem Bool} (ha : LE X o ta) (hT : MethT X m Tb)
    (ht : eval (.Call (.Attribute o m apos) [] [] pos) X.env = (do
      let ov ← eval o X.env
      standAt apos.atName
      let (f, first) ← holding [ov] (getMethod ov m pl)
      callWith pos f first (backTo pos (starEach [] X.env)) (backToKw pos (keywordEach [] X.env))) := by rfl) : LE X (.Call (.Attribute o m apos) [] [] pos) (lMethD m Tb ta lNil) := fun s0 H0 E tk =>
  ⟨fun pins si σ H Q I ⟨σl, s, Q0, E1, hσ, hs, st, hE, h, kk⟩ => by
    refine PySem.W.methodCall_KW (pl := pl) (thn (ha.go tk I hσ hs st hE h) fun u si1 hx => ?_) ht
    obtain ⟨x, H1, I1, rv, lx, s1, st1, hs1, rx, h⟩ := hx
    obtain ⟨a, dx, us, B, fs, rfl, hh, rf, l, sp, tb, h⟩ := clsAt_ok hs1 rx h
    obtain ⟨c, f, fd, ps, k, hm, F, hr, hb⟩ := hT B sp tb
    obtain rfl : u = Value.ref a := rv
    refine getmeth_ok I1 hh c hm (rf.look0 l) ?_
    exact PySem.W.callWith_K0 (first := [.ref a]) I1.kIn hm.kp (run_fnS (E := fun _ => WE (WL X.K s0 H0 E) σ) (us := [.ref a]) (vs := [.ref a]) F hr hb (passAt tk σ) I1 (.cons rfl .nil)
      (dn_call (hσ.mono st1) hs1 (st.trans st1) hE (.cons rx .nil) h fun lv s3 v H3 q st3 => kk lv s3 v H3 q (st1.trans st3)))⟩
end

instance ggOf {CX : CXT} {P : Program} {w : World} {K : PySem.W.Frag} [g : GG K] {mg : Str → Option Value} {base : Heap} {N : List Str} {qual : Str} {scope : Scope} {f : Addr} {cd : Value} {A : Around} {outer : List Env} {s : Shared} {H : Hp} {E : XK} :
    GG (cxOf CX P w K mg base N qual scope f cd A outer s H E).K := g
def lstart (N : List Str) (vs : List LV) : LSt := vs.map some ++ List.replicate (N.length - vs.length) none
/-- a def's ends; what is handed back may be frozen, what the store holds forgotten -/
def lEnds (Q : LVK) (E : LX) : LEnds := ⟨fun _ s' => ∃ s2, Sub s2 s' ∧ Q .non s2, fun lv s' => ∃ y s2, Frz lv s' y s2 ∧ Q y s2, fun _ _ => False, fun _ _ => False, fun C _ s' => ∃ s2, Sub s2 s' ∧ E C s2⟩
theorem Sub.refl (s : LS) : Sub s s := fun _ => .inr rfl
section
variable {P : Program} {w : World} {K : PySem.W.Frag} [GG K] {mg : Str → Option Value} {base : Heap}
theorem _root_.L2.Fun.okL {x qual : Str} {st : Stmt} {f : Addr} {fd : FuncData} {N ps : List Str} {k : Nat} {sp : LSp} (F : Fun K x qual st f fd) (S : FnScope N ps (defScope st)) (len : ∀ vs s Q E, sp vs s Q E → vs.length = ps.length)
    (hbody : ∀ (cdv : Value) (A : Around) (outer : List Env) (si : Shared) (H : Hp) (E : XK), Room k (A.deeper (PyProof.Rows.envOfC qual (defScope st) si.heap.objs.size f cdv)) →
      ∃ t, LPs (cxOf (L2.CX P w) P w K mg base N qual (defScope st) f cdv A outer si H E) (defBody st) t ∧ ∀ vs s Q E, sp vs s Q E → t (lEnds Q E) (lstart N vs) s) : LFn P w K mg base (k + 1) f fd ps sp := by
  refine F.okX S (fun vs H Q E ⟨lvs, s, Q0, E0, r, _, h, _⟩ => by rw [r.length]; exact len _ _ _ _ h) fun cdv A outer si H vs Q E hr h => ?_
  obtain ⟨lvs, s, Q0, E0, r, hs, h, kq, ke⟩ := h
  obtain ⟨t, ht, hb⟩ := hbody cdv A outer si H E hr
  have tk := takes_of (X := cxOf (L2.CX P w) P w K mg base N qual (defScope st) f cdv A outer si H E) (E := E) rfl rfl rfl rfl
  refine ⟨upS K s H (fun C σl s' => ∃ s2, Sub s2 s' ∧ E0 C s2) t, ht s H _ (tk.imp fun cls d σ H' w => ?_) (passes_of rfl), ?_⟩
  · obtain ⟨C, σl, s', rfl, rfl, _, hs', st', s2, sb, q⟩ := w
    exact ke C s2 H' q (st'.trans sb.step) (sb.rel hs')
  · refine ⟨lstart N lvs, s, lEnds Q0 E0, ?_, hs, .refl _ _, hb lvs s Q0 E0 h, ⟨fun σl s' σ H' ⟨s2, sb, q⟩ st' hs' _ => kq .non s2 .non H' q (st'.trans sb.step) (sb.rel hs') .non, fun lv s' v H' ⟨y, s2, fz, q⟩ st' hs' rv => ?_, fun _ _ _ _ z => z.elim, fun _ _ _ _ z => z.elim, fun _ _ _ z => z⟩⟩
    · show RSt K s H (lstart N lvs) (start N vs)
      unfold lstart
      have e : start N vs = vs.map some ++ List.replicate (N.length - vs.length) none := rfl
      rw [e, r.length]
      exact (RSt.vals r).append (.nones _)
    · obtain ⟨a, b, c⟩ := fz K H' v hs' rv
      exact kq y s2 v H' q (st'.trans c) b a
end
end L3

namespace L3
open PySem PySem.Spec L2
structure MkN (K : PySem.W.Frag) (C : Addr) : Prop where
  makes : PySem.W.makesIn K C = true
  init : PySem.W.findIn K (.ref C) "__init__" = some (some (.builtin "object.__init__"))
  kp : PySem.W.keepIn K (.ref C) = true
def lMakeN (C : Addr) : LTE := fun σ s Q E => ∀ x, s x = none → Q (.ref x) (put s x (.ins C []))
section
variable {X : Cx} [GG X.K] {C : Addr} {x : Str} {p pos : Pos}
theorem le_makeN (M : MkN X.K C) (hg : Gl X x) (hm : X.mg x = some (.ref C)) (hdb : (x == ("__debug__" : Str)) = false := by decide) :
    LE X (.Call (.Name x p) [] [] pos) (lMakeN C) := fun s0 H0 E tk => ⟨fun pins si σ H Q I ⟨σl, s, Q0, E1, hσ, hs, st, hE, h, kk⟩ => by
  refine wpAny_Call_Name_kw (ld_glob I hg hm ?_ hdb)
  refine PySem.W.callWith_K0 I.kIn M.kp ?_
  have ny := I.hok.fresh (a := si.heap.objs.size + 1) (Nat.le_succ _)
  have nd := I.hok.fresh (a := si.heap.objs.size) (Nat.le_refl _)
  have J := Inv.made (C := C) I
  obtain ⟨stm, hsm⟩ := made_step (C := C) hs ny nd (Nat.ne_of_lt (Nat.lt_succ_self _))
  have q := kk _ _ _ _ (h _ (hs.free ny)) stm hsm .ref
  have Y := PySem.W.makes_of (M := model X.prog X.w) I.kIn M.makes
  refine wpAny_call (make_map0 I.kIn M.makes M.init (fun self => PySem.W.Looks.of_pure (PySem.W.oi_bind self)) ?_)
  have hobj : ((si.heap.push PySem.W.emptyDict).push (PySem.W.instObj C si.heap.objs.size)).get? (si.heap.objs.size + 1) = some (PySem.W.instObj C si.heap.objs.size) := by
    have := Heap.get?_push_size (si.heap.push PySem.W.emptyDict) (o := PySem.W.instObj C si.heap.objs.size) rfl
    rwa [Heap.size_push] at this
  have t1 : PySem.W.Looks (model X.prog X.w) ((si.heap.push PySem.W.emptyDict).push (PySem.W.instObj C si.heap.objs.size)) (typeOf (.ref (si.heap.objs.size + 1))) (.ref C) := (PySem.W.Looks.ld hobj).andThen .now
  have t2 : PySem.W.Looks (model X.prog X.w) ((si.heap.push PySem.W.emptyDict).push (PySem.W.instObj C si.heap.objs.size)) (isInstance (.ref (si.heap.objs.size + 1)) (.type "object")) true := t1.andThen (Y.top.keeps fun b o e => Heap.get?_push_of_some _ (Heap.get?_push_of_some _ e))
  refine PySem.codeAny_call_builtin PySem.W.oi_plain PySem.W.entry_oi (@PySem.W.check_slot (model X.prog X.w) _ _ _ "object.__init__" "object" "__init__" (.ref (si.heap.objs.size + 1)) [] [] _ PySem.W.oi_kind PySem.W.oi_split t2 (PySem.W.oi_args (.ref (si.heap.objs.size + 1))) ?_)
  rw [PySem.W.oi_run]
  exact wpAny_pure (And.intro rfl ⟨V.ref (si.heap.objs.size + 1), _, J, rfl, q⟩)⟩
end
end L3

namespace L3
open PySem PySem.Spec L2
@[simp] theorem lC_ap (v : LV) (σ_ : LSt) (s : LS) (Q : LVK) (E_ : LX) : lC v σ_ s Q E_ = (Q v s) := rfl
@[simp] theorem lOp_ap (r : LR2) (ta tb : LTE) (σ : LSt) (s : LS) (Q : LVK) (E : LX) : lOp r ta tb σ s Q E = (ta σ s (fun x s1 => tb σ s1 (fun y s2 => r x y s2 Q) E) E) := rfl
@[simp] theorem lUn_ap (r : LR1) (ta : LTE) (σ : LSt) (s : LS) (Q : LVK) (E : LX) : lUn r ta σ s Q E = (ta σ s (fun x s1 => r x s1 Q) E) := rfl
@[simp] theorem lB_ap (t : LTE) (σ : LSt) (s : LS) (Q : Bool → LS → Prop) (E : LX) : lB t σ s Q E = (t σ s (fun x s1 => isBl x fun c => Q c s1) E) := rfl
@[simp] theorem lAnd_ap (t u : LTT) (σ : LSt) (s : LS) (Q : Bool → LS → Prop) (E : LX) : lAnd t u σ s Q E = (t σ s (fun c s1 => (c = true → u σ s1 Q E) ∧ (c = false → Q false s1)) E) := rfl
@[simp] theorem lOr_ap (t u : LTT) (σ : LSt) (s : LS) (Q : Bool → LS → Prop) (E : LX) : lOr t u σ s Q E = (t σ s (fun c s1 => (c = true → Q true s1) ∧ (c = false → u σ s1 Q E)) E) := rfl
@[simp] theorem lNot_ap (t : LTT) (σ : LSt) (s : LS) (Q : Bool → LS → Prop) (E : LX) : lNot t σ s Q E = (t σ s (fun c s1 => Q (!c) s1) E) := rfl
@[simp] theorem lAndV_ap (ta tb : LTE) (σ : LSt) (s : LS) (Q : LVK) (E : LX) : lAndV ta tb σ s Q E = (lB ta σ s (fun c s1 => (c = true → tb σ s1 Q E) ∧ (c = false → Q (.bl false) s1)) E) := rfl
@[simp] theorem lOrV_ap (ta tb : LTE) (σ : LSt) (s : LS) (Q : LVK) (E : LX) : lOrV ta tb σ s Q E = (lB ta σ s (fun c s1 => (c = true → Q (.bl true) s1) ∧ (c = false → tb σ s1 Q E)) E) := rfl
@[simp] theorem lNotV_ap (ta : LTE) (σ : LSt) (s : LS) (Q : LVK) (E : LX) : lNotV ta σ s Q E = (lB ta σ s (fun c s1 => Q (.bl (!c)) s1) E) := rfl
@[simp] theorem lCutT_ap (t : LTT) (σ : LSt) (s : LS) (Q : Bool → LS → Prop) (E : LX) : lCutT t σ s Q E = (∃ b, t σ s (fun b' s' => b' = b ∧ s' = s) E ∧ Q b s) := rfl
@[simp] theorem lCutE_ap (t : LTE) (σ : LSt) (s : LS) (Q : LVK) (E : LX) : lCutE t σ s Q E = (∃ v, t σ s (fun v' s' => v' = v ∧ s' = s) E ∧ Q v s) := rfl
@[simp] theorem lNil_ap  (σ_ : LSt) (s : LS) (Q : List LV → LS → Prop) (E_ : LX) : lNil  σ_ s Q E_ = (Q [] s) := rfl
@[simp] theorem lCons_ap (t : LTE) (u : LTA) (σ : LSt) (s : LS) (Q : List LV → LS → Prop) (E : LX) : lCons t u σ s Q E = (t σ s (fun x s1 => u σ s1 (fun xs s2 => Q (x :: xs) s2) E) E) := rfl
@[simp] theorem lNext_ap  (D : LEnds) (σ : LSt) (s : LS) : lNext  D σ s = (D.nx σ s) := rfl
@[simp] theorem lSeq_ap (t u : LTS) (D : LEnds) (σ : LSt) (s : LS) : lSeq t u D σ s = (t (D.wnx (u D)) σ s) := rfl
@[simp] theorem lBreak_ap  (D : LEnds) (σ : LSt) (s : LS) : lBreak  D σ s = (D.bk σ s) := rfl
@[simp] theorem lCont_ap  (D : LEnds) (σ : LSt) (s : LS) : lCont  D σ s = (D.ct σ s) := rfl
@[simp] theorem lDrop_ap (te : LTE) (D : LEnds) (σ : LSt) (s : LS) : lDrop te D σ s = (te σ s (fun _ s1 => D.nx σ s1) (fun C s1 => D.ex C σ s1)) := rfl
@[simp] theorem lRet_ap (te : LTE) (D : LEnds) (σ : LSt) (s : LS) : lRet te D σ s = (te σ s D.rt (fun C s1 => D.ex C σ s1)) := rfl
@[simp] theorem lRetN_ap  (D : LEnds) (σ_ : LSt) (s : LS) : lRetN  D σ_ s = (D.rt .non s) := rfl
@[simp] theorem lIf_ap (c : LTT) (t u : LTS) (D : LEnds) (σ : LSt) (s : LS) : lIf c t u D σ s = (c σ s (fun b s1 => (b = true → t D σ s1) ∧ (b = false → u D σ s1)) (fun C s1 => D.ex C σ s1)) := rfl
@[simp] theorem lCut_ap (t : LTS) (D : LEnds) (σ : LSt) (s : LS) : lCut t D σ s = (∃ R : LSt → LS → Prop, t (D.wnx R) σ s ∧ ∀ σ' s', R σ' s' → D.nx σ' s') := rfl
@[simp] theorem lNever_ap  (D_ : LEnds) (σ_ : LSt) (s_ : LS) : lNever  D_ σ_ s_ = (False) := rfl
@[simp] theorem lgName_ap (i : Nat) (v : LV) (σ : LSt) (s : LS) (Q : LSt → LS → Prop) (E_ : LX) : lgName i v σ s Q E_ = (Q (σ.set i (some v)) s) := rfl
@[simp] theorem lAsg_ap (te : LTE) (g : LTG) (D : LEnds) (σ : LSt) (s : LS) : lAsg te g D σ s = (te σ s (fun x s1 => g x σ s1 D.nx (fun C s2 => D.ex C σ s2)) (fun C s1 => D.ex C σ s1)) := rfl
@[simp] theorem lFor_ap (it : LTI) (g : LTG) (tb : LTS) (D : LEnds) (σ : LSt) (s : LS) : lFor it g tb D σ s = (it σ s (fun xs stb s1 => lLoop g tb stb D xs σ s1) (fun C s1 => D.ex C σ s1)) := rfl
@[simp] theorem lFz_ap (t : LTL) (σ : LSt) (s : LS) (Q : LVK) (E : LX) : lFz t σ s Q E = (t σ s (fun xs s1 => Q (.lst xs) s1) E) := rfl
@[simp] theorem lNew_ap (t : LTL) (σ : LSt) (s : LS) (Q : LVK) (E : LX) : lNew t σ s Q E = (t σ s (fun xs s1 => ∀ p, s1 p = none → Q (.ref p) (put s1 p (.lst xs))) E) := rfl
@[simp] theorem lDisp_ap (t : LTA) (σ : LSt) (s : LS) (Q : List LV → LS → Prop) (E : LX) : lDisp t σ s Q E = (t σ s (fun xs s1 => xs.length ≤ 16777216 ∧ Q xs s1) E) := rfl
@[simp] theorem lTup_ap (t : LTA) (σ : LSt) (s : LS) (Q : LVK) (E : LX) : lTup t σ s Q E = (t σ s (fun xs s1 => xs.length ≤ 16777216 ∧ Q (.tup xs) s1) E) := rfl
@[simp] theorem lFld_ap (C : Addr) (f : Str) (ta : LTE) (σ : LSt) (s : LS) (Q : LVK) (E : LX) : lFld C f ta σ s Q E = (ta σ s (fun x s1 => fldAt C f x s1 fun v => Q v s1) E) := rfl
@[simp] theorem lSetF_ap (C : Addr) (f : Str) (ta tv : LTE) (D : LEnds) (σ : LSt) (s : LS) : lSetF C f ta tv D σ s = (tv σ s (fun y s1 => ta σ s1 (fun x s2 => match x with
  | .ref a => (match s2 a with
    | some (.ins B fs) => B = C ∧ fs.length < 1000 ∧ D.nx σ (put s2 a (.ins C (putL f y fs)))
    | _ => False)
  | _ => False) (fun C s3 => D.ex C σ s3)) (fun C s3 => D.ex C σ s3)) := rfl
@[simp] theorem lCall_ap (sp : LSp) (t : LTA) (σ : LSt) (s : LS) (Q : LVK) (E : LX) : lCall sp t σ s Q E = (t σ s (fun vs s1 => sp vs s1 Q E) E) := rfl
@[simp] theorem lMeth_ap (C : Addr) (m : Str) (sp : LSp) (ta : LTE) (t : LTA) (σ : LSt) (s : LS) (Q : LVK) (E : LX) : lMeth C m sp ta t σ s Q E = (ta σ s (fun x s1 => methAt C m x s1 ∧ t σ s1 (fun vs s2 => sp (x :: vs) s2 Q E) E) E) := rfl
@[simp] theorem lMake_ap (C : Addr) (sp : LSp) (t : LTA) (σ : LSt) (s : LS) (Q : LVK) (E : LX) : lMake C sp t σ s Q E = (t σ s (fun vs s1 => ∀ x, s1 x = none → sp (.ref x :: vs) (put s1 x (.ins C [])) (fun v s2 => v = .non ∧ Q (.ref x) s2) E) E) := rfl
@[simp] theorem lMakeF_ap (C : Addr) (sp : LSp) (t : LTA) (σ : LSt) (s : LS) (Q : LVK) (E : LX) : lMakeF C sp t σ s Q E = (t σ s (fun vs s1 => ∀ x, s1 x = none → sp (.ref x :: vs) (put s1 x (.ins C [])) (fun v s2 => v = .non ∧ ∃ fs, s2 x = some (.ins C fs) ∧ Q (.ins C fs) (del s2 x)) E) E) := rfl
@[simp] theorem lFrz_ap (t : LTE) (σ : LSt) (s : LS) (Q : LVK) (E : LX) : lFrz t σ s Q E = (t σ s (fun x s1 => ∃ y s2, Frz x s1 y s2 ∧ Q y s2) E) := rfl
@[simp] theorem lOpL_ap (r : LV → LV → LS → (List LV → LS → Prop) → Prop) (ta tb : LTE) (σ : LSt) (s : LS) (Q : List LV → LS → Prop) (E : LX) : lOpL r ta tb σ s Q E = (ta σ s (fun x s1 => tb σ s1 (fun y s2 => r x y s2 Q) E) E) := rfl
@[simp] theorem lNoP_ap  (σ_ : LSt) (s : LS) (Q : Option Int → LS → Prop) (E_ : LX) : lNoP  σ_ s Q E_ = (Q none s) := rfl
@[simp] theorem lPart_ap (t : LTE) (σ : LSt) (s : LS) (Q : Option Int → LS → Prop) (E : LX) : lPart t σ s Q E = (t σ s (fun x s1 => match x with
  | .int i => Q (some i) s1
  | _ => False) E) := rfl
@[simp] theorem lSl_ap (te : LTE) (tl th : LTO) (σ : LSt) (s : LS) (Q : List LV → LS → Prop) (E : LX) : lSl te tl th σ s Q E = (te σ s (fun x s1 => tl σ s1 (fun lo s2 => th σ s2 (fun hi s3 => opt (seqR x s3) fun xs => Q (cutL xs lo hi) s3) E) E) E) := rfl
@[simp] theorem lCB_ap (r : LRc) (t : LTA) (σ : LSt) (s : LS) (Q : LVK) (E : LX) : lCB r t σ s Q E = (t σ s (fun vs s1 => r vs s1 Q) E) := rfl
@[simp] theorem lCBL_ap (r : List LV → LS → (List LV → LS → Prop) → Prop) (t : LTA) (σ : LSt) (s : LS) (Q : List LV → LS → Prop) (E : LX) : lCBL r t σ s Q E = (t σ s (fun vs s1 => r vs s1 Q) E) := rfl
@[simp] theorem lLstRg2_ap (ta tb : LTE) (σ : LSt) (s : LS) (Q : List LV → LS → Prop) (E : LX) : lLstRg2 ta tb σ s Q E = (ta σ s (fun x s1 => tb σ s1 (fun y s2 => match x, y with
  | .int i, .int j => RgOk i j ∧ Q (rgL i j) s2
  | _, _ => False) E) E) := rfl
@[simp] theorem lLstRg1_ap (ta : LTE) (σ : LSt) (s : LS) (Q : List LV → LS → Prop) (E : LX) : lLstRg1 ta σ s Q E = (ta σ s (fun x s1 => match x with
  | .int j => RgOk 0 j ∧ Q (rgL 0 j) s1
  | _ => False) E) := rfl
@[simp] theorem rAllL_ap  (vs : List LV) (s : LS) (Q : LVK) : rAllL  vs s Q = (one1 vs fun x => opt (seqL x s) fun xs => opt (blsOf xs) fun bs => Q (.bl (bs.all id)) s) := rfl
@[simp] theorem rAnyL_ap  (vs : List LV) (s : LS) (Q : LVK) : rAnyL  vs s Q = (one1 vs fun x => opt (seqL x s) fun xs => opt (blsOf xs) fun bs => Q (.bl (bs.any id)) s) := rfl
@[simp] theorem rMaxL_ap  (vs : List LV) (s : LS) (Q : LVK) : rMaxL  vs s Q = (one1 vs fun x => opt (seqL x s) fun xs => opt (intsOf xs) fun ns => 0 < ns.length ∧ ∀ m, m ∈ ns → (∀ y, y ∈ ns → y ≤ m) → Q (.int m) s) := rfl
@[simp] theorem rMinL_ap  (vs : List LV) (s : LS) (Q : LVK) : rMinL  vs s Q = (one1 vs fun x => opt (seqL x s) fun xs => opt (intsOf xs) fun ns => 0 < ns.length ∧ ∀ m, m ∈ ns → (∀ y, y ∈ ns → m ≤ y) → Q (.int m) s) := rfl
@[simp] theorem lBML_ap (r : LRm) (to : LTE) (t : LTA) (σ : LSt) (s : LS) (Q : LVK) (E : LX) : lBML r to t σ s Q E = (to σ s (fun x s1 => (seqL x s1).isSome = true ∧ t σ s1 (fun vs s2 => r x vs s2 Q) E) E) := rfl
@[simp] theorem rAppL_ap  (x : LV) (vs : List LV) (s : LS) (Q : LVK) : rAppL  x vs s Q = (one1 vs fun y => atL x s fun a xs => xs.length < 16777216 ∧ Q .non (put s a (.lst (xs ++ [y])))) := rfl
@[simp] theorem rClrL_ap  (x : LV) (vs : List LV) (s : LS) (Q : LVK) : rClrL  x vs s Q = (vs = [] ∧ atL x s fun a xs => Q .non (put s a (.lst []))) := rfl
@[simp] theorem rPopL_ap  (x : LV) (vs : List LV) (s : LS) (Q : LVK) : rPopL  x vs s Q = (vs = [] ∧ atL x s fun a xs => opt (xs[xs.length - 1]?) fun y => Q y (put s a (.lst xs.dropLast))) := rfl
@[simp] theorem rExtL_ap  (x : LV) (vs : List LV) (s : LS) (Q : LVK) : rExtL  x vs s Q = (one1 vs fun y => opt (seqL y s) fun ys => atL x s fun a xs => xs.length + ys.length ≤ 16777216 ∧ Q .non (put s a (.lst (xs ++ ys)))) := rfl
@[simp] theorem lgSub_ap (to ti : LTE) (v : LV) (σ : LSt) (s : LS) (Q : LSt → LS → Prop) (E : LX) : lgSub to ti v σ s Q E = (to σ s (fun o s1 => ti σ s1 (fun i s2 => rSetL o i v s2 fun s3 => Q σ s3) E) E) := rfl
@[simp] theorem lDisK_ap (trs : List (Str × LTE)) (σ : LSt) (s : LS) (Q : LVK) (E : LX) : lDisK trs σ s Q E = (∀ p, s p = none → lPairs p trs σ (put s p (.dK [])) (fun kvs s2 => s2 p = some (.dK []) ∧ kvs.length ≤ 15 ∧ (kvs.map (·.1)).Nodup ∧ Q (.ref p) (put s2 p (.dK kvs))) E) := rfl
@[simp] theorem iSeq_ap (te : LTE) (σ : LSt) (s : LS) (Q : List LV → (LS → Prop) → LS → Prop) (E : LX) : iSeq te σ s Q E = (te σ s (fun x s1 => match x with
  | .ref a => (match s1 a with
    | some (.lst xs) => Q xs (fun s2 => s2 a = some (.lst xs)) s1
    | _ => False)
  | _ => opt (seqR x s1) fun xs => Q xs (fun _ => True) s1) E) := rfl
@[simp] theorem iTupl_ap (te : LTE) (σ : LSt) (s : LS) (Q : List LV → (LS → Prop) → LS → Prop) (E : LX) : iTupl te σ s Q E = (te σ s (fun x s1 => match x with
  | .tup xs => Q xs (fun _ => True) s1
  | _ => False) E) := rfl
@[simp] theorem iRg1_ap (ta : LTA) (σ : LSt) (s : LS) (Q : List LV → (LS → Prop) → LS → Prop) (E : LX) : iRg1 ta σ s Q E = (ta σ s (fun vs s1 => one1 vs fun x => isInt x fun j => -(2 ^ 62) ≤ j ∧ j < 2 ^ 62 ∧ Q (rgL 0 j) (fun _ => True) s1) E) := rfl
@[simp] theorem iRg2_ap (ta : LTA) (σ : LSt) (s : LS) (Q : List LV → (LS → Prop) → LS → Prop) (E : LX) : iRg2 ta σ s Q E = (ta σ s (fun vs s1 => two2 vs fun x y => isInt x fun i => isInt y fun j => (-(2 ^ 62) ≤ i ∧ i < 2 ^ 62 ∧ -(2 ^ 62) ≤ j ∧ j < 2 ^ 62) ∧ Q (rgL i j) (fun _ => True) s1) E) := rfl
@[simp] theorem iEnumL_ap (ta : LTA) (σ : LSt) (s : LS) (Q : List LV → (LS → Prop) → LS → Prop) (E : LX) : iEnumL ta σ s Q E = (ta σ s (fun vs s1 => one1 vs fun x => opt (seqR x s1) fun xs => Q ((rgL 0 xs.length).zip xs |>.map fun p => .tup [p.1, p.2]) (stbOf x xs) s1) E) := rfl
@[simp] theorem iZipL_ap (ta : LTA) (σ : LSt) (s : LS) (Q : List LV → (LS → Prop) → LS → Prop) (E : LX) : iZipL ta σ s Q E = (ta σ s (fun vs s1 => two2 vs fun x y => opt (seqR x s1) fun xs => opt (seqR y s1) fun ys => Q ((xs.zip ys).map fun p => .tup [p.1, p.2]) (fun s2 => stbOf x xs s2 ∧ stbOf y ys s2) s1) E) := rfl
@[simp] theorem lYes_ap  (σ_ : LSt) (s : LS) (Q : Bool → LS → Prop) (E_ : LX) : lYes  σ_ s Q E_ = (Q true s) := rfl
@[simp] theorem lLc_ap (it : LTI) (g : CTg) (tt : LTT) (te : LTE) (vs : List Nat) (σ : LSt) (s : LS) (Q : List LV → LS → Prop) (E : LX) : lLc it g tt te vs σ s Q E = (it σ s (fun xs stb s1 => ∀ D, s1 D = none → lcLoop D g tt te stb (lwipe σ vs) Q xs (put s1 D (.lst []))) E) := rfl
@[simp] theorem lRaise_ap (C : Addr) (D : LEnds) (σ : LSt) (s : LS) : lRaise C D σ s = (D.ex C σ s) := rfl
@[simp] theorem lTryX_ap (K : PySem.W.Frag) (c : Value) (tb : LTS) (ts : Addr → LTS) (D : LEnds) (σ : LSt) (s : LS) : lTryX K c tb ts D σ s = (tb (D.wex fun C σ' s' => ∃ b, PySem.W.exmOne K (.ref C) c = some b ∧ (b = true → ts C (D.wex noX) σ' s') ∧ (b = false → D.ex C σ' s')) σ s) := rfl
@[simp] theorem lTryAs_ap (K : PySem.W.Frag) (c : Value) (i : Nat) (tb : LTS) (ts : Addr → Addr → LTS) (D : LEnds) (σ : LSt) (s : LS) : lTryAs K c i tb ts D σ s = (tb (D.wex fun C σ' s' => ∃ b, PySem.W.exmOne K (.ref C) c = some b ∧
  (b = true → ∀ a, ts a C { nx := fun σ' s' => D.nx (σ'.set i none) s', rt := D.rt, bk := fun σ' s' => D.bk (σ'.set i none) s', ct := fun σ' s' => D.ct (σ'.set i none) s', ex := noX } (σ'.set i (some (.ref a))) s') ∧ (b = false → D.ex C σ' s')) σ s) := rfl
@[simp] theorem rIsEL_ap (K : PySem.W.Frag) (a C : Addr) (vs : List LV) (s : LS) (Q : LVK) : rIsEL K a C vs s Q = (two2 vs fun x c => x = .ref a ∧ ExcC K C ∧ opt (clsVal c) fun u => ∃ b, PySem.W.kitOne K (.ref C) u = some b ∧ Q (.bl b) s) := rfl
@[simp] theorem lMethD_ap (m : Str) (Tb : Addr → LSp → Prop) (ta : LTE) (t : LTA) (σ : LSt) (s : LS) (Q : LVK) (E : LX) : lMethD m Tb ta t σ s Q E = (ta σ s (fun x s1 => clsAt x s1 fun B fs => fs.lookup m = none ∧ ∃ sp, Tb B sp ∧ t σ s1 (fun vs s2 => sp (x :: vs) s2 Q E) E) E) := rfl
@[simp] theorem lMakeN_ap (C : Addr) (σ : LSt) (s : LS) (Q : LVK) (E : LX) : lMakeN C σ s Q E = (∀ x, s x = none → Q (.ref x) (put s x (.ins C []))) := rfl

@[simp] theorem lVar_ap (i : Nat) (σ : LSt) (s : LS) (Q : LVK) (E : LX) : lVar i σ s Q E = (match σ[i]? with
  | some (some v) => Q v s
  | _ => False) := rfl
@[simp] theorem isBl_bl (c : Bool) (k : Bool → Prop) : isBl (.bl c) k = k c := rfl
@[simp] theorem opt_some {α : Type} (v : α) (k : α → Prop) : opt (some v) k = k v := rfl
@[simp] theorem one1_ap (v : LV) (k : LV → Prop) : one1 [v] k = k v := rfl
@[simp] theorem two2_ap (v w : LV) (k : LV → LV → Prop) : two2 [v, w] k = k v w := rfl
@[simp] theorem isInt_ap (i : Int) (k : Int → Prop) : isInt (.int i) k = k i := rfl
@[simp] theorem rl2_ap (C : Int → Int → Prop) (g : Int → Int → LV) (i j : Int) (s : LS) (Q : LVK) : rl2 C g (.int i) (.int j) s Q = (C i j ∧ Q (g i j) s) := rfl
@[simp] theorem rl2'_ap (g : Int → Int → LV) (i j : Int) (s : LS) (Q : LVK) : rl2' g (.int i) (.int j) s Q = Q (g i j) s := rfl
@[simp] theorem rNegI_ap (i : Int) (s : LS) (Q : LVK) : rNegI (.int i) s Q = Q (.int (-i)) s := rfl
@[simp] theorem rAddL_int (i j : Int) (s : LS) (Q : LVK) : rAddL (.int i) (.int j) s Q = Q (.int (i + j)) s := rfl
@[simp] theorem rAddL_str (i j : Str) (s : LS) (Q : LVK) : rAddL (.str i) (.str j) s Q = (i.length + j.length ≤ 16777216 ∧ Q (.str (i ++ j)) s) := rfl
@[simp] theorem rCatL_ap (x y : LV) (s : LS) (Q : List LV → LS → Prop) : rCatL x y s Q = (opt (seqL x s) fun xs => opt (seqL y s) fun ys => xs.length + ys.length ≤ 16777216 ∧ Q (xs ++ ys) s) := rfl
@[simp] theorem rRepL_ap (x : LV) (k : Int) (s : LS) (Q : List LV → LS → Prop) : rRepL x (.int k) s Q = (opt (seqL x s) fun xs => -(2 ^ 63) ≤ k ∧ k < 2 ^ 63 ∧ xs.length * k.toNat ≤ 16777216 ∧ Q (List.replicate k.toNat xs).flatten s) := rfl
@[simp] theorem seqL_lst (xs : List LV) (s : LS) : seqL (.lst xs) s = some xs := rfl
@[simp] theorem seqL_ref (a : Addr) (s : LS) : seqL (.ref a) s = (match s a with
    | some (.lst xs) => some xs
    | _ => none) := rfl
@[simp] theorem seqR_lst (xs : List LV) (s : LS) : seqR (.lst xs) s = some xs := rfl
@[simp] theorem seqR_scr (ns : List Int) (s : LS) : seqR (.scr ns) s = some (ns.map .int) := rfl
@[simp] theorem seqR_ref (a : Addr) (s : LS) : seqR (.ref a) s = (match s a with
    | some (.lst xs) => some xs
    | _ => none) := rfl
@[simp] theorem lenL_lst (xs : List LV) (s : LS) : lenL (.lst xs) s = some xs.length := rfl
@[simp] theorem lenL_tup (xs : List LV) (s : LS) : lenL (.tup xs) s = some xs.length := rfl
@[simp] theorem lenL_scr (xs : List Int) (s : LS) : lenL (.scr xs) s = some xs.length := rfl
@[simp] theorem lenL_ref (a : Addr) (s : LS) : lenL (.ref a) s = (match s a with
    | some (.lst xs) => some xs.length
    | _ => none) := rfl
@[simp] theorem rLenL_str (z : Str) (s : LS) (Q : LVK) : rLenL [.str z] s Q = (z.length ≤ 16777216 ∧ Q (.int z.length) s) := rfl
@[simp] theorem rLenL_lst (xs : List LV) (s : LS) (Q : LVK) : rLenL [.lst xs] s Q = Q (.int (xs.length : Int)) s := rfl
@[simp] theorem rLenL_tup (xs : List LV) (s : LS) (Q : LVK) : rLenL [.tup xs] s Q = Q (.int (xs.length : Int)) s := rfl
@[simp] theorem rLenL_scr (xs : List Int) (s : LS) (Q : LVK) : rLenL [.scr xs] s Q = Q (.int (xs.length : Int)) s := rfl
@[simp] theorem rLenL_ref (a : Addr) (s : LS) (Q : LVK) : rLenL [.ref a] s Q = opt (lenL (.ref a) s) fun n => Q (.int (n : Int)) s := rfl
@[simp] theorem rEqS_int (i j : Int) (s : LS) (Q : LVK) : rEqS (.int i) (.int j) s Q = Q (.bl (decide (i = j))) s := rfl
@[simp] theorem rEqS_bl (i j : Bool) (s : LS) (Q : LVK) : rEqS (.bl i) (.bl j) s Q = Q (.bl (decide (i = j))) s := rfl
@[simp] theorem rEqS_str (i j : Str) (s : LS) (Q : LVK) : rEqS (.str i) (.str j) s Q = Q (.bl (decide (i = j))) s := rfl
@[simp] theorem rNeS_int (i j : Int) (s : LS) (Q : LVK) : rNeS (.int i) (.int j) s Q = Q (.bl (!decide (i = j))) s := rfl
@[simp] theorem rNeS_bl (i j : Bool) (s : LS) (Q : LVK) : rNeS (.bl i) (.bl j) s Q = Q (.bl (!decide (i = j))) s := rfl
@[simp] theorem rNeS_str (i j : Str) (s : LS) (Q : LVK) : rNeS (.str i) (.str j) s Q = Q (.bl (!decide (i = j))) s := rfl
section
variable (s : LS) (Q : LVK)
@[simp] theorem rIsN_non : rIsNonL .non .non s Q = Q (.bl true) s := rfl
@[simp] theorem rIsN_bl (b : Bool) : rIsNonL (.bl b) .non s Q = Q (.bl false) s := rfl
@[simp] theorem rIsN_int (b : Int) : rIsNonL (.int b) .non s Q = Q (.bl false) s := rfl
@[simp] theorem rIsN_str (b : Str) : rIsNonL (.str b) .non s Q = Q (.bl false) s := rfl
@[simp] theorem rIsN_ref (b : Addr) : rIsNonL (.ref b) .non s Q = Q (.bl false) s := rfl
@[simp] theorem rIsN_tup (b : List LV) : rIsNonL (.tup b) .non s Q = Q (.bl false) s := rfl
@[simp] theorem rIsN_lst (b : List LV) : rIsNonL (.lst b) .non s Q = Q (.bl false) s := rfl
@[simp] theorem rIsN_dT (b : List (List Key × LV)) : rIsNonL (.dT b) .non s Q = Q (.bl false) s := rfl
@[simp] theorem rNotN_ap (x y : LV) : rNotNonL x y s Q = rIsNonL x y s fun v s' => match v with
  | .bl c => Q (.bl (!c)) s'
  | _ => False := rfl
@[simp] theorem rIx_lst (xs : List LV) (i : Int) : rIxL (.lst xs) (.int i) s Q = opt (atI xs i) fun v => Q v s := rfl
@[simp] theorem rIx_tup (xs : List LV) (i : Int) : rIxL (.tup xs) (.int i) s Q = opt (atI xs i) fun v => Q v s := rfl
@[simp] theorem rIx_scr (xs : List Int) (i : Int) : rIxL (.scr xs) (.int i) s Q = opt (atI xs i) fun v => Q (.int v) s := rfl
@[simp] theorem rIx_str (z : Str) (i : Int) : rIxL (.str z) (.int i) s Q = (z.length ≤ 16777216 ∧ opt (atI z.cps.toList i) fun c => Q (.str ⟨#[c]⟩) s) := rfl
@[simp] theorem rIx_ref (a : Addr) (i : Int) : rIxL (.ref a) (.int i) s Q = (match s a with
      | some (.lst xs) => opt (atI xs i) fun v => Q v s
      | some (.dK kvs) => opt (valL kvs (.inl i)) fun v => Q v s
      | _ => False) := rfl
@[simp] theorem rIx_key (x : LV) (z : Str) : rIxL x (.str z) s Q = opt (dicK x s) fun kvs => opt (valL kvs (.inr z)) fun v => Q v s := rfl
@[simp] theorem rIx_dT (x : LV) (ks : List LV) : rIxL x (.tup ks) s Q = opt (dicT x s) fun kvs => opt (keysL ks) fun k => opt (valL kvs k) fun v => Q v s := rfl
@[simp] theorem dicK_ref (a : Addr) : dicK (.ref a) s = (match s a with
    | some (.dK kvs) => some kvs
    | _ => none) := rfl
@[simp] theorem dicT_ref (a : Addr) : dicT (.ref a) s = (match s a with
    | some (.dT kvs) => some kvs
    | _ => none) := rfl
@[simp] theorem dicT_dT (kvs : List (List Key × LV)) : dicT (.dT kvs) s = some kvs := rfl
@[simp] theorem atL_ref (a : Addr) (k : Addr → List LV → Prop) : atL (.ref a) s k = (match s a with
    | some (.lst xs) => k a xs
    | _ => False) := rfl
@[simp] theorem keyL_int (i : Int) : keyL (.int i) = some (.inl i) := rfl
@[simp] theorem keyL_str (i : Str) : keyL (.str i) = some (.inr i) := rfl
@[simp] theorem keysL_nil : keysL [] = some [] := rfl
@[simp] theorem keysL_cons (x : LV) (xs : List LV) : keysL (x :: xs) = (keyL x).bind fun k => (keysL xs).map (k :: ·) := rfl
@[simp] theorem fld_ref (C : Addr) (f : Str) (a : Addr) (k : LV → Prop) : fldAt C f (.ref a) s k = (match s a with
    | some (.ins D fs) => D = C ∧ (match fs.lookup f with
      | some v => k v
      | none => False)
    | _ => False) := rfl
@[simp] theorem fld_ins (C D : Addr) (f : Str) (fs : List (Str × LV)) (k : LV → Prop) : fldAt C f (.ins D fs) s k = (D = C ∧ (match fs.lookup f with
    | some v => k v
    | none => False)) := rfl
@[simp] theorem meth_ref (C : Addr) (f : Str) (a : Addr) : methAt C f (.ref a) s = (match s a with
    | some (.ins B fs) => B = C ∧ fs.lookup f = none
    | _ => False) := rfl
@[simp] theorem meth_ins (C D : Addr) (f : Str) (fs : List (Str × LV)) : methAt C f (.ins D fs) s = (D = C ∧ fs.lookup f = none) := rfl
@[simp] theorem clsAt_ref (a : Addr) (k : Addr → List (Str × LV) → Prop) : clsAt (.ref a) s k = (match s a with
    | some (.ins B fs) => k B fs
    | _ => False) := rfl
@[simp] theorem clsAt_ins (C : Addr) (fs : List (Str × LV)) (k : Addr → List (Str × LV) → Prop) : clsAt (.ins C fs) s k = k C fs := rfl
@[simp] theorem rLst_lst (xs : List LV) (Q : List LV → LS → Prop) : rLstOf [.lst xs] s Q = Q xs s := rfl
@[simp] theorem rLst_tup (xs : List LV) (Q : List LV → LS → Prop) : rLstOf [.tup xs] s Q = Q xs s := rfl
@[simp] theorem rLst_scr (xs : List Int) (Q : List LV → LS → Prop) : rLstOf [.scr xs] s Q = Q (xs.map .int) s := rfl
@[simp] theorem rLst_ref (a : Addr) (Q : List LV → LS → Prop) : rLstOf [.ref a] s Q = opt (seqL (.ref a) s) fun xs => Q xs s := rfl
@[simp] theorem rSrtI_ap (vs : List LV) (Q : List LV → LS → Prop) : rSrtI vs s Q = one1 vs fun x => opt (seqL x s) fun xs => opt (intsOf xs) fun ns => ∀ ns' : List Int, ns'.Perm ns → ns'.Pairwise (· ≤ ·) → Q (ns'.map .int) s := rfl
@[simp] theorem rMax2_ap (i j : Int) : rMax2L [.int i, .int j] s Q = Q (.int (if j > i then j else i)) s := rfl
@[simp] theorem rMin2_ap (i j : Int) : rMin2L [.int i, .int j] s Q = Q (.int (if j < i then j else i)) s := rfl
@[simp] theorem rInt_int (i : Int) : rIntL [.int i] s Q = Q (.int i) s := rfl
@[simp] theorem rInt_bl (k : Bool) : rIntL [.bl k] s Q = Q (.int (if k then 1 else 0)) s := rfl
@[simp] theorem rIsi_ap (K : PySem.W.Frag) (x c : LV) : rIsiL K [x, c] s Q = opt (tyAt (fun _ => True) x s) fun t => opt (clsVal c) fun u => (∀ C, t = .ref C → InsC K C) ∧ ∃ b, PySem.W.kitOne K t u = some b ∧ Q (.bl b) s := rfl
@[simp] theorem clsVal_ref (a : Addr) : clsVal (.ref a) = some (.ref a) := rfl
@[simp] theorem clsVal_ty (n : String) : clsVal (.ty n) = some (.type n) := rfl
@[simp] theorem tyAt_non (CT : Addr → Prop) : tyAt CT .non s = some (.type "NoneType") := rfl
@[simp] theorem tyAt_bl (CT : Addr → Prop) (b : Bool) : tyAt CT (.bl b) s = some (.type "bool") := rfl
@[simp] theorem tyAt_int (CT : Addr → Prop) (b : Int) : tyAt CT (.int b) s = some (.type "int") := rfl
@[simp] theorem tyAt_str (CT : Addr → Prop) (b : Str) : tyAt CT (.str b) s = some (.type "str") := rfl
@[simp] theorem tyAt_lst (CT : Addr → Prop) (b : List LV) : tyAt CT (.lst b) s = some (.type "list") := rfl
@[simp] theorem tyAt_tup (CT : Addr → Prop) (b : List LV) : tyAt CT (.tup b) s = some (.type "tuple") := rfl
@[simp] theorem tyAt_ins (CT : Addr → Prop) (C : Addr) (b : List (Str × LV)) : tyAt CT (.ins C b) s = some (.ref C) := rfl
@[simp] theorem tyAt_ref (CT : Addr → Prop) (a : Addr) : tyAt CT (.ref a) s = (match s a with
    | some (.lst _) => some (.type "list")
    | some (.dK _) => some (.type "dict")
    | some (.dT _) => some (.type "dict")
    | some (.ins C _) => some (.ref C)
    | _ => none) := rfl
@[simp] theorem stbOf_ref (a : Addr) (xs : List LV) : stbOf (.ref a) xs s = (s a = some (.lst xs)) := rfl
@[simp] theorem stbOf_lst (ys xs : List LV) : stbOf (.lst ys) xs s = True := rfl
@[simp] theorem stbOf_scr (ys : List Int) (xs : List LV) : stbOf (.scr ys) xs s = True := rfl
@[simp] theorem stbOf_tup (ys xs : List LV) : stbOf (.tup ys) xs s = True := rfl
@[simp] theorem rSet_ap (a : Addr) (y v : LV) (Q : LS → Prop) : rSetL (.ref a) y v s Q = (match s a, y with
    | some (.lst xs), .int k => opt (ixN xs.length k) fun j => Q (put s a (.lst (xs.set j v)))
    | some (.dK kvs), .int k => kvs.length < 16777216 ∧ Q (put s a (.dK (putD kvs (.inl k) v)))
    | some (.dK kvs), .str k => kvs.length < 16777216 ∧ Q (put s a (.dK (putD kvs (.inr k) v)))
    | some (.dT kvs), .tup ks => opt (keysL ks) fun k => kvs.length < 16777216 ∧ Q (put s a (.dT (putD kvs k v)))
    | _, _ => False) := rfl
@[simp] theorem put_same' (a : Addr) (o : LO) : put s a o a = some o := put_same
@[simp] theorem lift_one (i : Nat) : CTg.lift (.one i) = lgName i := rfl
@[simp] theorem lift_many (is : List Nat) : CTg.lift (.many is) = lgTup is := rfl
@[simp] theorem slots_one (i : Nat) : CTg.slots (.one i) = [i] := rfl
@[simp] theorem slots_many (is : List Nat) : CTg.slots (.many is) = is := rfl
@[simp] theorem lwipe_nil (σ : LSt) : lwipe σ [] = σ := rfl
@[simp] theorem lwipe_cons (σ : LSt) (v : Nat) (vs : List Nat) : lwipe σ (v :: vs) = (lwipe σ vs).set v none := rfl
@[simp] theorem lSets_nil (σ : LSt) : lSets [] [] σ = some σ := rfl
@[simp] theorem lSets_cons (i : Nat) (is : List Nat) (v : LV) (vs : List LV) (σ : LSt) : lSets (i :: is) (v :: vs) σ = lSets is vs (σ.set i (some v)) := rfl
@[simp] theorem lgTup_ap (is : List Nat) (xs : List LV) (σ : LSt) (Q : LSt → LS → Prop) (E : LX) : lgTup is (.tup xs) σ s Q E = opt (lSets is xs σ) fun σ' => Q σ' s := by
  simp only [lgTup, opt]
  cases lSets is xs σ <;> rfl
@[simp] theorem lPairs_nil (P : Addr) (σ : LSt) (Q : List (Key × LV) → LS → Prop) (E : LX) : lPairs P [] σ s Q E = Q [] s := rfl
@[simp] theorem lPairs_cons (P : Addr) (k : Str) (t : LTE) (r : List (Str × LTE)) (σ : LSt) (Q : List (Key × LV) → LS → Prop) (E : LX) : lPairs P ((k, t) :: r) σ s Q E = t σ s (fun v s1 => lPairs P r σ s1 (fun ps s2 => Q ((.inr k, v) :: ps) s2) E) E := rfl
end
@[simp] theorem cxOf_K {CX : CXT} {P : Program} {w : World} {K : PySem.W.Frag} {mg : Str → Option Value} {base : Heap} {N : List Str} {qual : Str} {sc : Scope} {f : Addr} {cdv : Value} {A : Around} {outer : List Env} {si : Shared} {H : Hp} {E : XK} : (cxOf CX P w K mg base N qual sc f cdv A outer si H E).K = K := rfl
@[simp] theorem lstart_ap (N : List Str) (vs : List LV) : lstart N vs = vs.map some ++ List.replicate (N.length - vs.length) none := rfl
end L3

namespace L3
open PySem PySem.Spec L2
section
variable {X : Cx} [GG X.K] {K : PySem.W.Frag} [GG K] {s : LS} {H : Hp} {a b e o i : Expr} {es : List Expr} {pos : Pos} {ta tb te to ti t t' : LTE} {tas : LTA}
variable {k : Nat} {f C : Addr} {fd : FuncData} {ps : List Str} {sp : LSp} {x m : Str} {p apos : Pos}
theorem LE.imp (h : LE X e t) (hi : ∀ σ s Q E, t' σ s Q E → t σ s Q E) : LE X e t' := fun s0 H0 E tk => (h s0 H0 E tk).imp fun σ H Q ⟨σl, s, Q0, E1, hσ, hs, st, hE, h, k⟩ => ⟨σl, s, Q0, E1, hσ, hs, st, hE, hi _ _ _ _ h, k⟩
theorem Sub.put {s s' : LS} {x : Addr} {o : LO} (h : Sub s s') (n : s x = none) : Sub s (put s' x o) := fun a => by
  unfold L3.put
  by_cases e : a = x
  · subst e; exact .inl n
  · rw [if_neg e]; exact h a
theorem Sub.trans {s s' s2 : LS} (h : Sub s s') (h' : Sub s' s2) : Sub s s2 := fun a => by
  rcases h a with q | q
  · exact .inl q
  · rcases h' a with r | r
    · exact .inl (by rw [q, r])
    · exact .inr (by rw [q, r])
theorem Sub.free {s s' : LS} {x : Addr} (h : Sub s s') (n : s' x = none) : s x = none := by
  rcases h x with q | q
  · exact q
  · rw [q, n]
theorem Sub.del {s s' : LS} {x : Addr} (h : Sub s s') : Sub (del s x) s' := fun a => by
  unfold L3.del
  by_cases e : a = x
  · exact .inl (if_pos e)
  · rw [if_neg e]; exact h a
theorem sub_put {s : LS} {x : Addr} {o : LO} (n : s x = none) : Sub s (put s x o) := (Sub.refl s).put n
theorem sub_del {s : LS} {x : Addr} : Sub (del s x) s := (Sub.refl s).del
theorem fin {Q : LVK} {x : LV} {s' s2 : LS} (h : Sub s2 s') (q : Q x s2) : ∃ y s2, Frz x s' y s2 ∧ Q y s2 := ⟨x, s2, .sub h, q⟩
theorem fin_lst {Q : LVK} {r : Addr} {xs : List LV} {s' s2 : LS} (e : s' r = some (.lst xs)) (n : s2 r = none) (h : Sub s2 s') (q : Q (.lst xs) s2) : ∃ y s2, Frz (.ref r) s' y s2 ∧ Q y s2 := ⟨_, s2, .lst e n h, q⟩
theorem fin_dT {Q : LVK} {r : Addr} {xs : List (List Key × LV)} {s' s2 : LS} (e : s' r = some (.dT xs)) (n : s2 r = none) (h : Sub s2 s') (q : Q (.dT xs) s2) : ∃ y s2, Frz (.ref r) s' y s2 ∧ Q y s2 := ⟨_, s2, .dT e n h, q⟩
theorem fin_ins {Q : LVK} {r C : Addr} {xs : List (Str × LV)} {s' s2 : LS} (e : s' r = some (.ins C xs)) (n : s2 r = none) (h : Sub s2 s') (q : Q (.ins C xs) s2) : ∃ y s2, Frz (.ref r) s' y s2 ∧ Q y s2 := ⟨_, s2, .ins e n h, q⟩
theorem put_inj {s : LS} {x : Addr} {o o' : LO} : put s x o = put s x o' ↔ o = o' := by
  constructor
  · intro h
    have := congrFun h x
    rw [put_same, put_same] at this
    exact Option.some.inj this
  · intro h; rw [h]
/-- C() frozen at once -/
def lMakeNF (C : Addr) : LTE := fun _ s Q _ => Q (.ins C []) s
theorem le_makeNF (M : MkN X.K C) (hg : Gl X x) (hm : X.mg x = some (.ref C)) (hdb : (x == ("__debug__" : Str)) = false := by decide) : LE X (.Call (.Name x p) [] [] pos) (lMakeNF C) :=
  (le_frz (le_makeN M hg hm hdb)).imp fun σ s Q E h y hy => ⟨_, s, .ins put_same hy (sub_put hy), h⟩
/-- C(..) frozen once its __init__ has ended -/
def lMakeZ (C : Addr) (sp : LSp) (t : LTA) : LTE := fun σ s Q E => t σ s (fun vs s1 => ∀ x, s1 x = none → sp (.ref x :: vs) (put s1 x (.ins C [])) (fun v s2 => v = .non ∧ ∃ fs, s2 = put s1 x (.ins C fs) ∧ Q (.ins C fs) s1) (fun c s2 => s2 = put s1 x (.ins C []) ∧ E c s1)) E
theorem dn_callS {s0 : LS} {H0 : Hp} {E : LXS} {σ : St} {H : Hp} {Q : VK} {sp : LSp} {K : PySem.W.Frag} [GG K] {σl : LSt} {s sR : LS} {HR : Hp} {lvs : List LV} {vs : List V} {Q0 : LVK} {E1 : LX} (hσ : RSt K sR HR σl σ) (hs : RelS K s H) (st : Step s0 H0 sR HR) (stR : Step sR HR s H)
    (hE : ∀ C s', E1 C s' → Sub sR s' ∧ E C σl sR) (r : RVs K s H lvs vs) (h : sp lvs s Q0 E1) (k : ∀ lv s' v H', Q0 lv s' → Step s H s' H' → RelS K s' H' → RV K s' H' lv v → Q v H') : dn K sp vs H Q (WE (WL K s0 H0 E) σ) :=
  ⟨lvs, s, Q0, E1, r, hs, h, k, fun C s' H' q st1 hs1 => by
    obtain ⟨sb, q'⟩ := hE C s' q
    have st2 := (stR.trans st1).trans sb.step
    exact ⟨C, σl, sR, rfl, rfl, hσ.mono st2, sb.rel hs1, st.trans st2, q'⟩⟩
theorem le_makeZ (M : Mk X.K C f) (F : LFn X.prog X.w X.K X.mg X.base k f fd ps sp) (hr : Room (k + 1) X.A) (hg : Gl X x) (hm : X.mg x = some (.ref C)) (hb : Binds X.K fd ps []) (ha : LA X (e :: es) tas)
    (hdb : (x == ("__debug__" : Str)) = false := by decide) (he : starEach (e :: es) X.env = (false, eval e X.env) :: starEach es X.env := by rfl) (hpl : (backTo pos (starEach es X.env)).any (·.1) = false := by rfl) :
    LE X (.Call (.Name x p) (e :: es) [] pos) (lMakeZ C sp tas) := fun s0 H0 E tk => ⟨fun pins si σ H Q I ⟨σl, s, Q0, E1, hσ, hs, st, hE, h, kk⟩ => by
  refine wpAny_Call_Name_kw (ld_glob I hg hm ?_ hdb)
  refine PySem.W.callWith_K (h₀ := X.base) I.ok.mod.kin M.kp (thn (ha.go tk pos I hσ hs st hE h) fun us si1 hx => ?_) he hpl
  obtain ⟨vs, H1, I1, rvs, lvs, s1, st1, hs1, r, h⟩ := hx
  refine ⟨I1.kIn, run_makeS M F hr hb (passAt tk σ) I1 rvs fun y dx ny nd ne => ?_⟩
  obtain ⟨stm, hsm⟩ := made_step (C := C) hs1 ny nd ne
  have n1 : upd H1 dx (.own y) y = none := by rw [upd_ne (Ne.symm ne)]; exact ny
  have st2 := st1.trans stm
  have sb : Sub s1 (put s1 y (.ins C [])) := sub_put (hs1.free ny)
  have r2 := r.mono stm
  refine dn_callS (sR := s1) (HR := H1) (s := put s1 y (.ins C [])) (hσ.mono st1) hsm (st.trans st1) stm (fun C' s' q => ⟨by rw [q.1]; exact sb, hE _ _ q.2⟩) (.cons .ref r2) (h y (hs1.free ny)) fun lv s3 v H3 q st3 hs3 rv => ?_
  · obtain ⟨rfl, fs, rfl, q⟩ := q
    refine ⟨rv.non', ?_⟩
    have z := Frz.ins (s1 := put s1 y (.ins C fs)) (s2 := s1) (a := y) put_same (hs1.free ny) (sub_put (hs1.free ny)) X.K H3 (.ref y) hs3 .ref
    exact kk _ s1 _ H3 q (st2.trans (st3.trans z.2.2)) z.2.1 z.1⟩
end
end L3

namespace L3
open PySem PySem.Spec L2
mutual
def datV : LV → Option PyData
  | .non => some .none
  | .bl b => some (.bool b)
  | .int i => some (.int i)
  | .str z => some (.str z)
  | .lst xs => (datVs xs).map .list
  | .tup xs => (datVs xs).map .tuple
  | _ => none
def datVs : List LV → Option (List PyData)
  | [] => some []
  | x :: xs => (datV x).bind fun d => (datVs xs).map (d :: ·)
end
mutual
theorem isd_of_dat {s : LS} : ∀ {x : LV} {d : PyData}, datV x = some d → Isd s d x
  | .non, d, h => by simp only [datV, Option.some.injEq] at h; subst h; simp only [Isd]
  | .bl b, d, h => by simp only [datV, Option.some.injEq] at h; subst h; simp only [Isd]
  | .int b, d, h => by simp only [datV, Option.some.injEq] at h; subst h; simp only [Isd]
  | .str b, d, h => by simp only [datV, Option.some.injEq] at h; subst h; simp only [Isd]
  | .lst xs, d, h => by
    simp only [datV, Option.map_eq_some_iff] at h
    obtain ⟨ds, h, rfl⟩ := h
    simp only [Isd]
    exact .inl ⟨xs, rfl, isds_of_dat h⟩
  | .tup xs, d, h => by
    simp only [datV, Option.map_eq_some_iff] at h
    obtain ⟨ds, h, rfl⟩ := h
    simp only [Isd]
    exact ⟨xs, rfl, isds_of_dat h⟩
  | .ty _, _, h => by simp only [datV] at h; cases h
  | .ref _, _, h => by simp only [datV] at h; cases h
  | .scr _, _, h => by simp only [datV] at h; cases h
  | .dT _, _, h => by simp only [datV] at h; cases h
  | .ins _ _, _, h => by simp only [datV] at h; cases h
theorem isds_of_dat {s : LS} : ∀ {xs : List LV} {ds : List PyData}, datVs xs = some ds → Isds s ds xs
  | [], ds, h => by simp only [datVs, Option.some.injEq] at h; subst h; simp only [Isds]
  | x :: xs, ds, h => by
    simp only [datVs, Option.bind_eq_some_iff, Option.map_eq_some_iff] at h
    obtain ⟨d, h1, ds', h2, rfl⟩ := h
    simp only [Isds]
    exact ⟨x, xs, rfl, isd_of_dat h1, isds_of_dat h2⟩
end
def dat (s : LS) (x : LV) : Option PyData := match x with
  | .ref a => (match s a with
    | some (.lst xs) => (datVs xs).map .list
    | _ => none)
  | x => datV x
theorem isd_dat {s : LS} {x : LV} {d : PyData} (h : dat s x = some d) : Isd s d x := by
  cases x with
  | ref a =>
    simp only [dat] at h
    split at h
    · next xs e =>
      simp only [Option.map_eq_some_iff] at h
      obtain ⟨ds, h, rfl⟩ := h
      simp only [Isd]
      exact .inr ⟨a, xs, rfl, e, isds_of_dat h⟩
    · cases h
  | _ => exact isd_of_dat h
@[simp] theorem dat_non (s : LS) : dat s .non = some .none := by simp only [dat, datV]
@[simp] theorem dat_bl (s : LS) (b : Bool) : dat s (.bl b) = some (.bool b) := by simp only [dat, datV]
@[simp] theorem dat_int (s : LS) (b : Int) : dat s (.int b) = some (.int b) := by simp only [dat, datV]
@[simp] theorem dat_str (s : LS) (b : Str) : dat s (.str b) = some (.str b) := by simp only [dat, datV]
@[simp] theorem dat_lst (s : LS) (xs : List LV) : dat s (.lst xs) = (datVs xs).map .list := by simp only [dat, datV]
@[simp] theorem dat_tup (s : LS) (xs : List LV) : dat s (.tup xs) = (datVs xs).map .tuple := by simp only [dat, datV]
@[simp] theorem dat_ref (s : LS) (a : Addr) : dat s (.ref a) = (match s a with
    | some (.lst xs) => (datVs xs).map .list
    | _ => none) := rfl
@[simp] theorem datV_non : datV .non = some .none := by simp only [datV]
@[simp] theorem datV_bl (b : Bool) : datV (.bl b) = some (.bool b) := by simp only [datV]
@[simp] theorem datV_int (b : Int) : datV (.int b) = some (.int b) := by simp only [datV]
@[simp] theorem datV_str (b : Str) : datV (.str b) = some (.str b) := by simp only [datV]
@[simp] theorem datV_lst (xs : List LV) : datV (.lst xs) = (datVs xs).map .list := by simp only [datV]
@[simp] theorem datV_tup (xs : List LV) : datV (.tup xs) = (datVs xs).map .tuple := by simp only [datV]
@[simp] theorem datVs_nil : datVs [] = some [] := by simp only [datVs]
@[simp] theorem datVs_cons (x : LV) (xs : List LV) : datVs (x :: xs) = (datV x).bind fun d => (datVs xs).map (d :: ·) := by simp only [datVs]
def rEqV (neg : Bool) : LR2 := fun x y s Q => opt (dat s x) fun d => opt (dat s y) fun e => (SeqAt.shaped d = true ∧ SeqAt.shaped e = true) ∧ Q (.bl (neg.xor (PyData.eqv d e))) s
@[simp] theorem rEqV_ap (neg : Bool) (x y : LV) (s : LS) (Q : LVK) : rEqV neg x y s Q = (opt (dat s x) fun d => opt (dat s y) fun e => (SeqAt.shaped d = true ∧ SeqAt.shaped e = true) ∧ Q (.bl (neg.xor (PyData.eqv d e))) s) := rfl
theorem eqV_L {x y : LV} {s : LS} {Q : LVK} (h : rEqV false x y s Q) : rEqL x y s Q := by
  obtain ⟨d, h1, h⟩ := opt_ok h
  obtain ⟨e, h2, ⟨h3, h4⟩, h⟩ := opt_ok h
  exact ⟨d, e, isd_dat h1, isd_dat h2, h3, h4, by simpa using h⟩
theorem neV_L {x y : LV} {s : LS} {Q : LVK} (h : rEqV true x y s Q) : rNeL x y s Q := by
  obtain ⟨d, h1, h⟩ := opt_ok h
  obtain ⟨e, h2, ⟨h3, h4⟩, h⟩ := opt_ok h
  exact ⟨d, e, isd_dat h1, isd_dat h2, h3, h4, by simpa using h⟩
def rInV (neg : Bool) : LR2 := fun x y s Q => opt (seqL y s) fun xs => opt (dat s x) fun d => opt (datVs xs) fun ds => (SeqAt.shaped d = true ∧ SeqAt.shaped (.list ds) = true) ∧ Q (.bl (neg.xor (ds.any fun z => PyData.eqv z d))) s
@[simp] theorem rInV_ap (neg : Bool) (x y : LV) (s : LS) (Q : LVK) : rInV neg x y s Q = (opt (seqL y s) fun xs => opt (dat s x) fun d => opt (datVs xs) fun ds => (SeqAt.shaped d = true ∧ SeqAt.shaped (.list ds) = true) ∧ Q (.bl (neg.xor (ds.any fun z => PyData.eqv z d))) s) := rfl
theorem inV_L {neg : Bool} {x y : LV} {s : LS} {Q : LVK} (h : rInV neg x y s Q) : rInL neg x y s Q := by
  obtain ⟨xs, e, h⟩ := opt_ok h
  obtain ⟨d, h1, h⟩ := opt_ok h
  obtain ⟨ds, h2, ⟨h3, h4⟩, h⟩ := opt_ok h
  show opt (seqL y s) _
  rw [e]
  exact ⟨d, ds, isd_dat h1, isds_of_dat h2, h3, h4, h⟩
section
variable {X : Cx} [GG X.K] {K : PySem.W.Frag} [GG K] {s : LS} {H : Hp} {a b : Expr} {pos : Pos} {ta tb : LTE}
theorem Up2.imp {K : PySem.W.Frag} [GG K] {r : R2} {rl rl' : LR2} (u : Up2 K r rl) (h : ∀ x y s Q, rl' x y s Q → rl x y s Q) : Up2 K r rl' := fun x y s H lx ly Q0 Q hs rx ry q k => u x y s H lx ly Q0 Q hs rx ry (h _ _ _ _ q) k
theorem le_eqV (hu : X.A.units + 64 < cLine) (ha : LE X a ta) (hb : LE X b tb) : LE X (.Compare a [.Eq] [b] pos) (lOp (rEqV false) ta tb) := le_cmp (op_eqD hu) (up_eqL.imp fun _ _ _ _ => eqV_L) ha hb (nomark _)
theorem le_neV (hu : X.A.units + 64 < cLine) (ha : LE X a ta) (hb : LE X b tb) : LE X (.Compare a [.NotEq] [b] pos) (lOp (rEqV true) ta tb) := le_cmp (op_neD hu) (up_neL.imp fun _ _ _ _ => neV_L) ha hb (nomark _)
theorem lt_eqV (hu : X.A.units + 64 < cLine) (ha : LE X a ta) (hb : LE X b tb) : LT X (.Compare a [.Eq] [b] pos) (lB (lOp (rEqV false) ta tb)) := lt_cmp (op_eqD hu) (up_eqL.imp fun _ _ _ _ => eqV_L) ha hb (nomark _)
theorem lt_neV (hu : X.A.units + 64 < cLine) (ha : LE X a ta) (hb : LE X b tb) : LT X (.Compare a [.NotEq] [b] pos) (lB (lOp (rEqV true) ta tb)) := lt_cmp (op_neD hu) (up_neL.imp fun _ _ _ _ => neV_L) ha hb (nomark _)
theorem le_inV (hu : X.A.units + 65 < cLine) (ha : LE X a ta) (hb : LE X b tb) (hm : behindInMarks .In b = false) : LE X (.Compare a [.In] [b] pos) (lOp (rInV false) ta tb) := le_cmp (op_inD hu) (up_inL.imp fun _ _ _ _ => inV_L) ha hb hm
theorem le_ninV (hu : X.A.units + 65 < cLine) (ha : LE X a ta) (hb : LE X b tb) (hm : behindInMarks .NotIn b = false) : LE X (.Compare a [.NotIn] [b] pos) (lOp (rInV true) ta tb) := le_cmp (op_notInD hu) (up_ninL.imp fun _ _ _ _ => inV_L) ha hb hm
theorem lt_inV (hu : X.A.units + 65 < cLine) (ha : LE X a ta) (hb : LE X b tb) (hm : behindInMarks .In b = false) : LT X (.Compare a [.In] [b] pos) (lB (lOp (rInV false) ta tb)) := lt_cmp (op_inD hu) (up_inL.imp fun _ _ _ _ => inV_L) ha hb hm
theorem lt_ninV (hu : X.A.units + 65 < cLine) (ha : LE X a ta) (hb : LE X b tb) (hm : behindInMarks .NotIn b = false) : LT X (.Compare a [.NotIn] [b] pos) (lB (lOp (rInV true) ta tb)) := lt_cmp (op_notInD hu) (up_ninL.imp fun _ _ _ _ => inV_L) ha hb hm
end
class Cod (α : Type) where
  enc : α → LV
  den : α → PyData
  datV : ∀ a, L3.datV (enc a) = some (den a)
  can : ∀ a, (den a).canLay0 = true
  dep : Nat
  hdep : ∀ a, (den a).depth ≤ dep
  eqv : ∀ a b, PyData.eqv (den a) (den b) = true ↔ a = b
variable {α β : Type}
def encs [Cod α] (xs : List α) : List LV := xs.map Cod.enc
theorem datVs_enc [Cod α] : ∀ xs : List α, datVs (xs.map Cod.enc) = some (xs.map Cod.den)
  | [] => by simp
  | x :: xs => by simp only [List.map_cons, datVs_cons, Cod.datV, datVs_enc xs, Option.bind_some, Option.map_some]
theorem can_all [Cod α] : ∀ xs : List α, PyData.canLayAll0 (xs.map Cod.den) = true
  | [] => by simp [PyData.canLayAll0]
  | x :: xs => by simp only [List.map_cons, PyData.canLayAll0, Cod.can, can_all xs, Bool.and_true]
theorem dep_all [Cod α] : ∀ xs : List α, PyData.depthAll (xs.map Cod.den) ≤ Cod.dep α
  | [] => by simp [PyData.depthAll]
  | x :: xs => by
    simp only [List.map_cons, PyData.depthAll]
    exact Nat.max_le.mpr ⟨Cod.hdep x, dep_all xs⟩
theorem eqv_all [Cod α] : ∀ xs ys : List α, PyData.eqvAll (xs.map Cod.den) (ys.map Cod.den) = true ↔ xs = ys
  | [], [] => by simp [PyData.eqvAll]
  | [], _ :: _ => by simp [PyData.eqvAll]
  | _ :: _, [] => by simp [PyData.eqvAll]
  | x :: xs, y :: ys => by simp only [List.map_cons, PyData.eqvAll, Bool.and_eq_true, Cod.eqv, eqv_all xs ys, List.cons.injEq]
instance : Cod Int := ⟨.int, .int, fun _ => by simp, fun _ => by simp [PyData.canLay0], 0, fun _ => by simp [PyData.depth], fun a b => by simp [PyData.eqv]⟩
instance : Cod Bool := ⟨.bl, .bool, fun _ => by simp, fun _ => by simp [PyData.canLay0], 0, fun _ => by simp [PyData.depth], fun a b => by simp [PyData.eqv]⟩
instance [Cod α] : Cod (List α) := ⟨fun xs => .lst (xs.map Cod.enc), fun xs => .list (xs.map Cod.den), fun xs => by simp [datVs_enc], fun xs => by simp only [PyData.canLay0]; exact can_all xs, Cod.dep α + 1, fun xs => by
  simp only [PyData.depth]; exact Nat.succ_le_succ (dep_all xs), fun a b => by simp only [PyData.eqv]; exact eqv_all a b⟩
instance [Cod α] [Cod β] : Cod (α × β) := ⟨fun p => .tup [Cod.enc p.1, Cod.enc p.2], fun p => .tuple [Cod.den p.1, Cod.den p.2], fun p => by simp [Cod.datV], fun p => by simp [PyData.canLay0, PyData.canLayAll0, Cod.can], max (Cod.dep α) (Cod.dep β) + 1, fun p => by
  simp only [PyData.depth, PyData.depthAll]
  have := Cod.hdep p.1
  have := Cod.hdep p.2
  omega, fun a b => by
  simp only [PyData.eqv, PyData.eqvAll, Bool.and_true, Bool.and_eq_true, Cod.eqv, Prod.ext_iff]⟩
/-- a letter's name -/
structure Nm where
  hand : Int
  place : Int
  k : Int
deriving DecidableEq, Repr
def nmL (n : Nm) : LV := .tup [.int n.hand, .int n.place, .int n.k]
def nmD (n : Nm) : PyData := .tuple [.int n.hand, .int n.place, .int n.k]
instance : Cod Nm := ⟨nmL, nmD, fun p => by simp [nmL, nmD], fun p => by simp [nmD, PyData.canLay0, PyData.canLayAll0], 1, fun p => by simp [nmD, PyData.depth, PyData.depthAll], fun a b => by
  cases a; cases b; simp [nmD, PyData.eqv, PyData.eqvAll]⟩
instance [Cod α] : Cod (Option α) where
  enc := fun o => match o with
    | none => .non
    | some a => .tup [Cod.enc a]
  den := fun o => match o with
    | none => .none
    | some a => .tuple [Cod.den a]
  datV := fun o => by cases o <;> simp [Cod.datV]
  can := fun o => by cases o <;> simp [PyData.canLay0, PyData.canLayAll0, Cod.can]
  dep := Cod.dep α + 1
  hdep := fun o => by
    cases o with
    | none => simp [PyData.depth]
    | some a =>
      simp only [PyData.depth, PyData.depthAll]
      have := Cod.hdep a
      omega
  eqv := fun a b => by cases a <;> cases b <;> simp [PyData.eqv, PyData.eqvAll, Cod.eqv]
theorem shaped_cod [Cod α] (h : Cod.dep α ≤ 64) (a : α) : SeqAt.shaped (Cod.den a) = true := by
  unfold SeqAt.shaped
  rw [Cod.can, Bool.true_and]
  exact decide_eq_true (Nat.le_trans (Cod.hdep a) h)
theorem eqv_cod [Cod α] [DecidableEq α] (a b : α) : PyData.eqv (Cod.den a) (Cod.den b) = decide (a = b) := by
  by_cases h : a = b
  · rw [decide_eq_true h]; exact (Cod.eqv a b).mpr h
  · rw [decide_eq_false h]
    cases e : PyData.eqv (Cod.den a) (Cod.den b) with
    | false => rfl
    | true => exact absurd ((Cod.eqv a b).mp e) h
/-- the value at hand is the coded a -/
def Den [Cod α] (s : LS) (x : LV) (a : α) : Prop := dat s x = some (Cod.den a)
theorem den_enc [Cod α] (s : LS) (a : α) : Den s (Cod.enc a) a := by
  have h := Cod.datV a
  unfold Den dat
  cases e : Cod.enc a with
  | ref p => rw [e] at h; simp only [L3.datV] at h; cases h
  | _ => rw [e] at h; exact h
theorem den_ref [Cod α] {s : LS} {r : Addr} {xs : List α} (h : s r = some (.lst (xs.map Cod.enc))) : Den s (.ref r) xs := by
  unfold Den
  rw [dat_ref, h]
  simp only [datVs_enc, Option.map_some]
  rfl
theorem rEqV_den [Cod α] [DecidableEq α] {neg : Bool} {x y : LV} {s : LS} {Q : LVK} {a b : α} (hd : Cod.dep α ≤ 64) (hx : Den s x a) (hy : Den s y b) : rEqV neg x y s Q = Q (.bl (neg.xor (decide (a = b)))) s := by
  rw [rEqV_ap, hx, hy, opt_some, opt_some, shaped_cod hd, shaped_cod hd, eqv_cod]
  simp
theorem any_cod [Cod α] [DecidableEq α] (xs : List α) (a : α) : ((xs.map Cod.den).any fun z => PyData.eqv z (Cod.den a)) = decide (a ∈ xs) := by
  induction xs with
  | nil => simp
  | cons x xs ih => rw [List.map_cons, List.any_cons, ih, eqv_cod]; simp [eq_comm]
theorem rInV_den [Cod α] [DecidableEq α] {neg : Bool} {x y : LV} {s : LS} {Q : LVK} {a : α} {b : List α} (hd : Cod.dep α < 64) (hx : Den s x a) (hy : seqL y s = some (b.map Cod.enc)) : rInV neg x y s Q = Q (.bl (neg.xor (decide (a ∈ b)))) s := by
  rw [rInV_ap, hx, hy, opt_some, opt_some, datVs_enc, opt_some, shaped_cod (Nat.le_of_lt hd), show SeqAt.shaped (.list (b.map Cod.den)) = true from shaped_cod (α := List α) hd b, any_cod]
  simp
end L3
namespace L3
theorem ifD {P A B : Prop} [Decidable P] (h1 : P → A) (h2 : ¬P → B) : (decide P = true → A) ∧ (decide P = false → B) := ⟨fun h => h1 (of_decide_eq_true h), fun h => h2 (of_decide_eq_false h)⟩
theorem ifN {P A B : Prop} [Decidable P] (h1 : ¬P → A) (h2 : P → B) : ((!decide P) = true → A) ∧ ((!decide P) = false → B) := ⟨fun h => h1 (by simpa using h), fun h => h2 (by simpa using h)⟩
theorem ifT {c : Bool} {A B : Prop} (e : c = true) (h : A) : (c = true → A) ∧ (c = false → B) := ⟨fun _ => h, fun q => by rw [e] at q; cases q⟩
theorem ifF {c : Bool} {A B : Prop} (e : c = false) (h : B) : (c = true → A) ∧ (c = false → B) := ⟨fun q => (by rw [e] at q; cases q), fun _ => h⟩
theorem ifB {c : Bool} {A B : Prop} (h1 : c = true → A) (h2 : c = false → B) : (c = true → A) ∧ (c = false → B) := ⟨h1, h2⟩
end L3

namespace L3
open PySem PySem.Spec L2
variable {α : Type} {g : LTG} {tb : LTS} {stb : LS → Prop} {D : LEnds}
theorem lLoop_map (enc : α → LV) (I : List α → List α → LSt → LS → Prop) {xs : List α} {σ : LSt} {s : LS} (h0 : I [] xs σ s) (hst : ∀ p r σ s, I p r σ s → stb s)
    (hs : ∀ p x r σ s N, xs = p ++ x :: r → I p (x :: r) σ s → (∀ σ' s', I (p ++ [x]) r σ' s' → N σ' s') → g (enc x) σ s (fun σ2 s2 => tb (D.wlp N) σ2 s2) (fun C s1 => D.ex C σ s1))
    (hn : ∀ σ s, I xs [] σ s → D.nx σ s) : lLoop g tb stb D (xs.map enc) σ s := by
  have go : ∀ (r p : List α) (σ : LSt) (s : LS), xs = p ++ r → I p r σ s → lLoop g tb stb D (r.map enc) σ s := by
    intro r
    induction r with
    | nil =>
      intro p σ s e i
      rw [List.append_nil] at e
      subst e
      exact ⟨hst _ _ _ _ i, hn _ _ i⟩
    | cons x r ih =>
      intro p σ s e i
      exact ⟨hst _ _ _ _ i, hs p x r σ s _ e i fun σ' s' q => ih (p ++ [x]) σ' s' (by simp [e]) q⟩
  exact go xs [] σ s rfl h0
/-- .. over a range: what holds ahead of the turn i -/
theorem lLoop_rg {a b : Int} (I : Nat → LSt → LS → Prop) {σ : LSt} {s : LS} (h0 : I 0 σ s) (hst : ∀ i σ s, I i σ s → stb s)
    (hs : ∀ i σ s N, i < (b - a).toNat → I i σ s → (∀ σ' s', I (i + 1) σ' s' → N σ' s') → g (.int (a + (i : Nat))) σ s (fun σ2 s2 => tb (D.wlp N) σ2 s2) (fun C s1 => D.ex C σ s1))
    (hn : ∀ σ s, I (b - a).toNat σ s → D.nx σ s) : lLoop g tb stb D (rgL a b) σ s := by
  refine lLoop_map (fun i : Nat => LV.int (a + (i : Nat))) (fun p r σ s => I p.length σ s) h0 (fun p r σ s => hst _ _ _) ?_ ?_
  · intro p x r σ s N e i k
    have hl : p.length + (r.length + 1) = (b - a).toNat := by
      have := congrArg List.length e
      simpa using this.symm
    have hx : x = p.length := by
      have := congrArg (fun l : List Nat => l[p.length]?) e
      simp at this
      rw [List.getElem?_range (by omega)] at this
      simpa using this.symm
    subst hx
    refine hs p.length σ s N (by omega) i fun σ' s' q => k σ' s' ?_
    simpa using q
  · intro σ s i
    refine hn σ s ?_
    simpa using i
/-- what was held is held still -/
def Ext (s s' : LS) : Prop := ∀ a o, s a = some o → s' a = some o
theorem Ext.refl (s : LS) : Ext s s := fun _ _ h => h
theorem Ext.trans {s s' s2 : LS} (h : Ext s s') (h' : Ext s' s2) : Ext s s2 := fun a o e => h' a o (h a o e)
theorem Ext.put {s s' : LS} {x : Addr} {o : LO} (h : Ext s s') (n : s x = none) : Ext s (put s' x o) := fun a o' e => by
  have ne : a ≠ x := by rintro rfl; rw [n] at e; cases e
  rw [put_ne ne]
  exact h a o' e
theorem Ext.sub {s s' : LS} (h : Ext s s') : Sub s s' := fun a => by
  cases e : s a with
  | none => exact .inl rfl
  | some o => exact .inr (h a o e).symm
theorem ext_put {s : LS} {x : Addr} {o : LO} (n : s x = none) : Ext s (put s x o) := (Ext.refl s).put n
theorem lc_pure {enc : α → LV} {Da : Addr} {gc : CTg} {tt : LTT} {te : LTE} {σw : LSt} {Q : List LV → LS → Prop} {s : LS} {xs : List α} (hD : s Da = none) (p : α → Bool) (f : α → LV) (hst : ∀ s', Ext s s' → stb s') (hlen : xs.length ≤ 16777216)
    (hs : ∀ x ∈ xs, ∀ s' (Y : LV → LS → Prop) (N : LS → Prop), Ext s s' → (p x = true → Y (f x) s') → (p x = false → N s') →
      gc.lift (enc x) σw s' (fun σ2 s2 => tt σ2 s2 (fun b s3 => (b = true → te σ2 s3 Y fun _ _ => False) ∧ (b = false → N s3)) fun _ _ => False) fun _ _ => False)
    (hQ : Q ((xs.filter p).map f) s) : lcLoop Da gc tt te stb σw Q (xs.map enc) (put s Da (.lst [])) := by
  have go : ∀ (r q : List α), xs = q ++ r → lcLoop Da gc tt te stb σw Q (r.map enc) (put s Da (.lst ((q.filter p).map f))) := by
    intro r
    induction r with
    | nil =>
      intro q e
      rw [List.append_nil] at e
      subst e
      refine ⟨hst _ (ext_put hD), ?_⟩
      rw [put_same]
      show Q _ (del (put s Da _) Da)
      have : del (put s Da (.lst ((xs.filter p).map f))) Da = s := by
        funext b
        unfold del put
        by_cases h : b = Da
        · rw [if_pos h, h, hD]
        · rw [if_neg h, if_neg h]
      rw [this]
      exact hQ
    | cons x r ih =>
      intro q e
      refine ⟨hst _ (ext_put hD), ?_⟩
      have hl : ((q.filter p).map f).length < 16777216 := by
        have h1 := List.length_filter_le p q
        have h2 := congrArg List.length e
        simp at h2
        rw [List.length_map]
        omega
      have z := ih (q ++ [x]) (by simp [e])
      refine hs x (by simp [e]) _ _ _ (ext_put hD) (fun hp => ?_) (fun hp => ?_)
      · show match put s Da _ Da with | some (.lst acc) => _ | _ => False
        rw [put_same]
        refine ⟨hl, ?_⟩
        rw [put_put]
        simpa [List.filter_append, hp] using z
      · simpa [List.filter_append, hp] using z
  exact go xs [] rfl
end L3

namespace L3
open PySem PySem.Spec L2
/-- the law's own promise; tabs: the tables of code objects that makers fill -/
def spLaw (tabs : List (Addr × Str)) : LSp := fun vs s Q E => ∃ ns : List Int, ns.length ≤ 63 ∧ vs = [.scr ns] ∧ (∀ p ∈ tabs, s p.1 = some (.tab p.2)) ∧ Q (.bl true) s
theorem law_starts {K : PySem.W.Frag} [GG K] (tabs : List (Addr × Str)) (nd : (tabs.map (·.1)).Nodup) (H : Hp) (a : Addr) (ns : List Int) (hl : ns.length ≤ 63) (hT : ∀ p ∈ tabs, H p.1 = some (.tbl #[])) (hS : SqL K H a (ns.map V.int)) :
    dn K (spLaw tabs) [.ref a] H (fun v _ => v = .bl true) fun _ _ _ => False := by
  have look : ∀ (l : List (Addr × Str)) (b : Addr) (q : Str), l.lookup b = some q → (b, q) ∈ l := fun l => by
    induction l with
    | nil => intro b q h; cases h
    | cons p r ih =>
      intro b q h
      obtain ⟨c, z⟩ := p
      rw [List.lookup_cons] at h
      by_cases e : b = c
      · subst e; rw [beq_self_eq_true] at h; cases h; simp
      · rw [beq_eq_false_iff_ne.mpr e] at h
        exact List.mem_cons_of_mem _ (ih b q h)
  have has : ∀ (l : List (Addr × Str)), (l.map (·.1)).Nodup → ∀ p ∈ l, l.lookup p.1 = some p.2 := fun l => by
    induction l with
    | nil => intro _ p h; cases h
    | cons p r ih =>
      intro nd x h
      rw [List.map_cons, List.nodup_cons] at nd
      obtain ⟨c, z⟩ := p
      rw [List.lookup_cons]
      rcases List.mem_cons.mp h with rfl | h
      · rw [beq_self_eq_true]
      · have : x.1 ≠ c := fun e => nd.1 (by rw [← e]; exact List.mem_map_of_mem (f := (·.1)) h)
        rw [beq_eq_false_iff_ne.mpr this]
        exact ih nd.2 x h
  refine ⟨[.scr ns], fun b => (tabs.lookup b).map .tab, fun v _ => v = .bl true, fun _ _ => False, ?_, fun b o e => ?_, ⟨ns, hl, rfl, fun p hp => by show (tabs.lookup p.1).map LO.tab = some (.tab p.2); rw [has tabs nd p hp]; rfl, rfl⟩, fun lv s' v H' q _ _ r => ?_, fun _ _ _ q => q.elim⟩
  · simp only [RVs]
    refine ⟨_, _, rfl, ?_, rfl⟩
    simp only [RV]
    refine ⟨a, rfl, ?_⟩
    rcases hS with h | h
    · refine .inl ⟨?_, h⟩
      show (tabs.lookup a).map LO.tab = none
      cases e : tabs.lookup a with
      | none => rfl
      | some q =>
        have := hT _ (look tabs a q e)
        rcases h with h | ⟨o, h⟩ <;> rw [this] at h <;> cases h
    · exact .inr h
  · have e : (tabs.lookup b).map LO.tab = some o := e
    cases z : tabs.lookup b with
    | none => rw [z] at e; cases e
    | some q =>
      rw [z] at e
      cases e
      exact ⟨#[], hT _ (look tabs b q z), True.intro, fun pos cv h => by cases h⟩
  · subst q
    simpa only [RV] using r
theorem law_ends {P : Program} {w : World} (H : Hp) (s : Shared) (e : Value) (s' : Shared) (h : L2.CX P w [] H s (fun _ _ _ => False) e s') : False := by
  obtain ⟨_, _, _, _, _, _, _, _, _, _, _, _, z⟩ := h
  exact z
theorem kit_ref {K : PySem.W.Frag} {C D : Addr} {b : Bool} (hd : PySem.W.hasDictIn K C = true) (ht : PySem.W.typeIn K (.ref C) = some (.type "type")) (h0 : PySem.W.subIn K (.ref C) (.ref C) = some true) (h : PySem.W.subIn K (.ref D) (.ref C) = some b) : PySem.W.kitOne K (.ref D) (.ref C) = some b := by
  obtain ⟨cd, hc, _⟩ := PySem.W.any_some hd
  have e2 : ((PySem.W.clsIn K C).isSome && PySem.W.typeIn K (.ref C) == some (.type "type")) = true := by rw [hc, ht] <;> rfl
  show (if (Value.ref D == Value.ref C) = true then some true else (if ((PySem.W.clsIn K C).isSome && PySem.W.typeIn K (.ref C) == some (.type "type")) = true then PySem.W.subIn K (.ref D) (.ref C) else none)) = some b
  rw [if_pos e2]
  by_cases e : D = C
  · subst e
    rw [h0] at h
    rw [if_pos (by simp), h]
  · rw [if_neg (by intro q; exact e (by simpa using q))]
    exact h
theorem kit_rty {K : PySem.W.Frag} {D : Addr} {T : String} {b : Bool} (hT : PySem.W.kitMeta T = true) (h : PySem.W.subIn K (.ref D) (.type T) = some b) : PySem.W.kitOne K (.ref D) (.type T) = some b := by
  show (if (Value.ref D == Value.type T) = true then some true else (if PySem.W.kitMeta T = true then PySem.W.subIn K (.ref D) (.type T) else none)) = some b
  rw [if_neg (by intro q; cases q), if_pos hT]
  exact h
theorem kit_tyr {K : PySem.W.Frag} {C : Addr} {T : String} {b : Bool} (hd : PySem.W.hasDictIn K C = true) (ht : PySem.W.typeIn K (.ref C) = some (.type "type")) (h : PySem.W.subIn K (.type T) (.ref C) = some b) : PySem.W.kitOne K (.type T) (.ref C) = some b := by
  obtain ⟨cd, hc, _⟩ := PySem.W.any_some hd
  have e2 : ((PySem.W.clsIn K C).isSome && PySem.W.typeIn K (.ref C) == some (.type "type")) = true := by rw [hc, ht] <;> rfl
  show (if (Value.type T == Value.ref C) = true then some true else (if ((PySem.W.clsIn K C).isSome && PySem.W.typeIn K (.ref C) == some (.type "type")) = true then PySem.W.subIn K (.type T) (.ref C) else none)) = some b
  rw [if_pos e2, if_neg (by intro q; cases q)]
  exact h
theorem cutL_to (xs : List LV) (k : Nat) : cutL xs none (some (k : Int)) = xs.take k := by
  unfold cutL
  rw [HT.sIx_none, HT.sIx_nat, List.drop_zero, Nat.sub_zero]
  by_cases h : k ≤ xs.length
  · rw [Nat.min_eq_left h]
  · rw [Nat.min_eq_right (by omega), List.take_of_length_le (Nat.le_refl _), List.take_of_length_le (by omega)]
theorem cutL_from (xs : List LV) (k : Nat) : cutL xs (some (k : Int)) none = xs.drop k := by
  unfold cutL
  rw [HT.sIx_none, HT.sIx_nat]
  by_cases h : k ≤ xs.length
  · rw [Nat.min_eq_left h, List.take_of_length_le (by simp)]
  · rw [Nat.min_eq_right (by omega), List.drop_length, List.take_nil, List.drop_of_length_le (by omega)]
end L3
namespace L3
open PySem PySem.Spec L2
theorem putL_nil {f : Str} {v : LV} : putL f v [] = [(f, v)] := rfl
theorem putL_cons {f g : Str} {v u : LV} {r : List (Str × LV)} : putL f v ((g, u) :: r) = if g = f then (g, v) :: r else (g, u) :: putL f v r := rfl
theorem seqL_cases {x : LV} {s : LS} {xs : List LV} (h : seqL x s = some xs) : x = .lst xs ∨ ∃ a, x = .ref a ∧ s a = some (.lst xs) := by
  cases x with
  | lst ys => exact .inl (by rw [seqL_lst] at h; rw [Option.some.inj h])
  | ref a =>
    rw [seqL_ref] at h
    split at h
    · next ys e => exact .inr ⟨a, rfl, by rw [e, Option.some.inj h]⟩
    · cases h
  | _ => exact absurd h (by simp [seqL])
theorem hu65 {k : Nat} {A : Around} (hr : Room k A) : A.units + 65 < cLine := by have := hr.un; omega
end L3

namespace L3
open PySem PySem.Spec L2
def pairL (p : Int × Int) : LV := .tup [.int p.1, .int p.2]
def pairD (p : Int × Int) : PyData := .tuple [.int p.1, .int p.2]
theorem dv_ints (xs : List Int) : datVs (xs.map LV.int) = some (xs.map PyData.int) := datVs_enc (α := Int) xs
theorem dv_bls (xs : List Bool) : datVs (xs.map LV.bl) = some (xs.map PyData.bool) := datVs_enc (α := Bool) xs
theorem dv_nms (xs : List Nm) : datVs (xs.map nmL) = some (xs.map nmD) := datVs_enc (α := Nm) xs
theorem dv_prs (xs : List (Int × Int)) : datVs (xs.map pairL) = some (xs.map pairD) := datVs_enc (α := Int × Int) xs
theorem dv_nm (n : Nm) : datV (nmL n) = some (nmD n) := by simp [nmL, nmD]
theorem dt_nm (s : LS) (n : Nm) : dat s (nmL n) = some (nmD n) := by simp [nmL, nmD]
theorem dt_pr (s : LS) (n : Int × Int) : dat s (pairL n) = some (pairD n) := by simp [pairL, pairD]
theorem dv_pr (n : Int × Int) : datV (pairL n) = some (pairD n) := by simp [pairL, pairD]
theorem sh_int (i : Int) : SeqAt.shaped (.int i) = true := shaped_cod (α := Int) (by decide) i
theorem sh_bl (i : Bool) : SeqAt.shaped (.bool i) = true := shaped_cod (α := Bool) (by decide) i
theorem sh_none : SeqAt.shaped .none = true := by decide
theorem sh_ints (xs : List Int) : SeqAt.shaped (.list (xs.map .int)) = true := shaped_cod (α := List Int) (by decide) xs
theorem sh_bls (xs : List Bool) : SeqAt.shaped (.list (xs.map .bool)) = true := shaped_cod (α := List Bool) (by decide) xs
theorem sh_nm (i : Nm) : SeqAt.shaped (nmD i) = true := shaped_cod (α := Nm) (by decide) i
theorem sh_nms (xs : List Nm) : SeqAt.shaped (.list (xs.map nmD)) = true := shaped_cod (α := List Nm) (by decide) xs
theorem sh_pr (i : Int × Int) : SeqAt.shaped (pairD i) = true := shaped_cod (α := Int × Int) (by decide) i
theorem sh_prs (xs : List (Int × Int)) : SeqAt.shaped (.list (xs.map pairD)) = true := shaped_cod (α := List (Int × Int)) (by decide) xs
theorem anyI (xs : List Int) (a : Int) : ((xs.map PyData.int).any fun z => PyData.eqv z (.int a)) = decide (a ∈ xs) := (any_cod xs a).trans (decide_eq_decide.mpr Iff.rfl)
theorem anyN (xs : List Nm) (a : Nm) : ((xs.map nmD).any fun z => PyData.eqv z (nmD a)) = decide (a ∈ xs) := (any_cod xs a).trans (decide_eq_decide.mpr Iff.rfl)
theorem anyP (xs : List (Int × Int)) (a : Int × Int) : ((xs.map pairD).any fun z => PyData.eqv z (pairD a)) = decide (a ∈ xs) := (any_cod xs a).trans (decide_eq_decide.mpr Iff.rfl)
theorem eqv_int (a b : Int) : PyData.eqv (.int a) (.int b) = decide (a = b) := eqv_cod a b
theorem eqv_bl (a b : Bool) : PyData.eqv (.bool a) (.bool b) = decide (a = b) := eqv_cod a b
theorem eqv_ints (a b : List Int) : PyData.eqv (.list (a.map .int)) (.list (b.map .int)) = decide (a = b) := eqv_cod a b
theorem eqv_bls (a b : List Bool) : PyData.eqv (.list (a.map .bool)) (.list (b.map .bool)) = decide (a = b) := eqv_cod a b
theorem eqv_nms (a b : List Nm) : PyData.eqv (.list (a.map nmD)) (.list (b.map nmD)) = decide (a = b) := eqv_cod a b
theorem eqv_prs (a b : List (Int × Int)) : PyData.eqv (.list (a.map pairD)) (.list (b.map pairD)) = decide (a = b) := eqv_cod a b
theorem eqv_nm (a b : Nm) : PyData.eqv (nmD a) (nmD b) = decide (a = b) := eqv_cod a b
theorem eqv_pr (a b : Int × Int) : PyData.eqv (pairD a) (pairD b) = decide (a = b) := eqv_cod a b
theorem ifNX {P A B : Prop} [Decidable P] (h1 : ¬P → A) (h2 : P → B) : ((true ^^ decide P) = true → A) ∧ ((true ^^ decide P) = false → B) := ⟨fun h => h1 (by simpa using h), fun h => h2 (by simpa using h)⟩
theorem ifDX {P A B : Prop} [Decidable P] (h1 : P → A) (h2 : ¬P → B) : ((false ^^ decide P) = true → A) ∧ ((false ^^ decide P) = false → B) := ⟨fun h => h1 (by simpa using h), fun h => h2 (by simpa using h)⟩
theorem iOr {P : Prop} [Decidable P] {A B : Prop} (h1 : P → A) (h2 : ¬P → B) : (decide P = true → A) ∧ (decide P = false → B) := ifD h1 h2
theorem atI_mem {α β : Type} {xs : List α} {i : Int} {v : α} (f : α → β) (h0 : 0 ≤ i) (h : xs[i.toNat]? = some v) : atI (xs.map f) i = some (f v) := by
  obtain ⟨k, rfl⟩ := Int.eq_ofNat_of_zero_le h0
  exact atI_nat (by rw [List.getElem?_map, show xs[k]? = some v from by simpa using h]; rfl)
theorem atI_memV {β : Type} {xs : List β} {i : Int} {v : β} (h0 : 0 ≤ i) (h : xs[i.toNat]? = some v) : atI xs i = some v := by
  obtain ⟨k, rfl⟩ := Int.eq_ofNat_of_zero_le h0
  exact atI_nat (by simpa using h)
theorem ifTT {A B : Prop} (h : A) : (true = true → A) ∧ (true = false → B) := ifT rfl h
theorem ifFF {A B : Prop} (h : B) : (false = true → A) ∧ (false = false → B) := ifF rfl h
theorem lc_map {α : Type} {stb : LS → Prop} {enc : α → LV} {Da : Addr} {gc : CTg} {te : LTE} {σw : LSt} {Q : List LV → LS → Prop} {s : LS} {xs : List α} (hD : s Da = none) (f : α → LV) (hst : ∀ s', Ext s s' → stb s') (hlen : xs.length ≤ 16777216)
    (hs : ∀ x ∈ xs, ∀ s' (Y : LV → LS → Prop), Ext s s' → Y (f x) s' → gc.lift (enc x) σw s' (fun σ2 s2 => te σ2 s2 Y fun _ _ => False) fun _ _ => False)
    (hm : ∀ x σ s' (Y Y' : LSt → LS → Prop), (∀ σ s, Y σ s → Y' σ s) → gc.lift (enc x) σ s' Y (fun _ _ => False) → gc.lift (enc x) σ s' Y' fun _ _ => False)
    (hQ : Q (xs.map f) s) : lcLoop Da gc lYes te stb σw Q (xs.map enc) (put s Da (.lst [])) := by
  refine lc_pure hD (fun _ => true) f hst hlen (fun x hx s' Y N e hY _ => ?_) ?_
  · exact hm x _ _ _ _ (fun σ s2 h => ⟨fun _ => h, fun q => by cases q⟩) (hs x hx s' Y e (hY rfl))
  · have e : xs.filter (fun _ => true) = xs := List.filter_eq_self.mpr fun _ _ => rfl
    rw [e]
    exact hQ
theorem lc_map1 {α : Type} {stb : LS → Prop} {enc : α → LV} {Da : Addr} {i : Nat} {te : LTE} {σw : LSt} {Q : List LV → LS → Prop} {s : LS} {xs : List α} (hD : s Da = none) (f : α → LV) (hst : ∀ s', Ext s s' → stb s') (hlen : xs.length ≤ 16777216)
    (hs : ∀ x ∈ xs, ∀ s' (Y : LV → LS → Prop), Ext s s' → Y (f x) s' → te (σw.set i (some (enc x))) s' Y fun _ _ => False)
    (hQ : Q (xs.map f) s) : lcLoop Da (.one i) lYes te stb σw Q (xs.map enc) (put s Da (.lst [])) :=
  lc_map hD f hst hlen (fun x hx s' Y e hY => hs x hx s' Y e hY) (fun x σ s' Y Y' h q => h _ _ q) hQ
theorem ifTr {A B : Prop} (h : A) : (True → A) ∧ (False → B) := ⟨fun _ => h, fun q => q.elim⟩
theorem ifFr {A B : Prop} (h : B) : (False → A) ∧ (True → B) := ⟨fun q => q.elim, fun _ => h⟩
theorem ifnT {A B : Prop} (h : B) : ((!true) = true → A) ∧ ((!true) = false → B) := ⟨fun q => (by cases q), fun _ => h⟩
theorem ifnF {A B : Prop} (h : A) : ((!false) = true → A) ∧ ((!false) = false → B) := ⟨fun _ => h, fun q => (by cases q)⟩
theorem decF {h : Decidable False} : @decide False h = false := decide_eq_false fun q => q
theorem decT {h : Decidable True} : @decide True h = true := decide_eq_true True.intro
theorem blsOf_const {α : Type} (xs : List α) (b : Bool) : blsOf (xs.map fun _ => LV.bl b) = some (xs.map fun _ => b) := by
  induction xs with
  | nil => rfl
  | cons x xs ih => show (blsOf (xs.map fun _ => LV.bl b)).map (b :: ·) = _; rw [ih]; rfl
theorem blsOf_fn {α : Type} (xs : List α) (f : α → Bool) : blsOf (xs.map fun x => LV.bl (f x)) = some (xs.map f) := by
  induction xs with
  | nil => rfl
  | cons x xs ih => show (blsOf (xs.map fun x => LV.bl (f x))).map (f x :: ·) = _; rw [ih]; rfl
theorem all_const {α : Type} (xs : List α) : ((xs.map fun _ => true).all id) = true := by simp
theorem sh_nil : SeqAt.shaped (.list []) = true := by decide
theorem eqv_nil {α : Type} (f : α → PyData) (xs : List α) : PyData.eqv (.list (xs.map f)) (.list []) = xs.isEmpty := by
  cases xs <;> simp [PyData.eqv, PyData.eqvAll]
end L3

namespace L3
open PySem PySem.Spec L2
def strV (x : LV) (k : Str → Prop) : Prop := match x with
  | .str a => k a
  | _ => False
theorem strV_ok {x : LV} {k : Str → Prop} (h : strV x k) : ∃ a, x = .str a ∧ k a := by
  cases x with
  | str a => exact ⟨a, rfl, h⟩
  | _ => exact h.elim
def strsOf : List LV → Option (List Str)
  | [] => some []
  | .str i :: xs => (strsOf xs).map (i :: ·)
  | _ :: _ => none
theorem strsOf_ok : ∀ {xs : List LV} {ns : List Str}, strsOf xs = some ns → xs = ns.map .str
  | [], ns, h => by simp only [strsOf, Option.some.injEq] at h; subst h; rfl
  | x :: xs, ns, h => by
    cases x with
    | str i =>
      obtain ⟨r, e, rfl⟩ := Option.map_eq_some_iff.mp (show (strsOf xs).map (i :: ·) = some ns from h)
      rw [strsOf_ok e]
      rfl
    | _ => simp [strsOf] at h
theorem strsOf_map (ns : List Str) : strsOf (ns.map .str) = some ns := by
  induction ns with
  | nil => rfl
  | cons n ns ih => simp [strsOf, ih]
theorem strsOf_fn {α : Type} (f : α → Str) (ns : List α) : strsOf (ns.map fun a => .str (f a)) = some (ns.map f) := by
  induction ns with
  | nil => rfl
  | cons n ns ih => simp [strsOf, ih]
section
variable {X : Cx} [GG X.K] {K : PySem.W.Frag} [GG K] {s : LS} {H : Hp} {a b e o i : Expr} {es : List Expr} {pos apos : Pos} {ta tb te to ti : LTE} {tas : LTA}
theorem RVs.strs {K : PySem.W.Frag} [GG K] {s : LS} {H : Hp} : ∀ ys : List Str, RVs K s H (ys.map .str) (ys.map V.str)
  | [] => by simp only [List.map_nil, RVs]
  | y :: ys => by simp only [List.map_cons, RVs]; exact ⟨_, _, rfl, .str, RVs.strs ys⟩
theorem RVs.strs_eq {K : PySem.W.Frag} [GG K] {s : LS} {H : Hp} : ∀ {ys : List Str} {us : List V}, RVs K s H (ys.map .str) us → us = ys.map V.str
  | [], us, h => by simpa only [List.map_nil, RVs] using h
  | y :: ys, us, h => by
    simp only [List.map_cons, RVs] at h
    obtain ⟨u, r, rfl, h1, h2⟩ := h
    rw [h1.str', RVs.strs_eq h2]
    rfl
def lJoin (to te : LTE) : LTE := fun σ s Q E => to σ s (fun x s1 => strV x fun a => te σ s1 (fun y s2 => opt (seqL y s2) fun xs => opt (strsOf xs) fun ys => (ys.map (·.length)).sum + ys.length * a.length ≤ 16777216 ∧ Q (.str (Txt.join a ys)) s2) E) E
theorem le_join (ho : LE X o to) (he : LE X e te) (hs : starEach [e] X.env = [(false, eval e X.env)] := by rfl) (hbase : attributeBase o "join" X.env (eval o X.env) = eval o X.env := by rfl) (hline : (apos.endLine == pos.line) = true := by rfl) :
    LE X (.Call (.Attribute o "join" apos) [e] [] pos) (lJoin to te) := fun s0 H0 E tk => (pe_join (ho s0 H0 E tk) (he s0 H0 E tk) hs hbase hline).imp fun σ H Q ⟨σl, s, Q0, E1, hσ, hs, st, hE, h, k⟩ =>
  ⟨σl, s, _, E1, hσ, hs, st, hE, h, fun lx s1 x H1 h st1 hs1 rx => by
    obtain ⟨a, rfl, h⟩ := strV_ok h
    rw [rx.str']
    refine ⟨⟨a, rfl⟩, σl, s1, _, E1, hσ.mono st1, hs1, st.trans st1, hE, h, fun ly s2 y H2 h st2 hs2 ry => ?_⟩
    obtain ⟨xs, e1, h⟩ := opt_ok h
    obtain ⟨ys, e2, hl, h⟩ := opt_ok h
    obtain ⟨p, us, rfl, hh, r⟩ := seqL_ok hs2 ry e1
    rw [strsOf_ok e2] at r
    rw [r.strs_eq] at hh
    exact ⟨a, p, ys, rfl, rfl, .inl (SqL.of hh), hl, k _ _ _ _ h (st1.trans st2) hs2 .str⟩⟩
def lSplit (to te : LTE) : LTL := fun σ s Q E => to σ s (fun x s1 => strV x fun a => te σ s1 (fun y s2 => strV y fun b => ((b.length == 0) = false ∧ a.length + 2 ≤ 16777216) ∧ Q ((Txt.split a b).map .str) s2) E) E
theorem ll_split (ho : LE X o to) (he : LE X e te) (hs : starEach [e] X.env = [(false, eval e X.env)] := by rfl) (hbase : attributeBase o "split" X.env (eval o X.env) = eval o X.env := by rfl) (hline : (apos.endLine == pos.line) = true := by rfl) :
    LL X (.Call (.Attribute o "split" apos) [e] [] pos) (lSplit to te) := fun s0 H0 E tk => (pe_split (ho s0 H0 E tk) (he s0 H0 E tk) hs hbase hline).imp fun σ H Q ⟨σl, s, Q0, E1, hσ, hs, st, hE, h, k⟩ =>
  ⟨σl, s, _, E1, hσ, hs, st, hE, h, fun lx s1 x H1 h st1 hs1 rx => by
    obtain ⟨a, rfl, h⟩ := strV_ok h
    rw [rx.str']
    refine ⟨⟨a, rfl⟩, σl, s1, _, E1, hσ.mono st1, hs1, st.trans st1, hE, h, fun ly s2 y H2 h st2 hs2 ry => ?_⟩
    obtain ⟨b, rfl, ⟨h1, h2⟩, h⟩ := strV_ok h
    rw [ry.str']
    exact ⟨a, b, rfl, rfl, h1, h2, k _ _ _ _ h (st1.trans st2) hs2 (RVs.strs _)⟩⟩
@[simp] theorem strV_ap (a : Str) (k : Str → Prop) : strV (.str a) k = k a := rfl
end
end L3

namespace L3
open PySem PySem.Spec PyProof.Rows
section
variable {M : Model} {A : Around} {E : Value → Shared → Prop} {s : Shared}
theorem newEnv_clo {scope : Scope} {globals : Addr} {closure : List (Str × Addr)} {binds : List (Str × Value)} {qual : Str} {func : Option Addr} {code : Value} {builtins : Addr} {Q : Env → Shared → Prop}
    (hk : scope.kind = .function) (hl : ∀ x ∈ binds, scope.names.lookup x.1 = some .local)
    (hQ : ∀ h' tk, h'.Ns s.heap.objs.size (fun x => binds.reverse.lookup x) → Heap.SameBut s.heap.objs.size (pushCells (s.heap.push { cls := .type "frame", data := .dict #[] }) scope.names) h' →
      Q (newEnv scope s.heap.objs.size globals (cellsFrom (s.heap.objs.size + 1) scope.names closure) qual func code none builtins) { s with heap := h', toks := tk }) :
    wpAny M A (newFunctionEnv scope globals closure binds qual func code none builtins) Q E s := by
  simp only [newFunctionEnv, Option.isSome_none, Bool.false_eq_true, if_false]
  refine wpAny_bind (wpAny_alloc ?_)
  refine wpAny_bind (wpAny_layCells _ (fun name kind cells => by cases hkc : kind == NameKind.cell <;> simp [hkc]) _ _ _ _ ?_)
  rw [show ({ s with heap := s.heap.push { cls := .type "frame", data := .dict #[] } } : Shared).heap.objs.size = s.heap.objs.size + 1 from Heap.size_push ..]
  refine wpAny_bind ?_
  refine wpAny_forIn_list _
    (fun rest _ s' => ∃ done h' tk, binds = done ++ rest ∧ s' = { s with heap := h', toks := tk } ∧ h'.Ns s.heap.objs.size (fun x => done.reverse.lookup x) ∧
      Heap.SameBut s.heap.objs.size (pushCells (s.heap.push { cls := .type "frame", data := .dict #[] }) scope.names) h') _ ?_ ?_ binds _
    ⟨[], _, _, rfl, rfl, (Heap.Ns.new s.heap (.type "frame")).keeps (pushCells_keeps _ _), Heap.SameBut.refl ..⟩
  · rintro ⟨name, v⟩ rest _ s' ⟨done, h', tk, hb, rfl, hns, hsb⟩
    have hk' : Env.kindOf { scope, locals := s.heap.objs.size, globals, cells := cellsFrom (s.heap.objs.size + 1) scope.names closure, qual, func, code, frame := some s.heap.objs.size, builtins } name = some .local :=
      hl (name, v) (by rw [hb]; simp)
    refine wpAny_bind (wpAny_storeName_local hk' hns (fun h'' hns' hsb' => wpAny_pure ⟨done ++ [(name, v)], h'', _, by simp [hb], rfl, ?_, hsb.trans hsb'⟩) (by show (scope.kind == .class || (scope.kind == .module && _)) = false; rw [hk]; rfl))
    rw [lookup_reverse_snoc]; exact hns'
  · rintro _ s' ⟨done, h', tk, hb, rfl, hns, hsb⟩
    rw [List.append_nil] at hb; subst hb
    exact wpAny_pure (hQ h' tk hns hsb)
end

open L2 LamX NdefX
/-- names: the parameters, the captured ones, then its locals (some of them cells of its own) -/
structure CScope (N ps fr : List Str) (sc : Scope) : Prop where
  kind : sc.kind = .function
  co : sc.isCoroutine = false
  gen : sc.isGenerator = false
  nd : N.Nodup
  pre : N.take (ps.length + fr.length) = ps ++ fr
  par : ∀ x ∈ ps, sc.names.lookup x = some .local
  free : ∀ y ∈ sc.names, y.2 = .free → y.1 ∈ fr
  frk : ∀ x ∈ fr, sc.names.lookup x = some .free
  ndn : (sc.names.map (·.1)).Nodup
def cscB (N ps fr : List Str) (sc : Scope) : Bool :=
  decide (sc.kind = .function) && !sc.isCoroutine && !sc.isGenerator && decide N.Nodup && decide (N.take (ps.length + fr.length) = ps ++ fr) && ps.all (fun x => decide (sc.names.lookup x = some .local)) && sc.names.all (fun y => !decide (y.2 = .free) || decide (y.1 ∈ fr)) && fr.all (fun x => decide (sc.names.lookup x = some .free)) && decide (sc.names.map (·.1)).Nodup
theorem cscope_by {N ps fr : List Str} {sc : Scope} (h : cscB N ps fr sc = true) : CScope N ps fr sc := by
  unfold cscB at h
  simp only [Bool.and_eq_true, Bool.not_eq_true', decide_eq_true_eq, List.all_eq_true, Bool.or_eq_true, decide_eq_false_iff_not] at h
  obtain ⟨⟨⟨⟨⟨⟨⟨⟨h1, h2⟩, h3⟩, h4⟩, h5⟩, h6⟩, h8⟩, h9⟩, h10⟩ := h
  exact ⟨h1, h2, h3, h4, h5, h6, fun y hy e => (h8 y hy).elim (fun z => absurd e z) id, h9, h10⟩
abbrev envC (F : NF) (f L : Addr) : Env := PySem.W.envX F.qual F.scope L f (.ref F.c) (cellsFrom (L + 1) F.scope.names F.cl)
/-- the context of its body, at its entry -/
def ccx (CX : CXT) (P : Program) (w : World) (K : PySem.W.Frag) (mg : Str → Option Value) (base : Heap) (N : List Str) (F : NF) (f : Addr) (A : Around) (outer : List Env) (s : Shared) (H : Hp) (E : XK) : Cx where
  prog := P
  w := w
  K := K
  mg := mg
  base := base
  A := A.deeper (envC F f s.heap.objs.size)
  N := N
  s_0 := s
  H_0 := H
  env := envC F f s.heap.objs.size
  outer := outer
  stack := envC F f s.heap.objs.size :: outer
  ex := []
  calm := true
  fn := fun x => decide (F.scope.names.lookup x = some .cell)
  pn := []
  xe := fun e s' => wpAny (model P w) (A.deeper (envC F f s.heap.objs.size)) (leaving (envC F f s.heap.objs.size) e) (fun _ s'' => CX outer H s E e s'') (fun e' s'' => CX outer H s E e' s'') s'
/-- its own cells lie ahead of the captured ones -/
theorem cells_app : ∀ (names : List (Str × NameKind)) (n : Nat) (acc : List (Str × Addr)), cellsFrom n names acc = cellsFrom n names [] ++ acc
  | [], n, acc => rfl
  | (x, k) :: r, n, acc => by
    unfold cellsFrom
    split
    · rw [cells_app r (n + 1) ((x, n) :: acc), cells_app r (n + 1) [(x, n)], List.append_assoc]; rfl
    · exact cells_app r n acc
theorem own_cells {h : Heap} (names : List (Str × NameKind)) : CellsOk (pushCells h names) h.objs.size (cellsFrom h.objs.size names []) := cellsFrom_ok names h h.objs.size [] ⟨fun _ _ hm => (nomatch hm), List.Pairwise.nil⟩ (Nat.le_refl _)
theorem own_kind : ∀ (names : List (Str × NameKind)) (n : Nat) (y : Str) (c : Addr), (y, c) ∈ cellsFrom n names [] → (y, NameKind.cell) ∈ names
  | [], n, y, c, h => (nomatch h)
  | (x, k) :: r, n, y, c, h => by
    unfold cellsFrom at h
    split at h
    · next hk =>
      rw [cells_app, List.mem_append] at h
      rcases h with h | h
      · exact List.mem_cons_of_mem _ (own_kind r _ y c h)
      · simp at h
        rw [h.1, eq_of_beq hk]; simp
    · exact List.mem_cons_of_mem _ (own_kind r n y c h)
theorem kind_one {names : List (Str × NameKind)} (nd : (names.map (·.1)).Nodup) {y : Str} {k : NameKind} (hm : (y, k) ∈ names) {k' : NameKind} (h : names.lookup y = some k') : k' = k := by
  induction names with
  | nil => cases hm
  | cons a r ih =>
    obtain ⟨x, j⟩ := a
    rw [List.map_cons, List.nodup_cons] at nd
    rw [List.lookup_cons] at h
    rw [List.mem_cons] at hm
    by_cases e : y = x
    · subst e
      rw [beq_self_eq_true] at h
      rcases hm with hm | hm
      · cases hm; exact (Option.some.inj h).symm
      · exact absurd (List.mem_map_of_mem (f := (·.1)) hm) nd.1
    · rw [beq_eq_false_iff_ne.mpr e] at h
      rcases hm with hm | hm
      · cases hm; exact absurd rfl e
      · exact ih nd.2 hm h
theorem look_own {own cl : List (Str × Addr)} {y : Str} {c : Addr} (h : (own ++ cl).lookup y = some c) : own.lookup y = some c ∨ (own.lookup y = none ∧ cl.lookup y = some c) := by
  rw [List.lookup_append] at h
  cases e : own.lookup y with
  | none => rw [e] at h; exact .inr ⟨rfl, by simpa using h⟩
  | some d => rw [e] at h; exact .inl (by simpa using h)
section
variable {CX : CXT} {P : Program} {w : World} {K : PySem.W.Frag} {mg : Str → Option Value} {base : Heap} {N ps fr : List Str} {F : NF} {f : Addr} {A : Around} {outer : List Env} {s : Shared} {H : Hp} {E : XK} {us : List Value} {vs : List V} {ws : List (Option V)}
theorem inv_startC {h₁ : Heap} {tk : Nat} (S : CScope N ps fr F.scope) (hd : A.handled = none) (e0 : Env0 P w K mg base A outer s H) (hl : vs.length = ps.length) (r : Vals vs us) (C : CellsAt F.cl fr ws s.heap H) (hns : h₁.Ns s.heap.objs.size fun y => (ps.zip us).reverse.lookup y)
    (kp : Heap.SameBut s.heap.objs.size (pushCells (s.heap.push { cls := .type "frame", data := .dict #[] }) F.scope.names) h₁) : Inv (ccx CX P w K mg base N F f A outer s H E) [] (startF N vs ws) H { s with heap := h₁, toks := tk } := by
  have hpl : ps.length + fr.length ≤ N.length := by
    have q := congrArg List.length S.pre
    rw [List.length_take, List.length_append] at q
    omega
  have keep0 : ∀ b o, s.heap.get? b = some o → h₁.get? b = some o := fun b o e => kp.extBut b o (Nat.ne_of_lt (Heap.lt_size e)) (pushCells_keeps _ _ b o (Heap.get?_push_of_some _ e))
  have noA : ∀ b : Addr, b ∉ (ccx CX P w K mg base N F f A outer s H E).ex := fun b z => absurd (show b ∈ ([] : List Addr) from z) (by simp)
  have cellK : ∀ {c : Addr} {v : Option Value}, s.heap.IsCell c v → h₁.IsCell c v := fun {c v} ⟨o, ho, hd⟩ => ⟨o, keep0 _ _ ho, hd⟩
  have ow := own_cells (h := s.heap.push { cls := .type "frame", data := .dict #[] }) F.scope.names
  rw [Heap.size_push] at ow
  -- the env's cells
  have ecl : (ccx CX P w K mg base N F f A outer s H E).env.cells = cellsFrom (s.heap.objs.size + 1) F.scope.names [] ++ F.cl := cells_app _ _ _
  have ownC : ∀ y c, (cellsFrom (s.heap.objs.size + 1) F.scope.names []).lookup y = some c → s.heap.objs.size < c ∧ h₁.IsCell c none ∧ (y, NameKind.cell) ∈ F.scope.names := fun y c e => by
    have hm := PySem.mem_of_lookup e
    obtain ⟨⟨o, ho, hc⟩, hlt⟩ := ow.empty y c hm
    exact ⟨hlt, ⟨o, kp.extBut c o (Nat.ne_of_gt hlt) ho, hc⟩, own_kind _ _ _ _ hm⟩
  have oldC : ∀ y c, F.cl.lookup y = some c → c < s.heap.objs.size := fun y c e => by
    obtain ⟨v, o, ho, _⟩ := (C.all y c e).2
    exact Heap.lt_size ho
  refine ⟨⟨e0.mod, S.kind, rfl, rfl, Nat.le_refl _, fun y z c h1 h2 => ?_, fun y hy => ?_, fun y c hf hc => ?_, fun _ => hd, Around.frames_deeper e0.frames, .inr ⟨rfl, rfl⟩, fun b z => absurd z (noA b), e0.bs, e0.bsz, fun b _ _ => noA b,
      fun b z => absurd z (noA b), e0.funs, e0.frf⟩,
    rfl, e0.bare, Un.kept keep0, ⟨_, hns, fun i y v e1 e2 e3 => ?_⟩, fun y c e => ?_, e0.hok.fresh (Nat.le_refl _), fun y c e => ?_, fun q hq => absurd (show q ∈ ([] : List (Addr × Obj)) ++ [] from hq) (by simp), e0.hok.kept keep0, ?_⟩
  · rw [ecl] at h1 h2
    rcases look_own h1 with a1 | ⟨_, a1⟩ <;> rcases look_own h2 with a2 | ⟨_, a2⟩
    · exact name_of_addr ow.apart (PySem.mem_of_lookup a1) (PySem.mem_of_lookup a2)
    · exact absurd (oldC _ _ a2) (Nat.not_lt.mpr (Nat.le_of_lt (ownC _ _ a1).1))
    · exact absurd (oldC _ _ a1) (Nat.not_lt.mpr (Nat.le_of_lt (ownC _ _ a2).1))
    · exact C.inj _ _ _ a1 a2
  · have hy : F.scope.names.lookup y = some .cell ∨ F.scope.names.lookup y = some .free := hy
    have key : ((cellsFrom (s.heap.objs.size + 1) F.scope.names F.cl).lookup y).isSome = true := by
      refine PySem.W.cellsFrom_some _ _ _ ?_
      rcases hy with hy | hy
      · exact .inl hy
      · obtain ⟨i, hi⟩ := List.mem_iff_getElem?.mp (S.free _ (PySem.mem_of_lookup hy) rfl)
        obtain ⟨c, hc, _⟩ := C.has i y hi
        exact .inr (by rw [hc]; rfl)
    exact Option.isSome_iff_exists.mp key
  · have hf : F.scope.names.lookup y = some .cell := of_decide_eq_true hf
    rw [ecl] at hc
    rcases look_own hc with a | ⟨a0, a⟩
    · exact Nat.le_of_lt (ownC _ _ a).1
    · exfalso
      have := PySem.W.cellsFrom_some F.scope.names (s.heap.objs.size + 1) [] (x := y) (.inl hf)
      rw [a0] at this
      cases this
  · have e1 : N[i]? = some y := e1
    have clen := C.len
    unfold startF at e2
    by_cases h1 : i < ps.length
    · have hq : (ps ++ fr)[i]? = some y := by
        rw [← S.pre, List.getElem?_take_of_lt (by omega)]
        exact e1
      rw [List.getElem?_append_left h1] at hq
      rw [List.getElem?_append_left (by rw [List.length_map]; omega), List.getElem?_map] at e2
      have ha : vs[i]? = some v := by
        cases e : vs[i]? with
        | none => rw [e] at e2; cases e2
        | some a => rw [e] at e2; cases e2; rfl
      obtain ⟨u, hu, rv⟩ := r.get ha
      have ndP : ps.Nodup := by
        have q := S.nd.sublist (List.take_sublist (ps.length + fr.length) N)
        rw [S.pre] at q
        exact (List.nodup_append.mp q).1
      exact ⟨u, rv, .inl ⟨S.par y (List.mem_of_getElem? hq), zip_look ndP hq hu⟩⟩
    · rw [List.getElem?_append_right (by rw [List.length_map]; omega), List.length_map] at e2
      by_cases h2 : i < ps.length + fr.length
      · have hq : (ps ++ fr)[i]? = some y := by
          rw [← S.pre, List.getElem?_take_of_lt (by omega)]
          exact e1
        rw [List.getElem?_append_right (by omega)] at hq
        rw [List.getElem?_append_left (by omega), hl] at e2
        obtain ⟨c, hc, hv⟩ := C.has (i - ps.length) y hq
        obtain ⟨u, ru, hu⟩ := hv v e2
        have hk := S.frk y (List.mem_of_getElem? hq)
        have hn : (cellsFrom (s.heap.objs.size + 1) F.scope.names []).lookup y = none := by
          cases e : (cellsFrom (s.heap.objs.size + 1) F.scope.names []).lookup y with
          | none => rfl
          | some d =>
            have := kind_one S.ndn (ownC y d e).2.2 hk
            cases this
        refine ⟨u, ru, .inr ⟨.inr hk, c, ?_, cellK hu⟩⟩
        rw [ecl, List.lookup_append, hn, hc]; rfl
      · rw [List.getElem?_append_right (by omega), List.getElem?_replicate] at e2
        split at e2 <;> cases e2
  · rw [ecl] at e
    rcases look_own e with a | ⟨_, a⟩
    · exact ⟨_, (ownC _ _ a).2.1⟩
    · obtain ⟨v, z⟩ := (C.all y c a).2
      exact ⟨v, cellK z⟩
  · rw [ecl] at e
    rcases look_own e with a | ⟨_, a⟩
    · exact e0.hok.fresh (Nat.le_of_lt (ownC _ _ a).1)
    · exact (C.all y c a).1
  · have clen := C.len
    unfold startF
    show _ = N.length
    rw [List.length_append, List.length_append, List.length_map, List.length_replicate]
    omega
end
instance ggC {CX : CXT} {P : Program} {w : World} {K : PySem.W.Frag} [g : GG K] {mg : Str → Option Value} {base : Heap} {N : List Str} {F : NF} {f : Addr} {A : Around} {outer : List Env} {s : Shared} {H : Hp} {E : XK} :
    GG (ccx CX P w K mg base N F f A outer s H E).K := g
section
variable {CX : CXT} {P : Program} {w : World} {K : PySem.W.Frag} {mg : Str → Option Value} {base : Heap} {N ps fr : List Str} {F : NF} {f : Addr} {k : Nat} {sp : List (Option V) → Sp}
/-- a function with captured cells, by its body -/
theorem nokC_of (S : CScope N ps fr F.scope) (hb : ∀ (doc pm ctv : Value) (us : List Value), us.length = ps.length → bindArgs (F.fd doc pm ctv) ⟨us, []⟩ = pure (ps.zip us)) (len : ∀ ws vs H Q E, sp ws vs H Q E → vs.length = ps.length)
    (body : ∀ (A : Around) (outer : List Env) (s : Shared) (H : Hp) (vs : List V) (ws : List (Option V)) (Q : VK) (E : XK), Room k (A.deeper (envC F f s.heap.objs.size)) → Env0 P w K mg base A outer s H → H f = some (FnO f F) → ws.length = fr.length → sp ws vs H Q E →
      ∃ t, PSs (ccx CX P w K mg base N F f A outer s H E) F.body t ∧ t { nx := fun _ H' => Q .non H', rt := Q } (startF N vs ws) H) : NOk P w K mg base CX (k + 1) f F ps fr sp := by
  refine ⟨len, fun A outer s H us vs ws Q E hr e0 hf hc C r hsp => ?_⟩
  have ha := len _ _ _ _ _ hsp
  have nl : s.heap.NoLimit := e0.mod.nolimit.keeps fun b o e => (e0.bs b o e).1
  obtain ⟨od, sl, doc, pm, ctv, ho⟩ := fnO_at e0.hok hf
  refine codeAny_call_function hr.depth ho rfl S.co S.gen rfl (codeO_at e0.hok hc) (?_)
  rw [hb doc pm ctv us (by rw [← r.length]; exact ha)]
  refine wpAny_pure (newEnv_clo S.kind (fun ⟨n, _⟩ hy => S.par n (List.of_mem_zip hy).1) (fun h₁ tk hns hsb => ?_))
  have kp : ∀ b o, s.heap.get? b = some o → h₁.get? b = some o := fun b o e => hsb.extBut b o (Nat.ne_of_lt (Heap.lt_size e)) (pushCells_keeps _ _ b o (Heap.get?_push_of_some _ e))
  refine ⟨nl.keeps kp, codeAny_func (show wpAny _ _ (execs F.body (envC F f s.heap.objs.size)) _ _ _ from ?_)⟩
  obtain ⟨t, ht, hq⟩ := body A outer s H vs ws Q E (hr.deeper _) e0 hf C.len hsp
  have J : Inv (ccx CX P w K mg base N F f A outer s H E) [] (startF N vs ws) H { s with heap := h₁, toks := tk } := inv_startC S hr.hd e0 ha r C hns hsb
  refine wpAny_mono (ht.run [] _ (startF N vs ws) H _ J hq) (fun fl s' hs => ?_) fun e s' hs => hs
  have ret : ∀ {σ' : L2.St} {H' : Hp} {v : V} {u : Value}, Inv (ccx CX P w K mg base N F f A outer s H E) [] σ' H' s' → L2.RelV v u → Q v H' → CE outer P w H s Q u s' :=
    fun {σ' H' v u} I rv q => ⟨v, H', I.os, I.bare, I.base, I.hok, rv, q⟩
  match fl, hs with
  | .ret u, hs =>
    obtain ⟨v, σ', H', I, rv, q⟩ := hs
    exact ret I rv q
  | .next, hs =>
    obtain ⟨σ', H', I, q⟩ := hs
    exact ret (v := V.non) (u := Value.none) I rfl q
  | .brk, hs => obtain ⟨_, _, _, q⟩ := hs; exact q.elim
  | .cont, hs => obtain ⟨_, _, _, q⟩ := hs; exact q.elim
end
end L3

namespace L3
open PySem PySem.Spec PyProof.Rows L2 LamX NdefX
theorem RelS.ext0 {K : PySem.W.Frag} [GG K] {s : LS} {H : Hp} {a : Addr} {φ : Heap → Prop} (r : RelS K s H) (h : H a = Option.some (HO.ext φ)) : s a = none := by
  cases e : s a with
  | none => rfl
  | some o =>
    exfalso
    have q := r a o e
    cases o with
    | lst xs => obtain ⟨us, q, _⟩ := q; rw [h] at q; cases q
    | dK xs => obtain ⟨us, q, _⟩ := q; rw [h] at q; cases q
    | dT xs => obtain ⟨us, q, _⟩ := q; rw [h] at q; cases q
    | ins C xs => obtain ⟨dx, us, q, _⟩ := q; rw [h] at q; cases q
    | tab z => obtain ⟨us, q, _⟩ := q; rw [h] at q; cases q
/-- the table at P tells codes of one name -/
def TabQ (H : Hp) (P : Addr) (q : Str) : Prop := ∃ ps, H P = some (.tbl ps) ∧ TriplesOk ps.toList ∧ ∀ (pos : Pos) (cv : Value), codeAmong pos ps.toList = some cv → ∃ c, cv = .ref c ∧ H c = some (CodeO c q)
/-- from H to H1: the function F was made at f, its code at c -/
structure Made (P : Addr) (q : Str) (f c : Addr) (F : NF) (H H1 : Hp) : Prop where
  nf : H f = none
  tab : TabQ H1 P q
  fn : H1 f = some (FnO f F)
  code : H1 c = some (CodeO c q)
  rest : ∀ b, b ≠ P → H b ≠ none → H1 b = H b
section
variable {X : Cx} {pins : List (Addr × Obj)} {σ : L2.St} {H : Hp} {s : Shared}
theorem ndefX {c P : Addr} {name q : Str} {params : Arguments} {body : List Stmt} {scope : Scope} {pos : Pos} {E Q : Value → Shared → Prop} (I : Inv X pins σ H s) (TB : TabB X.base X.mg c P) (hcode : X.env.code = .ref c) (hq : X.env.qual ++ name = q)
    (hT : TabQ H P q) (hfree : ∀ y ∈ scope.names, y.2 = .free → ∃ c, X.env.cells.lookup y.1 = some c)
    (h : ∀ (f c' : Addr) (H1 : Hp) (s' : Shared), Inv X pins σ H1 s' → Made P q f c' ⟨name, q, params, body, scope, cloFrom X.env.cells scope.names [], c'⟩ H H1 → Q (.ref f) s') :
    wpAny (model X.prog X.w) X.A (makeFunction name q params (.stmts body) scope X.env [] [] [] pos pos.line) Q E s := by
  subst hq
  obtain ⟨ps, hP, tr, cs⟩ := hT
  have hP' : s.heap.get? P = some { cls := .none, data := .fields ps } := (I.hok P _ hP : _)
  have bP : s.heap.BuiltinsAt X.mg P := (TB.bm.keeps I.bk : _)
  cases hc : codeAmong pos ps.toList with
  | some cv =>
    obtain ⟨c', rfl, ho⟩ := cs pos _ hc
    refine PySem.W.makeFunction_hit (mg := X.mg) (c := c) (P := P) (ps := ps) (closure_ok hfree) I.ok.glob (I.mod.glob.keeps I.bk) hcode (TB.code.keeps I.bk) hP' tr hc bP fun ctv doc h' tk hx _ => ?_
    have J : Inv X pins σ H { s with heap := h', toks := tk } := (I.kept hx : _)
    have nF : H h'.objs.size = none := J.hok.fresh (Nat.le_refl _)
    have J2 := inv_fn (F := ⟨name, X.env.qual ++ name, params, body, scope, cloFrom X.env.cells scope.names [], c'⟩) (t' := tk) (doc := doc) (pm := (X.mg "__name__").getD .none) (ctv := ctv) J rfl
    have st : ∀ b o, H b = some o → upd H h'.objs.size (FnO h'.objs.size ⟨name, X.env.qual ++ name, params, body, scope, cloFrom X.env.cells scope.names [], c'⟩) b = some o := fun b o e => by rw [upd_ne (ne_of_none e nF)]; exact e
    exact h _ c' _ _ J2 ⟨nF, ⟨ps, st _ _ hP, tr, fun p v e => by obtain ⟨d, e1, e2⟩ := cs p v e; exact ⟨d, e1, st _ _ e2⟩⟩, upd_same, st _ _ ho, fun b _ hb => upd_ne (by rintro rfl; exact hb nF)⟩
  | none =>
    refine PySem.W.makeFunction_K (mg := X.mg) (c := c) (P := P) (ps := ps) (closure_ok hfree) I.ok.glob (I.mod.glob.keeps I.bk) hcode (TB.code.keeps I.bk) hP' tr hc TB.gP bP fun c' ctv doc h' tk hx hge hlt hrec htb => ?_
    obtain ⟨c2, oc, vs, t, e2, hoc, hd, hv⟩ := hrec
    cases e2
    have nC : H c' = none := I.hok.fresh hge
    have J := inv_table (t' := tk) (more := #[rawInt pos.line, rawInt pos.col, .ref c']) (h' := h') I hP (fun b o hb e => hx b o hb e) htb hge ⟨oc, vs, t, hoc, hd, hv⟩
    have J2 := inv_fn (F := ⟨name, X.env.qual ++ name, params, body, scope, cloFrom X.env.cells scope.names [], c'⟩) (t' := tk) (doc := doc) (pm := (X.mg "__name__").getD .none) (ctv := ctv) J rfl
    have nF1 := (J.hok.fresh (Nat.le_refl _) : _)
    have nF : H h'.objs.size = none := I.hok.fresh (Nat.le_trans hge (Nat.le_of_lt hlt))
    have cf : c' ≠ h'.objs.size := Nat.ne_of_lt hlt
    have pc : P ≠ c' := ne_of_none hP nC
    have pf : P ≠ h'.objs.size := ne_of_none hP nF
    refine h _ c' _ _ J2 ⟨nF, ⟨_, by rw [upd_ne pf, upd_ne pc, upd_same], ?_, fun p v e => ?_⟩, upd_same, by rw [upd_ne cf, upd_same], fun b hb hn => ?_⟩
    · rw [show (ps ++ #[rawInt pos.line, rawInt pos.col, .ref c']).toList = ps.toList ++ [rawInt pos.line, rawInt pos.col, .ref c'] by simp]
      exact PySem.TriplesOk_snoc _ _ _ _ tr
    · rw [show (ps ++ #[rawInt pos.line, rawInt pos.col, .ref c']).toList = ps.toList ++ [rawInt pos.line, rawInt pos.col, .ref c'] by simp] at e
      rcases among_app2 _ tr e with z | ⟨z, _, _⟩
      · obtain ⟨d, e1, e2⟩ := cs p v z
        refine ⟨d, e1, ?_⟩
        have nd : d ≠ P := by
          rintro rfl
          rw [hP] at e2
          exact codeO_ne ps (Option.some.inj e2).symm
        rw [upd_ne (ne_of_none e2 nF), upd_ne (ne_of_none e2 nC), upd_ne nd]
        exact e2
      · exact ⟨c', z, by rw [upd_ne cf, upd_same]⟩
    · rw [upd_ne (by rintro rfl; exact hn nF), upd_ne (by rintro rfl; exact hn nC), upd_ne hb]
end
theorem Made.up {K : PySem.W.Frag} [GG K] {P : Addr} {q : Str} {f c : Addr} {F : NF} {s : LS} {H H1 : Hp} (m : Made P q f c F H H1) (hs : RelS K s H) (hP : s P = some (.tab q)) : Step s H s H1 ∧ RelS K s H1 ∧ s f = none ∧ s c = none := by
  have st : Step s H s H1 := fun a o e n => ⟨⟨o, by rw [m.rest a (by rintro rfl; rw [hP] at n; cases n) (by rw [e]; simp)]; exact e, .refl o⟩, n⟩
  have c0 : ∀ d, H1 d = some (CodeO d q) → s d = none := fun d e => by
    cases z : H d with
    | none => exact hs.free z
    | some o =>
      by_cases hd : d = P
      · subst hd
        obtain ⟨ps, e2, _⟩ := m.tab
        rw [e] at e2
        exact absurd (Option.some.inj e2) (codeO_ne ps)
      · have := m.rest d hd (by rw [z]; simp)
        rw [e] at this
        exact hs.ext0 this.symm
  refine ⟨st, fun a o e => ?_, hs.free m.nf, c0 c m.code⟩
  by_cases ha : a = P
  · subst ha
    rw [hP] at e
    cases e
    obtain ⟨ps, e1, e2, e3⟩ := m.tab
    refine ⟨ps, e1, e2, fun pos cv z => ?_⟩
    obtain ⟨d, z1, z2⟩ := e3 pos cv z
    exact ⟨d, z1, c0 d z2, z2⟩
  · exact (hs a o e).mono st fun u z => by rw [m.rest a ha (by rw [z]; simp)]; exact z
theorem tabQ_of {K : PySem.W.Frag} [GG K] {s : LS} {H : Hp} {P : Addr} {q : Str} (hs : RelS K s H) (h : s P = some (.tab q)) : TabQ H P q := by
  obtain ⟨ps, e1, e2, e3⟩ := hs P _ h
  exact ⟨ps, e1, e2, fun pos cv z => by obtain ⟨c, z1, _, z2⟩ := e3 pos cv z; exact ⟨c, z1, z2⟩⟩
/-- def name(..): within a def: its reading -/
def tDefX (P : Addr) (q : Str) (i : Nat) (mk : Addr → NF) : TS := fun D σ H => TabQ H P q ∧ ∀ (f c : Addr) (H1 : Hp), Made P q f c (mk c) H H1 → i < σ.length → D.nx (σ.set i (some (.ref f))) H1
theorem ps_defX {X : Cx} {st : Stmt} {c P : Addr} {name q : Str} {pos : Pos} {i : Nat} (hst : st = .FunctionDef name (C8.fnArgs st) (C8.fnBody st) [] none [] (C8.fnScope st) none name pos) (TB : TabB X.base X.mg c P) (hcode : X.env.code = .ref c) (hq : X.env.qual ++ name = q)
    (hfree : ∀ y ∈ (C8.fnScope st).names, y.2 = .free → X.env.scope.names.lookup y.1 = some .cell ∨ X.env.scope.names.lookup y.1 = some .free) (hd0 : (C8.fnArgs st).defaults = []) (hk0 : (C8.fnArgs st).kw_defaults = [])
    (ha : annTrees (C8.fnArgs st) none X.env = []) (hN : X.N.Nodup) (hi : X.N[i]? = some name) (hx : Loc X.env.scope name) (hf : X.fn name = true ∨ X.env.scope.names.lookup name = some .local) :
    PS X st (tDefX P q i (NF.of st name q (cloFrom X.env.cells (C8.fnScope st).names []))) := by
  rw [show PS X st = PS X (.FunctionDef name (C8.fnArgs st) (C8.fnBody st) [] none [] (C8.fnScope st) none name pos) from congrArg _ hst]
  refine ⟨fun pins s σ H D I ⟨hT, h⟩ => ?_⟩
  have e : qualnameIn X.env name name = q := by
    rw [← hq]
    have kd : X.env.kindOf name = some .local ∨ X.env.kindOf name = some .cell := hx
    unfold qualnameIn
    rcases kd with k | k <;> rw [k] <;> first | rfl | exact if_neg (by decide)
  refine PySem.W.nestDef_K hd0 hk0 ha ?_
  rw [e]
  exact ndefX I TB hcode hq hT (fun y hy z => (hfree y hy z).elim (fun z => I.ok.has _ (.inl z)) fun z => I.ok.has _ (.inr z)) fun f c' H1 s' J m =>
    store_ok J hN hi hx (v := .ref f) rfl (fun s'' J => ⟨_, _, J, h f c' H1 m (by rw [I.len]; exact (List.getElem?_eq_some_iff.mp hi).1)⟩) hf
structure PSM (X : Cx) (sts : List Stmt) (t : (L2.St → V → Hp → Prop) → L2.St → Hp → Prop) : Prop where
  run : ∀ (pins : List (Addr × Obj)) (s : Shared) (σ : L2.St) (H : Hp) (R : L2.St → V → Hp → Prop), Inv X pins σ H s → t R σ H →
    wpAny (model X.prog X.w) X.A (execs sts X.env) (fun fl s' => ∃ u, fl = .ret u ∧ ∃ v σ' H', Inv X pins σ' H' s' ∧ L2.RelV v u ∧ R σ' v H') X.xe s
section
variable {X : Cx} {st : Stmt} {rest : List Stmt} {t : TS} {e : Expr} {te : TE} {pos : Pos} {u u' : (L2.St → V → Hp → Prop) → L2.St → Hp → Prop}
theorem PSM.imp (h : PSM X rest u) (i : ∀ R σ H, u' R σ H → u R σ H) : PSM X rest u' := ⟨fun pins s σ H R I q => h.run pins s σ H R I (i _ _ _ q)⟩
theorem psm_cons (h1 : PS X st t) (h2 : PSM X rest u) : PSM X (st :: rest) fun R σ H => t { nx := u R, rt := fun _ _ => False } σ H := by
  refine ⟨fun pins s σ H R I h => ?_⟩
  refine wpAny_execs_cons (thn (h1.run pins s σ H _ I h) fun f s1 q => ?_)
  cases f with
  | next =>
    obtain ⟨σ', H', I', q⟩ := q
    exact h2.run pins s1 σ' H' R I' q
  | ret v => obtain ⟨_, _, _, _, _, q⟩ := q; exact q.elim
  | brk => obtain ⟨_, _, _, q⟩ := q; exact q.elim
  | cont => obtain ⟨_, _, _, q⟩ := q; exact q.elim
theorem psm_ret (he : PE X e te) : PSM X [.Return (some e) pos] fun R σ H => te σ H fun v H1 => R σ v H1 := by
  refine ⟨fun pins s σ H R I h => ?_⟩
  refine wpAny_execs_cons (wpAny_Return_some (thn (he.run pins s σ H _ I h) fun v s1 ⟨x, H1, I1, r1, q1⟩ => ?_))
  exact ⟨v, rfl, x, σ, H1, I1, r1, q1⟩
end
/-- what the maker's end asks: the function at f, its captured names' values -/
structure DnM (K : PySem.W.Frag) [GG K] (k : Ck) (js : List Nat) (cl : List (Str × Addr)) (E : LXS) (s : LS) (H : Hp) (Dl : LEnds) (R : L2.St → V → Hp → Prop) : Prop where
  rt : ∀ (xs : List LV) (s' : LS) (σ : L2.St) (H' : Hp) (f c : Addr) (vs : List V), Dl.rt (.clo k xs) s' → Step s H s' H' → RelS K s' H' → H' f = some (k.fo f cl c) → H' c = some (CodeO c k.qual) →
    RVs K s' H' xs vs → js.map (fun j => σ[j]?) = vs.map (fun v => some (some v)) → R σ (.ref f) H'
  ex : ∀ C σl s', Dl.ex C σl s' → E C σl s'
theorem DnM.mono {K : PySem.W.Frag} [GG K] {k : Ck} {js : List Nat} {cl : List (Str × Addr)} {E : LXS} {s s1 : LS} {H H1 : Hp} {Dl : LEnds} {R : L2.St → V → Hp → Prop} (d : DnM K k js cl E s H Dl R) (st : Step s H s1 H1) : DnM K k js cl E s1 H1 Dl R :=
  ⟨fun xs s' σ H' f c vs q st' => d.rt xs s' σ H' f c vs q (st.trans st'), d.ex⟩
def upM (K : PySem.W.Frag) [GG K] (k : Ck) (js : List Nat) (cl : List (Str × Addr)) (s0 : LS) (H0 : Hp) (E : LXS) (t : LTS) : (L2.St → V → Hp → Prop) → L2.St → Hp → Prop := fun R σ H => ∃ σl s Dl, RSt K s H σl σ ∧ RelS K s H ∧ Step s0 H0 s H ∧ t Dl σl s ∧ DnM K k js cl E s H Dl R
def LPM (X : Cx) [GG X.K] (k : Ck) (js : List Nat) (cl : List (Str × Addr)) (sts : List Stmt) (t : LTS) : Prop := ∀ s0 H0 E, Takes X (WL X.K s0 H0 E) → PassesOwn (model X.prog X.w) X.A X.env X.xe → PSM X sts (upM X.K k js cl s0 H0 E t)
/-- within the maker: no other return -/
def lSeqM (t u : LTS) : LTS := fun D σ s => t ⟨u D, fun _ _ => False, fun _ _ => False, fun _ _ => False, D.ex⟩ σ s
section
variable {X : Cx} [GG X.K] {st : Stmt} {rest : List Stmt} {t u : LTS} {k : Ck} {js : List Nat} {cl : List (Str × Addr)}
theorem lpm_cons (h1 : LP X st t) (h2 : LPM X k js cl rest u) : LPM X k js cl (st :: rest) (lSeqM t u) := fun s0 H0 E tk hp =>
  (psm_cons (h1 s0 H0 E tk hp) (h2 s0 H0 E tk hp)).imp fun R σ H ⟨σl, s, Dl, hσ, hs, st, h, d⟩ =>
    ⟨σl, s, _, hσ, hs, st, h, ⟨fun σl1 s1 σ1 H1 h1 st1 hs1 r1 => ⟨σl1, s1, Dl, r1, hs1, st.trans st1, h1, d.mono st1⟩, fun _ _ _ _ z => z.elim, fun _ _ _ _ z => z.elim, fun _ _ _ _ z => z.elim, d.ex⟩⟩
/-- def g(..): .. ; return g -/
def lMade (P : Addr) (k : Ck) (js : List Nat) : LTS := fun D σ s => s P = some (.tab k.qual) ∧ ∃ xs : List LV, js.map (fun j => σ[j]?) = xs.map (fun x => some (some x)) ∧ D.rt (.clo k xs) s
theorem slots_of {K : PySem.W.Frag} [GG K] {s : LS} {H : Hp} {σl : LSt} {σ : L2.St} (hσ : RSt K s H σl σ) : ∀ {js : List Nat} {xs : List LV}, js.map (fun j => σl[j]?) = xs.map (fun x => some (some x)) → ∃ vs : List V, RVs K s H xs vs ∧ js.map (fun j => σ[j]?) = vs.map (fun v => some (some v))
  | [], [], _ => ⟨[], .nil, rfl⟩
  | [], _ :: _, h => by cases h
  | _ :: _, [], h => by cases h
  | j :: js, x :: xs, h => by
    rw [List.map_cons, List.map_cons, List.cons.injEq] at h
    obtain ⟨v, e, r⟩ := hσ.get h.1
    obtain ⟨vs, rs, es⟩ := slots_of hσ h.2
    exact ⟨v :: vs, .cons r rs, by rw [List.map_cons, List.map_cons, e, es]⟩
theorem lpm_made {c P : Addr} {name : Str} {pos p1 p2 : Pos} {i : Nat} (hst : k.st = .FunctionDef name (C8.fnArgs k.st) (C8.fnBody k.st) [] none [] (C8.fnScope k.st) none name pos) (TB : TabB X.base X.mg c P) (hcode : X.env.code = .ref c) (hn : k.name = name) (hq : X.env.qual ++ name = k.qual)
    (hcl : cl = cloFrom X.env.cells (C8.fnScope k.st).names [])
    (hfree : ∀ y ∈ (C8.fnScope k.st).names, y.2 = .free → X.env.scope.names.lookup y.1 = some .cell ∨ X.env.scope.names.lookup y.1 = some .free) (hd0 : (C8.fnArgs k.st).defaults = []) (hk0 : (C8.fnArgs k.st).kw_defaults = [])
    (ha : annTrees (C8.fnArgs k.st) none X.env = []) (hN : X.N.Nodup) (hi : X.N[i]? = some name) (hx : X.env.scope.names.lookup name = some .local) (hj : ∀ j ∈ js, j ≠ i) (hd : (name == ("__debug__" : Str)) = false := by decide) (hcd : (name == ("__classdict__" : Str)) = false := by decide) :
    LPM X k js cl [k.st, .Return (some (.Name name p1)) p2] (lMade P k js) := fun s0 H0 E tk hp =>
  (psm_cons (ps_defX hst TB hcode hq hfree hd0 hk0 ha hN hi (.inl hx) (.inr hx)) (psm_ret (pe_var (i := i) hN' hx' hd hcd))).imp fun R σ H ⟨σl, s, Dl, hσ, hs, st, ⟨hP, xs, e, h⟩, d⟩ => by
    refine ⟨tabQ_of hs hP, fun f c' H1 m hl => ?_⟩
    obtain ⟨st1, hs1, _, _⟩ := m.up hs hP
    obtain ⟨vs, r, es⟩ := slots_of hσ e
    refine ⟨.ref f, by rw [List.getElem?_set_self hl], ?_⟩
    refine d.rt xs s _ H1 f c' vs h st1 hs1 (by subst hn hcl; rw [k.fo_def (by rw [hst]; rfl)]; exact m.fn) m.code (r.mono st1) ?_
    rw [← es]
    exact List.map_congr_left fun j hj' => by rw [List.getElem?_set_ne (Ne.symm (hj j hj'))]
where
  hN' := hi
  hx' : Vis X.env.scope name := .inl hx
end
end L3

namespace L3
open PySem PySem.Spec PyProof.Rows L2 LamX NdefX
theorem hok_cel {P : Program} {w : World} {H : Hp} {h : Heap} {c : Addr} {v : V} {u : Value} (k : HOk P w H h) (n : H c = none) (r : RelV v u) (hc : h.IsCell c (some u)) : HOk P w (upd H c (CelO c v)) h := fun a o e => by
  by_cases ha : a = c
  · subst ha
    rw [upd_same] at e
    cases e
    obtain ⟨o, ho, hd⟩ := hc
    exact ⟨⟨u, r, o, ho, hd⟩, ⟨o, ho⟩, fun h1 h2 ⟨u', r', o', ho', hd'⟩ st => ⟨u', r', o', st _ ho', hd'⟩⟩
  · rw [upd_ne ha] at e
    exact (k a o e).stay (fun _ _ _ q => q) (fun b q => by rw [upd_ne (by rintro rfl; rw [n] at q; cases q)]; exact q) fun b xs q => by rw [upd_ne (by rintro rfl; rw [n] at q; cases q)]; exact q
theorem cells_add {P : Program} {w : World} {H : Hp} {h : Heap} : ∀ (l : List (Addr × V)), (l.map (·.1)).Nodup → HOk P w H h → (∀ p ∈ l, H p.1 = none ∧ ∃ u, RelV p.2 u ∧ h.IsCell p.1 (some u)) →
    ∃ H2, HOk P w H2 h ∧ (∀ p ∈ l, H2 p.1 = some (CelO p.1 p.2)) ∧ ∀ b, b ∉ l.map (·.1) → H2 b = H b
  | [], _, k, _ => ⟨H, k, fun _ h => (nomatch h), fun _ _ => rfl⟩
  | (c, v) :: l, nd, k, hl => by
    rw [List.map_cons, List.nodup_cons] at nd
    obtain ⟨H2, k2, h2, r2⟩ := cells_add l nd.2 k fun p hp => hl p (List.mem_cons_of_mem _ hp)
    obtain ⟨n, u, r, hc⟩ := hl (c, v) List.mem_cons_self
    have n2 : H2 c = none := by rw [r2 c nd.1]; exact n
    refine ⟨upd H2 c (CelO c v), hok_cel k2 n2 r hc, fun p hp => ?_, fun b hb => ?_⟩
    · rcases List.mem_cons.mp hp with rfl | hq
      · exact upd_same
      · rw [upd_ne (fun z => nd.1 (by rw [← z]; exact List.mem_map_of_mem (f := (·.1)) hq))]
        exact h2 p hq
    · rw [List.map_cons, List.mem_cons, not_or] at hb
      rw [upd_ne hb.1]
      exact r2 b hb.2
theorem un_add {fs ex : List Addr} {H H1 H2 : Hp} {h h1 : Heap} {cs : List Addr} (un : Un fs ex H H1 h h1) (r : ∀ b, b ∉ cs → H2 b = H1 b) (n : ∀ c ∈ cs, H1 c = none) (f : ∀ c ∈ cs, h.get? c = none) : Un fs ex H H2 h h1 := by
  have out : ∀ b o, H1 b = some o → b ∉ cs := fun b o e hb => by rw [n b hb] at e; cases e
  exact ⟨un.keep, un.slot, fun b o e n' hx => by rw [r b fun hb => by rw [f b hb] at e; cases e]; exact un.free b o e n' hx, un.there,
    fun b xs e => by have q := un.tups b xs e; rw [r b (out b _ q)]; exact q, fun b o u e => by have q := un.frzs b o u e; rw [r b (out b _ q)]; exact q,
    fun b ps e => by obtain ⟨m, q⟩ := un.tbls b ps e; exact ⟨m, by rw [r b (out b _ q)]; exact q⟩⟩
/-- the captured names, in the order in which they lie -/
def frOf (names : List (Str × NameKind)) : List Str := ((names.filter fun y => y.2 == .free).map (·.1)).reverse
theorem clo_keys (cells : List (Str × Addr)) : ∀ (names : List (Str × NameKind)) (acc : List (Str × Addr)), (cloFrom cells names acc).map (·.1) = frOf names ++ acc.map (·.1)
  | [], acc => rfl
  | (n, k) :: r, acc => by
    unfold cloFrom
    by_cases hk : k == .free
    · rw [if_pos hk, clo_keys cells r]
      simp [frOf, hk]
    · rw [if_neg hk, clo_keys cells r]
      simp [frOf, hk]
theorem RVc.of {K : PySem.W.Frag} [GG K] {s : LS} {H : Hp} : ∀ {xs : List LV} {vs : List V} {cs : List Addr}, RVs K s H xs vs → cs.length = vs.length → (∀ p ∈ cs.zip vs, CelH K s H p.1 p.2) → RVc K s H xs cs
  | [], vs, cs, r, e, _ => by
    simp only [RVs] at r
    subst r
    simp only [RVc]
    exact List.eq_nil_of_length_eq_zero e
  | x :: xs, vs, cs, r, e, hc => by
    simp only [RVs] at r
    obtain ⟨u, vs, rfl, r1, r2⟩ := r
    cases cs with
    | nil => cases e
    | cons c cs =>
      simp only [RVc]
      exact ⟨c, cs, u, rfl, hc (c, u) (by simp), r1, RVc.of r2 (by simpa using e) fun p hp => hc p (by simp [hp])⟩
/-- a def whose code object is known -/
structure FunC (K : PySem.W.Frag) (x qual : Str) (st : Stmt) (f : Addr) (fd : FuncData) (c : Addr) : Prop where
  ex : ∃ (oc : Value) (od : Option Addr) (kV doc pm : Value) (an : Option Addr) (ct : Value) (osl : Array (Option Value)),
    fd = PySem.W.fnOf x qual (defArgs st) (defBody st) (defScope st) .none kV doc pm an (.ref c) ct ∧ K.lookup f = some ⟨oc, od, .func fd, osl⟩ ∧ PySem.W.codeIn K (.ref c) qual = true
theorem funC_mk {K : PySem.W.Frag} {x qual : Str} {st : Stmt} {f c : Addr} {oc : Value} {od an : Option Addr} {osl : Array (Option Value)} {kV doc pm ct : Value} (l : K.lookup f = some ⟨oc, od, .func (PySem.W.fnOf x qual (defArgs st) (defBody st) (defScope st) .none kV doc pm an (.ref c) ct), osl⟩)
    (h : PySem.W.codeIn K (.ref c) qual = true) : FunC K x qual st f (PySem.W.fnOf x qual (defArgs st) (defBody st) (defScope st) .none kV doc pm an (.ref c) ct) c := ⟨⟨oc, od, kV, doc, pm, an, ct, osl, rfl, l, h⟩⟩
/-- the ends of a maker -/
def mEnds (Q : LVK) (E : LX) : LEnds := ⟨fun _ _ => False, fun lv s' => ∃ y s2, Frz lv s' y s2 ∧ Q y s2, fun _ _ => False, fun _ _ => False, fun C _ s' => ∃ s2, Sub s2 s' ∧ E C s2⟩
abbrev mCells (st : Stmt) (si : Shared) : List (Str × Addr) := cellsFrom (si.heap.objs.size + 1) (defScope st).names []
section
variable {P : Program} {w : World} {K : PySem.W.Frag} [GG K] {mg : Str → Option Value} {base : Heap}
theorem FunC.ok {x qual : Str} {st : Stmt} {f c : Addr} {fd : FuncData} {N ps : List Str} {k : Nat} {sp : LSp} {ck : Ck} {js : List Nat} (F : FunC K x qual st f fd c) (S : FnScope N ps (defScope st)) (len : ∀ vs s Q E, sp vs s Q E → vs.length = ps.length)
    (hfr : frOf (C8.fnScope ck.st).names = ck.fr) (nfr : ck.fr.Nodup) (kfr : ∀ y ∈ ck.fr, (defScope st).names.lookup y = some .cell) (hjs : js.map (fun j => N[j]?) = ck.fr.map some)
    (hbody : ∀ (A : Around) (outer : List Env) (si : Shared) (H : Hp) (E : XK), Room k (A.deeper (PyProof.Rows.envOfC qual (defScope st) si.heap.objs.size f (.ref c))) →
      ∃ t, LPM (cxOf (L2.CX P w) P w K mg base N qual (defScope st) f (.ref c) A outer si H E) ck js (cloFrom (mCells st si) (C8.fnScope ck.st).names []) (defBody st) t ∧ ∀ vs s Q E, sp vs s Q E → t (mEnds Q E) (lstart N vs) s) : LFn P w K mg base (k + 1) f fd ps sp := by
  obtain ⟨oc, od, kV, doc, pm, an, ct, osl, rfl, lk, hcd⟩ := F.ex
  have len' : ∀ vs H Q E, dn K sp vs H Q E → vs.length = ps.length := fun vs H Q E ⟨lvs, s, Q0, E0, r, _, h, _⟩ => by rw [r.length]; exact len _ _ _ _ h
  refine ⟨len', fun A outer s H args us vs Q E hr e0 hb r hsp => ?_⟩
  have hl := len' _ _ _ _ hsp
  have KX : K.In s.heap := e0.mod.kin.keeps fun b o e => (e0.bs b o e).1
  have nl : s.heap.NoLimit := e0.mod.nolimit.keeps fun b o e => (e0.bs b o e).1
  refine codeAny_call_function hr.depth (KX _ _ lk) rfl S.co S.gen rfl (PySem.W.codeRec_of KX hcd) (hb _ _ _ _ ?_)
  refine wpAny_newFunctionEnv_cells S.kind (fun ⟨n, v⟩ hy => ?_) fun env he s1 x => ?_
  · rcases S.par n (List.of_mem_zip hy).1 with q | q
    · exact .inl q
    · exact .inr ⟨q, PySem.W.cellsFrom_some _ _ _ (.inl q)⟩
  subst he
  refine ⟨nl.keeps x.toInCall.keep, codeAny_func (show wpAny _ _ (execs (defBody st) _) _ _ _ from ?_)⟩
  obtain ⟨lvs, ls, Q0, E0, rl, hs, h, kq, ke⟩ := hsp
  obtain ⟨t, ht, hbd⟩ := hbody A outer s H E (hr.deeper _)
  have tk := takes_of (X := cxOf (L2.CX P w) P w K mg base N qual (defScope st) f (.ref c) A outer s H E) (E := E) rfl rfl rfl rfl
  have I : Inv (cxOf (L2.CX P w) P w K mg base N qual (defScope st) f (.ref c) A outer s H E) [] (start N vs) H s1 := inv_start S hr.hd e0 hl r x
  have M := ht ls H (fun C σl s' => ∃ s2, Sub s2 s' ∧ E0 C s2) (tk.imp fun cls d σ H' w => by
    obtain ⟨C, σl, s', rfl, rfl, _, hs', st', s2, sb, q⟩ := w
    exact ke C s2 H' q (st'.trans sb.step) (sb.rel hs')) (passes_of rfl)
  let cl := cloFrom (mCells st s) (C8.fnScope ck.st).names []
  have hk : cl.map (·.1) = ck.fr := by rw [show cl.map (·.1) = frOf (C8.fnScope ck.st).names ++ [] from clo_keys _ _ _, List.append_nil, hfr]
  have start_ok : RSt K ls H (lstart N lvs) (start N vs) := by
    unfold lstart
    rw [show start N vs = vs.map some ++ List.replicate (N.length - vs.length) none from rfl, rl.length]
    exact (RSt.vals rl).append (.nones _)
  refine wpAny_mono (M.run [] s1 (start N vs) H (fun σ' v H' => ∃ vs' : List V, js.map (fun j => σ'[j]?) = vs'.map (fun v => some (some v)) ∧ ∀ H2, (cl.map (·.2)).Nodup → (∀ a ∈ cl.map (·.2), H' a = none) → (∀ p ∈ (cl.map (·.2)).zip vs', H2 p.1 = some (CelO p.1 p.2)) →
    (∀ b, b ∉ cl.map (·.2) → H2 b = H' b) → Q v H2) I ⟨lstart N lvs, ls, mEnds Q0 E0, start_ok, hs, .refl _ _, hbd lvs ls Q0 E0 h, fun xs s' σ' H' f' c' vs' hrt st' hs' hf hc' rx hj => ?_, fun _ _ _ z => z⟩) (fun fl s' hfl => ?_) fun e s' he => he
  · refine ⟨vs', hj, fun H2 nd h0 h2 r2 => ?_⟩
    have l1 : cl.length = vs'.length := by
      have e1 := congrArg List.length hj
      have e2 := congrArg List.length hjs
      have e3 := congrArg List.length hk
      simp only [List.length_map] at e1 e2 e3
      omega
    have st2 : Step s' H' s' H2 := fun a o e n => ⟨⟨o, by rw [r2 a fun ha => by rw [h0 a ha] at e; cases e]; exact e, .refl o⟩, n⟩
    have hs2 : RelS K s' H2 := fun a o e => (hs' a o e).mono st2 fun u z => by rw [r2 a fun ha => by rw [h0 a ha] at z; cases z]; exact z
    have rv : RV K s' H2 (.clo ck xs) (.ref f') := by
      simp only [RV]
      refine ⟨f', c', cl, rfl, hs'.ext0 hf, by rw [r2 f' fun ha => by rw [h0 _ ha] at hf; cases hf]; exact hf, hs'.ext0 hc', by rw [r2 c' fun ha => by rw [h0 _ ha] at hc'; cases hc']; exact hc', hk, nd, ?_⟩
      refine RVc.of (rx.mono st2) (by rw [List.length_map]; exact l1) fun p hp => .inl ⟨hs'.free (h0 _ (List.of_mem_zip hp).1), h2 p hp⟩
    obtain ⟨y, s2, fz, q⟩ := hrt
    obtain ⟨a1, a2, a3⟩ := fz K H2 (.ref f') hs2 rv
    exact kq y s2 _ H2 q ((st'.trans st2).trans a3) a2 a1
  · obtain ⟨u, rfl, v, σ', H', J, rv, vs', hj, q⟩ := hfl
    have ecl : ∀ y a, (y, a) ∈ cl → (mCells st s).lookup y = some a ∧ y ∈ ck.fr := fun y a hm => by
      have hy : y ∈ ck.fr := by rw [← hk]; exact List.mem_map_of_mem (f := (·.1)) hm
      refine ⟨?_, hy⟩
      rcases cloFrom_mem hm with z | ⟨_, z⟩
      · cases z
      · obtain ⟨b, hb⟩ := cell_has (n := s.heap.objs.size + 1) (kfr y hy)
        rw [show mCells st s = cellsFrom (s.heap.objs.size + 1) (defScope st).names [] from rfl] at z ⊢
        rw [hb] at z ⊢
        rw [z]; rfl
    have nd : (cl.map (·.2)).Nodup := by
      rw [List.Nodup, List.pairwise_iff_getElem]
      intro i j hi hj2 hij
      rw [List.getElem_map, List.getElem_map]
      rw [List.length_map] at hi hj2
      intro z
      obtain ⟨z1, _⟩ := ecl cl[i].1 cl[i].2 (List.getElem_mem hi)
      obtain ⟨z2, _⟩ := ecl cl[j].1 cl[j].2 (List.getElem_mem hj2)
      rw [z] at z1
      have e := J.ok.inj _ _ _ z1 z2
      have nf := nfr
      rw [← hk, List.Nodup, List.pairwise_iff_getElem] at nf
      have := nf i j (by rw [List.length_map]; exact hi) (by rw [List.length_map]; exact hj2) hij
      rw [List.getElem_map, List.getElem_map] at this
      exact this e
    have h0 : ∀ a ∈ cl.map (·.2), H' a = none := fun a ha => by
      obtain ⟨⟨y, b⟩, hm, rfl⟩ := List.mem_map.mp ha
      exact J.freeC y b (ecl y b hm).1
    have l1 : cl.length = vs'.length := by
      have e1 := congrArg List.length hj
      have e2 := congrArg List.length hjs
      have e3 := congrArg List.length hk
      simp only [List.length_map] at e1 e2 e3
      omega
    have cells : ∀ p ∈ (cl.map (·.2)).zip vs', H' p.1 = none ∧ ∃ u, RelV p.2 u ∧ s'.heap.IsCell p.1 (some u) := fun p hp => by
      refine ⟨h0 _ (List.of_mem_zip hp).1, ?_⟩
      obtain ⟨i, hi, rfl⟩ := List.mem_iff_getElem.mp hp
      rw [List.length_zip, List.length_map, l1, Nat.min_self] at hi
      rw [List.getElem_zip]
      simp only [List.getElem_map]
      have hi' : i < cl.length := by omega
      obtain ⟨z1, z2⟩ := ecl cl[i].1 cl[i].2 (List.getElem_mem hi')
      have ey : ck.fr[i]? = some cl[i].1 := by rw [← hk, List.getElem?_map, List.getElem?_eq_getElem hi']; rfl
      have e2 : (js.map fun j => N[j]?)[i]? = some (some cl[i].1) := by rw [hjs, List.getElem?_map, ey]; rfl
      rw [List.getElem?_map] at e2
      cases ej : js[i]? with
      | none => rw [ej] at e2; cases e2
      | some j =>
        rw [ej] at e2
        have hN : N[j]? = some cl[i].1 := Option.some.inj e2
        have e3 : (js.map fun j => σ'[j]?)[i]? = some (some (some vs'[i])) := by rw [hj, List.getElem?_map, List.getElem?_eq_getElem hi]; rfl
        rw [List.getElem?_map, ej] at e3
        obtain ⟨m, hn, hlk⟩ := J.loc
        obtain ⟨u, ru, l⟩ := hlk j cl[i].1 vs'[i] hN (Option.some.inj e3) (.inr (.inl (kfr _ z2)))
        refine ⟨u, ru, ?_⟩
        rcases l with ⟨z, _⟩ | ⟨_, b, hb, hc⟩
        · have z' : (defScope st).names.lookup cl[i].1 = some .local := z
          rw [kfr _ z2] at z'
          cases z'
        · have hb' : (mCells st s).lookup cl[i].1 = some b := hb
          rw [z1] at hb'
          cases hb'
          exact hc
    have zf : ((cl.map (·.2)).zip vs').map (·.1) = cl.map (·.2) := List.map_fst_zip (by rw [List.length_map]; omega)
    obtain ⟨H2, k2, h2, r2⟩ := cells_add _ (by rw [zf]; exact nd) J.hok cells
    rw [zf] at r2
    refine ⟨v, H2, J.os, J.bare, un_add J.base r2 h0 (fun a ha => ?_), k2, rv, q H2 nd h0 h2 r2⟩
    obtain ⟨⟨y, b⟩, hm, rfl⟩ := List.mem_map.mp ha
    exact Heap.get?_none_of_le (J.ok.cab y b rfl (ecl y b hm).1)
end
end L3

namespace L3
open PySem PySem.Spec PyProof.Rows L2 LamX NdefX
open Classical in
noncomputable def cutP (H : Hp) (C : Addr → Prop) : Hp := fun b => if C b then none else H b
open Classical in
noncomputable def addP (H2 H : Hp) (C : Addr → Prop) : Hp := fun b => if C b then H b else H2 b
theorem cut_in {H : Hp} {C : Addr → Prop} {b : Addr} (h : C b) : cutP H C b = none := by unfold cutP; rw [if_pos h]
theorem cut_out {H : Hp} {C : Addr → Prop} {b : Addr} (h : ¬ C b) : cutP H C b = H b := by unfold cutP; rw [if_neg h]
theorem add_in {H2 H : Hp} {C : Addr → Prop} {b : Addr} (h : C b) : addP H2 H C b = H b := by unfold addP; rw [if_pos h]
theorem add_out {H2 H : Hp} {C : Addr → Prop} {b : Addr} (h : ¬ C b) : addP H2 H C b = H2 b := by unfold addP; rw [if_neg h]
/-- what may be laid aside -/
structure Aside (H : Hp) (C : Addr → Prop) : Prop where
  there : ∀ b, C b → H b ≠ none
  own : ∀ a b, C a → H b = some (.own a) → (∀ y, H a ≠ some (.own y)) → (∀ φ, H a ≠ some (.ext φ)) → C b
  back : ∀ a b, H b = some (.own a) → C b → C a
  notup : ∀ b xs, C b → H b ≠ some (.tup xs)
  nofrz : ∀ b o u, C b → H b ≠ some (.frz o u)
theorem obj_of {P : Program} {w : World} {H : Hp} {h : Heap} {a : Addr} {o : HO} (x : ObjOk P w H h a o) : ∃ ob, h.get? a = some ob := by
  cases o with
  | lst xs => obtain ⟨_, _, _, _, z⟩ := x; exact ⟨_, z⟩
  | tup xs => obtain ⟨_, _, _, ob, z, _⟩ := x; exact ⟨_, z⟩
  | dK kvs => obtain ⟨_, _, _, _, o, _, _, z, _⟩ := x; exact ⟨_, z⟩
  | dT kvs => obtain ⟨_, _, _, _, o, _, _, z, _⟩ := x; exact ⟨_, z⟩
  | set S n => obtain ⟨o, _, _, _, z, _⟩ := x; exact ⟨_, z⟩
  | ins C dx fs => obtain ⟨_, _, _, z, _⟩ := x; exact ⟨_, z⟩
  | own y => exact x
  | xd fs => obtain ⟨_, ⟨_, _, _, z, _⟩, _⟩ := x; exact ⟨_, z⟩
  | rng lo hi => obtain ⟨_, _, _, z⟩ := x; exact ⟨_, z⟩
  | frz ob u => exact ⟨_, x.1⟩
  | tbl ps => exact ⟨_, x⟩
  | met f y => exact ⟨_, x⟩
  | ext φ => exact x.2.1
section
variable {P : Program} {w : World} {K : PySem.W.Frag} {mg : Str → Option Value} {base : Heap} {A : Around} {outer : List Env} {s s' : Shared} {H H2 : Hp} {C : Addr → Prop} {h h' : Heap}
theorem hok_cut (a : Aside H C) (k : HOk P w H h) : HOk P w (cutP H C) h := fun x o e => by
  by_cases hx : C x
  · rw [cut_in hx] at e; cases e
  · rw [cut_out hx] at e
    exact (k x o e).stay (fun _ _ _ q => q) (fun b q => by rw [cut_out fun hb => hx (a.back x b q hb)]; exact q) fun b xs q => by rw [cut_out fun hb => a.notup b xs hb q]; exact q
theorem env0_cut (a : Aside H C) (e : Env0 P w K mg base A outer s H) : Env0 P w K mg base A outer s (cutP H C) :=
  have no : ∀ b, H b = none → cutP H C b = none := fun b n => by
    by_cases hb : C b
    · exact cut_in hb
    · rw [cut_out hb]; exact n
  ⟨e.frames, e.mod, fun b o q => ⟨(e.bs b o q).1, no b (e.bs b o q).2⟩, e.bsz, e.funs, fun b hb => no b (e.frf b hb), hok_cut a e.hok, e.bare⟩
theorem ce_add {Q Q' : VK} {u : Value} (a : Aside H C) (e0 : Env0 P w K mg base A outer s H) (hc : CE outer P w (cutP H C) s Q' u s') (hq : ∀ v H2, Q' v H2 → (∀ c, C c → H2 c = none) → Q v (addP H2 H C)) : CE outer P w H s Q u s' := by
  obtain ⟨v, H2, os, bare, un, hok, r, q⟩ := hc
  have obj : ∀ b o, H b = some o → ∃ ob, s.heap.get? b = some ob := fun b o e => obj_of (e0.hok b o e)
  have ex : ∀ c, C c → ∀ ob, s.heap.get? c = some ob → s'.heap.get? c = some ob := fun c hb ob ho => un.keep c ob ho (cut_in hb) (fun hf => a.there c hb (e0.frf c hf)) (by simp)
  have n2 : ∀ c, C c → H2 c = none := fun c hb => by
    cases z : H c with
    | none => exact absurd z (a.there c hb)
    | some o =>
      obtain ⟨ob, ho⟩ := obj c o z
      exact un.free c ob ho (cut_in hb) (by simp)
  have out : ∀ b, H b = none → ¬ C b := fun b e hb => a.there b hb e
  have ownC : ∀ b y, H2 b = some (.own y) → ¬ C b := fun b y e hb => by rw [n2 b hb] at e; cases e
  refine ⟨v, addP H2 H C, os, bare, ⟨fun b o e n hf hx => ?_, fun b o e n hf hx => ?_, fun b o e n hx => ?_, un.there, fun b xs e => ?_, fun b o u' e => ?_, fun b ps e => ?_⟩, fun x o e => ?_, r, hq v H2 q n2⟩
  · exact un.keep b o e (by rw [cut_out (out b n)]; exact n) hf hx
  · exact un.slot b o e (by rw [cut_out (out b n)]; exact n) hf hx
  · rw [add_out (out b n)]
    exact un.free b o e (by rw [cut_out (out b n)]; exact n) hx
  · have z : ¬ C b := fun hb => a.notup b xs hb e
    rw [add_out z]
    exact un.tups b xs (by rw [cut_out z]; exact e)
  · have z : ¬ C b := fun hb => a.nofrz b o u' hb e
    rw [add_out z]
    exact un.frzs b o u' (by rw [cut_out z]; exact e)
  · by_cases z : C b
    · rw [add_in z]
      exact ⟨#[], by rw [e]; simp⟩
    · rw [add_out z]
      exact un.tbls b ps (by rw [cut_out z]; exact e)
  · by_cases hx : C x
    · rw [add_in hx] at e
      have k := e0.hok x o e
      have tup : ∀ b xs, H b = some (.tup xs) → addP H2 H C b = some (.tup xs) := fun b xs q => by
        have z : ¬ C b := fun hb => a.notup b xs hb q
        rw [add_out z]
        exact un.tups b xs (by rw [cut_out z]; exact q)
      cases o with
      | own y =>
        obtain ⟨ob, ho⟩ := k
        exact ⟨ob, ex x hx ob ho⟩
      | ext φ =>
        obtain ⟨z1, ⟨ob, ho⟩, z3⟩ := k
        exact ⟨z3 _ _ z1 fun o' ho' => ex x hx o' ho', ⟨ob, ex x hx ob ho⟩, z3⟩
      | _ =>
        refine k.stay (fun b u' hb ho => ?_) (fun b q => ?_) tup
        · rcases hb with rfl | hb
          · exact ex b hx u' ho
          · exact ex b (a.own x b hx hb (by rw [e]; simp) (by rw [e]; simp)) u' ho
        · rw [add_in (a.own x b hx q (by rw [e]; simp) (by rw [e]; simp))]; exact q
    · rw [add_out hx] at e
      exact (hok x o e).stay (fun _ _ _ q => q) (fun b q => by rw [add_out (ownC b x q)]; exact q) fun b xs q => by rw [add_out fun hb => by rw [n2 b hb] at q; cases q]; exact q
end
mutual
def ncl : LV → Bool
  | .clo _ _ => false
  | .exc _ => false
  | .tup xs => ncls xs
  | .lst xs => ncls xs
  | .dT kvs => nclk kvs
  | .ins _ fs => nclf fs
  | _ => true
def ncls : List LV → Bool
  | [] => true
  | x :: xs => ncl x && ncls xs
def nclk : List (List Key × LV) → Bool
  | [] => true
  | (_, x) :: xs => ncl x && nclk xs
def nclf : List (Str × LV) → Bool
  | [] => true
  | (_, x) :: xs => ncl x && nclf xs
end
def ncld : List (Key × LV) → Bool
  | [] => true
  | (_, x) :: xs => ncl x && ncld xs
def nclO : LO → Bool
  | .lst xs => ncls xs
  | .dK kvs => ncld kvs
  | .dT kvs => nclk kvs
  | .ins _ fs => nclf fs
  | .tab _ => false
/-- from one heap to another: all but cells and functions' codes -/
structure Cut (s : LS) (H : Hp) (s' : LS) (H' : Hp) : Prop where
  at_ : ∀ a o, H a = some o → s a = none → (∀ φ, o ≠ .ext φ) → (∀ y, o ≠ .own y) → H' a = some o ∧ s' a = none
section
variable {K : PySem.W.Frag} [GG K] {s s' : LS} {H H' : Hp}
theorem ScrAt.cut (c : Cut s H s' H') {a : Addr} {ns : List Int} (h : ScrAt K s H a ns) : ScrAt K s' H' a ns := by
  rcases h with ⟨n, h | ⟨o, h⟩⟩ | h
  · obtain ⟨h', n'⟩ := c.at_ a _ h n (fun φ z => by cases z) fun y z => by cases z
    exact .inl ⟨n', .inl h'⟩
  · obtain ⟨h', n'⟩ := c.at_ a _ h n (fun φ z => by cases z) fun y z => by cases z
    exact .inl ⟨n', .inr ⟨o, h'⟩⟩
  · exact .inr h
mutual
theorem RV.cut (c : Cut s H s' H') : ∀ {x : LV} {v : V}, ncl x = true → RV K s H x v → RV K s' H' x v
  | .non, _, _, h => by simpa only [RV] using h
  | .bl _, _, _, h => by simpa only [RV] using h
  | .int _, _, _, h => by simpa only [RV] using h
  | .str _, _, _, h => by simpa only [RV] using h
  | .ty _, _, _, h => by simpa only [RV] using h
  | .ref _, _, _, h => by simpa only [RV] using h
  | .scr _, _, _, h => by
    simp only [RV] at h ⊢
    obtain ⟨a, e, h⟩ := h
    exact ⟨a, e, h.cut c⟩
  | .tup xs, _, n0, h => by
    simp only [RV] at h ⊢
    obtain ⟨a, us, e, n, h, r⟩ := h
    obtain ⟨h', n'⟩ := c.at_ a _ h n (fun φ z => by cases z) fun y z => by cases z
    exact ⟨a, us, e, n', h', RVs.cut c (by simpa only [ncl] using n0) r⟩
  | .lst xs, _, n0, h => by
    simp only [RV] at h ⊢
    obtain ⟨a, us, e, n, h, r⟩ := h
    obtain ⟨h', n'⟩ := c.at_ a _ h n (fun φ z => by cases z) fun y z => by cases z
    exact ⟨a, us, e, n', h', RVs.cut c (by simpa only [ncl] using n0) r⟩
  | .dT kvs, _, n0, h => by
    simp only [RV] at h ⊢
    obtain ⟨a, us, o, e, n, h, d, r⟩ := h
    obtain ⟨h', n'⟩ := c.at_ a _ h n (fun φ z => by subst z; rcases d with d | ⟨_, d⟩ <;> cases d) fun y z => by subst z; rcases d with d | ⟨_, d⟩ <;> cases d
    exact ⟨a, us, o, e, n', h', d, RVk.cut c (by simpa only [ncl] using n0) r⟩
  | .ins C fs, _, n0, h => by
    simp only [RV] at h ⊢
    obtain ⟨a, dx, us, e, n, h, r⟩ := h
    obtain ⟨h', n'⟩ := c.at_ a _ h n (fun φ z => by cases z) fun y z => by cases z
    exact ⟨a, dx, us, e, n', h', RVf.cut c (by simpa only [ncl] using n0) r⟩
  | .clo k xs, _, n0, _ => by simp only [ncl] at n0; cases n0
  | .exc C, _, n0, _ => by simp only [ncl] at n0; cases n0
theorem RVs.cut (c : Cut s H s' H') : ∀ {xs : List LV} {us : List V}, ncls xs = true → RVs K s H xs us → RVs K s' H' xs us
  | [], _, _, h => by simp only [RVs] at h ⊢; exact h
  | x :: xs, _, n0, h => by
    simp only [RVs] at h ⊢
    simp only [ncls, Bool.and_eq_true] at n0
    obtain ⟨u, r, e, h1, h2⟩ := h
    exact ⟨u, r, e, RV.cut c n0.1 h1, RVs.cut c n0.2 h2⟩
theorem RVk.cut (c : Cut s H s' H') : ∀ {xs : List (List Key × LV)} {us : List (List Key × V)}, nclk xs = true → RVk K s H xs us → RVk K s' H' xs us
  | [], _, _, h => by simp only [RVk] at h ⊢; exact h
  | (k, x) :: xs, _, n0, h => by
    simp only [RVk] at h ⊢
    simp only [nclk, Bool.and_eq_true] at n0
    obtain ⟨u, r, e, h1, h2⟩ := h
    exact ⟨u, r, e, RV.cut c n0.1 h1, RVk.cut c n0.2 h2⟩
theorem RVf.cut (c : Cut s H s' H') : ∀ {xs : List (Str × LV)} {us : List (Str × V)}, nclf xs = true → RVf K s H xs us → RVf K s' H' xs us
  | [], _, _, h => by simp only [RVf] at h ⊢; exact h
  | (k, x) :: xs, _, n0, h => by
    simp only [RVf] at h ⊢
    simp only [nclf, Bool.and_eq_true] at n0
    obtain ⟨u, r, e, h1, h2⟩ := h
    exact ⟨u, r, e, RV.cut c n0.1 h1, RVf.cut c n0.2 h2⟩
end
theorem RVd.cut (c : Cut s H s' H') : ∀ {xs : List (Key × LV)} {us : List (Key × V)}, ncld xs = true → RVd K s H xs us → RVd K s' H' xs us
  | [], _, _, h => by simp only [RVd] at h ⊢; exact h
  | (k, x) :: xs, _, n0, h => by
    simp only [RVd] at h ⊢
    simp only [ncld, Bool.and_eq_true] at n0
    obtain ⟨u, r, e, h1, h2⟩ := h
    exact ⟨u, r, e, RV.cut c n0.1 h1, RVd.cut c n0.2 h2⟩
end
theorem ObjR.cut {K : PySem.W.Frag} [GG K] {s s' : LS} {H H' : Hp} {a : Addr} {o : LO} (c : Cut s H s' H') (k : ∀ u, H a = some u → H' a = some u) (n : nclO o = true) (h : ObjR K s H a o) : ObjR K s' H' a o := by
  cases o with
  | lst xs => obtain ⟨us, h, r⟩ := h; exact ⟨us, k _ h, r.cut c n⟩
  | dK xs => obtain ⟨us, h, r⟩ := h; exact ⟨us, k _ h, r.cut c n⟩
  | dT xs => obtain ⟨us, h, r⟩ := h; exact ⟨us, k _ h, r.cut c n⟩
  | ins C xs => obtain ⟨dx, us, h, r⟩ := h; exact ⟨dx, us, k _ h, r.cut c n⟩
  | tab q => cases n
/-- what the callee sees of the store, and what stands behind the call -/
def mergeS (s1 sv s2 : LS) : LS := fun a => if sv a = none then (match s1 a with
  | some o => some o
  | none => s2 a) else s2 a
/-- the running functions' captured cells stand in the base -/
def GIn (K : PySem.W.Frag) [GG K] (base : Heap) : Prop := ∀ c v, GG.cell K c = some v → ∃ o u, base.get? c = some o ∧ o.data = .cell (some u) ∧ RelV v u
def dnC (K : PySem.W.Frag) [GG K] (sp : List LV → LSp) : List (Option V) → Sp := fun ws vs H Q E => ∃ lws wv lvs s Q0 E0, ws = wv.map some ∧ RVs K s H lws wv ∧ RVs K s H lvs vs ∧ RelS K s H ∧ sp lws lvs s Q0 E0 ∧
  (∀ lv s' v H', Q0 lv s' → Step s H s' H' → RelS K s' H' → RV K s' H' lv v → Q v H') ∧ (∀ C s' H', E0 C s' → Step s H s' H' → RelS K s' H' → E (.ref C) none H')
/-- the promise of the function whose object at f is fo, whose code object is at c -/
structure FoOk (P : Program) (w : World) (K : PySem.W.Frag) (mg : Str → Option Value) (base : Heap) (CX : CXT) (k : Nat) (f : Addr) (fo : HO) (c : Addr) (q : Str) (cl : List (Str × Addr)) (ps fr : List Str) (sp : List (Option V) → Sp) : Prop where
  len : ∀ ws vs H Q E, sp ws vs H Q E → vs.length = ps.length
  run : ∀ (A : Around) (outer : List Env) (s : Shared) (H : Hp) (us : List Value) (vs : List V) (ws : List (Option V)) (Q : VK) (E : XK), Room k A → Env0 P w K mg base A outer s H → H f = some fo → H c = some (CodeO c q) →
    CellsAt cl fr ws s.heap H → Vals vs us → sp ws vs H Q E → codeAny (model P w) A (.call (.ref f) ⟨us, []⟩) (CR CX outer P w H s Q E) s
theorem FoOk.of {P : Program} {w : World} {K : PySem.W.Frag} {mg : Str → Option Value} {base : Heap} {CX : CXT} {k : Nat} {f : Addr} {fo : HO} {F : NF} {ps fr : List Str} {sp : List (Option V) → Sp} (h : NOk P w K mg base CX k f F ps fr sp) (e : fo = FnO f F) : FoOk P w K mg base CX k f fo F.c F.qual F.cl ps fr sp :=
  ⟨h.len, by subst e; exact h.run⟩
abbrev CloOk (P : Program) (w : World) (K : PySem.W.Frag) [GG K] (mg : Str → Option Value) (base : Heap) (k : Nat) (ck : Ck) (ps : List Str) (sp : List LV → LSp) : Prop := ∀ (f c : Addr) (cl : List (Str × Addr)), FoOk P w K mg base (L2.CX P w) k f (ck.fo f cl c) c ck.qual cl ps ck.fr (dnC K sp)
def cstart (N : List Str) (vs xs : List LV) : LSt := vs.map some ++ (xs.map some ++ List.replicate (N.length - vs.length - xs.length) none)
section
variable {P : Program} {w : World} {K : PySem.W.Frag} [GG K] {mg : Str → Option Value} {base : Heap}
theorem cloOk_of {ck : Ck} {N ps : List Str} {k : Nat} {sp : List LV → LSp} (S : CScope N ps ck.fr (C8.fnScope ck.st)) (hb : ∀ (cl : List (Str × Addr)) (c : Addr) (doc pm ctv : Value) (us : List Value), us.length = ps.length → bindArgs ((ck.nf cl c).fd doc pm ctv) ⟨us, []⟩ = pure (ps.zip us))
    (len : ∀ xs vs s Q E, sp xs vs s Q E → vs.length = ps.length)
    (hbody : ∀ (f c : Addr) (cl : List (Str × Addr)) (A : Around) (outer : List Env) (si : Shared) (H : Hp) (E : XK), Room k (A.deeper (envC (ck.nf cl c) f si.heap.objs.size)) →
      ∃ t, LPs (ccx (L2.CX P w) P w K mg base N (ck.nf cl c) f A outer si H E) (C8.fnBody ck.st) t ∧ ∀ xs vs s Q E, sp xs vs s Q E → t (lEnds Q E) (cstart N vs xs) s) (hnl : lamOf ck.st = none := by rfl) : CloOk P w K mg base (k + 1) ck ps sp := fun f c cl => by
  refine FoOk.of (nokC_of S (hb cl c) (fun ws vs H Q E ⟨_, _, lvs, s, Q0, E0, _, _, r, _, h, _⟩ => by rw [r.length]; exact len _ _ _ _ _ h) fun A outer si H vs ws Q E hr e0 hf hl h => ?_) (ck.fo_def hnl f cl c)
  obtain ⟨lws, wv, lvs, s, Q0, E0, rfl, rw_, r, hs, h, kq, ke⟩ := h
  obtain ⟨t, ht, hb⟩ := hbody f c cl A outer si H E hr
  have tk := takes_of (X := ccx (L2.CX P w) P w K mg base N (ck.nf cl c) f A outer si H E) (E := E) rfl rfl rfl rfl
  refine ⟨upS K s H (fun C σl s' => ∃ s2, Sub s2 s' ∧ E0 C s2) t, ht s H _ (tk.imp fun cls d σ H' w => ?_) (passes_of rfl), ?_⟩
  · obtain ⟨C, σl, s', rfl, rfl, _, hs', st', s2, sb, q⟩ := w
    exact ke C s2 H' q (st'.trans sb.step) (sb.rel hs')
  · refine ⟨cstart N lvs lws, s, lEnds Q0 E0, ?_, hs, .refl _ _, hb lws lvs s Q0 E0 h, ⟨fun σl s' σ H' ⟨s2, sb, q⟩ st' hs' _ => kq .non s2 .non H' q (st'.trans sb.step) (sb.rel hs') .non, fun lv s' v H' ⟨y, s2, fz, q⟩ st' hs' rv => ?_, fun _ _ _ _ z => z.elim, fun _ _ _ _ z => z.elim, fun _ _ _ z => z⟩⟩
    · unfold cstart
      rw [show startF N vs (wv.map some) = vs.map some ++ (wv.map some ++ List.replicate (N.length - vs.length - (wv.map some).length) none) from rfl, List.length_map, r.length, rw_.length]
      exact (RSt.vals r).append ((RSt.vals rw_).append (.nones _))
    · obtain ⟨a, b, c⟩ := fz K H' v hs' rv
      exact kq y s2 v H' q (st'.trans c) b a
end
theorem RVc.vals {K : PySem.W.Frag} [GG K] {s : LS} {H : Hp} : ∀ {xs : List LV} {cs : List Addr}, RVc K s H xs cs → ∃ vs : List V, RVs K s H xs vs ∧ cs.length = vs.length ∧ ∀ p ∈ cs.zip vs, CelH K s H p.1 p.2
  | [], cs, h => by
    simp only [RVc] at h
    subst h
    exact ⟨[], .nil, rfl, fun _ h => (nomatch h)⟩
  | x :: xs, cs, h => by
    simp only [RVc] at h
    obtain ⟨c, r, u, rfl, h1, h2, h3⟩ := h
    obtain ⟨vs, a1, a2, a3⟩ := RVc.vals h3
    refine ⟨u :: vs, .cons h2 a1, by simp [a2], fun p hp => ?_⟩
    rcases List.mem_cons.mp hp with rfl | hq
    · exact h1
    · exact a3 p hq
theorem lookup_nd {cl : List (Str × Addr)} (nd : (cl.map (·.1)).Nodup) : ∀ {y : Str} {c : Addr}, (y, c) ∈ cl → cl.lookup y = some c := by
  induction cl with
  | nil => intro y c h; cases h
  | cons p r ih =>
    intro y c h
    obtain ⟨n, d⟩ := p
    rw [List.map_cons, List.nodup_cons] at nd
    rw [List.lookup_cons]
    rcases List.mem_cons.mp h with h | h
    · cases h; rw [beq_self_eq_true]
    · have : y ≠ n := fun z => nd.1 (by rw [← z]; exact List.mem_map_of_mem (f := (·.1)) h)
      rw [beq_eq_false_iff_ne.mpr this]
      exact ih nd.2 h
theorem addr_nd {cl : List (Str × Addr)} (nd : (cl.map (·.2)).Nodup) {x y : Str} {c : Addr} (h1 : (x, c) ∈ cl) (h2 : (y, c) ∈ cl) : x = y := by
  induction cl with
  | nil => cases h1
  | cons p r ih =>
    rw [List.map_cons, List.nodup_cons] at nd
    rcases List.mem_cons.mp h1 with h1 | h1 <;> rcases List.mem_cons.mp h2 with h2 | h2
    · rw [← h1] at h2; cases h2; rfl
    · exact absurd (by rw [← h1]; exact List.mem_map_of_mem (f := (·.2)) h2) nd.1
    · exact absurd (by rw [← h2]; exact List.mem_map_of_mem (f := (·.2)) h1) nd.1
    · exact ih nd.2 h1 h2
section
variable {X : Cx} [GG X.K] {pins : List (Addr × Obj)} {σ : L2.St} {H : Hp} {si : Shared}
theorem run_clo {f : Addr} {k : Nat} {ck : Ck} {ps : List Str} {sp : List LV → LSp} {us : List Value} {vs : List V} {xs lvs : List LV} {s sv : LS} {Q : VK} {Q0 : LVK} (F : CloOk X.prog X.w X.K X.mg X.base k ck ps sp) (hr : Room k X.A) (hG : GIn X.K X.base) (nfr : ck.fr.Nodup)
    (I : Inv X pins σ H si) (hs : RelS X.K s H) (rf : RV X.K s H (.clo ck xs) (.ref f)) (ra : RVs X.K s H lvs vs) (r : Vals vs us) (sub : Sub sv s) (n1 : ∀ a o, sv a = some o → nclO o = true) (n2 : ncls xs = true) (n3 : ncls lvs = true)
    (h : sp xs lvs sv Q0 fun _ _ => False) (kq : ∀ lv s2 v H2, Q0 lv s2 → (∀ a, sv a = none → s a ≠ none → s2 a = none) → Step s H (mergeS s sv s2) H2 → RelS X.K (mergeS s sv s2) H2 → RV X.K (mergeS s sv s2) H2 lv v → Q v H2) :
    wpAny (model X.prog X.w) X.A (call (.ref f) us) (EP X pins σ Q) X.xe si := by
  simp only [RV] at rf
  obtain ⟨_, c, cl, e, sf, hf, sc, hc, hk, nd, rc⟩ := rf
  cases e
  obtain ⟨wv, rw_, lw, cw⟩ := rc.vals
  let C2 : Addr → Prop := fun a => (a ∈ cl.map (·.2) ∧ H a ≠ none) ∨ (s a ≠ none ∧ sv a = none)
  let C : Addr → Prop := fun b => C2 b ∨ ∃ a, H b = some (.own a) ∧ C2 a
  have cellE : ∀ a, a ∈ cl.map (·.2) → H a ≠ none → ∃ v, H a = some (CelO a v) := fun a ha hn => by
    obtain ⟨i, hi, rfl⟩ := List.mem_iff_getElem.mp ha
    have hi' : i < ((cl.map (·.2)).zip wv).length := by rw [List.length_zip, ← lw, Nat.min_self]; exact hi
    have := cw _ (List.getElem_mem hi')
    rw [List.getElem_zip] at this
    rcases this with ⟨_, z⟩ | z
    · exact ⟨_, z⟩
    · obtain ⟨o, u, hb, _, _⟩ := hG _ _ z
      exact absurd (I.bs _ o hb).2 hn
  have storeE : ∀ a, s a ≠ none → (∃ xs, H a = some (.lst xs)) ∨ (∃ xs, H a = some (.dK xs)) ∨ (∃ xs, H a = some (.dT xs)) ∨ (∃ D dx xs, H a = some (.ins D dx xs)) ∨ ∃ ps, H a = some (.tbl ps) := fun a hn => by
    cases z : s a with
    | none => exact absurd z hn
    | some o =>
      have q := hs a o z
      cases o with
      | lst xs => obtain ⟨us, q, _⟩ := q; exact .inl ⟨_, q⟩
      | dK xs => obtain ⟨us, q, _⟩ := q; exact .inr (.inl ⟨_, q⟩)
      | dT xs => obtain ⟨us, q, _⟩ := q; exact .inr (.inr (.inl ⟨_, q⟩))
      | ins D xs => obtain ⟨dx, us, q, _⟩ := q; exact .inr (.inr (.inr (.inl ⟨_, _, _, q⟩)))
      | tab z => obtain ⟨us, q, _⟩ := q; exact .inr (.inr (.inr (.inr ⟨_, q⟩)))
  have c2E : ∀ a, C2 a → (∃ φ, H a = some (.ext φ)) ∨ (∃ xs, H a = some (.lst xs)) ∨ (∃ xs, H a = some (.dK xs)) ∨ (∃ xs, H a = some (.dT xs)) ∨ (∃ D dx xs, H a = some (.ins D dx xs)) ∨ ∃ ps, H a = some (.tbl ps) := fun a ha => by
    rcases ha with ⟨h1, h2⟩ | ⟨h1, h2⟩
    · obtain ⟨v, z⟩ := cellE a h1 h2
      exact .inl ⟨_, z⟩
    · exact .inr (storeE a h1)
  have cE : ∀ a, C a → (∃ φ, H a = some (.ext φ)) ∨ (∃ xs, H a = some (.lst xs)) ∨ (∃ xs, H a = some (.dK xs)) ∨ (∃ xs, H a = some (.dT xs)) ∨ (∃ D dx xs, H a = some (.ins D dx xs)) ∨ (∃ ps, H a = some (.tbl ps)) ∨ ∃ y, H a = some (.own y) := fun a ha => by
    rcases ha with ha | ⟨y, hy, _⟩
    · rcases c2E a ha with z | z | z | z | z | z
      · exact .inl z
      · exact .inr (.inl z)
      · exact .inr (.inr (.inl z))
      · exact .inr (.inr (.inr (.inl z)))
      · exact .inr (.inr (.inr (.inr (.inl z))))
      · exact .inr (.inr (.inr (.inr (.inr (.inl z)))))
    · exact .inr (.inr (.inr (.inr (.inr (.inr ⟨y, hy⟩)))))
  have asd : Aside H C := by
    refine ⟨fun b hb z => ?_, fun a b ha hb na ne => ?_, fun a b hb hC => ?_, fun b xs hb z => ?_, fun b o u hb z => ?_⟩
    · rcases cE b hb with ⟨_, q⟩ | ⟨_, q⟩ | ⟨_, q⟩ | ⟨_, q⟩ | ⟨_, _, _, q⟩ | ⟨_, q⟩ | ⟨_, q⟩ <;> rw [q] at z <;> cases z
    · rcases ha with ha | ⟨y, hy, _⟩
      · exact .inr ⟨a, hb, ha⟩
      · exact absurd hy (na y)
    · rcases hC with hC | ⟨y, hy, hC⟩
      · rcases c2E b hC with ⟨_, q⟩ | ⟨_, q⟩ | ⟨_, q⟩ | ⟨_, q⟩ | ⟨_, _, _, q⟩ | ⟨_, q⟩ <;> rw [hb] at q <;> cases q
      · rw [hb] at hy
        cases hy
        exact .inl hC
    · rcases cE b hb with ⟨_, q⟩ | ⟨_, q⟩ | ⟨_, q⟩ | ⟨_, q⟩ | ⟨_, _, _, q⟩ | ⟨_, q⟩ | ⟨_, q⟩ <;> rw [q] at z <;> cases z
    · rcases cE b hb with ⟨_, q⟩ | ⟨_, q⟩ | ⟨_, q⟩ | ⟨_, q⟩ | ⟨_, _, _, q⟩ | ⟨_, q⟩ | ⟨_, q⟩ <;> rw [q] at z <;> cases z
  -- what the store does not hold, and is no cell, is seen
  have seen : ∀ a o, H a = some o → s a = none → (∀ φ, o ≠ .ext φ) → (∀ y, o ≠ .own y) → ¬ C a := fun a o e n ne no hC => by
    rcases hC with (⟨h1, h2⟩ | ⟨h1, _⟩) | ⟨y, hy, _⟩
    · obtain ⟨v, z⟩ := cellE a h1 h2
      rw [e] at z
      exact ne _ (Option.some.inj z)
    · exact h1 n
    · rw [e] at hy
      exact no _ (Option.some.inj hy)
  have held : ∀ a o, sv a = some o → ¬ C a := fun a o e hC => by
    have es : s a = some o := by rcases sub a with z | z <;> rw [e] at z <;> first | cases z | exact z.symm
    rcases hC with (⟨h1, h2⟩ | ⟨_, h2⟩) | ⟨y, hy, _⟩
    · obtain ⟨v, z⟩ := cellE a h1 h2
      have := hs.ext0 z
      rw [es] at this; cases this
    · rw [e] at h2; cases h2
    · rcases storeE a (by rw [es]; simp) with ⟨_, q⟩ | ⟨_, q⟩ | ⟨_, q⟩ | ⟨_, _, _, q⟩ | ⟨_, q⟩ <;> rw [hy] at q <;> cases q
  have svn : ∀ a, s a = none → sv a = none := fun a n => by
    rcases sub a with z | z
    · exact z
    · rw [z]; exact n
  have cut : Cut s H sv (cutP H C) := ⟨fun a o e n ne no => ⟨by rw [cut_out (seen a o e n ne no)]; exact e, svn a n⟩⟩
  have relv : RelS X.K sv (cutP H C) := fun a o e => by
    have es : s a = some o := by rcases sub a with z | z <;> rw [e] at z <;> first | cases z | exact z.symm
    exact (hs a o es).cut cut (fun u z => by rw [cut_out (held a o e)]; exact z) (n1 a o e)
  have noCell : ∀ a, s a = none → (∀ v, ¬ si.heap.IsCell a v) → (∃ φ, H a = some (.ext φ)) → ¬ C a := fun a n nc ⟨φ, hφ⟩ hC => by
    rcases hC with (⟨h1, h2⟩ | ⟨h1, _⟩) | ⟨y, hy, _⟩
    · obtain ⟨v, z⟩ := cellE a h1 h2
      obtain ⟨⟨u, _, hc⟩, _⟩ := I.hok a _ z
      exact nc _ hc
    · exact h1 n
    · rw [hφ] at hy; cases hy
  have fC : ¬ C f := noCell f sf (fun v ⟨o, ho, hd⟩ => by
    obtain ⟨od, fd, sl, hz⟩ := Ck.fo_at I.hok hf
    rw [hz] at ho
    cases ho
    cases hd) ⟨_, hf⟩
  have cC : ¬ C c := noCell c sc (fun v ⟨o, ho, hd⟩ => by
    obtain ⟨⟨oc, us', t, hz, h2, _⟩, _⟩ := I.hok c _ hc
    rw [hz] at ho
    cases ho
    rw [h2] at hd
    cases hd) ⟨_, hc⟩
  have kn : (cl.map (·.1)).Nodup := by rw [hk]; exact nfr
  have cellI : ∀ (i : Nat) (hi : i < cl.length), ∃ (hw : i < wv.length), (∃ u, RelV wv[i] u ∧ si.heap.IsCell cl[i].2 (some u)) ∧ cutP H C cl[i].2 = none := fun i hi => by
    have hw : i < wv.length := by rw [List.length_map] at lw; omega
    have hi' : i < ((cl.map (·.2)).zip wv).length := by rw [List.length_zip, ← lw, Nat.min_self, List.length_map]; exact hi
    have q := cw _ (List.getElem_mem hi')
    rw [List.getElem_zip] at q
    simp only [List.getElem_map] at q
    have hm : cl[i].2 ∈ cl.map (·.2) := List.mem_map_of_mem (f := (·.2)) (List.getElem_mem hi)
    refine ⟨hw, ?_, ?_⟩
    · rcases q with ⟨_, z⟩ | z
      · obtain ⟨⟨u, r1, r2⟩, _⟩ := I.hok _ _ z
        exact ⟨u, r1, r2⟩
      · obtain ⟨o, u, b1, b2, b3⟩ := hG _ _ z
        exact ⟨u, b3, o, I.bk _ _ b1, b2⟩
    · by_cases hn : H cl[i].2 = none
      · by_cases hC : C cl[i].2
        · exact cut_in hC
        · rw [cut_out hC]; exact hn
      · exact cut_in (.inl (.inl ⟨hm, hn⟩))
  have CA : CellsAt cl ck.fr (wv.map some) si.heap (cutP H C) := by
    refine ⟨?_, fun y a e => ?_, fun x y a e1 e2 => addr_nd nd (PySem.mem_of_lookup e1) (PySem.mem_of_lookup e2), fun i y e => ?_⟩
    · rw [List.length_map, ← hk, List.length_map, ← lw, List.length_map]
    · obtain ⟨i, hi, z⟩ := List.mem_iff_getElem.mp (PySem.mem_of_lookup e)
      obtain ⟨hw, ⟨u, _, h2⟩, h3⟩ := cellI i hi
      rw [z] at h2 h3
      exact ⟨h3, _, h2⟩
    · rw [← hk, List.getElem?_map] at e
      cases ei : cl[i]? with
      | none => rw [ei] at e; cases e
      | some p =>
        rw [ei] at e
        obtain ⟨hi, rfl⟩ := List.getElem?_eq_some_iff.mp ei
        obtain rfl : cl[i].1 = y := Option.some.inj e
        obtain ⟨hw, ⟨u, h1, h2⟩, h3⟩ := cellI i hi
        refine ⟨cl[i].2, lookup_nd kn (List.getElem_mem hi), fun v ev => ?_⟩
        rw [List.getElem?_map, List.getElem?_eq_getElem hw] at ev
        cases ev
        exact ⟨u, h1, h2⟩
  refine wpAny_call (codeAny_mono ((F f c cl).run X.A X.stack si (cutP H C) us vs (wv.map some) (fun v H2 => ∃ lv s2, Q0 lv s2 ∧ Step sv (cutP H C) s2 H2 ∧ RelS X.K s2 H2 ∧ RV X.K s2 H2 lv v) (fun _ _ _ => False) hr (env0_cut asd I.env0) (by rw [cut_out fC]; exact hf) (by show cutP H C c = some (CodeO c ck.qual); rw [cut_out cC]; exact hc) CA r
    ⟨xs, wv, lvs, sv, Q0, fun _ _ => False, rfl, rw_.cut cut n2, ra.cut cut n3, relv, h, fun lv s' v H' q st hs rv => ⟨lv, s', q, st, hs, rv⟩, fun _ _ _ z => z.elim⟩) fun res s' hq => ?_)
  cases res with
  | error e =>
    obtain ⟨_, _, _, _, _, _, _, _, _, _, _, _, z⟩ := hq
    exact z.elim
  | ok fl =>
    cases fl with
    | ret u =>
      refine I.after (ce_add asd I.env0 hq fun v H2 ⟨lv, s2, q, st, hs2, rv⟩ nH => ?_)
      have sA : Step s2 H2 (mergeS s sv s2) (addP H2 H C) := fun a o e n => by
        have hC : ¬ C a := fun z => by rw [nH a z] at e; cases e
        refine ⟨⟨o, by rw [add_out hC]; exact e, .refl o⟩, ?_⟩
        unfold mergeS
        split
        · next hv =>
          cases es : s a with
          | none => exact n
          | some o' => exact absurd (.inl (.inr ⟨by rw [es]; simp, hv⟩)) hC
        · exact n
      have sB : Step s H (mergeS s sv s2) (addP H2 H C) := fun a o e n => by
        have m : mergeS s sv s2 a = s2 a := by unfold mergeS; rw [if_pos (svn a n), n]
        rw [m]
        by_cases hC : C a
        · exact ⟨⟨o, by rw [add_in hC]; exact e, .refl o⟩, hs2.free (nH a hC)⟩
        · rw [add_out hC]
          exact st a o (by rw [cut_out hC]; exact e) (svn a n)
      refine kq lv s2 v _ q (fun a h1 h2 => hs2.free (nH a (.inl (.inr ⟨h2, h1⟩)))) sB (fun a o e => ?_) (rv.mono sA)
      unfold mergeS at e
      have viaA : s2 a = some o → ObjR X.K (mergeS s sv s2) (addP H2 H C) a o := fun e => (hs2 a o e).mono sA fun u z => by rw [add_out fun hC => by rw [nH a hC] at z; cases z]; exact z
      split at e
      · next hv =>
        cases es : s a with
        | none => rw [es] at e; exact viaA e
        | some o' =>
          rw [es] at e
          cases e
          exact (hs a o es).mono sB fun u z => by rw [add_in (.inl (.inr ⟨by rw [es]; simp, hv⟩))]; exact z
      · exact viaA e
    | next => exact False.elim hq
    | brk => exact False.elim hq
    | cont => exact False.elim hq
end
theorem foAt_of {X : Cx} {pins : List (Addr × Obj)} {σ : L2.St} {H : Hp} {s : Shared} {k : Ck} {f c : Addr} {cl : List (Str × Addr)} (I : Inv X pins σ H s) (e : H f = some (k.fo f cl c)) : PySem.W.FnAt f s.heap := by
  obtain ⟨od, fd, sl, ho⟩ := Ck.fo_at I.hok e
  exact ⟨_, od, _, sl, ho⟩
/-- x(..), x a name that holds such a function: it sees the part sv of the store -/
def lClo (ck : Ck) (sp : List LV → LSp) (i : Nat) (t : LTA) : LTE := fun σ s Q E => match σ[i]? with
  | some (some (.clo k xs)) => k = ck ∧ ncls xs = true ∧ t σ s (fun vs s1 => ncls vs = true ∧ ∃ sv, Sub sv s1 ∧ (∀ a o, sv a = some o → nclO o = true) ∧
      sp xs vs sv (fun v s2 => (∀ a, sv a = none → s1 a ≠ none → s2 a = none) → Q v (mergeS s1 sv s2)) fun _ _ => False) E
  | _ => False
theorem le_clo {X : Cx} [GG X.K] {ck : Ck} {ps : List Str} {sp : List LV → LSp} {i k : Nat} {x : Str} {e : Expr} {es : List Expr} {p pos : Pos} {t : LTA} (F : CloOk X.prog X.w X.K X.mg X.base k ck ps sp) (hr : Room k X.A) (hG : GIn X.K X.base) (nfr : ck.fr.Nodup)
    (hN : X.N[i]? = some x) (hv : Vis X.env.scope x) (ha : LA X (e :: es) t) (hd : (x == ("__debug__" : Str)) = false := by decide) (hcd : (x == ("__classdict__" : Str)) = false := by decide)
    (he : starEach (e :: es) X.env = (false, eval e X.env) :: starEach es X.env := by rfl) (hpl : (backTo pos (starEach es X.env)).any (·.1) = false := by rfl) : LE X (.Call (.Name x p) (e :: es) [] pos) (lClo ck sp i t) := fun s0 H0 E tk => by
  refine ⟨fun pins si σ H Q I h => ?_⟩
  obtain ⟨σl, s, Q0, E1, hσ, hs, st, hE, h, kq⟩ := h
  unfold lClo at h
  split at h
  case h_2 => exact h.elim
  case h_1 k xs ei =>
    obtain ⟨rfl, n2, h⟩ := h
    obtain ⟨v, ev, rv⟩ := hσ.get ei
    have rv' := rv
    simp only [RV] at rv'
    obtain ⟨f, c, cl, rfl, sf, hf, _⟩ := rv'
    refine wpAny_Call_Name_kw (thn ((pe_var (pos := p) hN hv hd hcd).run pins si σ H (fun v H1 => v = .ref f ∧ H1 = H) I ⟨.ref f, ev, rfl, rfl⟩) fun u s1 ⟨v, H1, I1, r1, q1⟩ => ?_)
    obtain ⟨rfl, rfl⟩ := q1
    obtain rfl : u = Value.ref f := r1
    have at_ : ∀ s' H', Step s H1 s' H' → H' f = some (k.fo f cl c) := fun s' H' st' => by
      obtain ⟨⟨o', h', e'⟩, _⟩ := st' f _ hf sf
      rw [e'.ext] at h'
      exact h'
    refine PySem.W.callWith_F (first := []) (foAt_of I1 hf) (thn ((ha s0 H0 E tk).run pos pins s1 σ H1 (fun vs H' => ∃ lvs s', (ncls lvs = true ∧ ∃ sv, Sub sv s' ∧ (∀ a o, sv a = some o → nclO o = true) ∧
      sp xs lvs sv (fun v s2 => (∀ a, sv a = none → s' a ≠ none → s2 a = none) → Q0 v (mergeS s' sv s2)) fun _ _ => False) ∧ Step s H1 s' H' ∧ RelS X.K s' H' ∧ RVs X.K s' H' lvs vs) I1 ⟨σl, s, _, E1, hσ, hs, st, hE, h, fun lvs s' vs H' q st' hs' r => ⟨lvs, s', q, st', hs', r⟩⟩) fun us s2 ⟨vs, H2, I2, r, q⟩ => ?_) he hpl
    obtain ⟨lvs, s', ⟨n3, sv, sub, n1, hsp⟩, st', hs', ra⟩ := q
    refine ⟨foAt_of I2 (at_ s' H2 st'), show wpAny _ _ (call (.ref f) us) _ _ _ from ?_⟩
    exact run_clo (xs := xs) (lvs := lvs) (s := s') (sv := sv) F hr hG nfr I2 hs' (rv.mono st') ra r sub n1 n2 n3 hsp fun lv s2 v H3 q fr stB hsB rvB => kq lv _ v H3 (q fr) (st'.trans stB) hsB rvB
end L3

namespace L3
open PySem PySem.Spec L2 LamX NdefX
@[reducible] def noGG (K : PySem.W.Frag) : GG K := ⟨fun _ => none⟩
theorem noGG_in {K : PySem.W.Frag} {base : Heap} : @GIn K (noGG K) base := fun _ _ h => by cases h
/-- the makers: code object, table, the made function's qualified name -/
theorem walk_tabs {l : PySem.W.OpenLaw} {q : Program} {loose : List Str} {XP : (Str → Option Value) → Heap → Prop} {YP : World → Heap → Prop} {d : DefRec} {K : Params → PySem.W.Frag} {k : Nat} {x : Str} (hn : l.most = some 63) (hdf : d.params.defaults = []) (hr : Room k callerA)
    (hY : ∀ (w : World) (h : Heap), YP w h → (K w.params).In h)
    (F : ∀ (w : World) (mg : Str → Option Value) (fa : Addr) (h : Heap), YP w h → (K w.params).In h → h.Ns mainGlobals mg → mg d.name = some (.ref fa) →
      ∃ (fd : FuncData) (ts : List (Addr × Addr × Str)), (ts.map (·.2.1)).Nodup ∧ (∀ p ∈ ts, h.get? p.2.1 = some { cls := .none, data := .fields #[] } ∧ (K w.params).lookup p.2.1 = none ∧ PySem.W.codeHdIn (K w.params) p.1 p.2.1 = true) ∧
        (∀ (s : Shared) (u : Value), BindsTo s fd ⟨[u], []⟩ [(x, u)]) ∧
        ∀ base : Heap, (K w.params).In base → base.Ns mainGlobals mg → (∀ p ∈ ts, TabB base mg p.1 p.2.1) → @LFn l.prog w (K w.params) (noGG _) mg base k fa fd [x] (spLaw (ts.map (·.2)))) :
    PySem.W.WalkO q loose XP YP l.row.toRowW d [] (fun f vs => PySem.call f vs) := by
  refine walk_ofTs (n := 63) (k := k) (x := x) (CX := fun w => L2.CX l.prog w) hn (by decide) hdf hr hY (fun w mg fa h Y KX G hmg => ?_) fun _ => law_ends
  obtain ⟨fd, ts, nd, hT, hb, hF⟩ := F w mg fa h Y KX G hmg
  letI := noGG (K w.params)
  have up : ∀ {Pr : Addr × Addr → Prop}, (∀ p ∈ ts, Pr (p.1, p.2.1)) → ∀ p ∈ ts.map (fun p => (p.1, p.2.1)), Pr p := fun h p hp => by
    obtain ⟨q, hq, rfl⟩ := List.mem_map.mp hp
    exact h q hq
  refine ⟨fd, ts.map fun p => (p.1, p.2.1), dn (K w.params) (spLaw (ts.map (·.2))), up fun p hp => (hT p hp).1, up fun p hp => (hT p hp).2.1, up fun p hp => PySem.W.codeHd_of_K KX (hT p hp).2.2, hb, fun H a ns hl _ hH hS => ?_, fun base KB GB TB => hF base KB GB fun p hp => TB (p.1, p.2.1) (List.mem_map_of_mem (f := fun p => (p.1, p.2.1)) hp)⟩
  refine law_starts (ts.map (·.2)) (by rw [List.map_map]; exact nd) H a ns hl (fun p hp => ?_) hS
  obtain ⟨q, hq, rfl⟩ := List.mem_map.mp hp
  exact hH (q.1, q.2.1) (List.mem_map_of_mem (f := fun p => (p.1, p.2.1)) hq)
end L3

namespace L3
open PySem PySem.Spec L2 LamX NdefX
def FrzS (σ : LSt) (s : LS) (σ' : LSt) (s' : LS) : Prop := ∀ (K : PySem.W.Frag) [GG K] H vs, RelS K s H → RSt K s H σ vs → RSt K s' H σ' vs ∧ RelS K s' H ∧ Step s H s' H
def lFrzS (t : LTS) : LTS := fun D σ s => ∃ σ' s', FrzS σ s σ' s' ∧ t D σ' s'
theorem lp_frzS {X : Cx} [GG X.K] {st : Stmt} {t : LTS} (h : LP X st t) : LP X st (lFrzS t) := fun s0 H0 E tk hp => (h s0 H0 E tk hp).imp fun D σ H ⟨σl, s, Dl, hσ, hs, st, ⟨σ', s', fz, h⟩, d⟩ => by
  obtain ⟨a, b, c⟩ := fz X.K H σ hs hσ
  exact ⟨σ', s', Dl, a, b, st.trans c, h, d.mono c⟩
theorem FrzS.refl (σ : LSt) (s : LS) : FrzS σ s σ s := fun K _ H vs hs r => ⟨r, hs, .refl s H⟩
/-- the slot i is frozen -/
theorem FrzS.at_ {σ : LSt} {s s' : LS} {i : Nat} {x y : LV} (e : σ[i]? = some (some x)) (f : Frz x s y s') : FrzS σ s (σ.set i (some y)) s' := fun K _ H vs hs r => by
  obtain ⟨v, ev, rv⟩ := r.get e
  obtain ⟨a, b, c⟩ := f K H v hs rv
  refine ⟨?_, b, c⟩
  have z := (r.mono c).set i a
  obtain ⟨hi, ev⟩ := List.getElem?_eq_some_iff.mp ev
  rw [← ev, List.set_getElem_self] at z
  exact z
theorem merge_put {s1 sv s2 : LS} {l : Addr} {o : LO} (h : sv l ≠ none ∨ s1 l = none) : mergeS s1 sv (put s2 l o) = put (mergeS s1 sv s2) l o := by
  funext a
  unfold mergeS put
  by_cases e : a = l
  · subst e
    rcases h with h | h
    · simp [h]
    · simp [h]
  · simp [e]
theorem merge_self {s1 sv : LS} (h : Sub sv s1) : mergeS s1 sv sv = s1 := by
  funext a
  unfold mergeS
  rcases h a with z | z
  · rw [if_pos z, z]
    cases s1 a <;> rfl
  · by_cases n : sv a = none
    · rw [if_pos n, n]
      cases s1 a <;> rfl
    · rw [if_neg n, z]
theorem put_none {s : LS} {x p : Addr} {o : LO} (h : put s x o p = none) : p ≠ x ∧ s p = none := by
  unfold put at h
  split at h
  · cases h
  · next n => exact ⟨n, h⟩
/-- nothing of the store is seen -/
def noS : LS := fun _ => none
theorem noS_sub {s : LS} : Sub noS s := fun _ => .inl rfl
theorem noS_cl : ∀ a o, noS a = some o → nclO o = true := fun _ _ h => by cases h
/-- one object alone is seen -/
def onlyS (s : LS) (l : Addr) : LS := fun a => if a = l then s a else none
theorem onlyS_sub {s : LS} {l : Addr} : Sub (onlyS s l) s := fun a => by
  unfold onlyS
  split
  · exact .inr rfl
  · exact .inl rfl
theorem onlyS_at {s : LS} {l : Addr} : onlyS s l l = s l := by unfold onlyS; rw [if_pos rfl]
theorem onlyS_cl {s : LS} {l : Addr} {o : LO} (e : s l = some o) (h : nclO o = true) : ∀ a o, onlyS s l a = some o → nclO o = true := fun a u q => by
  unfold onlyS at q
  split at q
  · next z => subst z; rw [e] at q; cases q; exact h
  · cases q
theorem ncls_append : ∀ (xs ys : List LV), ncls (xs ++ ys) = (ncls xs && ncls ys)
  | [], ys => by simp [ncls]
  | x :: xs, ys => by simp [ncls, ncls_append xs ys, Bool.and_assoc]
theorem ncls_map {α : Type} {f : α → LV} (h : ∀ a, ncl (f a) = true) : ∀ xs : List α, ncls (xs.map f) = true
  | [] => by simp [ncls]
  | x :: xs => by simp [ncls, h, ncls_map h xs]
structure T3 (α β γ : Type) where
  a : α
  b : β
  c : γ
deriving DecidableEq
structure T4 (α β γ δ : Type) where
  a : α
  b : β
  c : γ
  d : δ
deriving DecidableEq
section
variable {α β γ δ : Type} [Cod α] [Cod β] [Cod γ] [Cod δ]
instance : Cod (T3 α β γ) := ⟨fun p => .tup [Cod.enc p.a, Cod.enc p.b, Cod.enc p.c], fun p => .tuple [Cod.den p.a, Cod.den p.b, Cod.den p.c], fun p => by simp [Cod.datV], fun p => by simp [PyData.canLay0, PyData.canLayAll0, Cod.can], max (Cod.dep α) (max (Cod.dep β) (Cod.dep γ)) + 1, fun p => by
  simp only [PyData.depth, PyData.depthAll]
  have := Cod.hdep p.a
  have := Cod.hdep p.b
  have := Cod.hdep p.c
  omega, fun p q => by
  cases p; cases q
  simp only [PyData.eqv, PyData.eqvAll, Bool.and_true, Bool.and_eq_true, Cod.eqv, T3.mk.injEq]⟩
instance : Cod (T4 α β γ δ) := ⟨fun p => .tup [Cod.enc p.a, Cod.enc p.b, Cod.enc p.c, Cod.enc p.d], fun p => .tuple [Cod.den p.a, Cod.den p.b, Cod.den p.c, Cod.den p.d], fun p => by simp [Cod.datV], fun p => by simp [PyData.canLay0, PyData.canLayAll0, Cod.can], max (max (Cod.dep α) (Cod.dep β)) (max (Cod.dep γ) (Cod.dep δ)) + 1, fun p => by
  simp only [PyData.depth, PyData.depthAll]
  have := Cod.hdep p.a
  have := Cod.hdep p.b
  have := Cod.hdep p.c
  have := Cod.hdep p.d
  omega, fun p q => by
  cases p; cases q
  simp only [PyData.eqv, PyData.eqvAll, Bool.and_true, Bool.and_eq_true, Cod.eqv, T4.mk.injEq]⟩
theorem isd_enc (s : LS) (a : α) : Isd s (Cod.den a) (Cod.enc a) := isd_of_dat (Cod.datV a)
theorem isd_lst {s : LS} {r : Addr} {xs : List α} (h : s r = some (.lst (xs.map Cod.enc))) : Isd s (Cod.den xs) (.ref r) := by
  show Isd s (.list (xs.map Cod.den)) (.ref r)
  simp only [Isd]
  exact .inr ⟨r, _, rfl, h, isds_of_dat (datVs_enc xs)⟩
theorem isd_t3 {s : LS} {x y z : LV} {a : α} {b : β} {c : γ} (h1 : Isd s (Cod.den a) x) (h2 : Isd s (Cod.den b) y) (h3 : Isd s (Cod.den c) z) : Isd s (Cod.den (T3.mk a b c)) (.tup [x, y, z]) := by
  show Isd s (.tuple [Cod.den a, Cod.den b, Cod.den c]) (.tup [x, y, z])
  simp only [Isd, Isds]
  exact ⟨_, rfl, x, _, rfl, h1, y, _, rfl, h2, z, _, rfl, h3, rfl⟩
theorem isd_t4 {s : LS} {x y z u : LV} {a : α} {b : β} {c : γ} {d : δ} (h1 : Isd s (Cod.den a) x) (h2 : Isd s (Cod.den b) y) (h3 : Isd s (Cod.den c) z) (h4 : Isd s (Cod.den d) u) : Isd s (Cod.den (T4.mk a b c d)) (.tup [x, y, z, u]) := by
  show Isd s (.tuple [Cod.den a, Cod.den b, Cod.den c, Cod.den d]) (.tup [x, y, z, u])
  simp only [Isd, Isds]
  exact ⟨_, rfl, x, _, rfl, h1, y, _, rfl, h2, z, _, rfl, h3, u, _, rfl, h4, rfl⟩
theorem eqL_cod [DecidableEq α] {s : LS} {x y : LV} {a b : α} {Q : LVK} (hd : Cod.dep α ≤ 64) (hx : Isd s (Cod.den a) x) (hy : Isd s (Cod.den b) y) (q : Q (.bl (decide (a = b))) s) : rEqL x y s Q :=
  ⟨_, _, hx, hy, shaped_cod hd a, shaped_cod hd b, by rw [eqv_cod]; exact q⟩
theorem neL_cod [DecidableEq α] {s : LS} {x y : LV} {a b : α} {Q : LVK} (hd : Cod.dep α ≤ 64) (hx : Isd s (Cod.den a) x) (hy : Isd s (Cod.den b) y) (q : Q (.bl (!decide (a = b))) s) : rNeL x y s Q :=
  ⟨_, _, hx, hy, shaped_cod hd a, shaped_cod hd b, by rw [eqv_cod]; exact q⟩
end
end L3

namespace L3
open PySem PySem.Spec PyProof.Rows L2
section
variable {X : Cx} [GG X.K] {e a b o : Expr} {te ta tb : LTE} {pos : Pos} {tg : Expr}
def lNewT : LTE := fun _ s Q _ => ∀ p, s p = none → Q (.ref p) (put s p (.dT []))
def lNewK : LTE := fun _ s Q _ => ∀ p, s p = none → Q (.ref p) (put s p (.dK []))
theorem le_dnewT : LE X (.Dict [] [] pos) lNewT := fun s0 H0 E tk => pe_dnewT.imp fun σ H Q ⟨σl, s, Q0, E1, hσ, hs, st, hE, h, k⟩ p np =>
  k _ _ _ _ (h p (hs.free np)) (.put (.inr np)) (hs.put (.inr np) ⟨[], upd_same, by simp only [RVk]⟩) .ref
theorem le_dnewK : LE X (.Dict [] [] pos) lNewK := fun s0 H0 E tk => pe_dnewK.imp fun σ H Q ⟨σl, s, Q0, E1, hσ, hs, st, hE, h, k⟩ p np =>
  k _ _ _ _ (h p (hs.free np)) (.put (.inr np)) (hs.put (.inr np) ⟨[], upd_same, by simp only [RVd]⟩) .ref
def rInD2 (neg : Bool) : LR2 := fun y x s Q => match y with
  | .tup ks => opt (dicT x s) fun kvs => opt (keysL ks) fun k => Q (.bl (neg.xor (valL kvs k).isSome)) s
  | .int i => opt (dicK x s) fun kvs => Q (.bl (neg.xor (valL kvs (.inl i)).isSome)) s
  | .str z => opt (dicK x s) fun kvs => Q (.bl (neg.xor (valL kvs (.inr z)).isSome)) s
  | _ => False
def rHas (neg : Bool) : R2 := fun y x H Q => ∃ a o, x = .ref a ∧ DGet H a y o ∧ Q (.bl (neg.xor o.isSome)) H
theorem op_has (hu : X.A.units + 1 < cLine) : OpR X (compareOp .In) (rHas false) := by
  intro pins s σ H y x u v Q I ry rx ⟨d, ov, ex, g, q⟩
  subst ex
  obtain rfl : v = Value.ref d := rx
  exact d_in hu I g ry fun s3 I3 => ⟨.bl ov.isSome, H, I3, rfl, by simpa using q⟩
theorem op_hasnt (hu : X.A.units + 1 < cLine) : OpR X (compareOp .NotIn) (rHas true) := by
  intro pins s σ H y x u v Q I ry rx ⟨d, ov, ex, g, q⟩
  subst ex
  obtain rfl : v = Value.ref d := rx
  exact d_notIn hu I g ry fun s3 I3 => ⟨.bl (!ov.isSome), H, I3, rfl, by simpa using q⟩
theorem RVk.has {K : PySem.W.Frag} [GG K] {s : LS} {H : Hp} {kvs : List (List Key × LV)} {us : List (List Key × V)} (k : List Key) (h : RVk K s H kvs us) : (valV us k).isSome = (valL kvs k).isSome := by
  have q := RVk.val k h
  cases e : valL kvs k with
  | none => rw [e] at q; rw [q]; rfl
  | some x => rw [e] at q; obtain ⟨v, e2, _⟩ := q; rw [e2]; rfl
theorem RVd.has {K : PySem.W.Frag} [GG K] {s : LS} {H : Hp} {kvs : List (Key × LV)} {us : List (Key × V)} (k : Key) (h : RVd K s H kvs us) : (valV us k).isSome = (valL kvs k).isSome := by
  have q := RVd.val k h
  cases e : valL kvs k with
  | none => rw [e] at q; rw [q]; rfl
  | some x => rw [e] at q; obtain ⟨v, e2, _⟩ := q; rw [e2]; rfl
theorem up_has {K : PySem.W.Frag} [GG K] {neg : Bool} : Up2 K (rHas neg) (rInD2 neg) := fun y x s H ly lx Q0 Q hs ry rx h k => by
  have plain : ∀ kk : Key, y = kV kk → opt (dicK lx s) (fun kvs => Q0 (.bl (neg.xor (valL kvs kk).isSome)) s) → rHas neg y x H Q := fun kk ey h => by
    obtain ⟨kvs, e, h'⟩ := opt_ok h
    obtain ⟨d, us, _, ed, hh, r⟩ := dicK_ok hs rx e
    subst ey ed
    exact ⟨d, _, rfl, DGet.k hh, by rw [r.has]; exact k _ _ _ _ h' (.refl _ _) hs .bl⟩
  cases ly with
  | tup ks =>
    obtain ⟨kvs, e, h⟩ := opt_ok h
    obtain ⟨kk, e2, h⟩ := opt_ok h
    obtain ⟨d, us, o, rfl, hh, hd, r⟩ := dicT_ok hs rx e
    simp only [RV] at ry
    obtain ⟨t, ts, rfl, _, ht, rt⟩ := ry
    rw [keysL_ok e2 rt] at ht
    exact ⟨d, _, rfl, .inr ⟨us, kk, t, hd.rd hh, rfl, ht, rfl⟩, by rw [r.has]; exact k _ _ _ _ h (.refl _ _) hs .bl⟩
  | int i => exact plain (.inl i) ry.int' h
  | str z => exact plain (.inr z) ry.str' h
  | _ => exact False.elim h
theorem le_inT (hu : X.A.units + 1 < cLine) (ha : LE X a ta) (hb : LE X b tb) (hm : behindInMarks .In b = false) : LE X (.Compare a [.In] [b] pos) (lOp (rInD2 false) ta tb) := le_cmp (op_has hu) up_has ha hb hm
theorem le_ninT (hu : X.A.units + 1 < cLine) (ha : LE X a ta) (hb : LE X b tb) (hm : behindInMarks .NotIn b = false) : LE X (.Compare a [.NotIn] [b] pos) (lOp (rInD2 true) ta tb) := le_cmp (op_hasnt hu) up_has ha hb hm
theorem lt_inT (hu : X.A.units + 1 < cLine) (ha : LE X a ta) (hb : LE X b tb) (hm : behindInMarks .In b = false) : LT X (.Compare a [.In] [b] pos) (lB (lOp (rInD2 false) ta tb)) := lt_cmp (op_has hu) up_has ha hb hm
theorem lt_ninT (hu : X.A.units + 1 < cLine) (ha : LE X a ta) (hb : LE X b tb) (hm : behindInMarks .NotIn b = false) : LT X (.Compare a [.NotIn] [b] pos) (lB (lOp (rInD2 true) ta tb)) := lt_cmp (op_hasnt hu) up_has ha hb hm
/-- the dict is locked for good -/
theorem pe_lockD {t : TE} (h : PE X e t) : PE X e (fun σ H Q => t σ H fun x H1 => ∃ d us, x = .ref d ∧ ((H1 d = some (.dT us) ∧ ∀ od, Q x (upd H1 d (.frz od (.dT us)))) ∨ ∃ od, H1 d = some (.frz od (.dT us)) ∧ Q x H1)) := by
  refine ⟨fun pins s σ H Q I q => thn (h.run pins s σ H _ I q) fun u s1 ⟨x, H1, I1, rx, d, us, ex, q⟩ => ?_⟩
  rcases q with ⟨hd, q⟩ | ⟨od, hd, q⟩
  · obtain ⟨od, I2⟩ := I1.lock hd (by exact True.intro)
    exact ⟨x, _, I2, rx, q od⟩
  · exact ⟨x, _, I1, rx, q⟩
theorem locked {K : PySem.W.Frag} [GG K] {s : LS} {H : Hp} {d : Addr} {us : List (List Key × V)} (od : Obj) (hs : RelS K s H) (hd : H d = some (.dT us)) (n : s d = none) : Step s H s (upd H d (.frz od (.dT us))) ∧ RelS K s (upd H d (.frz od (.dT us))) := by
  have st : Step s H s (upd H d (.frz od (.dT us))) := fun b w e nb => by
    by_cases hb : b = d
    · subst hb
      rw [hd] at e
      cases e
      exact ⟨⟨_, upd_same, .inr (.inl ⟨us, od, rfl, rfl⟩)⟩, nb⟩
    · exact ⟨⟨w, by rw [upd_ne hb]; exact e, .refl w⟩, nb⟩
  exact ⟨st, fun b w e => (hs b w e).mono st fun u z => by rw [upd_ne (by rintro rfl; rw [n] at e; cases e)]; exact z⟩
def keyV : Key → LV
  | .inl i => .int i
  | .inr z => .str z
def keyT (k : List Key) : LV := .tup (k.map keyV)
theorem RVs.keys {K : PySem.W.Frag} [GG K] {s : LS} {H : Hp} : ∀ k : List Key, RVs K s H (k.map keyV) (k.map kV)
  | [] => .nil
  | .inl i :: r => .cons .int (RVs.keys r)
  | .inr i :: r => .cons .str (RVs.keys r)
theorem RelS.tup0 {K : PySem.W.Frag} [GG K] {s : LS} {H : Hp} {a : Addr} {xs : List V} (r : RelS K s H) (h : H a = Option.some (.tup xs)) : s a = none := by
  cases e : s a with
  | none => rfl
  | some o =>
    exfalso
    have q := r a o e
    cases o with
    | lst xs => obtain ⟨us, q, _⟩ := q; rw [h] at q; cases q
    | dK xs => obtain ⟨us, q, _⟩ := q; rw [h] at q; cases q
    | dT xs => obtain ⟨us, q, _⟩ := q; rw [h] at q; cases q
    | ins C xs => obtain ⟨dx, us, q, _⟩ := q; rw [h] at q; cases q
    | tab z => obtain ⟨us, q, _⟩ := q; rw [h] at q; cases q
theorem RVk.get {K : PySem.W.Frag} [GG K] {s : LS} {H : Hp} : ∀ {kvs : List (List Key × LV)} {us : List (List Key × V)} {i : Nat} {k : List Key} {v : V}, RVk K s H kvs us → us[i]? = some (k, v) → ∃ x, kvs[i]? = some (k, x) ∧ RV K s H x v
  | [], _, _, _, _, h, e => by simp only [RVk] at h; subst h; simp at e
  | (j, y) :: kvs, _, 0, k, v, h, e => by
    simp only [RVk] at h
    obtain ⟨u, r, rfl, h1, _⟩ := h
    simp at e
    obtain ⟨rfl, rfl⟩ := e
    exact ⟨y, rfl, h1⟩
  | (j, y) :: kvs, _, i + 1, k, v, h, e => by
    simp only [RVk] at h
    obtain ⟨u, r, rfl, _, h2⟩ := h
    obtain ⟨x, a, b⟩ := RVk.get (i := i) h2 (by simpa using e)
    exact ⟨x, by simpa using a, b⟩
def iKeysT (te : LTE) : LTI := fun σ s Q E => te σ s (fun x s1 => match x with
  | .dT kvs => Q (kvs.map fun p => keyT p.1) (fun _ => True) s1
  | _ => False) E
theorem it_keys {K : PySem.W.Frag} [GG K] {d : Addr} {od : Obj} {kvs : List (List Key × LV)} {us : List (List Key × V)} {s1 : LS} {H1 : Hp} (hd : H1 d = some (.frz od (.dT us))) (n : s1 d = none) (r : RVk K s1 H1 kvs us) : ItR K (Itkt d od us) (kvs.map fun p => keyT p.1) (fun _ => True) s1 H1 := by
  have at_ : ∀ s H, Step s1 H1 s H → H d = some (.frz od (.dT us)) := fun s H st => by
    obtain ⟨⟨o', h', e⟩, _⟩ := st d _ hd n
    rw [e.frz] at h'
    exact h'
  have ln : us.length = kvs.length := r.length
  refine ⟨fun i s H hi st hs _ => ⟨at_ s H st, by rw [ln]; simpa using hi⟩, fun s H st hs _ => ⟨at_ s H st, by rw [ln]; simp⟩, fun i s H x H' hi st hs _ y => ?_⟩
  obtain ⟨rfl, k, v, q, hk, rfl, hq⟩ := y
  obtain ⟨lx, e, _⟩ := r.get hk
  refine ⟨keyT k, by rw [List.getElem?_map, e]; rfl, ?_, .refl _ _, hs⟩
  simp only [keyT, RV]
  exact ⟨q, _, rfl, hs.tup0 hq, hq, RVs.keys k⟩
theorem li_keys (he : LE X e te) : LI X tg e (iKeysT te) := fun s0 H0 E tk => (pi_keys (pe_lockD (he s0 H0 E tk))).imp fun σ H R ⟨σl, s, Q0, E1, hσ, hs, st, hE, h, k⟩ => ⟨σl, s, _, E1, hσ, hs, st, hE, h, fun lx s1 x H1 h st1 hs1 rx => by
  cases lx with
  | dT kvs =>
    simp only [RV] at rx
    obtain ⟨d, us, o, rfl, n, hh, isd, r⟩ := rx
    rcases isd with rfl | ⟨od, rfl⟩
    · refine ⟨d, us, rfl, .inl ⟨hh, fun od => ⟨d, od, rfl, .inr ⟨us, upd_same, ?_⟩⟩⟩⟩
      obtain ⟨st2, hs2⟩ := locked od hs1 hh n
      exact k _ _ _ _ _ h (st1.trans st2) hs2 (it_keys upd_same n (r.mono st2))
    · exact ⟨d, us, rfl, .inr ⟨od, hh, d, od, rfl, .inr ⟨us, hh, k _ _ _ _ _ h st1 hs1 (it_keys hh n r)⟩⟩⟩
  | _ => exact False.elim h⟩
end
/-- each turn a new tuple of the key's own tuple and the value -/
def Itit (d : Addr) (o : Obj) (kvs : List (List Key × V)) : It :=
  ⟨fun i H => H d = some (.frz o (.dT kvs)) ∧ i < kvs.length, fun i H x H' => ∃ T k v q, kvs[i]? = some (k, v) ∧ x = .ref T ∧ H T = none ∧ H q = some (.tup (k.map kV)) ∧ H' = upd H T (.tup [.ref q, v]), fun i H => H d = some (.frz o (.dT kvs)) ∧ kvs.length ≤ i⟩
section
variable {P : Program} {w : World} {K : PySem.W.Frag} {d : Addr} {o : Obj} {es : Array DictEntry} {ep : Nat}
theorem frzT2 {X : Cx} {pins : List (Addr × Obj)} {σ : L2.St} {H : Hp} {s : Shared} {kvs : List (List Key × V)} (I : L2.Inv X pins σ H s) (h : H d = some (.frz o (.dT kvs))) :
    (d == sysModules) = false ∧ s.heap.get? d = some o ∧ o.ExactDict ∧ ∃ (es : Array DictEntry) (ep : Nat), o.data = .dict es ep ∧ es.size = kvs.length ∧
      ∀ (i : Nat) (k : List Key) (v : V), kvs[i]? = some (k, v) → ∃ (en : DictEntry) (q : Addr), es[i]? = some en ∧ en.key = .ref q ∧ H q = some (.tup (k.map kV)) ∧ L2.RelV v en.val := by
  obtain ⟨hd, z, hs, xs, pr, o', es, ep, ho, hx, hdt, he, _⟩ := I.hok d _ h
  rw [hd] at ho
  cases ho
  refine ⟨hs, hd, hx, es, ep, hdt, ?_, fun i k v e => ?_⟩
  · rw [size_of_entries he, Paired.length pr]
  · obtain ⟨b, hb, e1, e2, e3⟩ := paired_get pr e
    have q := entry_at he i
    rw [hb] at q
    exact ⟨_, b.2.1, q, rfl, e2, e3⟩
theorem turn_itemsT {kvs : List (List Key × V)} {elts : List Expr} {kk : Nat} {tpos : Pos} (it : Addr) (hod : o.data = .dict es ep) :
    Turn P w K (.Tuple elts kk tpos) (Itit d o kvs) [it] it (fun i h => ∃ ok ov, IsItemIter h it d i kvs.length ep ok ov) where
  mem := by simp
  obj := fun i h st b hb => by
    obtain rfl : b = it := by simpa using hb
    obtain ⟨ok, ov, e⟩ := st
    exact ⟨_, e, fun v z => (nomatch z)⟩
  keep := fun i h h' st k => st.elim fun ok ⟨ov, e⟩ => ⟨ok, ov, k it (by simp) _ e⟩
  item := by
    intro X hP hw hK hc i pins s σ H E I hf st ⟨hd, hi⟩
    subst hP hw hK
    obtain ⟨hs, hgd, hx, es', ep', hdt, hsz, ent⟩ := frzT2 I hd
    obtain ⟨rfl, rfl⟩ := dict_ep hod hdt
    obtain ⟨⟨k, v⟩, hkv⟩ : ∃ p, kvs[i]? = some p := ⟨kvs[i], List.getElem?_eq_getElem hi⟩
    obtain ⟨en, q, hen, hkey, hq, rv⟩ := ent i k v hkv
    obtain ⟨ok, ov, he⟩ := st
    rw [← hsz] at he
    have hlt : it < s.heap.objs.size := Heap.lt_size he
    have hie : i < es'.size := by rw [hsz]; exact hi
    rw [Array.getElem?_eq_getElem hie] at hen
    obtain rfl : es'[i] = en := Option.some.inj hen
    refine DT.nextI he ⟨o, hgd, hx, hdt⟩ hie fun h' ho hT hz hk => ⟨_, rfl, wpAny_letOwnedTupleGo_items (s := { s with heap := h' }) ho fun h2 he2 sb => ?_⟩
    have hT2 : h2.get? s.heap.objs.size = some { cls := .type "tuple", data := .seq #[es'[i].key, es'[i].val] } := (sb.2 _ (Nat.ne_of_gt hlt)).trans hT
    have new : ObjOk X.prog X.w (upd H s.heap.objs.size (.tup [.ref q, v])) h2 s.heap.objs.size (.tup [.ref q, v]) :=
      ⟨by show 2 ≤ sizeLine; decide, [es'[i].key, es'[i].val], .cons hkey (.cons rv .nil), ⟨_, hT2, rfl, _, rfl⟩⟩
    have J := I.turnedNew (t' := s.toks) (ch := [it]) (fun b ob hb e => (sb.2 b (by simpa using hb)).trans (hk b ob (by simpa using hb) e)) hf (Nat.le_refl _) new
    refine ⟨.ref s.heap.objs.size, _, J, rfl, ⟨_, k, v, q, hkv, rfl, I.hok.fresh (Nat.le_refl _), hq, rfl⟩, ⟨_, _, by rw [← hsz]; exact he2⟩, fun b hb => ?_⟩
    obtain rfl : b = it := by simpa using hb
    rw [upd_ne (Nat.ne_of_lt hlt)]
    exact (hf b (by simp)).1
  done := by
    intro X hP hw hK hc i pins s σ H E I hf st ⟨hd, hi⟩
    subst hP hw hK
    obtain ⟨f0, f1, f2, f3, f4, f5⟩ := hf it (by simp)
    obtain ⟨hs, hgd, hx, es', ep', hdt, hsz, ent⟩ := frzT2 I hd
    obtain ⟨rfl, rfl⟩ := dict_ep hod hdt
    obtain ⟨ok, ov, he⟩ := st
    rw [← hsz] at he
    exact DT.endI (I.ok.hd hc) he ⟨o, hgd, hx, hdt⟩ (by rw [hsz]; exact hi) fun h' eb => ⟨rfl, I.turned (t' := s.toks) (fun b ob hb e => eb b ob hb e) f0 f1 f3 f4 f5⟩
  self := fun A i s Q E st h => st.elim fun _ ⟨_, e⟩ => PySem.W.kcp_self e h
end
section
variable {X : Cx} {e : Expr} {td : TE} {apos cpos : Pos}
theorem pi_itemsT {elts : List Expr} {kk : Nat} {tpos : Pos} (he : PE X e td) (hbase : attributeBase e "items" X.env (eval e X.env) = eval e X.env := by rfl) (hline : (apos.endLine == cpos.line) = true := by rfl) :
    PI X (.Tuple elts kk tpos) (.Call (.Attribute e "items" apos) [] [] cpos) (fun σ H R => td σ H fun x H1 => ∃ d o kvs, x = .ref d ∧ H1 d = some (.frz o (.dT kvs)) ∧ R (Itit d o kvs) H1) := by
  refine ⟨fun pins s σ H R I h => ?_⟩
  refine wpAny_Call_method (T := "dict") (id := "dict.items") hbase rfl hline F.plainAttrs_dict F.slot_dict_items F.type_dict_items (thn (he.run pins s σ H _ I h) fun u s1 ⟨x, H1, J, rx, d, o, kvs, ex, hd, q⟩ => ?_)
  subst ex
  obtain rfl : u = Value.ref d := rx
  obtain ⟨hs, hgd, hx, es, ep, hdt, hsz, ent⟩ := frzT2 J hd
  have raw : DT.Raw s1.heap d es ep := ⟨o, hgd, hx, hdt⟩
  refine ⟨raw.typeIs, fun b q => ?_, ?_⟩
  · cases q
    exact ⟨o, hgd, hx.2.1⟩
  have J2 : L2.Inv X pins σ H1 { s1 with heap := s1.heap.push { cls := .type "dict_items", data := .fields #[.ref d] } } := J.kept (t' := s1.toks) fun b o q => Heap.get?_push_of_some _ q
  have fin : wpAny (model X.prog X.w) X.A (pyIter (.ref s1.heap.objs.size)) (PIE X pins σ (.Tuple elts kk tpos) R) X.xe { s1 with heap := s1.heap.push { cls := .type "dict_items", data := .fields #[.ref d] } } := by
    refine DT.iterI (d := d) ⟨_, Heap.get?_push_size _ rfl, rfl, rfl⟩ (raw.push _) (pi_one (tk := s1.toks) J2 _ (turn_itemsT _ hdt) ⟨.none, .none, ?_⟩ q)
    rw [hsz]
    exact Heap.get?_push_size _ rfl
  show wpAny _ _ (callWith cpos (.builtin "dict.items") [.ref d] [] []) _ X.xe s1
  exact method_meetsIn F.slot_dict_items F.entry_dict_items rfl (PySem.evalArgs_none ⟨rfl, raw.typeIs, F.args_dict_items_1 _, _, DT.meetsItems (es := es) (ep := ep) hs, raw, fin⟩)
end
section
variable {X : Cx} [GG X.K] {e : Expr} {te : LTE} {apos cpos : Pos}
def iItemsT (te : LTE) : LTI := fun σ s Q E => te σ s (fun x s1 => match x with
  | .dT kvs => Q (kvs.map fun p => .tup [keyT p.1, p.2]) (fun _ => True) s1
  | _ => False) E
theorem it_items {K : PySem.W.Frag} [GG K] {d : Addr} {od : Obj} {kvs : List (List Key × LV)} {us : List (List Key × V)} {s1 : LS} {H1 : Hp} (hd : H1 d = some (.frz od (.dT us))) (n : s1 d = none) (r : RVk K s1 H1 kvs us) : ItR K (Itit d od us) (kvs.map fun p => .tup [keyT p.1, p.2]) (fun _ => True) s1 H1 := by
  have at_ : ∀ s H, Step s1 H1 s H → H d = some (.frz od (.dT us)) := fun s H st => by
    obtain ⟨⟨o', h', e⟩, _⟩ := st d _ hd n
    rw [e.frz] at h'
    exact h'
  have ln : us.length = kvs.length := r.length
  refine ⟨fun i s H hi st hs _ => ⟨at_ s H st, by rw [ln]; simpa using hi⟩, fun s H st hs _ => ⟨at_ s H st, by rw [ln]; simp⟩, fun i s H x H' hi st hs _ y => ?_⟩
  obtain ⟨T, k, v, q, hk, rfl, nT, hq, rfl⟩ := y
  obtain ⟨lx, e, rv⟩ := (r.mono st).get hk
  have st2 : Step s H s (upd H T (.tup [.ref q, v])) := Step.new hs nT
  refine ⟨.tup [keyT k, lx], by rw [List.getElem?_map, e]; rfl, ?_, st2, RelS.new hs nT⟩
  refine RVs.tupAt hs nT (.cons ?_ (.cons rv .nil))
  simp only [keyT, RV]
  exact ⟨q, _, rfl, hs.tup0 hq, hq, RVs.keys k⟩
theorem li_items {elts : List Expr} {kk : Nat} {tpos : Pos} (he : LE X e te) (hbase : attributeBase e "items" X.env (eval e X.env) = eval e X.env := by rfl) (hline : (apos.endLine == cpos.line) = true := by rfl) :
    LI X (.Tuple elts kk tpos) (.Call (.Attribute e "items" apos) [] [] cpos) (iItemsT te) := fun s0 H0 E tk => (pi_itemsT (pe_lockD (he s0 H0 E tk)) hbase hline).imp fun σ H R ⟨σl, s, Q0, E1, hσ, hs, st, hE, h, k⟩ => ⟨σl, s, _, E1, hσ, hs, st, hE, h, fun lx s1 x H1 h st1 hs1 rx => by
  cases lx with
  | dT kvs =>
    simp only [RV] at rx
    obtain ⟨d, us, o, rfl, n, hh, isd, r⟩ := rx
    rcases isd with rfl | ⟨od, rfl⟩
    · refine ⟨d, us, rfl, .inl ⟨hh, fun od => ⟨d, od, us, rfl, upd_same, ?_⟩⟩⟩
      obtain ⟨st2, hs2⟩ := locked od hs1 hh n
      exact k _ _ _ _ _ h (st1.trans st2) hs2 (it_items upd_same n (r.mono st2))
    · exact ⟨d, us, rfl, .inr ⟨od, hh, d, od, us, rfl, hh, k _ _ _ _ _ h st1 hs1 (it_items hh n r)⟩⟩
  | _ => exact False.elim h⟩
end
end L3

namespace DTE
open PySem PySem.W PySem.Calls PyProof.Rows PyProof.V PySem.Spec
section
variable {prog : Program} {w : World} {κ : Type} [DecidableEq κ] {kd : HeapKind prog w κ} {A : Around} {E : Value → Shared → Prop} {s : Shared}
def Hit (prog : Program) (w : World) (A : Around) (s : Shared) (ys : List (κ × Addr × Value)) (x : κ × Addr × Value) (t : Bool) : Prop := match atKey ys x.1 with
  | none => t = false
  | some p => SeqAt.EqP prog w A s x.2.2 p.2 t
theorem same_tups {nm : String} {da db : Addr} {xs ys : List (κ × Addr × Value)} {tell : κ → Bool} {Q : Bool → Shared → Prop} (hu : kd.room A) (sa : (da == sysModules) = false) (sb : (db == sysModules) = false)
    (dA : s.heap.DictOfH kd da xs) (dB : s.heap.DictOfH kd db ys) (hits : ∀ x ∈ xs, Hit prog w A s ys x (tell x.1)) (h : Q (xs.length == ys.length && xs.all fun x => tell x.1) s) :
    wpAny (model prog w) A (Builtin.Dict.samePairs nm da db) Q E s := by
  obtain ⟨o1, e1, p1, g1, _, t1, l1, k1, _⟩ := dA
  obtain ⟨o2, e2, p2, g2, _, t2, l2, k2, n2⟩ := dB
  have z1 := size_of_entries l1
  have z2 := size_of_entries l2
  have no1 : ¬(da == sysModules) = true := fun q => by rw [sa] at q; cases q
  have no2 : ¬(db == sysModules) = true := fun q => by rw [sb] at q; cases q
  unfold Builtin.Dict.samePairs Builtin.Dict.showsAll
  simp only [if_neg no1, if_neg no2]
  refine wpAny_bind (wpAny_pure (wpAny_bind (wpAny_pure (wpAny_bind (wpAny_dictEntries g1 t1 ?_)))))
  refine wpAny_bind (wpAny_dictEntries g2 t2 ?_)
  by_cases en : e1.size = e2.size
  · have hl : xs.length = ys.length := by omega
    rw [hl, beq_self_eq_true, Bool.true_and] at h
    rw [if_neg (fun q => by rw [en] at q; simp at q)]
    refine wpAny_bind (wpAny_dictEpoch g1 t1 (wpAny_bind ?_))
    simp only [Std.Legacy.Range.forIn_eq_forIn_range', Std.Legacy.Range.size, Nat.sub_zero, Nat.add_sub_cancel, Nat.div_one]
    refine wpAny_forIn_list _ (fun rest q s' => s' = s ∧ q = (none, ()) ∧ ∃ i, rest = List.range' i (xs.length - i) ∧ i ≤ xs.length ∧ (xs.take i).all (fun x => tell x.1) = true) _ (fun j rest q s' ⟨es, eq, i, er, hi, al⟩ => ?_) (fun q s' ⟨es, eq, i, er, hi, al⟩ => ?_) _ _ ⟨rfl, rfl, 0, by simp [z1], Nat.zero_le _, by simp⟩
    · subst es eq
      obtain ⟨m, hm⟩ : ∃ m, xs.length - i = m + 1 := ⟨xs.length - i - 1, by
        cases q : xs.length - i with
        | zero => rw [q] at er; simp at er
        | succ m => rfl⟩
      rw [hm, List.range'_succ] at er
      obtain ⟨rfl, rr⟩ := List.cons.inj er
      have lt : j < xs.length := by omega
      obtain ⟨x, hx⟩ : ∃ x, xs[j]? = some x := ⟨xs[j], List.getElem?_eq_getElem lt⟩
      have mx : x ∈ xs := List.mem_of_getElem? hx
      have ej : e1[j]? = some (entryOfKey kd x) := by rw [entry_at l1 j, hx]; rfl
      have hit := hits x mx
      unfold Hit at hit
      have split : xs = xs.take j ++ x :: xs.drop (j + 1) := by
        obtain ⟨lt', rfl⟩ := List.getElem?_eq_some_iff.mp hx
        rw [← List.drop_eq_getElem_cons lt', List.take_append_drop]
      have stop : tell x.1 = false → xs.all (fun x => tell x.1) = false := fun t => by rw [split, List.all_append, List.all_cons, t, Bool.false_and, Bool.and_false]
      have go : tell x.1 = true → (xs.take (j + 1)).all (fun x => tell x.1) = true := fun t => by
        rw [List.take_add_one, hx, List.all_append, al]; simp [t]
      refine wpAny_bind (wpAny_dictEntries g1 t1 ?_)
      rw [ej]
      refine wpAny_bind (wpAny_holding (wpAny_bind (wpAny_dictFind_heap hu (k1 x mx) g2 t2 l2 k2 n2 (fun no => ?_) fun m p hp => ?_)))
      · rw [atKey_none_of_get no] at hit
        refine wpAny_pure ?_
        show wpAny _ _ (if (!false) = true then _ else _) _ _ _
        rw [stop hit] at h
        exact wpAny_pure (wpAny_pure h)
      · rw [atKey_of_get n2 hp] at hit
        have em : e2[m]? = some (entryOfKey kd (x.1, p)) := by rw [entry_at l2 m, hp]; rfl
        refine wpAny_bind (wpAny_dictEntries g2 t2 ?_)
        rw [em]
        refine wpAny_holding (hit _ _ ?_)
        cases t : tell x.1 with
        | false =>
          show wpAny _ _ (if (!false) = true then _ else _) _ _ _
          rw [stop t] at h
          exact wpAny_pure (wpAny_pure h)
        | true =>
          show wpAny _ _ (if (!true) = true then _ else _) _ _ _
          rw [if_neg (fun z => by cases z)]
          refine wpAny_bind (wpAny_dictEpoch g1 t1 ?_)
          rw [if_neg (fun z => by simp at z)]
          exact wpAny_pure ⟨rfl, rfl, j + 1, by rw [rr]; congr 1; omega, lt, go t⟩
    · subst es eq
      have e : i = xs.length := by
        rcases Nat.lt_or_ge i xs.length with lt | ge
        · obtain ⟨m, hm⟩ : ∃ m, xs.length - i = m + 1 := ⟨xs.length - i - 1, by omega⟩
          rw [hm, List.range'_succ] at er; cases er
        · omega
      subst e
      rw [List.take_length] at al
      rw [al] at h
      exact wpAny_pure h
  · have hl : (xs.length == ys.length) = false := by rw [beq_eq_false_iff_ne]; omega
    rw [hl, Bool.false_and] at h
    rw [if_pos (by simpa using en)]
    exact wpAny_bind (wpAny_rule (wpAny_pure h))
theorem eq_tups {da db : Addr} {xs ys : List (κ × Addr × Value)} {tell : κ → Bool} {Q : Value → Shared → Prop} (hk : kd.room A.in1) (hu : A.units < cLine) (sa : (da == sysModules) = false) (sb : (db == sysModules) = false)
    (dA : s.heap.DictOfH kd da xs) (dB : s.heap.DictOfH kd db ys) (hits : ∀ x ∈ xs, Hit prog w A.in1 s ys x (tell x.1)) (h : Q (.bool (xs.length == ys.length && xs.all fun x => tell x.1)) s) :
    wpAny (model prog w) A (compareOp .Eq (.ref da) (.ref db)) Q E s := by
  refine wpAny_richCompare_same_room (op := .Eq) dA.typeIs dB.typeIs F.slot_dict_eq (wpAny_call_entry F.slot_dict_eq dA.typeIs F.entry_dict_eq ?_ (F.args_dict_eq_2 _ _)) hu
  show wpAny _ _ (Builtin.Dict.dictSlotArgs "__eq__" ⟨[.ref da, .ref db], []⟩ >>= _) _ _ s
  unfold Builtin.Dict.dictSlotArgs
  refine wpAny_bind (wpAny_bind (wpAny_notOrdered_dict dA.typeIs ?_))
  show wpAny _ _ (pure (Value.ref da, Value.ref db)) _ _ s
  refine wpAny_pure (wpAny_bind (wpAny_isInstance (T := "dict") dB.typeIs F.sub_dict_dict ?_))
  simp only [Bool.not_true, Bool.false_eq_true, if_false]
  refine wpAny_bind (wpAny_pure (wpAny_bind (wpAny_pure (wpAny_bind (same_tups hk sa sb dA dB hits ?_)))))
  exact wpAny_pure ⟨_, rfl, (fun x => by cases x), by simpa using h⟩
theorem ne_tups {da db : Addr} {xs ys : List (κ × Addr × Value)} {tell : κ → Bool} {Q : Value → Shared → Prop} (hk : kd.room A.in1) (hu : A.units < cLine) (sa : (da == sysModules) = false) (sb : (db == sysModules) = false)
    (dA : s.heap.DictOfH kd da xs) (dB : s.heap.DictOfH kd db ys) (hits : ∀ x ∈ xs, Hit prog w A.in1 s ys x (tell x.1)) (h : Q (.bool (!(xs.length == ys.length && xs.all fun x => tell x.1))) s) :
    wpAny (model prog w) A (compareOp .NotEq (.ref da) (.ref db)) Q E s := by
  refine wpAny_richCompare_same_room (op := .NotEq) dA.typeIs dB.typeIs F.slot_dict_ne (wpAny_call_entry F.slot_dict_ne dA.typeIs F.entry_dict_ne ?_ (F.args_dict_ne_2 _ _)) hu
  show wpAny _ _ (Builtin.Dict.dictSlotArgs "__ne__" ⟨[.ref da, .ref db], []⟩ >>= _) _ _ s
  unfold Builtin.Dict.dictSlotArgs
  refine wpAny_bind (wpAny_bind (wpAny_notOrdered_dict dA.typeIs ?_))
  show wpAny _ _ (pure (Value.ref da, Value.ref db)) _ _ s
  refine wpAny_pure (wpAny_bind (wpAny_isInstance (T := "dict") dB.typeIs F.sub_dict_dict ?_))
  simp only [Bool.not_true, Bool.false_eq_true, if_false]
  refine wpAny_bind (wpAny_pure (wpAny_bind (wpAny_pure (wpAny_bind (same_tups hk sa sb dA dB hits ?_)))))
  exact wpAny_pure ⟨_, rfl, (fun x => by cases x), by simpa using h⟩
end
end DTE
namespace L2
open PySem PySem.Spec PyProof.Rows DTE
/-- == of two dicts with tuple keys: tell says of each key of the first whether the second holds the same there -/
def rEqTe (neg : Bool) (K : PySem.W.Frag) : R2 := fun x y H Q => ∃ a b us vs, ∃ tell : List Key → Bool, x = .ref a ∧ y = .ref b ∧ Rd H a (.dT us) ∧ Rd H b (.dT vs) ∧
  (∀ p ∈ us, match valV vs p.1 with
    | none => tell p.1 = false
    | some v => ∃ d e, Dp K H p.2 d ∧ Dp K H v e ∧ SeqAt.shaped d = true ∧ SeqAt.shaped e = true ∧ tell p.1 = PyData.eqv d e) ∧
  Q (.bl (neg.xor (us.length == vs.length && us.all fun p => tell p.1))) H
theorem KT.alls {H : Hp} {tell : List Key → Bool} : ∀ {us : List (List Key × V)} {xs : List (List Key × Addr × Value)}, KT H us xs → (xs.all fun x => tell x.1) = us.all fun p => tell p.1
  | _, _, .nil => rfl
  | _, _, .cons h t => by rw [List.all_cons, List.all_cons, KT.alls t, h.1]
theorem KT.mem {H : Hp} : ∀ {us : List (List Key × V)} {xs : List (List Key × Addr × Value)} {x : List Key × Addr × Value}, KT H us xs → x ∈ xs → ∃ v, (x.1, v) ∈ us ∧ RelV v x.2.2
  | _, _, _, .nil, h => by cases h
  | (k, v) :: _, y :: _, x, .cons h t, m => by
    rcases List.mem_cons.mp m with rfl | m
    · obtain ⟨e, _, r⟩ := h
      simp only at e r
      exact ⟨v, by rw [← e]; exact List.mem_cons_self, r⟩
    · obtain ⟨v, a, b⟩ := KT.mem t m
      exact ⟨v, List.mem_cons_of_mem _ a, b⟩
section
variable {X : Cx}
theorem hits_of {pins : List (Addr × Obj)} {σ : L2.St} {H : Hp} {s : Shared} {us vs : List (List Key × V)} {xs ys : List (List Key × Addr × Value)} {tell : List Key → Bool} (hu : X.A.in1.units + 64 < cLine) (I : Inv X pins σ H s) (r1 : KT H us xs) (r2 : KT H vs ys)
    (h : ∀ p ∈ us, match valV vs p.1 with
      | none => tell p.1 = false
      | some v => ∃ d e, Dp X.K H p.2 d ∧ Dp X.K H v e ∧ SeqAt.shaped d = true ∧ SeqAt.shaped e = true ∧ tell p.1 = PyData.eqv d e) : ∀ x ∈ xs, Hit X.prog X.w X.A.in1 s ys x (tell x.1) := fun x m => by
  obtain ⟨v, mv, rv⟩ := r1.mem m
  have q := h _ mv
  have r := r2.val x.1
  unfold Hit
  cases e : atKey ys x.1 with
  | none =>
    rw [e] at r
    cases e2 : valV vs x.1 with
    | none => simp only [e2] at q; exact q
    | some z => rw [e2] at r; exact r.elim
  | some p =>
    rw [e] at r
    cases e2 : valV vs x.1 with
    | none => rw [e2] at r; exact r.elim
    | some z =>
      rw [e2] at r
      simp only [e2] at q
      obtain ⟨d, f, hd, hf, sd, sf, et⟩ := q
      obtain ⟨as, q1⟩ := Dp.reads I d v _ hd rv
      obtain ⟨bs, q2⟩ := Dp.reads I f z _ hf r
      show SeqAt.EqP X.prog X.w X.A.in1 s x.2.2 p.2 (tell x.1)
      rw [et]
      exact (PySem.W.keq_at q1 q2 sd sf hu).eqP
theorem op_eqTe (hu : X.A.units + 65 < cLine) : OpR X (compareOp .Eq) (rEqTe false X.K) := by
  intro pins s σ H x y v u Q I rx ry ⟨a, b, us, vs, tell, ex, ey, ea, eb, h, q⟩
  subst ex ey
  obtain rfl : v = Value.ref a := rx
  obtain rfl : u = Value.ref b := ry
  obtain ⟨_, sa, xs, r1, dA⟩ := dt_rd I.hok ea
  obtain ⟨_, sb, ys, r2, dB⟩ := dt_rd I.hok eb
  refine eq_tups (tell := tell) (tupleKind_room_in1 (by omega)) (by omega) sa sb dA dB (hits_of (show X.A.units + 1 + 64 < cLine by omega) I r1 r2 h) ?_
  rw [r1.alls, ← r1.length, ← r2.length]
  exact ⟨.bl _, H, I, rfl, by simpa using q⟩
theorem op_neTe (hu : X.A.units + 65 < cLine) : OpR X (compareOp .NotEq) (rEqTe true X.K) := by
  intro pins s σ H x y v u Q I rx ry ⟨a, b, us, vs, tell, ex, ey, ea, eb, h, q⟩
  subst ex ey
  obtain rfl : v = Value.ref a := rx
  obtain rfl : u = Value.ref b := ry
  obtain ⟨_, sa, xs, r1, dA⟩ := dt_rd I.hok ea
  obtain ⟨_, sb, ys, r2, dB⟩ := dt_rd I.hok eb
  refine ne_tups (tell := tell) (tupleKind_room_in1 (by omega)) (by omega) sa sb dA dB (hits_of (show X.A.units + 1 + 64 < cLine by omega) I r1 r2 h) ?_
  rw [r1.alls, ← r1.length, ← r2.length]
  exact ⟨.bl _, H, I, rfl, by simpa using q⟩
end
def rSortedD {α : Type} (K : PySem.W.Frag) (den : α → PyData) : List V → Hp → VK → Prop := fun vs H Q => ∃ (a : Addr) (bs : List (α × V)), vs = [.ref a] ∧ SqL K H a (bs.map (·.2)) ∧ (∀ p ∈ bs, Dp K H p.2 (den p.1)) ∧
  ∀ p, H p = none → Q (.ref p) (upd H p (.lst ((bs.mergeSort (PySem.W.dataLe false fun p => den p.1)).map (·.2))))
section
open PySem.W
variable {X : Cx} {α : Type} {den : α → PyData}
theorem eachOf {R : Value → α × V → Prop} : ∀ {bs : List (α × V)} {its : List Value}, Vals (bs.map (·.2)) its → (∀ p ∈ bs, ∀ u, RelV p.2 u → R u p) → EachIs R its bs
  | [], _, .nil, _ => .nil
  | p :: bs, _, .cons r t, h => .cons (h p List.mem_cons_self _ r) (eachOf t fun q m => h q (List.mem_cons_of_mem _ m))
theorem valsOf : ∀ {bs : List (α × V)} {its : List Value}, EachIs (fun u p => RelV p.2 u) its bs → Vals (bs.map (·.2)) its
  | _, _, .nil => .nil
  | _, _, .cons r t => .cons r (valsOf t)
theorem cr_sortedD (hal : ∀ a b, alike (den a) (den b) = true) (htu : ∀ a, ∃ x r, den a = .tuple (x :: r)) (hdp : ∀ a, (den a).depth ≤ 62) (hu : X.A.units + 64 < cLine) : CallR X (.builtin "sorted") (rSortedD X.K den) := by
  intro pins s σ H vs us Q I r ⟨a, bs, ev, hs, hd, q⟩
  subst ev
  obtain ⟨its, rv, hl, hz⟩ := I.list hs
  obtain ⟨u, rfl, ru⟩ := vals1 r
  obtain rfl : u = Value.ref a := ru
  refine sorted_data (enc := fun p : α × V => den p.1) (R := fun u p => RelV p.2 u) (bs := bs) hl.isList (eachOf rv fun p _ u r => r) (eachOf rv fun p m u r => Dp.reads I _ _ _ (hd p m) r) (AllAlike.of fun p p' => hal _ _) (Sortable.tuples fun p => htu _) (by simpa using hz) (fun p _ => by have := hdp p.1; omega) fun out h1 h2 => ?_
  obtain ⟨ep, he'⟩ := PyProof.Rows.sortedAll_at s.heap its (List.toArray out)
  refine ⟨.ref _, upd H (s.heap.objs.size + 1) (.lst ((bs.mergeSort (dataLe false fun p => den p.1)).map (·.2))), I.laid (t' := s.toks) (fun _ _ => PyProof.Rows.sortedAll_old) (Nat.le_succ _) ⟨?_, out, ep, valsOf h2, he'⟩, rfl, q _ (I.hok.fresh (Nat.le_succ _))⟩
  rw [List.length_map, List.length_mergeSort]
  simpa using hz
end
end L2
namespace L3
open PySem PySem.Spec PyProof.Rows L2
def datK : List (List Key × LV) → Option (List (List Key × PyData))
  | [] => some []
  | (k, x) :: r => (datV x).bind fun d => (datK r).map ((k, d) :: ·)
def lookD (ds : List (List Key × PyData)) (k : List Key) : Option PyData := (ds.find? fun p => decide (p.1 = k)).map (·.2)
def eqD (ds es : List (List Key × PyData)) : Bool := ds.length == es.length && ds.all fun p => match lookD es p.1 with
  | none => false
  | some e => PyData.eqv p.2 e
def shD (ds : List (List Key × PyData)) : Prop := ∀ p ∈ ds, SeqAt.shaped p.2 = true
def rEqT (neg : Bool) : LR2 := fun x y s Q => opt (dicT x s) fun as => opt (dicT y s) fun bs => opt (datK as) fun ds => opt (datK bs) fun es => (shD ds ∧ shD es ∧ (ds.map (·.1)).Nodup) ∧ Q (.bl (neg.xor (eqD ds es))) s
section
variable {K : PySem.W.Frag} [GG K] {s : LS} {H : Hp}
/-- what is read of a dict's values -/
theorem datK_dp (hs : RelS K s H) : ∀ {as : List (List Key × LV)} {us : List (List Key × V)} {ds : List (List Key × PyData)}, RVk K s H as us → datK as = some ds → ds.length = us.length ∧ us.map (·.1) = ds.map (·.1) ∧ ∀ k, match valV us k with
    | none => lookD ds k = none
    | some v => ∃ d, lookD ds k = some d ∧ Dp K H v d
  | [], us, ds, r, e => by
    simp only [RVk] at r
    cases e
    subst r
    exact ⟨rfl, rfl, fun k => by simp [valV, lookD]⟩
  | (j, x) :: as, us, ds, r, e => by
    simp only [RVk] at r
    obtain ⟨u, r', rfl, h1, h2⟩ := r
    simp only [datK, Option.bind_eq_some_iff, Option.map_eq_some_iff] at e
    obtain ⟨d, ed, ds', e2, rfl⟩ := e
    obtain ⟨a, b, c⟩ := datK_dp hs h2 e2
    refine ⟨by simp [a], by simp [b], fun k => ?_⟩
    have ck := c k
    by_cases q : j = k
    · subst q
      have e1 : valV ((j, u) :: r') j = some u := by simp [valV]
      rw [e1]
      exact ⟨d, by simp [lookD], Isd.dp hs (isd_of_dat ed) h1⟩
    · have e1 : valV ((j, u) :: r') k = valV r' k := by simp [valV, q]
      have e2 : lookD ((j, d) :: ds') k = lookD ds' k := by simp [lookD, q]
      rw [e1, e2]
      exact ck
theorem lookD_mem {ds : List (List Key × PyData)} {k : List Key} {d : PyData} (h : lookD ds k = some d) : (k, d) ∈ ds := by
  simp only [lookD, Option.map_eq_some_iff] at h
  obtain ⟨p, h, rfl⟩ := h
  have e := List.find?_some h
  have e' : p.1 = k := by simpa using e
  have m := List.mem_of_find?_eq_some h
  rw [← e']
  exact m
theorem lookD_of {ds : List (List Key × PyData)} (n : (ds.map (·.1)).Nodup) {p : List Key × PyData} (m : p ∈ ds) : lookD ds p.1 = some p.2 := by
  induction ds with
  | nil => cases m
  | cons q ds ih =>
    rw [List.map_cons, List.nodup_cons] at n
    rcases List.mem_cons.mp m with rfl | m
    · simp [lookD]
    · have ne : q.1 ≠ p.1 := fun e => n.1 (by rw [e]; exact List.mem_map_of_mem m)
      have := ih n.2 m
      simpa [lookD, ne] using this
theorem up_eqTe {neg : Bool} : Up2 K (rEqTe neg K) (rEqT neg) := fun x y s H lx ly Q0 Q hs rx ry h k => by
  obtain ⟨as, e1, h⟩ := opt_ok h
  obtain ⟨bs, e2, h⟩ := opt_ok h
  obtain ⟨ds, e3, h⟩ := opt_ok h
  obtain ⟨es, e4, ⟨h1, h2, nd⟩, h⟩ := opt_ok h
  obtain ⟨da, us, o, rfl, hh, hd, r⟩ := dicT_ok hs rx e1
  obtain ⟨db, vs, o', rfl, hh', hd', r'⟩ := dicT_ok hs ry e2
  obtain ⟨l1, m1, c1⟩ := datK_dp hs r e3
  obtain ⟨l2, m2, c2⟩ := datK_dp hs r' e4
  let tell : List Key → Bool := fun j => match lookD ds j, lookD es j with
    | some d, some e => PyData.eqv d e
    | _, _ => false
  refine ⟨da, db, us, vs, tell, rfl, rfl, hd.rd hh, hd'.rd hh', fun p hp => ?_, ?_⟩
  · have q1 : valV us p.1 = some p.2 := by
      have nd' : (us.map (·.1)).Nodup := by rw [m1]; exact nd
      clear c1 m1 l1 r e3 hd hh
      induction us with
      | nil => cases hp
      | cons q us ih =>
        rw [List.map_cons, List.nodup_cons] at nd'
        rcases List.mem_cons.mp hp with rfl | hp
        · simp [valV]
        · have ne : q.1 ≠ p.1 := fun e => nd'.1 (by rw [e]; exact List.mem_map_of_mem hp)
          have := ih hp nd'.2
          simpa [valV, ne] using this
    have a1 := c1 p.1
    rw [q1] at a1
    obtain ⟨d, ed, dd⟩ := a1
    have a2 := c2 p.1
    cases q2 : valV vs p.1 with
    | none =>
      rw [q2] at a2
      simp only [tell, ed, a2]
    | some v =>
      rw [q2] at a2
      obtain ⟨e, ee, de⟩ := a2
      exact ⟨d, e, dd, de, h1 _ (lookD_mem ed), h2 _ (lookD_mem ee), by simp only [tell, ed, ee]⟩
  · have e : (us.length == vs.length && us.all fun p => tell p.1) = eqD ds es := by
      unfold eqD
      rw [l1, l2]
      congr 1
      have q : (us.all fun p => tell p.1) = (us.map (·.1)).all tell := by rw [List.all_map]; rfl
      rw [q, m1, List.all_map, Bool.eq_iff_iff, List.all_eq_true, List.all_eq_true]
      refine forall_congr' fun p => forall_congr' fun hp => ?_
      have z := lookD_of nd hp
      simp only [Function.comp, tell, z]
      cases lookD es p.1 <;> exact Iff.rfl
    rw [e]
    exact k _ _ _ _ h (.refl _ _) hs .bl
variable {X : Cx} [GG X.K] {e a b : Expr} {te ta tb : LTE} {pos p : Pos} {es : List Expr} {tas : LTA}
theorem le_eqT (hu : X.A.units + 65 < cLine) (ha : LE X a ta) (hb : LE X b tb) : LE X (.Compare a [.Eq] [b] pos) (lOp (rEqT false) ta tb) := le_cmp (op_eqTe hu) up_eqTe ha hb (nomark _)
theorem le_neT (hu : X.A.units + 65 < cLine) (ha : LE X a ta) (hb : LE X b tb) : LE X (.Compare a [.NotEq] [b] pos) (lOp (rEqT true) ta tb) := le_cmp (op_neTe hu) up_eqTe ha hb (nomark _)
theorem lt_eqT (hu : X.A.units + 65 < cLine) (ha : LE X a ta) (hb : LE X b tb) : LT X (.Compare a [.Eq] [b] pos) (lB (lOp (rEqT false) ta tb)) := lt_cmp (op_eqTe hu) up_eqTe ha hb (nomark _)
theorem lt_neT (hu : X.A.units + 65 < cLine) (ha : LE X a ta) (hb : LE X b tb) : LT X (.Compare a [.NotEq] [b] pos) (lB (lOp (rEqT true) ta tb)) := lt_cmp (op_neTe hu) up_eqTe ha hb (nomark _)
class Sor (α : Type) [Cod α] where
  ali : ∀ a b : α, PySem.W.alike (Cod.den a) (Cod.den b) = true
  tup : ∀ a : α, ∃ x r, Cod.den a = .tuple (x :: r)
  shal : Cod.dep α ≤ 62
def sortD {α : Type} [Cod α] (xs : List α) : List α := xs.mergeSort (PySem.W.dataLe false Cod.den)
def rSortD (α : Type) [Cod α] : List LV → LS → (List LV → LS → Prop) → Prop := fun vs s Q => one1 vs fun x => opt (seqL x s) fun xs => ∃ bs : List α, xs = bs.map Cod.enc ∧ Q ((sortD bs).map Cod.enc) s
theorem pairUp {α : Type} [Cod α] : ∀ {bs : List α} {us : List V}, RVs K s H (bs.map Cod.enc) us → ∃ ps : List (α × V), ps.map (·.1) = bs ∧ ps.map (·.2) = us ∧ ∀ p ∈ ps, RV K s H (Cod.enc p.1) p.2
  | [], us, h => ⟨[], rfl, by simp only [List.map_nil, RVs] at h; simp [h], fun _ m => by cases m⟩
  | b :: bs, us, h => by
    simp only [List.map_cons, RVs] at h
    obtain ⟨u, r, rfl, h1, h2⟩ := h
    obtain ⟨ps, e1, e2, q⟩ := pairUp h2
    exact ⟨(b, u) :: ps, by simp [e1], by simp [e2], fun p m => by
      rcases List.mem_cons.mp m with rfl | m
      · exact h1
      · exact q p m⟩
theorem pairDown {α : Type} [Cod α] : ∀ {ps : List (α × V)}, (∀ p ∈ ps, RV K s H (Cod.enc p.1) p.2) → RVs K s H ((ps.map (·.1)).map Cod.enc) (ps.map (·.2))
  | [], _ => .nil
  | p :: ps, h => .cons (h p List.mem_cons_self) (pairDown fun q m => h q (List.mem_cons_of_mem _ m))
theorem up_sortD {α : Type} [Cod α] : UpCL K (rSortedD K (Cod.den (α := α))) (rSortD α) := fun vs s H lvs Q0 Q hs r h k => by
  obtain ⟨x, rfl, h⟩ := one1_ok h
  obtain ⟨xs, e1, bs, rfl, h⟩ := opt_ok h
  obtain ⟨v, rfl, r1⟩ := r.one
  obtain ⟨q, us, rfl, hh, r2⟩ := seqL_ok hs r1 e1
  obtain ⟨ps, rfl, rfl, al⟩ := pairUp r2
  refine ⟨q, ps, rfl, SqL.of hh, fun p m => Isd.dp hs (isd_enc s p.1) (al p m), fun l np => ?_⟩
  have e : sortD (ps.map (·.1)) = (ps.mergeSort (PySem.W.dataLe false fun p => Cod.den p.1)).map (·.1) := by
    unfold sortD
    rw [List.map_mergeSort]
    exact fun a _ b _ => rfl
  rw [e] at h
  exact k _ _ _ _ h (.refl _ _) hs (pairDown fun p m => al p ((List.mergeSort_perm _ _).mem_iff.mp m)) l np
theorem ll_sortedD (α : Type) [Cod α] [S : Sor α] (hu : X.A.units + 64 < cLine) (hg : Gl X "sorted") (hm : X.mg "sorted" = none) (ha : LA X (e :: es) tas) (he : starEach (e :: es) X.env = (false, eval e X.env) :: starEach es X.env := by rfl) (hpl : (backTo pos (starEach es X.env)).any (·.1) = false := by rfl) :
    LL X (.Call (.Name "sorted" p) (e :: es) [] pos) (lCBL (rSortD α) tas) := ll_cb (cr_sortedD S.ali S.tup (fun a => Nat.le_trans (Cod.hdep a) S.shal) hu) up_sortD hg hm (by decide +kernel) ha (by decide) (by decide) he hpl
end
instance : Sor Nm := ⟨fun a b => by simp [Cod.den, nmD, PySem.W.alike, PySem.W.alikeAll], fun a => ⟨_, _, rfl⟩, by decide⟩
instance : Sor (Int × Nm) := ⟨fun a b => by simp [Cod.den, nmD, PySem.W.alike, PySem.W.alikeAll], fun a => ⟨_, _, rfl⟩, by decide⟩
end L3

namespace L3
open PySem PySem.Spec PyProof.Rows L2
def nmK (n : Nm) : List Key := [.inl n.hand, .inl n.place, .inl n.k]
theorem nmK_inj {a b : Nm} : nmK a = nmK b ↔ a = b := by
  cases a; cases b
  simp [nmK]
theorem keyT_nm (n : Nm) : keyT (nmK n) = nmL n := rfl
theorem keysL_nm (n : Nm) : keysL [.int n.hand, .int n.place, .int n.k] = some (nmK n) := rfl
section
variable {β : Type}
def encM (v : β → LV) (m : List (Nm × β)) : List (List Key × LV) := m.map fun p => (nmK p.1, v p.2)
def getA : List (Nm × β) → Nm → Option β
  | [], _ => none
  | (j, x) :: r, k => if j = k then some x else getA r k
def putA (m : List (Nm × β)) (k : Nm) (x : β) : List (Nm × β) := if (m.any fun p => decide (p.1 = k)) = true then m.map (fun p => if p.1 = k then (p.1, x) else p) else m ++ [(k, x)]
def putAll (m : List (Nm × β)) (l : List (Nm × β)) : List (Nm × β) := l.foldl (fun m p => putA m p.1 p.2) m
theorem putAll_snoc (m l : List (Nm × β)) (p : Nm × β) : putAll m (l ++ [p]) = putA (putAll m l) p.1 p.2 := by simp [putAll]
theorem valL_enc (v : β → LV) (m : List (Nm × β)) (n : Nm) : valL (encM v m) (nmK n) = (getA m n).map v := by
  induction m with
  | nil => rfl
  | cons p m ih =>
    obtain ⟨j, x⟩ := p
    show (if nmK j = nmK n then some (v x) else valL (encM v m) (nmK n)) = Option.map v (if j = n then some x else getA m n)
    by_cases h : j = n
    · rw [if_pos h, if_pos (by rw [h])]; rfl
    · rw [if_neg h, if_neg (fun e => h (nmK_inj.mp e)), ih]
theorem putD_enc (v : β → LV) (m : List (Nm × β)) (n : Nm) (x : β) : putD (encM v m) (nmK n) (v x) = encM v (putA m n x) := by
  have e : ((encM v m).any fun p => decide (p.1 = nmK n)) = m.any fun p => decide (p.1 = n) := by
    unfold encM
    rw [List.any_map]
    congr 1
    funext p
    simp [nmK_inj]
  unfold putD putA
  rw [e]
  split
  · unfold encM
    rw [List.map_map, List.map_map]
    refine List.map_congr_left fun p _ => ?_
    by_cases h : p.1 = n
    · simp [h]
    · simp [h, nmK_inj]
  · unfold encM
    rw [List.map_append]
    rfl
theorem encM_len (v : β → LV) (m : List (Nm × β)) : (encM v m).length = m.length := by simp [encM]
theorem putA_len (m : List (Nm × β)) (k : Nm) (x : β) : (putA m k x).length ≤ m.length + 1 := by
  unfold putA
  split <;> simp
theorem putAll_len (l : List (Nm × β)) : ∀ m : List (Nm × β), (putAll m l).length ≤ m.length + l.length := by
  induction l with
  | nil => intro m; simp [putAll]
  | cons p l ih =>
    intro m
    have := ih (putA m p.1 p.2)
    have := putA_len m p.1 p.2
    have e : putAll m (p :: l) = putAll (putA m p.1 p.2) l := rfl
    rw [e, List.length_cons]
    omega
theorem encM_keys (v : β → LV) (m : List (Nm × β)) : ((encM v m).map fun p => keyT p.1) = (m.map (·.1)).map nmL := by
  unfold encM
  rw [List.map_map, List.map_map]
  rfl
theorem encM_items (v : β → LV) (m : List (Nm × β)) : ((encM v m).map fun p => LV.tup [keyT p.1, p.2]) = m.map fun p => .tup [nmL p.1, v p.2] := by
  unfold encM
  rw [List.map_map]
  rfl
theorem putA_mem {m : List (Nm × β)} {k j : Nm} {x : β} : j ∈ (putA m k x).map (·.1) ↔ j ∈ m.map (·.1) ∨ j = k := by
  unfold putA
  split
  · next h =>
    have e : (m.map fun p => if p.1 = k then (p.1, x) else p).map (·.1) = m.map (·.1) := by
      rw [List.map_map]
      refine List.map_congr_left fun p _ => ?_
      by_cases q : p.1 = k <;> simp [q]
    rw [e]
    constructor
    · exact .inl
    · rintro (h' | rfl)
      · exact h'
      · rw [List.any_eq_true] at h
        obtain ⟨p, hp, q⟩ := h
        have q : p.1 = j := by simpa using q
        rw [← q]
        exact List.mem_map_of_mem hp
  · rw [List.map_append, List.mem_append]
    simp
theorem putA_nodup {m : List (Nm × β)} {k : Nm} {x : β} (h : (m.map (·.1)).Nodup) : ((putA m k x).map (·.1)).Nodup := by
  unfold putA
  split
  · have e : (m.map fun p => if p.1 = k then (p.1, x) else p).map (·.1) = m.map (·.1) := by
      rw [List.map_map]
      refine List.map_congr_left fun p _ => ?_
      by_cases q : p.1 = k <;> simp [q]
    rw [e]
    exact h
  · next n =>
    rw [List.map_append, List.map_cons, List.map_nil]
    rw [List.nodup_append]
    refine ⟨h, by simp, ?_⟩
    rintro a ha b hb rfl
    rw [List.mem_singleton] at hb
    apply n
    rw [List.any_eq_true]
    obtain ⟨p, hp, q⟩ := List.mem_map.mp ha
    exact ⟨p, hp, by rw [q, hb]; simp⟩
theorem putAll_nodup {l : List (Nm × β)} : ∀ {m : List (Nm × β)}, (m.map (·.1)).Nodup → ((putAll m l).map (·.1)).Nodup := by
  induction l with
  | nil => exact fun h => h
  | cons p l ih => exact fun h => ih (putA_nodup h)
theorem getA_none {m : List (Nm × β)} {n : Nm} : getA m n = none ↔ n ∉ m.map (·.1) := by
  induction m with
  | nil => simp [getA]
  | cons p m ih =>
    obtain ⟨j, x⟩ := p
    simp only [getA, List.map_cons, List.mem_cons, not_or]
    by_cases h : j = n
    · rw [if_pos h]; simp [h]
    · rw [if_neg h, ih]; exact ⟨fun q => ⟨fun e => h e.symm, q⟩, fun q => q.2⟩
theorem getA_isSome {m : List (Nm × β)} {n : Nm} : (getA m n).isSome = decide (n ∈ m.map (·.1)) := by
  cases e : getA m n with
  | none => rw [decide_eq_false (getA_none.mp e)]; rfl
  | some x =>
    rw [decide_eq_true]; rfl
    exact Decidable.of_not_not fun h => by rw [getA_none.mpr h] at e; cases e
theorem getA_mem {m : List (Nm × β)} {n : Nm} {x : β} (h : getA m n = some x) : (n, x) ∈ m := by
  induction m with
  | nil => cases h
  | cons p m ih =>
    obtain ⟨j, y⟩ := p
    simp only [getA] at h
    by_cases e : j = n
    · rw [if_pos e] at h; cases h; subst e; exact List.mem_cons_self
    · rw [if_neg e] at h; exact List.mem_cons_of_mem _ (ih h)
theorem getA_of {m : List (Nm × β)} (nd : (m.map (·.1)).Nodup) {n : Nm} {x : β} (h : (n, x) ∈ m) : getA m n = some x := by
  induction m with
  | nil => cases h
  | cons p m ih =>
    obtain ⟨j, y⟩ := p
    rw [List.map_cons, List.nodup_cons] at nd
    rcases List.mem_cons.mp h with e | h
    · cases e; simp [getA]
    · have ne : j ≠ n := by rintro rfl; exact nd.1 (List.mem_map_of_mem (f := (·.1)) h)
      simp only [getA, if_neg ne]
      exact ih nd.2 h
theorem putA_new {m : List (Nm × β)} {k : Nm} {x : β} (h : k ∉ m.map (·.1)) : putA m k x = m ++ [(k, x)] := by
  unfold putA
  rw [if_neg]
  rw [List.any_eq_true]
  rintro ⟨p, hp, q⟩
  have q : p.1 = k := by simpa using q
  exact h (q ▸ List.mem_map_of_mem hp)
theorem putAll_new {l : List (Nm × β)} : ∀ {m : List (Nm × β)}, ((m ++ l).map (·.1)).Nodup → putAll m l = m ++ l := by
  induction l with
  | nil => intro m _; simp [putAll]
  | cons p l ih =>
    intro m h
    have e : putAll m (p :: l) = putAll (putA m p.1 p.2) l := rfl
    have n : p.1 ∉ m.map (·.1) := by
      rw [List.map_append, List.map_cons, List.nodup_append] at h
      exact fun q => h.2.2 _ q _ List.mem_cons_self rfl
    rw [e, putA_new n, ih (by simpa using h)]
    simp
variable [Cod β]
def denM (m : List (Nm × β)) : List (List Key × PyData) := m.map fun p => (nmK p.1, Cod.den p.2)
theorem datK_enc (m : List (Nm × β)) : datK (encM Cod.enc m) = some (denM m) := by
  induction m with
  | nil => rfl
  | cons p m ih =>
    show ((datV (Cod.enc p.2)).bind fun d => (datK (encM Cod.enc m)).map ((nmK p.1, d) :: ·)) = _
    rw [Cod.datV, ih]
    rfl
theorem shD_enc (h : Cod.dep β ≤ 64) (m : List (Nm × β)) : shD (denM m) := fun p hp => by
  obtain ⟨q, _, rfl⟩ := List.mem_map.mp hp
  exact shaped_cod h q.2
theorem nodup_den {m : List (Nm × β)} (h : (m.map (·.1)).Nodup) : ((denM m).map (·.1)).Nodup := by
  have e : (denM m).map (·.1) = (m.map (·.1)).map nmK := by unfold denM; rw [List.map_map, List.map_map]; rfl
  rw [e]
  exact List.pairwise_map.mpr (h.imp fun {a b} n q => n (nmK_inj.mp q))
theorem eqD_self [DecidableEq β] {m : List (Nm × β)} (nd : (m.map (·.1)).Nodup) : eqD (denM m) (denM m) = true := by
  unfold eqD
  rw [beq_self_eq_true, Bool.true_and, List.all_eq_true]
  intro p hp
  have := lookD_of (nodup_den nd) hp
  rw [this]
  obtain ⟨q, _, rfl⟩ := List.mem_map.mp hp
  show PyData.eqv (Cod.den q.2) (Cod.den q.2) = true
  rw [Cod.eqv]
/-- == of a dict with itself, as it were -/
theorem eqT_same [DecidableEq β] {neg : Bool} {x y : LV} {s : LS} {Q : LVK} {m : List (Nm × β)} (hd : Cod.dep β ≤ 64) (nd : (m.map (·.1)).Nodup) (hx : dicT x s = some (encM Cod.enc m)) (hy : dicT y s = some (encM Cod.enc m)) (q : Q (.bl (!neg)) s) : rEqT neg x y s Q := by
  unfold rEqT
  simp only [hx, hy, datK_enc, opt_some]
  refine ⟨⟨shD_enc hd m, shD_enc hd m, nodup_den nd⟩, ?_⟩
  rw [eqD_self nd, Bool.xor_true]
  exact q
end
theorem lift_mono (g : CTg) {v : LV} {σ : LSt} {s : LS} {Y Y' : LSt → LS → Prop} {E : LX} (h : ∀ σ2 s2, Y σ2 s2 → Y' σ2 s2) (q : g.lift v σ s Y E) : g.lift v σ s Y' E := by
  cases g with
  | one i => exact h _ _ q
  | many is =>
    unfold CTg.lift lgTup at q ⊢
    cases v with
    | tup xs =>
      simp only at q ⊢
      cases e : lSets is xs σ with
      | some σ' => rw [e] at q; exact h _ _ q
      | none => rw [e] at q; exact q.elim
    | _ => exact q
theorem lc_inv {α : Type} {enc : α → LV} {Da : Addr} {g : CTg} {te : LTE} {stb : LS → Prop} {σw : LSt} {Q : List LV → LS → Prop} {s : LS} {xs : List α} (I : List α → List LV → LS → Prop) (h0 : I [] [] (put s Da (.lst [])))
    (hst : ∀ q acc s', I q acc s' → stb s') (hlen : xs.length < 16777216)
    (hs : ∀ q x r acc s' (Y : LVK), xs = q ++ x :: r → I q acc s' → s' Da = some (.lst acc) → (∀ y s4, s4 Da = some (.lst acc) → I (q ++ [x]) (acc ++ [y]) (put s4 Da (.lst (acc ++ [y]))) → Y y s4) → g.lift (enc x) σw s' (fun σ2 s2 => te σ2 s2 Y fun _ _ => False) fun _ _ => False)
    (hle : ∀ q acc s', I q acc s' → acc.length = q.length) (hQ : ∀ acc s', I xs acc s' → s' Da = some (.lst acc) → Q acc (del s' Da))
    : lcLoop Da g lYes te stb σw Q (xs.map enc) (put s Da (.lst [])) := by
  have go : ∀ (r q : List α) (acc : List LV) (s' : LS), xs = q ++ r → I q acc s' → s' Da = some (.lst acc) → lcLoop Da g lYes te stb σw Q (r.map enc) s' := by
    intro r
    induction r with
    | nil =>
      intro q acc s' e i z
      rw [List.append_nil] at e
      subst e
      refine ⟨hst _ _ _ i, ?_⟩
      rw [z]
      exact hQ acc s' i z
    | cons x r ih =>
      intro q acc s' e i z
      refine ⟨hst _ _ _ i, ?_⟩
      refine lift_mono g (fun σ2 s2 h => ⟨fun _ => h, fun q => by cases q⟩) (hs q x r acc s' _ e i z fun y s4 z4 i4 => ?_)
      show match s4 Da with
        | some (.lst acc) => acc.length < 16777216 ∧ lcLoop Da g lYes te stb σw Q (r.map enc) (put s4 Da (.lst (acc ++ [y])))
        | _ => False
      rw [z4]
      have l := hle _ _ _ i
      have l2 := congrArg List.length e
      rw [List.length_append, List.length_cons] at l2
      exact ⟨by omega, ih (q ++ [x]) _ _ (by rw [e]; simp) i4 put_same⟩
  exact go xs [] [] _ rfl h0 put_same
theorem enum_eq {α : Type} (f : α → LV) (xs : List α) : ((rgL 0 (xs.map f).length).zip (xs.map f) |>.map fun p => LV.tup [p.1, p.2]) = xs.zipIdx.map fun p => .tup [.int ((p.2 : Nat) : Int), f p.1] := by
  apply List.ext_getElem?
  intro i
  simp only [List.getElem?_map, List.getElem?_zip_eq_some, List.getElem?_zipIdx, rgL, List.length_map, Int.sub_zero, Int.toNat_natCast]
  by_cases h : i < xs.length
  · have e : (((List.range xs.length).map fun i => LV.int (0 + (i : Nat))).zip (xs.map f))[i]? = some (.int ((i : Nat) : Int), f xs[i]) := by
      rw [List.getElem?_zip_eq_some]
      simp [h]
    rw [e]
    simp [h]
  · have e : (((List.range xs.length).map fun i => LV.int (0 + (i : Nat))).zip (xs.map f))[i]? = none := by
      rw [List.getElem?_eq_none]
      simp
      omega
    rw [e]
    simp [Nat.le_of_not_lt h]
theorem sub_of {s s' : LS} {p : Addr} {o : LO} (h : Ext s s') (e : s' p = some o) : Sub (put s p o) s' := fun a => by
  by_cases q : a = p
  · subst q; rw [put_same, e]; exact .inr rfl
  · rw [put_ne q]
    exact h.sub a
end L3

namespace L3
open PySem PySem.Spec PyProof.Rows L2 LamX NdefX
@[irreducible] def CloGo (sp : List LV → LSp) (xs vs : List LV) (s1 : LS) (Q : LVK) : Prop := ncls vs = true ∧ ∃ sv, Sub sv s1 ∧ (∀ a o, sv a = some o → nclO o = true) ∧ sp xs vs sv (fun v s2 => (∀ a, sv a = none → s1 a ≠ none → s2 a = none) → Q v (mergeS s1 sv s2)) fun _ _ => False
theorem CloGo.mk {sp : List LV → LSp} {xs vs : List LV} {s1 sv : LS} {Q : LVK} (n : ncls vs = true) (h : Sub sv s1) (c : ∀ a o, sv a = some o → nclO o = true) (q : sp xs vs sv (fun v s2 => (∀ a, sv a = none → s1 a ≠ none → s2 a = none) → Q v (mergeS s1 sv s2)) fun _ _ => False) : CloGo sp xs vs s1 Q := by
  unfold CloGo
  exact ⟨n, sv, h, c, q⟩
def lClo2 (ck : Ck) (sp : List LV → LSp) (i : Nat) (t : LTA) : LTE := fun σ s Q E => match σ[i]? with
  | some (some (.clo k xs)) => k = ck ∧ ncls xs = true ∧ t σ s (fun vs s1 => CloGo sp xs vs s1 Q) E
  | _ => False
theorem lClo2_eq (ck : Ck) (sp : List LV → LSp) (i : Nat) (t : LTA) : lClo2 ck sp i t = lClo ck sp i t := by
  funext σ s Q E
  unfold lClo2 lClo CloGo
  rfl
theorem le_clo2 {X : Cx} [GG X.K] {ck : Ck} {ps : List Str} {sp : List LV → LSp} {i k : Nat} {x : Str} {e : Expr} {es : List Expr} {p pos : Pos} {t : LTA} (F : CloOk X.prog X.w X.K X.mg X.base k ck ps sp) (hr : Room k X.A) (hG : GIn X.K X.base) (nfr : ck.fr.Nodup)
    (hN : X.N[i]? = some x) (hv : Vis X.env.scope x) (ha : LA X (e :: es) t) (hd : (x == ("__debug__" : Str)) = false := by decide) (hcd : (x == ("__classdict__" : Str)) = false := by decide)
    (he : starEach (e :: es) X.env = (false, eval e X.env) :: starEach es X.env := by rfl) (hpl : (backTo pos (starEach es X.env)).any (·.1) = false := by rfl) : LE X (.Call (.Name x p) (e :: es) [] pos) (lClo2 ck sp i t) := by
  rw [lClo2_eq]
  exact le_clo (p := p) F hr hG nfr hN hv ha hd hcd he hpl
theorem lLoop_rg0 {b : Int} {g : LTG} {tb : LTS} {stb : LS → Prop} {D : LEnds} (I : Nat → LSt → LS → Prop) {σ : LSt} {s : LS} (h0 : I 0 σ s) (hst : ∀ i σ s, I i σ s → stb s)
    (hs : ∀ (i : Nat) σ s N, i < b.toNat → I i σ s → (∀ σ' s', I (i + 1) σ' s' → N σ' s') → g (.int ((i : Nat) : Int)) σ s (fun σ2 s2 => tb (D.wlp N) σ2 s2) (fun C s1 => D.ex C σ s1))
    (hn : ∀ σ s, I b.toNat σ s → D.nx σ s) : lLoop g tb stb D (rgL 0 b) σ s := by
  refine lLoop_rg I h0 hst (fun i σ s N hi i0 k => ?_) (fun σ s h => ?_)
  · rw [Int.sub_zero] at hi
    have := hs i σ s N hi i0 k
    rw [Int.zero_add]
    exact this
  · rw [Int.sub_zero] at h
    exact hn σ s h
theorem stb_lst (xs : List LV) (ys : List LV) (s : LS) : stbOf (.lst xs) ys s := trivial
end L3

namespace L3
open PySem PySem.Spec PyProof.Rows L2
section
variable {X : Cx} {pins : List (Addr × Obj)} {σ : L2.St} {H : Hp} {s : Shared} {a : Addr} {A : Around} {E : Value → Shared → Prop}
theorem d_clearT {kvs : List (List Key × V)} {Q : Value → Shared → Prop} (I : Inv X pins σ H s) (e : H a = some (.dT kvs)) (h : ∀ s', Inv X pins σ (upd H a (.dT [])) s' → Q .none s') : wpAny (model X.prog X.w) A (call (.builtin "dict.clear") [.ref a]) Q E s := by
  obtain ⟨z, hd, xs, rel, dd⟩ := dt_of I.hok e
  obtain ⟨es, ep, hr, hsz, he⟩ := dd.raw
  refine call_meetsIn PySem.F.slot_dict_clear hr.typeIs PySem.F.entry_dict_clear (PySem.F.args_dict_clear_1 _) (meets_dict_clear_raw a) ⟨es, ep, hr, by rw [hsz, ← Paired.length rel]; exact z, fun h' hr' hs => h _ ?_⟩
  have he : ∃ q, h'.get? a = some q := by obtain ⟨q, hq, _⟩ := hr'; exact ⟨q, hq⟩
  obtain ⟨o, ho, hc, hdat⟩ := hr'
  exact d_write (t' := s.toks) I (by rw [e]; exact True.intro) hs he ⟨Nat.zero_le _, hd, [], .nil, o, #[], ep + 1, ho, hc, hdat, rfl, List.nodup_nil⟩
end
def rDClearT : V → List V → Hp → VK → Prop := fun x vs H Q => ∃ (a : Addr) (kvs : List (List Key × V)), x = .ref a ∧ vs = [] ∧ H a = some (.dT kvs) ∧ Q .non (upd H a (.dT []))
theorem mtd_clearT {X : Cx} : MtR X "dict.clear" rDClearT := by
  intro pins s σ H x vs v us Q I rx rv h
  obtain ⟨a, kvs, ex, ev, e, q⟩ := h
  subst ex
  subst ev
  obtain rfl : v = Value.ref a := rx
  have hus := rv.zero
  subst hus
  exact d_clearT I e fun s' I' => ⟨.non, _, I', rfl, q⟩
/-- the dict with tuples as keys in the store at a -/
def atT (x : LV) (s : LS) (k : Addr → List (List Key × LV) → Prop) : Prop := match x with
  | .ref a => (match s a with
    | some (.dT xs) => k a xs
    | _ => False)
  | _ => False
def lDClear (to : LTE) : LTE := fun σ s Q E => to σ s (fun x s1 => atT x s1 fun a _ => Q .non (put s1 a (.dT []))) E
@[simp] theorem lDClear_ap (to : LTE) (σ : LSt) (s : LS) (Q : LVK) (E : LX) : lDClear to σ s Q E = (to σ s (fun x s1 => atT x s1 fun a _ => Q .non (put s1 a (.dT []))) E) := rfl
section
variable {X : Cx} [GG X.K] {o : Expr} {to : LTE} {apos cpos : Pos}
theorem le_dclear (ho : LE X o to) (hbase : attributeBase o "clear" X.env (eval o X.env) = eval o X.env := by rfl) (hline : (apos.endLine == cpos.line) = true := by rfl) :
    LE X (.Call (.Attribute o "clear" apos) [] [] cpos) (lDClear to) := fun s0 H0 E tk => (pe_bm0 PySem.F.plainAttrs_dict PySem.F.slot_dict_clear PySem.F.type_dict_clear mtd_clearT (ho s0 H0 E tk) hbase hline).imp fun σ H Q ⟨σl, s, Q0, E1, hσ, hs, st, hE, h, k⟩ => by
  refine ⟨σl, s, _, E1, hσ, hs, st, hE, h, fun lx s1 x H1 h st1 hs1 rx => ?_⟩
  cases lx with
  | ref a =>
    simp only [atT] at h
    split at h
    · next kvs e =>
      obtain ⟨us, hh, q⟩ := hs1 a _ e
      have nn : s1 a ≠ none ∨ H1 a = none := .inl (by rw [e]; simp)
      have ex := rx.ref'
      subst ex
      exact ⟨.inr (.inr (.inl ⟨rfl, .inr ⟨us, hh⟩⟩)), a, us, rfl, rfl, hh, k _ _ _ _ h (st1.trans (.put nn)) (hs1.put nn ⟨[], upd_same, by simp only [RVk]⟩) .non⟩
    · exact h.elim
  | _ => exact h.elim
end
end L3

namespace L3
open PySem PySem.Spec PyProof.Rows L2
/-- x, read in s1, is y, read in s2 -/
def Dz (s1 s2 : LS) (x y : LV) : Prop := ∀ (K : PySem.W.Frag) [GG K] H v, RelS K s1 H → RV K s1 H x v → RV K s2 H y v
def Dzs (s1 s2 : LS) (xs ys : List LV) : Prop := ∀ (K : PySem.W.Frag) [GG K] H us, RelS K s1 H → RVs K s1 H xs us → RVs K s2 H ys us
section
variable {s1 s2 : LS}
theorem Frz.of {x y : LV} (h : Sub s2 s1) (d : Dz s1 s2 x y) : Frz x s1 y s2 := fun K _ H v hs r => ⟨d K H v hs r, h.rel hs, h.step⟩
theorem Dz.same (h : Sub s2 s1) (x : LV) : Dz s1 s2 x x := fun K _ H v hs r => r.mono h.step
theorem Dzs.nil : Dzs s1 s2 [] [] := fun K _ H us hs r => by simp only [RVs] at r ⊢; exact r
theorem Dzs.cons {x y : LV} {xs ys : List LV} (d : Dz s1 s2 x y) (ds : Dzs s1 s2 xs ys) : Dzs s1 s2 (x :: xs) (y :: ys) := fun K _ H us hs r => by
  simp only [RVs] at r ⊢
  obtain ⟨u, us, rfl, r1, r2⟩ := r
  exact ⟨u, us, rfl, d K H u hs r1, ds K H us hs r2⟩
theorem Dzs.map {α : Type} {f g : α → LV} : ∀ {xs : List α}, (∀ x ∈ xs, Dz s1 s2 (f x) (g x)) → Dzs s1 s2 (xs.map f) (xs.map g)
  | [], _ => .nil
  | x :: xs, h => by
    rw [List.map_cons, List.map_cons]
    exact .cons (h x List.mem_cons_self) (Dzs.map fun y hy => h y (List.mem_cons_of_mem _ hy))
theorem Dzs.same (h : Sub s2 s1) : ∀ xs : List LV, Dzs s1 s2 xs xs
  | [] => .nil
  | x :: xs => .cons (.same h x) (Dzs.same h xs)
theorem Dz.lst {a : Addr} {xs ys : List LV} (e : s1 a = some (.lst xs)) (n : s2 a = none) (d : Dzs s1 s2 xs ys) : Dz s1 s2 (.ref a) (.lst ys) := fun K _ H v hs r => by
  obtain ⟨us, hh, q⟩ := hs.lst e
  simp only [RV]
  exact ⟨a, us, r.ref', n, hh, d K H us hs q⟩
theorem Dz.dT {a : Addr} {kvs : List (List Key × LV)} (h : Sub s2 s1) (e : s1 a = some (.dT kvs)) (n : s2 a = none) : Dz s1 s2 (.ref a) (.dT kvs) := fun K _ H v hs r => by
  obtain ⟨us, hh, q⟩ := hs a _ e
  simp only [RV]
  exact ⟨a, us, _, r.ref', n, hh, .inl rfl, q.mono h.step⟩
theorem Dz.tup {xs ys : List LV} (h : Sub s2 s1) (d : Dzs s1 s2 xs ys) : Dz s1 s2 (.tup xs) (.tup ys) := fun K _ H v hs r => by
  simp only [RV] at r ⊢
  obtain ⟨a, us, e, n, hh, q⟩ := r
  refine ⟨a, us, e, ?_, hh, d K H us hs q⟩
  rcases h a with z | z
  · exact z
  · rw [z]; exact n
theorem fin_of {Q : LVK} {x y : LV} (h : Sub s2 s1) (d : Dz s1 s2 x y) (q : Q y s2) : ∃ y s2, Frz x s1 y s2 ∧ Q y s2 := ⟨y, s2, .of h d, q⟩
/-- a list of new lists -/
theorem fin_lists {Q : LVK} {p : Addr} {β : Type} {f : β → LV} {prs : List (Addr × List β)} (e : s1 p = some (.lst (prs.map fun q => .ref q.1))) (he : ∀ q ∈ prs, s1 q.1 = some (.lst (q.2.map f))) (n : s2 p = none) (ne : ∀ q ∈ prs, s2 q.1 = none) (h : Sub s2 s1) (q : Q (.lst (prs.map fun q => .lst (q.2.map f))) s2) : ∃ y s2, Frz (.ref p) s1 y s2 ∧ Q y s2 :=
  fin_of h (.lst e n (.map fun z hz => .lst (he z hz) (ne z hz) (.same h _))) q
end
end L3

namespace L3
open PySem PySem.Spec PyProof.Rows L2
def rSetdT : V → List V → Hp → VK → Prop := fun x vs H Q => ∃ (a : Addr) (kvs : List (List Key × V)) (k : List Key) (b : Addr) (d : V), x = .ref a ∧ vs = [.ref b, d] ∧ H a = some (.dT kvs) ∧ H b = some (.tup (k.map kV)) ∧ kvs.length < sizeLine ∧
  (∀ v, valV kvs k = some v → Q v H) ∧ (valV kvs k = none → Q d (upd H a (.dT (putK kvs k d))))
theorem mt_setdT {X : Cx} (hu : X.A.units + 1 < cLine) : MtR X "dict.setdefault" rSetdT := by
  intro pins s σ H x vs v us Q I rx rv h
  obtain ⟨a, kvs, k, b, d, rfl, rfl, ha, hb, hl, q1, q2⟩ := h
  cases rx
  obtain ⟨u1, u2, rfl, r1, r2⟩ := vals2 rv
  cases r1
  obtain ⟨z, hd, xs, rel, dd⟩ := dt_of I.hok ha
  have hz : xs.length ≤ sizeLine := by rw [← Paired.length rel]; exact z
  have hl2 : (putK kvs k d).length ≤ sizeLine := by have := length_putK kvs k d; omega
  refine call_setdefault_heap (hsz := hz) (tupleKind_room_in1 hu) (key_of I.hok hb) hd dd (fun p hp => ?_) fun hn h' dd' hs => ?_
  · have r := rel.val k
    rw [hp] at r
    obtain ⟨v0, ev, rv⟩ : ∃ v0, valV kvs k = some v0 ∧ RelV v0 p.2 := by
      cases ev : valV kvs k with
      | none =>
        rw [ev] at r
        exact (show False from r).elim
      | some v0 =>
        rw [ev] at r
        exact ⟨v0, rfl, r⟩
    exact ⟨v0, H, I.tok _, rv, q1 v0 ev⟩
  · have r := rel.val k
    rw [hn] at r
    have e : valV kvs k = none := by
      cases ev : valV kvs k with
      | none => rfl
      | some v0 =>
        rw [ev] at r
        exact (show False from r).elim
    obtain ⟨o, es, ep, hq, h2, h3, h4, _, h5⟩ := dd'
    have I2 : Inv X pins σ (upd H a (.dT (putK kvs k d))) { s with heap := h', toks := s.toks + (tupleKind (mixKind X.prog X.w)).draws k } :=
      d_write I (by rw [ha]; exact True.intro) hs ⟨o, hq⟩ ⟨hl2, hd, _, (rel.put k hb r2).keeps (fun c ys ec => (by rw [upd_ne (ne_of ec ha (fun z => nomatch z))]; exact ec)), o, es, ep, hq, h2, h3, h4, h5⟩
    exact ⟨d, _, I2, r2, q2 e⟩
def rSetdL : LRm := fun x vs s Q => match vs with
  | [.tup ks, d] => atT x s fun a kvs => opt (keysL ks) fun k => kvs.length < 16777216 ∧ (∀ v, valL kvs k = some v → Q v s) ∧ (valL kvs k = none → Q d (put s a (.dT (putD kvs k d))))
  | _ => False
def lBMT (r : LRm) (to : LTE) (t : LTA) : LTE := fun σ s Q E => to σ s (fun x s1 => atT x s1 (fun _ _ => True) ∧ t σ s1 (fun vs s2 => r x vs s2 Q) E) E
theorem atT_ok {x : LV} {s : LS} {k : Addr → List (List Key × LV) → Prop} (h : atT x s k) : ∃ a kvs, x = .ref a ∧ s a = some (.dT kvs) ∧ k a kvs := by
  cases x with
  | ref a =>
    simp only [atT] at h
    split at h
    · next xs e => exact ⟨a, xs, rfl, e, h⟩
    · exact h.elim
  | _ => exact h.elim
section
variable {X : Cx} [GG X.K] {o e : Expr} {es : List Expr} {to : LTE} {tas : LTA} {apos cpos : Pos}
theorem up_setd {K : PySem.W.Frag} [GG K] : UpM K rSetdT rSetdL := fun x vs s H lx lvs Q0 Q hs rx rs h k => by
  unfold rSetdL at h
  split at h
  · next ks d =>
    obtain ⟨a, kvs, rfl, e, h⟩ := atT_ok h
    obtain ⟨kk, ek, hl, h1, h2⟩ := opt_ok h
    obtain ⟨us, hh, q⟩ := hs a _ e
    have nn : s a ≠ none ∨ H a = none := .inl (by rw [e]; simp)
    simp only [RVs] at rs
    obtain ⟨u1, _, rfl, r1, u2, _, rfl, r2, rfl⟩ := rs
    simp only [RV] at r1
    obtain ⟨b, us1, rfl, nb, hb, rk⟩ := r1
    rw [keysL_ok ek rk] at hb
    have hv := q.val kk
    refine ⟨a, us, kk, b, u2, rx.ref', rfl, hh, hb, by rw [q.length, sizeLine_eq]; exact hl, fun v ev => ?_, fun ev => ?_⟩
    · cases e1 : valL kvs kk with
      | none => rw [e1] at hv; rw [hv] at ev; cases ev
      | some lv =>
        rw [e1] at hv
        obtain ⟨u, eu, ru⟩ := hv
        rw [eu] at ev
        cases ev
        exact k _ _ _ _ (h1 _ e1) (.refl _ _) hs ru
    · cases e1 : valL kvs kk with
      | some lv =>
        rw [e1] at hv
        obtain ⟨u, eu, ru⟩ := hv
        rw [eu] at ev
        cases ev
      | none => exact k _ _ _ _ (h2 e1) (.put nn) (hs.put nn ⟨_, upd_same, (q.put kk r2).mono (.put nn)⟩) (r2.mono (.put nn))
  · exact h.elim
theorem le_setd (hu : X.A.units + 1 < cLine) (ho : LE X o to) (ha : LA X (e :: es) tas)
    (hbase : attributeBase o "setdefault" X.env (eval o X.env) = eval o X.env := by rfl)
    (hfew : ((backTo cpos (starEach (e :: es) X.env)).all (fun x => !x.1) && (backToKw cpos (keywordEach [] X.env)).all (fun x => x.1.isSome)
      && decide ((e :: es).length + ([] : List Keyword).length + (if ([] : List Keyword).isEmpty then 0 else 1) < 30)) = true := by rfl)
    (hline : (apos.endLine == cpos.line) = true := by rfl) (hs : starEach (e :: es) X.env = (false, eval e X.env) :: starEach es X.env := by rfl) (hplain : (backTo cpos (starEach es X.env)).any (·.1) = false := by rfl) :
    LE X (.Call (.Attribute o "setdefault" apos) (e :: es) [] cpos) (lBMT rSetdL to tas) := fun s0 H0 E tk => (pe_bm PySem.F.plainAttrs_dict PySem.F.slot_dict_setdefault PySem.F.type_dict_setdefault (mt_setdT hu) (ho s0 H0 E tk) (ha s0 H0 E tk) hbase hfew hline hs hplain).imp fun σ H Q ⟨σl, s, Q0, E1, hσ, hs, st, hE, h, k⟩ =>
  ⟨σl, s, _, E1, hσ, hs, st, hE, h, fun lx s1 x H1 h st1 hs1 rx => by
    obtain ⟨a, kvs, rfl, e, _⟩ := atT_ok h.1
    obtain ⟨us, hh, q⟩ := hs1 a _ e
    have ex := rx.ref'
    subst ex
    exact ⟨.inr (.inr (.inl ⟨rfl, .inr ⟨us, hh⟩⟩)), σl, s1, _, E1, hσ.mono st1, hs1, st.trans st1, hE, h.2, fun lvs s2 vs H2 h st2 hs2 rs => up_setd _ vs s2 H2 _ lvs Q0 Q hs2 (rx.mono st2) rs h fun lv s3 v H3 q st3 => k lv s3 v H3 q ((st1.trans st2).trans st3)⟩⟩
end
/-- a dict of new lists -/
theorem dzk {s1 s2 : LS} {β : Type} {k : β → List Key} {f g : β → LV} : ∀ {xs : List β}, (∀ x ∈ xs, Dz s1 s2 (f x) (g x)) → ∀ (K : PySem.W.Frag) [GG K] H us, RelS K s1 H → RVk K s1 H (xs.map fun x => (k x, f x)) us → RVk K s2 H (xs.map fun x => (k x, g x)) us
  | [], _, K, _, H, us, hs, r => by simp only [List.map_nil, RVk] at r ⊢; exact r
  | x :: xs, h, K, _, H, us, hs, r => by
    simp only [List.map_cons, RVk] at r ⊢
    obtain ⟨u, us, rfl, r1, r2⟩ := r
    exact ⟨u, us, rfl, h x List.mem_cons_self K H u hs r1, dzk (fun y hy => h y (List.mem_cons_of_mem _ hy)) K H us hs r2⟩
theorem Dz.dTm {s1 s2 : LS} {a : Addr} {β : Type} {k : β → List Key} {f g : β → LV} {xs : List β} (e : s1 a = some (.dT (xs.map fun x => (k x, f x)))) (n : s2 a = none) (d : ∀ x ∈ xs, Dz s1 s2 (f x) (g x)) : Dz s1 s2 (.ref a) (.dT (xs.map fun x => (k x, g x))) := fun K _ H v hs r => by
  obtain ⟨us, hh, q⟩ := hs a _ e
  simp only [RV]
  exact ⟨a, us, _, r.ref', n, hh, .inl rfl, dzk d K H us hs q⟩
theorem look_relabel (g : Str → NameKind → Bool) : ∀ {names : List (Str × NameKind)} {x : Str}, (names.lookup x = some .cell ∨ names.lookup x = some .free) →
    (names.map fun (n, k) => if g n k then (n, NameKind.cell) else (n, k)).lookup x = some .cell ∨ (names.map fun (n, k) => if g n k then (n, NameKind.cell) else (n, k)).lookup x = some .free
  | [], x, h => by rcases h with h | h <;> cases h
  | (n, k) :: r, x, h => by
    have ih := @look_relabel g r x
    rw [List.map_cons]
    by_cases e : x = n
    · subst e
      simp only [List.lookup_cons, beq_self_eq_true] at h
      by_cases q : g x k = true
      · left; simp [q]
      · simp only [q]
        rcases h with h | h <;> cases h
        · left; simp
        · right; simp
    · have e2 : (x == n) = false := beq_eq_false_iff_ne.mpr e
      simp only [List.lookup_cons, e2] at h
      have := ih h
      by_cases q : g n k = true
      · simpa [q, List.lookup_cons, e2] using this
      · simpa [q, List.lookup_cons, e2] using this
theorem blkOk_nest {N : List Str} {sc scope : Scope} {own : List (Str × Nat)} {env : Env} (h : blkC N sc scope own = true) : BlkOk N (relabel sc env) scope own := by
  have b := blkOk_by h
  exact ⟨b.kind, b.uniq, b.ix, fun y hy e => look_relabel (fun n k => k == NameKind.free && env.scope.kind == .function && env.kindOf n == some .cell) (b.free y hy e), b.own⟩
end L3

namespace L3
open PySem PySem.Spec PyProof.Rows L2
section
variable {X : Cx} [GG X.K] {a b : Expr} {ta tb : LTE} {pos p cpos : Pos}
def lgUnl (is : List Nat) : LTG := fun v σ s Q _ => opt (seqL v s) fun xs => match lSets is xs σ with
  | some σ' => Q σ' s
  | none => False
theorem lg_unl {es : List Expr} {k : Nat} {is : List Nat} (hc : X.calm = true) (h : PGs X es (gNames is)) (hn : (assignEach es X.env).length = is.length := by rfl) (hst : (assignEach es X.env).findIdx? (·.1) = none := by rfl) :
    LG X (.Tuple es k pos) (lgUnl is) := fun s0 H0 E tk => (pg_unl hc h hn hst).imp fun v σ H Q ⟨lv, σl, s, Q0, E1, hσ, hs, st, rv, hE, h, k⟩ => by
  obtain ⟨xs, e, h⟩ := opt_ok h
  obtain ⟨a, us, rfl, hh, r⟩ := seqL_ok hs rv e
  split at h
  · next σ' e2 => exact ⟨a, us, rfl, SqL.of hh, by rw [r.length, lSets_len e2], gNames_ok hσ r e2 fun σ2 q => k _ _ _ _ h (.refl _ _) hs q⟩
  · exact h.elim
def rRange1 : List V → Hp → VK → Prop := fun vs H Q => ∃ n : Int, vs = [V.int n] ∧ ∀ p, H p = none → Q (.ref p) (upd H p (.rng 0 n))
theorem cr_range1 {X : Cx} : CallR X (.type "range") rRange1 := by
  intro pins s σ H vs us Q I r h
  obtain ⟨n, rfl, q⟩ := h
  obtain ⟨u1, rfl, ri⟩ := vals1 r
  obtain ⟨t, rfl⟩ := ri
  refine call_range_1 ⟨.ref s.heap.objs.size, upd H s.heap.objs.size (.rng 0 n), I.laid (fun b o e => Heap.get?_push_of_some _ e) (Nat.le_refl _) ?_, rfl, q _ (I.hok.fresh (Nat.le_refl _))⟩
  exact ⟨_, _, _, Heap.get?_push_size _ rfl⟩
def rNinRg : R2 := fun x y H Q => ∃ i a lo hi, x = V.int i ∧ y = V.ref a ∧ H a = some (.rng lo hi) ∧ Q (.bl (!decide (lo ≤ i ∧ i < hi))) H
theorem op_nin_rng {X : Cx} : OpR X (compareOp .NotIn) rNinRg := by
  intro pins s σ H x y v u Q I rx ry h
  obtain ⟨i, a, lo, hi, rfl, rfl, ha, q⟩ := h
  obtain ⟨k, rfl⟩ := rx
  obtain rfl : u = Value.ref a := ry
  obtain ⟨t1, t2, t3, ho⟩ := I.hok a _ ha
  show wpAny _ _ (do return Value.bool (!(← contains (Value.ref a) (Value.int i k)))) _ _ s
  refine wpAny_bind (wpAny_contains_slot (T := "range") ⟨_, ho, rfl⟩ F.slot_range_contains (call_meets F.slot_range_contains ⟨_, ho, rfl⟩ F.entry_range_contains (F.args_range_contains_2 _ _) (q_contains a lo hi i t1 t2 t3 k)
    ⟨ho, wpAny_truthy_bool (wpAny_pure ⟨.bl _, H, I, rfl, ?_⟩)⟩))
  rw [place1]
  exact q
def lNinRg (ta tb : LTE) : LTT := fun σ s Q E => ta σ s (fun x s1 => lCons tb lNil σ s1 (fun vs s2 => one1 vs fun y => isInt x fun i => isInt y fun n => Q (!decide (0 ≤ i ∧ i < n)) s2) E) E
theorem lt_ninRg (hg : Gl X "range") (hm : X.mg "range" = none) (ha : LE X a ta) (hb : LE X b tb) (hmk : behindInMarks CmpOp.NotIn (.Call (.Name "range" p) [b] [] cpos) = false := by rfl)
    (he : starEach (b :: []) X.env = (false, eval b X.env) :: starEach [] X.env := by rfl) (hpl : (backTo cpos (starEach [] X.env)).any (·.1) = false := by rfl) : LT X (.Compare a [.NotIn] [.Call (.Name "range" p) [b] [] cpos] pos) (lNinRg ta tb) := fun s0 H0 E tk =>
  (pt_cmpR op_nin_rng (ha s0 H0 E tk) (pe_callTy cr_range1 hg hm boot_range (la_cons hb la_nil he s0 H0 E tk) (by decide) (by decide) he hpl) hmk).imp fun σ H Q ⟨σl, s, Q0, E1, hσ, hs, st, hE, h, k⟩ => by
    refine ⟨σl, s, _, E1, hσ, hs, st, hE, h, fun lx s1 x H1 h st1 hs1 rx => ?_⟩
    refine ⟨σl, s1, _, E1, hσ.mono st1, hs1, st.trans st1, hE, h, fun lvs s2 vs H2 h st2 hs2 rs => ?_⟩
    obtain ⟨y, rfl, h⟩ := one1_ok h
    obtain ⟨v, rfl, ry⟩ := rs.one
    cases lx with
    | int i =>
      cases y with
      | int n =>
        have e1 := (rx.mono st2).int'
        have e2 := ry.int'
        subst e1 e2
        exact ⟨n, rfl, fun q hq => ⟨i, q, 0, n, rfl, rfl, upd_same, _, rfl, k _ _ _ h ((st1.trans st2).trans (.new hs2 hq)) (hs2.new hq)⟩⟩
      | _ => exact False.elim h
    | _ => exact False.elim h
end
end L3

namespace L3
open PySem PySem.Spec PyProof.Rows L2
section
variable {X : Cx} [GG X.K] {a b e : Expr} {es : List Expr} {ta tb : LTE} {tas : LTA} {pos p : Pos}
def rNotBL : LR2 := fun x y s Q => match x, y with
  | .bl a, .bl b => Q (.bl (!decide (a = b))) s
  | _, _ => False
theorem up_notBL {K : PySem.W.Frag} [GG K] : Up2 K (fun x y H Q => ∃ a b, x = .bl a ∧ y = .bl b ∧ Q (.bl (!decide (a = b))) H) rNotBL := fun x y s H lx ly Q0 Q hs rx ry h k => by
  cases lx with
  | bl a =>
    cases ly with
    | bl b => exact ⟨a, b, rx.bl', ry.bl', k _ _ _ _ h (.refl _ _) hs .bl⟩
    | _ => exact False.elim h
  | _ => exact False.elim h
theorem lt_notB (ha : LE X a ta) (hb : LE X b tb) : LT X (.Compare a [.IsNot] [b] pos) (lB (lOp rNotBL ta tb)) := lt_cmp op_isnot_bl up_notBL ha hb (nomark _)
theorem le_isiB {K : PySem.W.Frag} (hK : X.K = K) (hg : Gl X "isinstance") (hm : X.mg "isinstance" = none) (ha : LA X (e :: es) tas) (he : starEach (e :: es) X.env = (false, eval e X.env) :: starEach es X.env := by rfl) (hpl : (backTo pos (starEach es X.env)).any (·.1) = false := by rfl) :
    LE X (.Call (.Name "isinstance" p) (e :: es) [] pos) (lCB (rIsiL K) tas) := by
  subst hK
  exact le_isi hg hm ha he hpl
end
end L3

namespace L2
open PySem PySem.Spec PySem.W PyProof.Rows
section
variable {X : Cx} {α : Type} {den : α → PyData} {e : Expr} {td : TE} {p pos apos cpos : Pos}
def rSortedKs {α : Type} (K : PySem.W.Frag) (den : α → PyData) (kvs : List (List Key × V)) (H : Hp) (Q : VK) : Prop :=
  ∀ us : List V, us.length = kvs.length → (∀ (j : Nat) v, us[j]? = some v → ∃ q k x, v = .ref q ∧ kvs[j]? = some (k, x) ∧ H q = some (.tup (k.map kV))) →
    ∃ bs : List (α × V), us = bs.map (·.2) ∧ (∀ p ∈ bs, Dp K H p.2 (den p.1)) ∧ ∀ l, H l = none → Q (.ref l) (upd H l (.lst ((bs.mergeSort (dataLe false fun p => den p.1)).map (·.2))))
theorem pe_sortedKs (hal : ∀ a b, alike (den a) (den b) = true) (htu : ∀ a, ∃ x r, den a = .tuple (x :: r)) (hdp : ∀ a, (den a).depth ≤ 62) (hu : X.A.units + 64 < cLine)
    (hc : X.calm = true) (hg : Gl X "sorted") (hm : X.mg "sorted" = none) (he : PE X e td)
    (hbase : attributeBase e "keys" X.env (eval e X.env) = eval e X.env := by rfl) (hline : (apos.endLine == cpos.line) = true := by rfl)
    (na : starEach [.Call (.Attribute e "keys" apos) [] [] cpos] X.env = (false, eval (.Call (.Attribute e "keys" apos) [] [] cpos) X.env) :: starEach [] X.env := by rfl) :
    PE X (.Call (.Name "sorted" p) [.Call (.Attribute e "keys" apos) [] [] cpos] [] pos) (fun σ H Q => td σ H fun x H1 => ∃ d kvs, x = .ref d ∧ Rd H1 d (.dT kvs) ∧ rSortedKs X.K den kvs H1 Q) := by
  refine ⟨fun pins s σ H Q I h => ?_⟩
  refine wpAny_Call_Name_kw (ld_blt (u := .builtin "sorted") I hg hm (by decide +kernel) ?_ (by decide) (by decide))
  refine PyProof.Rows.callWith_builtin1 (args_cons ?_ na) na (by rfl)
  refine wpAny_Call_method (T := "dict") (id := "dict.keys") hbase rfl hline PySem.F.plainAttrs_dict PySem.F.slot_dict_keys PySem.F.type_dict_keys (thn (he.run pins s σ H _ I h) fun u s1 ⟨x, H1, I1, rx, d, kvs, ex, hd, q⟩ => ?_)
  subst ex
  obtain rfl : u = Value.ref d := rx
  obtain ⟨z, hs, xs, rel, dd⟩ := dt_rd I1.hok hd
  obtain ⟨es, ep, raw, hsz, hent⟩ := dd.raw
  refine ⟨raw.typeIs, fun b qq => by cases qq; obtain ⟨o, ho, hx, _⟩ := raw; exact ⟨o, ho, hx.2.1⟩, ?_⟩
  show wpAny _ _ (callWith cpos (.builtin "dict.keys") [.ref d] [] []) _ X.xe s1
  refine method_meetsIn PySem.F.slot_dict_keys PySem.F.entry_dict_keys rfl (PySem.evalArgs_none ⟨rfl, raw.typeIs, PySem.F.args_dict_keys_1 _, _, meets_dict_keys_raw d hs, ⟨es, ep, raw⟩, ?_⟩)
  refine args_nil ?_
  have hh : X.A.handled = none := I1.ok.hd hc
  have hl0 : kvs.length = es.size := by rw [hsz]; exact Paired.length rel
  have h64 : es.size ≤ sizeLine := by rw [← hl0]; exact z
  have view : KdlKeysView (s1.heap.push { cls := .type "dict_keys", data := .fields #[.ref d] }) s1.heap.objs.size d := ⟨_, Heap.get?_push_size _ rfl, rfl, rfl⟩
  have raw2 : (s1.heap.push { cls := .type "dict_keys", data := .fields #[.ref d] }).DictRaw d es ep := raw.at fun o e => Heap.get?_push_of_some _ e
  have k12 : ∀ b o, s1.heap.get? b = some o → (s1.heap.push { cls := .type "dict_keys", data := .fields #[.ref d] }).get? b = some o := fun b o e => Heap.get?_push_of_some _ e
  generalize hv2 : s1.heap.objs.size = v2 at view ⊢
  generalize s1.heap.push { cls := .type "dict_keys", data := .fields #[.ref d] } = h2 at view raw2 k12 ⊢
  refine Calls.call_function_entry kind_sorted plain_sorted entry_sorted (args_sorted1 _) ?_
  unfold Builtin.«sorted»
  refine wpAny_bind (m := checkCount "sorted" 1 1 _) (wpAny_pure ?_)
  refine wpAny_bind (kdu_collect (A := X.A.in1) KdlSrc.rawKeys hh ⟨view, raw2⟩ h64 fun h' tk acc hk hacc => ?_)
  have hl : acc.toList.length = es.size := by rw [Array.length_toList]; exact hacc.1
  refine wpAny_bind (wpAny_newList ?_ (by rw [hl]; exact h64))
  -- what was collected
  have k1 : ∀ b o, s1.heap.get? b = some o → h'.get? b = some o := fun b o e => hk b o (k12 b o e)
  obtain ⟨us, hul, hus⟩ : ∃ us : List V, us.length = acc.toList.length ∧ ∀ (j : Nat) v, us[j]? = some v → ∃ q k x, v = .ref q ∧ acc.toList[j]? = some (.ref q) ∧ kvs[j]? = some (k, x) ∧ H1 q = some (.tup (k.map kV)) := by
    have key : ∀ j, j < acc.toList.length → ∃ q k x, acc.toList[j]? = some (.ref q) ∧ kvs[j]? = some (k, x) ∧ H1 q = some (.tup (k.map kV)) := fun j hj => by
      have hj2 : j < kvs.length := by omega
      obtain ⟨⟨k, x⟩, hkv⟩ : ∃ y, kvs[j]? = some y := ⟨_, List.getElem?_eq_getElem hj2⟩
      obtain ⟨y, hy, e1, e2, e3⟩ := paired_get rel hkv
      have ha : acc.toList[j]? = some acc.toList[j] := List.getElem?_eq_getElem hj
      obtain ⟨hi, hv⟩ := hacc.2 j _ (by rw [← Array.getElem?_toList]; exact ha)
      obtain ⟨y', hy', q1, _⟩ := hent j hi
      rw [hy] at hy'
      cases hy'
      refine ⟨y.2.1, k, x, ?_, hkv, e2⟩
      rw [ha, hv, q1]
    refine ⟨acc.toList.map fun u => match u with | .ref q => V.ref q | _ => V.int 0, by simp, fun j v hj => ?_⟩
    have hj2 : j < acc.toList.length := by
      have := (List.getElem?_eq_some_iff.mp hj).1
      simpa using this
    obtain ⟨q, k, x, h1, h2, h3⟩ := key j hj2
    rw [List.getElem?_map, h1] at hj
    cases hj
    exact ⟨q, k, x, rfl, h1, h2, h3⟩
  obtain ⟨bs, rfl, hdp2, hq⟩ := q us (by omega) fun j v hj => by
    obtain ⟨q, k, x, e1, _, e2, e3⟩ := hus j v hj
    exact ⟨q, k, x, e1, e2, e3⟩
  have hvals : Vals (bs.map (·.2)) acc.toList := by
    refine vals_of_at hul fun j x u hx hu => ?_
    obtain ⟨q, k, y, rfl, e2, _⟩ := hus j x hx
    rw [e2] at hu
    cases hu
    rfl
  have I2 : Inv X pins σ H1 { s1 with heap := h', toks := tk } := I1.kept k1
  have hob : (h'.push { cls := .type "list", data := .seq acc.toList.toArray }).get? h'.objs.size = some (seqObj "list" acc.toList.toArray 0) := Heap.get?_push_size _ rfl
  have kb : ∀ b o, h'.get? b = some o → (h'.push { cls := .type "list", data := .seq acc.toList.toArray }).get? b = some o := fun b o e => Heap.get?_push_of_some _ e
  have ne0 : ∀ b o, h'.get? b = some o → b ≠ h'.objs.size := fun b o e => Nat.ne_of_lt (Heap.lt_size e)
  have hlt : s1.heap.objs.size ≤ h'.objs.size := by
    rcases Nat.lt_or_ge h'.objs.size s1.heap.objs.size with hlt | hge
    · exfalso
      obtain ⟨o, ho, _⟩ := view
      have q1 : v2 < h'.objs.size := Heap.lt_size (hk _ _ ho)
      exact absurd q1 (by omega)
    · exact hge
  generalize hh2 : h'.push { cls := .type "list", data := .seq acc.toList.toArray } = h3 at hob kb ⊢
  have er' : EachIs (fun v (b : α × V) => ∃ as, Reads (sortingHeap h3 h'.objs.size acc.toList) v (den b.1) as) acc.toList bs := eachOf hvals fun p m u r => by
    obtain ⟨as, rd⟩ := Dp.reads I2 _ _ _ (hdp2 p m) r
    exact ⟨as, PyProof.Rows.Reads.keeps (fun b o e => sortingHeap_old (ne0 _ _ e) (kb _ _ e)) rd⟩
  have er : EachIs (fun v (b : α × V) => RelV b.2 v) acc.toList bs := eachOf hvals fun p _ u r => r
  have hbl : bs.length ≤ sizeLine := by rw [List.length_map] at hul; omega
  have hgo : wpAny (model X.prog X.w) X.A.in1 (call (.builtin "list.sort") [.ref h'.objs.size]) (fun _ s' => EP X pins σ Q (.ref h'.objs.size) s') X.xe { s1 with heap := h3, toks := tk } := by
    refine wpAny_call_entry slot_list_sort ⟨_, hob, rfl⟩ entry_list_sort (list_sort_vals (s := { s1 with heap := h3, toks := tk }) (κ := dataKind (sortingHeap h3 h'.objs.size acc.toList) (bs.map fun b => den b.1)) hob
      (SortsAt.data (s := { s1 with heap := sortingHeap h3 h'.objs.size acc.toList, toks := tk }) (each_map (R := fun v d => ∃ as, Reads (sortingHeap h3 h'.objs.size acc.toList) v d as) (fun b : α × V => den b.1) er') (AllAlike.of fun p p' => hal _ _) (Sortable.tuples fun p => htu _) (bound_map fun b _ => by have := hdp b.1; show X.A.units + 1 + 1 + _ < _; omega)) (by rw [er.length]; exact hbl) ⟨.none, rfl, ?_⟩) (args_list_sort _)
    obtain ⟨out, eo⟩ : ∃ z, z = sortVals (dataKind (sortingHeap h3 h'.objs.size acc.toList) (bs.map fun b => den b.1)) false acc.toList acc.toList := ⟨_, rfl⟩
    have ho2 := sortVals_data (enc := fun b : α × V => den b.1) false er er' (AllAlike.of fun p p' => hal _ _)
    rw [← eo] at ho2 ⊢
    have rv : Vals ((bs.mergeSort (dataLe false fun p => den p.1)).map (·.2)) out := valsOf ho2
    obtain ⟨eF, heF⟩ := PyProof.Rows.sortedHeap_at (vs := acc.toList) (out := out.toArray) hob
    have kF : ∀ b o, h'.get? b = some o → (sortedHeap h3 h'.objs.size acc.toList out.toArray).get? b = some o := fun b o e => (PyProof.Rows.sortedHeap_old (ne0 _ _ e) (Heap.lt_size (kb b o e))).trans (kb b o e)
    have I3 : Inv X pins σ H1 { s1 with heap := sortedHeap h3 h'.objs.size acc.toList out.toArray, toks := tk } := I1.kept (t' := tk) fun b o e => kF b o (k1 b o e)
    have hn0 : H1 h'.objs.size = none := I1.hok.fresh hlt
    have I4 : Inv X pins σ (upd H1 h'.objs.size (.lst ((bs.mergeSort (dataLe false fun p => den p.1)).map (·.2)))) { s1 with heap := sortedHeap h3 h'.objs.size acc.toList out.toArray, toks := tk } :=
      I3.take (h' := sortedHeap h3 h'.objs.size acc.toList out.toArray) (t' := tk) (fun b ob _ e => e) (I1.fpOk hlt hn0) ⟨by rw [List.length_map, List.length_mergeSort]; exact hbl, out, eF, rv, heF⟩
    exact ⟨.ref h'.objs.size, _, I4, rfl, hq _ hn0⟩
  refine wpAny_bind (wpAny_holding (wpAny_mono hgo (fun _ s' x => ?_) fun _ _ e => e))
  exact wpAny_pure ⟨_, rfl, x⟩
end
end L2
namespace L3
open PySem PySem.Spec PyProof.Rows L2
section
variable {X : Cx} [GG X.K] {o : Expr} {to : LTE} {p pos apos cpos : Pos}
def lSrtK (α : Type) [Cod α] (to : LTE) : LTL := fun σ s Q E => to σ s (fun x s1 => match x with
  | .dT kvs => ∃ bs : List α, (kvs.map fun p => keyT p.1) = bs.map Cod.enc ∧ Q ((sortD bs).map Cod.enc) s1
  | _ => False) E
theorem ll_sortedKeys (α : Type) [Cod α] [S : Sor α] (hu : X.A.units + 64 < cLine) (hc : X.calm = true) (hg : Gl X "sorted") (hm : X.mg "sorted" = none) (ho : LE X o to)
    (hbase : attributeBase o "keys" X.env (eval o X.env) = eval o X.env := by rfl) (hline : (apos.endLine == cpos.line) = true := by rfl)
    (na : starEach [.Call (.Attribute o "keys" apos) [] [] cpos] X.env = (false, eval (.Call (.Attribute o "keys" apos) [] [] cpos) X.env) :: starEach [] X.env := by rfl) :
    LL X (.Call (.Name "sorted" p) [.Call (.Attribute o "keys" apos) [] [] cpos] [] pos) (lSrtK α to) := fun s0 H0 E tk =>
  (pe_sortedKs (den := Cod.den (α := α)) S.ali S.tup (fun a => Nat.le_trans (Cod.hdep a) S.shal) hu hc hg hm (ho s0 H0 E tk) hbase hline na).imp fun σ H Q ⟨σl, s, Q0, E1, hσ, hs, st, hE, h, k⟩ => ⟨σl, s, _, E1, hσ, hs, st, hE, h, fun lx s1 x H1 h st1 hs1 rx => by
    cases lx with
    | dT kvs =>
      obtain ⟨bs, ek, h⟩ := h
      simp only [RV] at rx
      obtain ⟨d, us, ob, rfl, n, hh, isd, r⟩ := rx
      refine ⟨d, us, rfl, isd.rd hh, fun vs hl hv => ?_⟩
      have hl2 : us.length = kvs.length := r.length
      have hl3 : kvs.length = bs.length := by have := congrArg List.length ek; simpa using this
      have al : ∀ q ∈ bs.zip vs, RV X.K s1 H1 (Cod.enc q.1) q.2 := fun q hq => by
        obtain ⟨j, hj⟩ := List.mem_iff_getElem?.mp hq
        obtain ⟨h1, h2⟩ := List.getElem?_zip_eq_some.mp hj
        obtain ⟨a, kk, x, e1, e2, e3⟩ := hv j _ h2
        obtain ⟨lx, e4, _⟩ := r.get e2
        have e5 : (bs.map Cod.enc)[j]? = some (keyT kk) := by rw [← ek, List.getElem?_map, e4]; rfl
        rw [List.getElem?_map, h1] at e5
        have e6 : Cod.enc q.1 = keyT kk := Option.some.inj e5
        rw [e6, e1]
        simp only [keyT, RV]
        exact ⟨a, _, rfl, hs1.tup0 e3, e3, RVs.keys kk⟩
      have z1 : (bs.zip vs).map (·.1) = bs := List.map_fst_zip (by omega)
      have z2 : (bs.zip vs).map (·.2) = vs := List.map_snd_zip (by omega)
      refine ⟨bs.zip vs, z2.symm, fun q hq => Isd.dp hs1 (isd_enc s1 q.1) (al q hq), fun l np => ?_⟩
      have e : sortD bs = ((bs.zip vs).mergeSort (PySem.W.dataLe false fun p => Cod.den p.1)).map (·.1) := by
        unfold sortD
        conv => lhs; rw [← z1]
        rw [List.map_mergeSort]
        exact fun a _ b _ => rfl
      rw [e] at h
      exact k _ _ _ _ h st1 hs1 (pairDown fun q m => al q ((List.mergeSort_perm _ _).mem_iff.mp m)) l np
    | _ => exact False.elim h⟩
end
end L3

namespace L3
open PySem PySem.Spec L2
/-- what the clauses wish of an exception, one after the other -/
def lxMany (K : PySem.W.Frag) (D : LEnds) : List (Value × (Addr → LTS)) → Addr → LSt → LS → Prop
  | [] => fun C σ s => D.ex C σ s
  | (c, ts) :: r => fun C σ s => ∃ b, PySem.W.exmOne K (.ref C) c = some b ∧ (b = true → ts C (D.wex noX) σ s) ∧ (b = false → lxMany K D r C σ s)
def lTryM (K : PySem.W.Frag) (l : List (Value × (Addr → LTS))) (tb : LTS) : LTS := fun D σ s => tb (D.wex (lxMany K D l)) σ s
inductive LHds (X : Cx) [GG X.K] : List ExceptHandler → List (Value × (Addr → LTS)) → Prop
  | nil : LHds X [] []
  | cons {x : Str} {c : Value} {ts : Addr → LTS} {b₀ : Stmt} {suite : List Stmt} {np pos' : Pos} {hds : List ExceptHandler} {l : List (Value × (Addr → LTS))} (hc : Names X x c)
      (hsu : ∀ (a : Addr) (oe : Obj) (C : Addr) (pn : List (Addr × Obj)), Zc (.ref C) none oe → (∃ vs, oe.data = .fields vs) → LPs (X.suite a ((a, oe) :: pn)) (b₀ :: suite) (ts C)) (r : LHds X hds l) :
      LHds X (.ExceptHandler (some (.Name x np)) none (b₀ :: suite) pos' :: hds) ((c, ts) :: l)
section
variable {X : Cx} [GG X.K] {body : List Stmt} {h₀ : ExceptHandler} {hds : List ExceptHandler} {l : List (Value × (Addr → LTS))} {pos : Pos} {tbd : LTS}
def tsUp (X : Cx) [GG X.K] (ts : Addr → LTS) : Addr → Value → Option Addr → TS := fun _ cls d D σ H => ∃ C s1 H1, cls = .ref C ∧ d = none ∧ upS X.K s1 H1 noX (ts C) D σ H
theorem LHds.ok (h : LHds X hds l) : HdsOk X hds (l.map fun q => (q.1, tsUp X q.2)) := by
  induction h with
  | nil => exact .nil
  | cons hc hsu _ ih =>
    refine .cons hc (fun a oe cls d pn hz hv => ⟨fun pins si σ H D I ⟨C, s1, H1, e1, e2, h⟩ => ?_⟩) ih
    subst e1 e2
    exact (hsu a oe C pn hz hv s1 H1 noX takes_no PassesOwn.never).run pins si σ H D I h
theorem lp_try_many (hs' : X.stack = X.env :: X.outer) (hf : X.env.frame = some X.env.locals)
    (hb : ∀ (pn : List (Addr × Obj)) (xe : Value → Shared → Prop), LPs (X.tr pn xe) body tbd)
    (hh : LHds X (h₀ :: hds) l) :
    LP X (.Try body (h₀ :: hds) [] [] pos) (lTryM X.K l tbd) := fun s0 H0 E tk hp => by
  refine (ps_try_many (tb := fun W D σ H => ∃ s1 H1 E', (∀ cls d σ H, WL X.K s1 H1 E' cls d σ H → W cls d σ H) ∧ upS X.K s1 H1 E' tbd D σ H)
    hs' hf tk (fun W pn xe tk' po => ⟨fun pins si σ H D I ⟨s1, H1, E', hw, h⟩ => ?_⟩) hh.ok).imp ?_
  · exact (hb pn xe s1 H1 E' (tk'.imp hw) po).run pins si σ H D I h
  · intro D σ H ⟨σl, s, Dl, hσ, hs, st, h, d⟩
    refine ⟨s, H, lxMany X.K Dl l, fun cls dd σ' H' ⟨C, σl', s', e1, e2, hσ', hs1, st1, w⟩ => ?_, σl, s, _, hσ, hs, .refl _ _, h, ⟨d.nx, d.rt, d.bk, d.ct, fun _ _ _ q => q⟩⟩
    subst e1 e2
    have key : ∀ l2 : List (Value × (Addr → LTS)), lxMany X.K Dl l2 C σl' s' → wMany X.K (WL X.K s0 H0 E) D (l2.map fun q => (q.1, tsUp X q.2)) (Value.ref C) none σ' H' := fun l2 => ?_
    · exact key l w
    clear w
    intro w
    induction l2 with
    | nil => exact ⟨C, σl', s', rfl, rfl, hσ', hs1, st.trans st1, d.ex _ _ _ w⟩
    | cons q r ih =>
      obtain ⟨b, eb, h1, h2⟩ := w
      exact ⟨b, eb, fun z a na => ⟨C, s', H', rfl, rfl, σl', s', _, hσ', hs1, .refl _ _, h1 z, (d.mono st1).noX⟩, fun z => ih (h2 z)⟩
end
end L3

namespace L3
open PySem PySem.Spec PyProof.Rows L2 LamX NdefX
/-- the words of a lambda, as a function's -/
abbrev lamF (q : Str) (L : Arguments × Expr × Scope) (cl : List (Str × Addr)) (c : Addr) : NF := ⟨"<lambda>", q, L.1, [], L.2.2, cl, c⟩
section
variable {CX : CXT} {P : Program} {w : World} {K : PySem.W.Frag} {mg : Str → Option Value} {base : Heap} {N ps fr : List Str} {q : Str} {L : Arguments × Expr × Scope} {cl : List (Str × Addr)} {f c : Addr} {k : Nat} {sp : List (Option V) → Sp}
theorem foLam_of (S : CScope N ps fr L.2.2) (hb : ∀ (pm ctv : Value) (us : List Value), us.length = ps.length → bindArgs (PySem.W.kla_fn "<lambda>" q L.1 L.2.1 L.2.2 cl pm (.ref c) ctv) ⟨us, []⟩ = pure (ps.zip us)) (len : ∀ ws vs H Q E, sp ws vs H Q E → vs.length = ps.length)
    (body : ∀ (A : Around) (outer : List Env) (s : Shared) (H : Hp) (vs : List V) (ws : List (Option V)) (Q : VK) (E : XK), Room k (A.deeper (envC (lamF q L cl c) f s.heap.objs.size)) → Env0 P w K mg base A outer s H → ws.length = fr.length → sp ws vs H Q E →
      ∃ t, PE (ccx CX P w K mg base N (lamF q L cl c) f A outer s H E) L.2.1 t ∧ t (startF N vs ws) H Q) : FoOk P w K mg base CX (k + 1) f (.ext (LamP f q L cl c)) c q cl ps fr sp := by
  refine ⟨len, fun A outer s H us vs ws Q E hr e0 hf hc C r hsp => ?_⟩
  have ha := len _ _ _ _ _ hsp
  have nl : s.heap.NoLimit := e0.mod.nolimit.keeps fun b o e => (e0.bs b o e).1
  obtain ⟨⟨od, sl, pm, ctv, ho⟩, _, _⟩ := e0.hok f _ hf
  refine PySem.W.kla_callFunE hr.depth ho rfl S.co S.gen rfl (codeO_at e0.hok hc) ?_
  rw [hb pm ctv us (by rw [← r.length]; exact ha)]
  refine wpAny_pure (newEnv_clo S.kind (fun ⟨n, _⟩ hy => S.par n (List.of_mem_zip hy).1) (fun h₁ tk hns hsb => ?_))
  have kp : ∀ b o, s.heap.get? b = some o → h₁.get? b = some o := fun b o e => hsb.extBut b o (Nat.ne_of_lt (Heap.lt_size e)) (pushCells_keeps _ _ b o (Heap.get?_push_of_some _ e))
  refine ⟨nl.keeps kp, show codeAny _ _ (.expr L.2.1 (envC (lamF q L cl c) f s.heap.objs.size)) _ _ from ?_⟩
  obtain ⟨t, ht, hq⟩ := body A outer s H vs ws Q E (hr.deeper _) e0 C.len hsp
  have J : Inv (ccx CX P w K mg base N (lamF q L cl c) f A outer s H E) [] (startF N vs ws) H { s with heap := h₁, toks := tk } := inv_startC S hr.hd e0 ha r C hns hsb
  refine PySem.W.kla_codeExpr (wpAny_mono (ht.run [] _ _ H Q J hq) (fun v s' hq => ?_) fun e s' hq => hq)
  obtain ⟨w', H', J', rv, q⟩ := hq
  exact ⟨w', H', J'.os, J'.bare, J'.base, J'.hok, rv, q⟩
end
section
variable {P : Program} {w : World} {K : PySem.W.Frag} [GG K] {mg : Str → Option Value} {base : Heap}
theorem cloOk_lam {ck : Ck} {L : Arguments × Expr × Scope} {N ps : List Str} {k : Nat} {sp : List LV → LSp} (hl : lamOf ck.st = some L) (S : CScope N ps ck.fr L.2.2)
    (hb : ∀ (cl : List (Str × Addr)) (c : Addr) (pm ctv : Value) (us : List Value), us.length = ps.length → bindArgs (PySem.W.kla_fn "<lambda>" ck.qual L.1 L.2.1 L.2.2 cl pm (.ref c) ctv) ⟨us, []⟩ = pure (ps.zip us))
    (len : ∀ xs vs s Q E, sp xs vs s Q E → vs.length = ps.length)
    (hbody : ∀ (f c : Addr) (cl : List (Str × Addr)) (A : Around) (outer : List Env) (si : Shared) (H : Hp) (E : XK), Room k (A.deeper (envC (lamF ck.qual L cl c) f si.heap.objs.size)) →
      ∃ t : LTE, LE (ccx (L2.CX P w) P w K mg base N (lamF ck.qual L cl c) f A outer si H E) L.2.1 t ∧ ∀ xs vs s Q E, sp xs vs s Q E → t (cstart N vs xs) s (fun lv s' => ∃ y s2, Frz lv s' y s2 ∧ Q y s2) fun C s' => ∃ s2, Sub s2 s' ∧ E C s2) : CloOk P w K mg base (k + 1) ck ps sp := fun f c cl => by
  rw [ck.fo_lam hl]
  refine foLam_of S (hb cl c) (fun ws vs H Q E ⟨_, _, lvs, s, Q0, E0, _, _, r, _, h, _⟩ => by rw [r.length]; exact len _ _ _ _ _ h) fun A outer si H vs ws Q E hr e0 hf h => ?_
  obtain ⟨lws, wv, lvs, s, Q0, E0, rfl, rw_, r, hs, h, kq, ke⟩ := h
  obtain ⟨t, ht, hb⟩ := hbody f c cl A outer si H E hr
  have tk := takes_of (X := ccx (L2.CX P w) P w K mg base N (lamF ck.qual L cl c) f A outer si H E) (E := E) rfl rfl rfl rfl
  refine ⟨_, ht s H (fun C σl s' => ∃ s2, Sub s2 s' ∧ E0 C s2) (tk.imp fun cls d σ H' w => ?_), ?_⟩
  · obtain ⟨C, σl, s', rfl, rfl, _, hs', st', s2, sb, q⟩ := w
    exact ke C s2 H' q (st'.trans sb.step) (sb.rel hs')
  · refine ⟨cstart N lvs lws, s, fun lv s' => ∃ y s2, Frz lv s' y s2 ∧ Q0 y s2, fun C s' => ∃ s2, Sub s2 s' ∧ E0 C s2, ?_, hs, .refl _ _, fun C s' z => z, hb lws lvs s Q0 E0 h, fun lv s' v H' ⟨y, s2, fz, q⟩ st' hs' rv => ?_⟩
    · unfold cstart
      rw [show startF N vs (wv.map some) = vs.map some ++ (wv.map some ++ List.replicate (N.length - vs.length - (wv.map some).length) none) from rfl, List.length_map, r.length, rw_.length]
      exact (RSt.vals r).append ((RSt.vals rw_).append (.nones _))
    · obtain ⟨a, b, c⟩ := fz K H' v hs' rv
      exact kq y s2 v H' q (st'.trans c) b a
end
end L3

namespace L3
open PySem PySem.Spec PyProof.Rows L2 LamX NdefX
open Classical in
noncomputable def keepH (h : Heap) (P : Addr → Prop) : Heap := ⟨h.objs.mapIdx fun i o => if P i then o else ⟨o.cls, o.dict, .freed, o.slots⟩, h.life⟩
section
variable {h : Heap} {Pd : Addr → Prop} {b : Addr}
theorem keepH_size : (keepH h Pd).objs.size = h.objs.size := by simp [keepH]
theorem keepH_in (hp : Pd b) : (keepH h Pd).get? b = h.get? b := by
  unfold Heap.get? keepH
  simp only [Array.getElem?_mapIdx]
  cases e : h.objs[b]? with
  | none => rfl
  | some o => simp only [Option.map_some, if_pos hp]
theorem keepH_out (hp : ¬ Pd b) : (keepH h Pd).get? b = none := by
  unfold Heap.get? keepH
  simp only [Array.getElem?_mapIdx]
  cases e : h.objs[b]? with
  | none => rfl
  | some o => simp only [Option.map_some, if_neg hp]
end
theorem modKeeps {K : PySem.W.Frag} {mg : Str → Option Value} {base base' : Heap} (m : Mod K mg base) (k : ∀ b o, base.get? b = some o → base'.get? b = some o) : Mod K mg base' := by
  obtain ⟨h1, h2, ⟨mb, h3, h4⟩, h5⟩ := m
  exact ⟨h1.keeps k, h2.keeps k, ⟨mb, h3.keeps k, h4⟩, h5.keeps k⟩
theorem env0_more {P : Program} {w : World} {K : PySem.W.Frag} {mg : Str → Option Value} {base : Heap} {A : Around} {outer : List Env} {s : Shared} {H : Hp} {C : Addr → Prop} (e0 : Env0 P w K mg base A outer s H) (hC : ∀ c, C c → H c = none ∧ c ∉ frs outer) :
    Env0 P w K mg (keepH s.heap fun b => (∃ o, base.get? b = some o) ∨ C b) A outer s H := by
  refine ⟨e0.frames, modKeeps e0.mod fun b o e => ?_, fun b o e => ?_, by rw [keepH_size]; exact Nat.le_refl _, ?_, e0.frf, e0.hok, e0.bare⟩
  · rw [keepH_in (.inl ⟨o, e⟩)]
    exact (e0.bs b o e).1
  · by_cases hp : (∃ o, base.get? b = some o) ∨ C b
    · rw [keepH_in hp] at e
      refine ⟨e, ?_⟩
      rcases hp with ⟨o', e'⟩ | hc
      · exact (e0.bs b o' e').2
      · exact (hC b hc).1
    · rw [keepH_out hp] at e
      cases e
  · have fu := e0.funs
    have hn : ∀ c, C c → c ∉ frs outer := fun c hc => (hC c hc).2
    clear hC
    revert fu hn
    generalize outer = l
    induction l with
    | nil => exact fun _ _ => trivial
    | cons env rest ih =>
      rintro ⟨h1, ⟨L, o, h2, h3, h4, h5⟩, h6⟩ hn
      have hL : frs (env :: rest) = L :: frs rest := by unfold frs; rw [List.filterMap_cons, h2]
      refine ⟨h1, ⟨L, o, h2, keepH_out ?_, h4, h5⟩, ih h6 fun c hc z => hn c hc (by rw [hL]; exact List.mem_cons_of_mem _ z)⟩
      rintro (⟨o', e'⟩ | hc)
      · rw [h3] at e'; cases e'
      · exact hn L hc (by rw [hL]; exact List.mem_cons_self)
section
variable {K : PySem.W.Frag} {s : LS} {H H2 : Hp} (g g' : GG K) (hH : ∀ a (o : HO), H a = Option.some o → H2 a = Option.some o) (hc : ∀ c v, @CelH K g s H c v → @CelH K g' s H2 c v)
omit g g' in
include hH in
theorem ScrAt.conv {a : Addr} {ns : List Int} (h : ScrAt K s H a ns) : ScrAt K s H2 a ns := by
  rcases h with ⟨n, h | ⟨o, h⟩⟩ | h
  · exact .inl ⟨n, .inl (hH _ _ h)⟩
  · exact .inl ⟨n, .inr ⟨o, hH _ _ h⟩⟩
  · exact .inr h
include hH hc in
mutual
theorem RV.conv : ∀ {x : LV} {v : V}, @RV K g s H x v → @RV K g' s H2 x v
  | .non, _, h => by simpa only [RV] using h
  | .bl _, _, h => by simpa only [RV] using h
  | .int _, _, h => by simpa only [RV] using h
  | .str _, _, h => by simpa only [RV] using h
  | .ty _, _, h => by simpa only [RV] using h
  | .ref _, _, h => by simpa only [RV] using h
  | .scr _, _, h => by
    simp only [RV] at h ⊢
    obtain ⟨a, e, h⟩ := h
    exact ⟨a, e, ScrAt.conv hH h⟩
  | .tup xs, _, h => by
    simp only [RV] at h ⊢
    obtain ⟨a, us, e, n, h, r⟩ := h
    exact ⟨a, us, e, n, hH _ _ h, RVs.conv r⟩
  | .lst xs, _, h => by
    simp only [RV] at h ⊢
    obtain ⟨a, us, e, n, h, r⟩ := h
    exact ⟨a, us, e, n, hH _ _ h, RVs.conv r⟩
  | .dT kvs, _, h => by
    simp only [RV] at h ⊢
    obtain ⟨a, us, o, e, n, h, d, r⟩ := h
    exact ⟨a, us, o, e, n, hH _ _ h, d, RVk.conv r⟩
  | .ins C fs, _, h => by
    simp only [RV] at h ⊢
    obtain ⟨a, dx, us, e, n, h, r⟩ := h
    exact ⟨a, dx, us, e, n, hH _ _ h, RVf.conv r⟩
  | .clo k xs, _, h => by
    simp only [RV] at h ⊢
    obtain ⟨f, c, cl, e, n, h, n2, h2, k, nd, r⟩ := h
    exact ⟨f, c, cl, e, n, hH _ _ h, n2, hH _ _ h2, k, nd, RVc.conv r⟩
  | .exc C, _, h => by
    simp only [RV] at h ⊢
    obtain ⟨a, e, n, h⟩ := h
    exact ⟨a, e, n, hH _ _ h⟩
theorem RVc.conv : ∀ {xs : List LV} {us : List Addr}, @RVc K g s H xs us → @RVc K g' s H2 xs us
  | [], _, h => by simp only [RVc] at h ⊢; exact h
  | x :: xs, _, h => by
    simp only [RVc] at h ⊢
    obtain ⟨c, r, u, e, h1, h2, h3⟩ := h
    exact ⟨c, r, u, e, hc _ _ h1, RV.conv h2, RVc.conv h3⟩
theorem RVs.conv : ∀ {xs : List LV} {us : List V}, @RVs K g s H xs us → @RVs K g' s H2 xs us
  | [], _, h => by simp only [RVs] at h ⊢; exact h
  | x :: xs, _, h => by
    simp only [RVs] at h ⊢
    obtain ⟨u, r, e, h1, h2⟩ := h
    exact ⟨u, r, e, RV.conv h1, RVs.conv h2⟩
theorem RVk.conv : ∀ {xs : List (List Key × LV)} {us : List (List Key × V)}, @RVk K g s H xs us → @RVk K g' s H2 xs us
  | [], _, h => by simp only [RVk] at h ⊢; exact h
  | (k, x) :: xs, _, h => by
    simp only [RVk] at h ⊢
    obtain ⟨u, r, e, h1, h2⟩ := h
    exact ⟨u, r, e, RV.conv h1, RVk.conv h2⟩
theorem RVf.conv : ∀ {xs : List (Str × LV)} {us : List (Str × V)}, @RVf K g s H xs us → @RVf K g' s H2 xs us
  | [], _, h => by simp only [RVf] at h ⊢; exact h
  | (k, x) :: xs, _, h => by
    simp only [RVf] at h ⊢
    obtain ⟨u, r, e, h1, h2⟩ := h
    exact ⟨u, r, e, RV.conv h1, RVf.conv h2⟩
end
include hH hc in
theorem RVd.conv : ∀ {xs : List (Key × LV)} {us : List (Key × V)}, @RVd K g s H xs us → @RVd K g' s H2 xs us
  | [], _, h => by simp only [RVd] at h ⊢; exact h
  | (k, x) :: xs, _, h => by
    simp only [RVd] at h ⊢
    obtain ⟨u, r, e, h1, h2⟩ := h
    exact ⟨u, r, e, RV.conv g g' hH hc h1, RVd.conv h2⟩
include hH hc in
theorem RelS.conv (hs : @RelS K g s H) : @RelS K g' s H2 := fun a o e => by
  have q := hs a o e
  cases o with
  | lst xs => obtain ⟨us, h, r⟩ := q; exact ⟨us, hH _ _ h, RVs.conv g g' hH hc r⟩
  | dK xs => obtain ⟨us, h, r⟩ := q; exact ⟨us, hH _ _ h, RVd.conv g g' hH hc r⟩
  | dT xs => obtain ⟨us, h, r⟩ := q; exact ⟨us, hH _ _ h, RVk.conv g g' hH hc r⟩
  | ins C xs => obtain ⟨dx, us, h, r⟩ := q; exact ⟨dx, us, hH _ _ h, RVf.conv g g' hH hc r⟩
  | tab z =>
    obtain ⟨ps, h1, h2, h3⟩ := q
    refine ⟨ps, hH _ _ h1, h2, fun pos cv z => ?_⟩
    obtain ⟨c, e1, e2, e3⟩ := h3 pos cv z
    exact ⟨c, e1, e2, hH _ _ e3⟩
end
/-- the cells cs hold the ints ws, too -/
@[reducible] def gOf {K : PySem.W.Frag} (g : GG K) (cs : List Addr) (ws : List Int) : GG K := ⟨fun c => match g.cell c with
  | some v => some v
  | none => (cs.zip (ws.map V.int)).lookup c⟩
section
variable {K : PySem.W.Frag} {g : GG K} {cs : List Addr} {ws : List Int} {c : Addr} {v : V}
theorem gOf_old (h : g.cell c = some v) : (gOf g cs ws).cell c = some v := by
  show (match g.cell c with | some v => some v | none => (cs.zip (ws.map V.int)).lookup c) = some v
  rw [h]
theorem gOf_new (n : g.cell c = none) : (gOf g cs ws).cell c = (cs.zip (ws.map V.int)).lookup c := by
  show (match g.cell c with | some v => some v | none => (cs.zip (ws.map V.int)).lookup c) = _
  rw [n]
theorem mem_lookA {l : List (Addr × V)} {c : Addr} {v : V} (h : l.lookup c = some v) : (c, v) ∈ l := by
  induction l with
  | nil => cases h
  | cons p r ih =>
    obtain ⟨a, b⟩ := p
    rw [List.lookup_cons] at h
    by_cases e : c = a
    · subst e
      rw [beq_self_eq_true] at h
      cases h
      exact List.mem_cons_self
    · rw [beq_eq_false_iff_ne.mpr e] at h
      exact List.mem_cons_of_mem _ (ih h)
theorem gOf_cases (h : (gOf g cs ws).cell c = some v) : g.cell c = some v ∨ (g.cell c = none ∧ (c, v) ∈ cs.zip (ws.map V.int)) := by
  cases e : g.cell c with
  | some u =>
    rw [gOf_old e] at h
    exact .inl h
  | none =>
    rw [gOf_new e] at h
    exact .inr ⟨rfl, mem_lookA h⟩
theorem CelH.up {s : LS} {H : Hp} (h : @CelH K g s H c v) : @CelH K (gOf g cs ws) s H c v := by
  rcases h with h | h
  · exact .inl h
  · exact .inr (gOf_old h)
theorem CelH.down {s : LS} {H H2 : Hp} (hH : ∀ a o, H a = some o → H2 a = some o) (hn : ∀ p ∈ cs.zip (ws.map V.int), s p.1 = none ∧ H2 p.1 = some (CelO p.1 p.2)) (h : @CelH K (gOf g cs ws) s H c v) : @CelH K g s H2 c v := by
  rcases h with ⟨n, h⟩ | h
  · exact .inl ⟨n, hH _ _ h⟩
  · rcases gOf_cases h with h | ⟨_, h⟩
    · exact .inr h
    · exact .inl (hn _ h)
end
/-- the promise, over each base that holds these cells, too -/
abbrev LFnG (X : Cx) (g : GG X.K) (k : Nat) (f : Addr) (fd : FuncData) (ps : List Str) (sp : LSp) : Prop :=
  ∀ base', (∀ b o, X.base.get? b = some o → base'.get? b = some o) → @GIn X.K g base' → @LFn X.prog X.w X.K g X.mg base' k f fd ps sp
/-- what g knows of cells: they stand in the base, or are the frame's own, as they stand -/
def GSt (X : Cx) (g : GG X.K) (js : List Nat) (ws : List Int) : Prop := ∀ c v, g.cell c = some v → (∃ o u, X.base.get? c = some o ∧ o.data = .cell (some u) ∧ RelV v u) ∨
  ∃ (i j : Nat) (y : Str) (n : Int), js[i]? = some j ∧ X.N[j]? = some y ∧ X.env.scope.names.lookup y = some .cell ∧ X.fn y = true ∧ X.env.cells.lookup y = some c ∧ ws[i]? = some n ∧ v = .int n
/-- the captured slots hold ws -/
def Hld (js : List Nat) (ws : List Int) (σ : LSt) : Prop := js.map (fun j => σ[j]?) = ws.map fun n => some (some (LV.int n))
theorem Hld.get {js : List Nat} {ws : List Int} {σ : LSt} (h : Hld js ws σ) {i j : Nat} {n : Int} (ej : js[i]? = some j) (en : ws[i]? = some n) : σ[j]? = some (some (.int n)) := by
  have := congrArg (fun l => l[i]?) h
  simp only [List.getElem?_map, ej, en, Option.map_some] at this
  exact Option.some.inj this
section
variable {X : Cx} {pins : List (Addr × Obj)} {σ : L2.St} {σl : LSt} {H : Hp} {si : Shared} {s : LS} {js : List Nat} {ws : List Int}
theorem no_frame {y : Str} {c : Addr} (I : Inv X pins σ H si) (hf : X.fn y = true) (hy : X.env.cells.lookup y = some c) : c ∉ frs X.stack := fun hb => by
  have h1 : X.s_0.heap.objs.size ≤ c := I.ok.cab y c hf hy
  rcases List.mem_cons.mp (I.stkSub _ hb) with e | e
  · obtain ⟨m, hn, _⟩ := I.loc
    obtain ⟨v, o, ho, hd⟩ := I.cell y c hy
    obtain ⟨ob, es, ep, ho', r⟩ := hn
    subst e
    rw [ho] at ho'
    cases ho'
    have := r.1
    rw [hd] at this
    cases this
  · obtain ⟨_, o, ho, _⟩ := I.ok.funs.mem e
    exact Nat.not_lt.mpr h1 (Heap.lt_size ho)
/-- the same, of the abstract slots -/
def HldV (js : List Nat) (ws : List Int) (σ : L2.St) : Prop := js.map (fun j => σ[j]?) = ws.map fun n => some (some (V.int n))
theorem HldV.get {js : List Nat} {ws : List Int} {σ : L2.St} (h : HldV js ws σ) {i j : Nat} {n : Int} (ej : js[i]? = some j) (en : ws[i]? = some n) : σ[j]? = some (some (.int n)) := by
  have := congrArg (fun l => l[i]?) h
  simp only [List.getElem?_map, ej, en, Option.map_some] at this
  exact Option.some.inj this
theorem Hld.vals {K : PySem.W.Frag} [GG K] : ∀ {js : List Nat} {ws : List Int}, RSt K s H σl σ → Hld js ws σl → HldV js ws σ
  | [], [], _, _ => rfl
  | [], _ :: _, _, h => by cases h
  | _ :: _, [], _, h => by cases h
  | j :: js, n :: ws, hσ, h => by
    unfold Hld at h
    rw [List.map_cons, List.map_cons, List.cons.injEq] at h
    obtain ⟨v, e, r⟩ := hσ.get h.1
    simp only [RV] at r
    subst r
    unfold HldV
    rw [List.map_cons, List.map_cons, e]
    exact congrArg (List.cons _) (Hld.vals (js := js) (ws := ws) hσ h.2)
theorem base_more (g : GG X.K) (hg : GSt X g js ws) (I : Inv X pins σ H si) (hv : HldV js ws σ) :
    ∃ base', (∀ b o, X.base.get? b = some o → base'.get? b = some o) ∧ @GIn X.K g base' ∧ Env0 X.prog X.w X.K X.mg base' X.A X.stack si H := by
  let C : Addr → Prop := fun c => ∃ y, X.fn y = true ∧ X.env.cells.lookup y = some c
  refine ⟨keepH si.heap fun b => (∃ o, X.base.get? b = some o) ∨ C b, fun b o e => ?_, fun c v e => ?_, env0_more I.env0 fun c ⟨y, hf, hy⟩ => ⟨I.freeC y c hy, no_frame I hf hy⟩⟩
  · rw [keepH_in (.inl ⟨o, e⟩)]
    exact I.bk b o e
  · rcases hg c v e with ⟨o, u, h1, h2, h3⟩ | ⟨i, j, y, n, e1, e2, e3, ef, e4, e5, rfl⟩
    · exact ⟨o, u, by rw [keepH_in (.inl ⟨o, h1⟩)]; exact I.bk c o h1, h2, h3⟩
    · obtain ⟨m, _, hl⟩ := I.loc
      obtain ⟨u, ru, q⟩ := hl j y _ e2 (hv.get e1 e5) (.inr (.inl e3))
      rcases q with ⟨k, _⟩ | ⟨_, c', e', o, ho, hd⟩
      · have k' : X.env.scope.names.lookup y = some .local := k
        rw [e3] at k'
        cases k'
      · rw [e4] at e'
        cases e'
        exact ⟨o, u, by rw [keepH_in (.inr ⟨y, ef, e4⟩)]; exact ho, hd, ru⟩
end
end L3

namespace L3
open PySem PySem.Spec PyProof.Rows L2 LamX NdefX
section
variable {X : Cx} {CX : CXT} {k : Nat} {f C : Addr} {fd : FuncData} {ps : List Str} {x m : Str} {p pos apos : Pos} {e o : Expr} {es : List Expr} {base' : Heap}
theorem run_fnG {spr : Sp} {E : L2.St → XK} {pins : List (Addr × Obj)} {σ : L2.St} {H : Hp} {s : Shared} {Q : VK} {us : List Value} {vs : List V} (F : FnOk X.prog X.w X.K X.mg base' CX k f fd ps spr) (hr : Room k X.A) (hb : Binds X.K fd ps []) (hx : PassesAt CX X σ (E σ))
    (I : Inv X pins σ H s) (e0 : Env0 X.prog X.w X.K X.mg base' X.A X.stack s H) (r : Vals vs us) (h : spr vs H Q (E σ)) : wpAny (model X.prog X.w) X.A (call (.ref f) us) (EP X pins σ Q) X.xe s := by
  have hl : us.length = ps.length := by rw [← r.length]; exact F.len _ _ _ _ h
  have b := hb s us I.kIn (by rw [List.append_nil]; exact hl)
  rw [List.append_nil] at b
  refine wpAny_call (codeAny_mono (F.run X.A X.stack s H ⟨us, []⟩ us vs Q (E σ) hr e0 b r h) fun r s' hq => ?_)
  cases r with
  | error e => exact hx pins H s e s' I hq
  | ok fl =>
    cases fl with
    | ret u => exact I.after hq
    | next => exact False.elim hq
    | brk => exact False.elim hq
    | cont => exact False.elim hq
theorem run_makeG {pins : List (Addr × Obj)} {σ : L2.St} {H : Hp} {s : Shared} {Q : VK} {us : List Value} {vs : List V} {spr : Sp} {E : XK} (M : Mk X.K C f) (hr : Room (k + 1) X.A) (hb : Binds X.K fd ps [])
    (hx : PassesAt (L2.CX X.prog X.w) X σ E) (I : Inv X pins σ H s)
    (hF : ∀ (H' : Hp) (s' : Shared), Inv X pins σ H' s' → ∃ base', FnOk X.prog X.w X.K X.mg base' (L2.CX X.prog X.w) k f fd ps spr ∧ Env0 X.prog X.w X.K X.mg base' X.A X.stack s' H')
    (r : Vals vs us) (h : ∀ x dx, H x = none → H dx = none → dx ≠ x → spr (.ref x :: vs) (upd (upd H dx (.own x)) x (.ins C dx [])) (fun v H2 => v = .non ∧ Q (.ref x) H2) E) :
    wpAny (model X.prog X.w) X.A (call (.ref C) us) (EP X pins σ Q) X.xe s := by
  have q0 := h (s.heap.objs.size + 1) s.heap.objs.size (I.hok.fresh (Nat.le_succ _)) (I.hok.fresh (Nat.le_refl _)) (Nat.ne_of_lt (Nat.lt_succ_self _))
  have J := Inv.made (C := C) I
  obtain ⟨base', F, e0⟩ := hF _ _ J
  have r1 : Vals (V.ref (s.heap.objs.size + 1) :: vs) (Value.ref (s.heap.objs.size + 1) :: us) := .cons rfl r
  have hl : (Value.ref (s.heap.objs.size + 1) :: us).length = ps.length := r1.length.symm.trans (F.len _ _ _ _ q0)
  have bb := hb { s with heap := _ } (Value.ref (s.heap.objs.size + 1) :: us) J.kIn (by rw [List.append_nil]; exact hl)
  rw [List.append_nil] at bb
  refine wpAny_call (make_map (f := f) I.kIn M.makes M.init (beq_iff_eq.mp M.fn) (codeAny_mono (F.run _ X.stack _ _ ⟨Value.ref (s.heap.objs.size + 1) :: us, []⟩ _ _ _ E (hr.make C us []) (e0.make C us []) bb r1 q0) fun r s' hq => ?_))
  cases r with
  | error e => exact hx pins _ _ e s' J hq
  | ok fl =>
    cases fl with
    | ret u =>
      obtain ⟨v, H', I3, rv, ev, q3⟩ := J.after hq
      subst ev
      exact ⟨rv, ⟨V.ref (s.heap.objs.size + 1), H', I3, rfl, q3⟩⟩
    | next => exact hq.elim
    | brk => exact hq.elim
    | cont => exact hq.elim
end
section
variable {X : Cx} [g : GG X.K] {k : Nat} {f C : Addr} {fd : FuncData} {ps : List Str} {sp : LSp} {x m : Str} {p pos apos : Pos} {e o : Expr} {es : List Expr} {tas : LTA} {js : List Nat} {ws : List Int}
def lCallG (js : List Nat) (ws : List Int) (sp : LSp) (t : LTA) : LTE := fun σ s Q E => Hld js ws σ ∧ t σ s (fun vs s1 => sp vs s1 Q E) E
theorem le_callG (hG : GSt X g js ws) (F : LFnG X g k f fd ps sp) (hr : Room k X.A) (hg : Gl X x) (hm : X.mg x = some (.ref f)) (hk : PySem.W.keepIn X.K (.ref f) = true) (hb : Binds X.K fd ps []) (ha : LA X (e :: es) tas)
    (hdb : (x == ("__debug__" : Str)) = false := by decide) (he : starEach (e :: es) X.env = (false, eval e X.env) :: starEach es X.env := by rfl) (hpl : (backTo pos (starEach es X.env)).any (·.1) = false := by rfl) :
    LE X (.Call (.Name x p) (e :: es) [] pos) (lCallG js ws sp tas) := fun s0 H0 E tk => ⟨fun pins si σ H Q I ⟨σl, s, Q0, E1, hσ, hs, st, hE, ⟨hh, h⟩, kk⟩ => by
  refine wpAny_Call_Name_kw (ld_glob I hg hm ?_ hdb)
  refine PySem.W.callWith_K (h₀ := X.base) I.ok.mod.kin hk (thn (ha.go tk pos I hσ hs st hE h) fun us si1 hx => ?_) he hpl
  obtain ⟨vs, H1, I1, rvs, lvs, s1, st1, hs1, r, h⟩ := hx
  obtain ⟨base', kb, gi, e0⟩ := base_more g hG I1 (hh.vals hσ)
  exact ⟨I1.kIn, run_fnG (E := fun _ => WE (WL X.K s0 H0 E) σ) (F base' kb gi) hr hb (passAt tk σ) I1 e0 rvs (dn_call (hσ.mono st1) hs1 (st.trans st1) hE r h fun lv s3 v H3 q st3 => kk lv s3 v H3 q (st1.trans st3))⟩⟩
def lMakeG (js : List Nat) (ws : List Int) (C : Addr) (sp : LSp) (t : LTA) : LTE := fun σ s Q E => Hld js ws σ ∧ lMake C sp t σ s Q E
theorem le_makeG (hG : GSt X g js ws) (M : Mk X.K C f) (F : LFnG X g k f fd ps sp) (hr : Room (k + 1) X.A) (hg : Gl X x) (hm : X.mg x = some (.ref C)) (hb : Binds X.K fd ps []) (ha : LA X (e :: es) tas)
    (hdb : (x == ("__debug__" : Str)) = false := by decide) (he : starEach (e :: es) X.env = (false, eval e X.env) :: starEach es X.env := by rfl) (hpl : (backTo pos (starEach es X.env)).any (·.1) = false := by rfl) :
    LE X (.Call (.Name x p) (e :: es) [] pos) (lMakeG js ws C sp tas) := fun s0 H0 E tk => ⟨fun pins si σ H Q I ⟨σl, s, Q0, E1, hσ, hs, st, hE, ⟨hh, h⟩, kk⟩ => by
  refine wpAny_Call_Name_kw (ld_glob I hg hm ?_ hdb)
  refine PySem.W.callWith_K (h₀ := X.base) I.ok.mod.kin M.kp (thn (ha.go tk pos I hσ hs st hE h) fun us si1 hx => ?_) he hpl
  obtain ⟨vs, H1, I1, rvs, lvs, s1, st1, hs1, r, h⟩ := hx
  refine ⟨I1.kIn, run_makeG (spr := dn X.K sp) M hr hb (passAt tk σ) I1 (fun H' s' J => ?_) rvs fun y dx ny nd ne => ?_⟩
  · obtain ⟨base', kb, gi, e0⟩ := base_more g hG J (hh.vals hσ)
    exact ⟨base', F base' kb gi, e0⟩
  · obtain ⟨stm, hsm⟩ := made_step (C := C) hs1 ny nd ne
    have st2 := st1.trans stm
    exact dn_call (hσ.mono st2) hsm (st.trans st2) hE (.cons .ref (r.mono stm)) (h y (hs1.free ny)) fun lv s3 v H3 q st3 hs3 rv => ⟨by rw [q.1] at rv; exact rv.non', kk _ s3 _ H3 q.2 (st2.trans st3) hs3 .ref⟩⟩
end
structure MadeO (P : Addr) (q : Str) (f c : Addr) (fo : HO) (H H1 : Hp) : Prop where
  nf : H f = none
  tab : TabQ H1 P q
  fn : H1 f = some fo
  code : H1 c = some (CodeO c q)
  rest : ∀ b, b ≠ P → H b ≠ none → H1 b = H b
theorem MadeO.up {K : PySem.W.Frag} [GG K] {P : Addr} {q : Str} {f c : Addr} {fo : HO} {s : LS} {H H1 : Hp} (m : MadeO P q f c fo H H1) (hs : RelS K s H) (hP : s P = some (.tab q)) : Step s H s H1 ∧ RelS K s H1 ∧ s f = none ∧ s c = none := by
  have st : Step s H s H1 := fun a o e n => ⟨⟨o, by rw [m.rest a (by rintro rfl; rw [hP] at n; cases n) (by rw [e]; simp)]; exact e, .refl o⟩, n⟩
  have c0 : ∀ d, H1 d = some (CodeO d q) → s d = none := fun d e => by
    cases z : H d with
    | none => exact hs.free z
    | some o =>
      by_cases hd : d = P
      · subst hd
        obtain ⟨ps, e2, _⟩ := m.tab
        rw [e] at e2
        exact absurd (Option.some.inj e2) (codeO_ne ps)
      · have := m.rest d hd (by rw [z]; simp)
        rw [e] at this
        exact hs.ext0 this.symm
  refine ⟨st, fun a o e => ?_, hs.free m.nf, c0 c m.code⟩
  by_cases ha : a = P
  · subst ha
    rw [hP] at e
    cases e
    obtain ⟨ps, e1, e2, e3⟩ := m.tab
    refine ⟨ps, e1, e2, fun pos cv z => ?_⟩
    obtain ⟨d, z1, z2⟩ := e3 pos cv z
    exact ⟨d, z1, c0 d z2, z2⟩
  · exact (hs a o e).mono st fun u z => by rw [m.rest a ha (by rw [z]; simp)]; exact z
section
variable {X : Cx} {pins : List (Addr × Obj)} {σ : L2.St} {H : Hp} {s : Shared}
theorem inv_lam {q : Str} {L : Arguments × Expr × Scope} {cl : List (Str × Addr)} {c : Addr} {o : Obj} {t' : Nat} {pm ctv : Value} (I : Inv X pins σ H s) (ho : o = PySem.W.kla_obj "<lambda>" q L.1 L.2.1 L.2.2 cl pm c ctv) :
    Inv X pins σ (upd H s.heap.objs.size (.ext (LamP s.heap.objs.size q L cl c))) { s with heap := s.heap.push o, toks := t' } := by
  subst ho
  refine I.laid (a := s.heap.objs.size) (fun b u e => Heap.get?_push_of_some _ e) (Nat.le_refl _) ?_
  have e : (s.heap.push (PySem.W.kla_obj "<lambda>" q L.1 L.2.1 L.2.2 cl pm c ctv)).get? s.heap.objs.size = some (PySem.W.kla_obj "<lambda>" q L.1 L.2.1 L.2.2 cl pm c ctv) := Heap.get?_push_size _ rfl
  exact ⟨⟨_, _, pm, ctv, e⟩, ⟨_, e⟩, fun h1 h2 ⟨od, sl, p, t, z⟩ st => ⟨od, sl, p, t, st _ z⟩⟩
theorem lamX {c P : Addr} {q : Str} {L : Arguments × Expr × Scope} {pos : Pos} {E Q : Value → Shared → Prop} (I : Inv X pins σ H s) (TB : TabB X.base X.mg c P) (hcode : X.env.code = .ref c) (hq : X.env.qual ++ "<lambda>" = q)
    (hT : TabQ H P q) (hdef : defaultsOf L.1 X.env = ([], [])) (hfree : ∀ y ∈ L.2.2.names, y.2 = .free → ∃ c, X.env.cells.lookup y.1 = some c)
    (h : ∀ (f c' : Addr) (H1 : Hp) (s' : Shared), Inv X pins σ H1 s' → MadeO P q f c' (.ext (LamP f q L (cloFrom X.env.cells L.2.2.names []) c')) H H1 → Q (.ref f) s') :
    wpAny (model X.prog X.w) X.A (eval (.Lambda L.1 L.2.1 L.2.2 pos) X.env) Q E s := by
  subst hq
  refine PySem.W.kla_eval hdef ?_
  obtain ⟨ps, hP, tr, cs⟩ := hT
  have hP' : s.heap.get? P = some { cls := .none, data := .fields ps } := (I.hok P _ hP : _)
  have bP : s.heap.BuiltinsAt X.mg P := (TB.bm.keeps I.bk : _)
  cases hc : codeAmong pos ps.toList with
  | some cv =>
    obtain ⟨c', rfl, ho⟩ := cs pos _ hc
    refine PySem.W.kla_makeFunctionHit (mg := X.mg) (c := c) (P := P) (ps := ps) (closure_ok hfree) I.ok.glob (I.mod.glob.keeps I.bk) hcode (TB.code.keeps I.bk) hP' tr hc bP fun ctv h' tk hx hsz => ?_
    have J : Inv X pins σ H { s with heap := h', toks := tk } := (I.kept hx : _)
    have nF : H h'.objs.size = none := J.hok.fresh (Nat.le_refl _)
    have J2 := inv_lam (q := X.env.qual ++ "<lambda>") (L := L) (cl := cloFrom X.env.cells L.2.2.names []) (c := c') (t' := tk) (pm := (X.mg "__name__").getD .none) (ctv := ctv) J rfl
    have st : ∀ b o, H b = some o → upd H h'.objs.size (.ext (LamP h'.objs.size (X.env.qual ++ "<lambda>") L (cloFrom X.env.cells L.2.2.names []) c')) b = some o := fun b o e => by rw [upd_ne (ne_of_none e nF)]; exact e
    exact h _ c' _ _ J2 ⟨nF, ⟨ps, st _ _ hP, tr, fun p v e => by obtain ⟨d, e1, e2⟩ := cs p v e; exact ⟨d, e1, st _ _ e2⟩⟩, upd_same, st _ _ ho, fun b _ hb => upd_ne (by rintro rfl; exact hb nF)⟩
  | none =>
    refine PySem.W.kla_makeFunction (mg := X.mg) (c := c) (P := P) (ps := ps) (closure_ok hfree) I.ok.glob (I.mod.glob.keeps I.bk) hcode (TB.code.keeps I.bk) hP' tr hc TB.gP bP fun c' ctv h' tk hx hge hlt hrec htb => ?_
    obtain ⟨c2, oc, vs, t, e2, hoc, hd, hv⟩ := hrec
    cases e2
    have nC : H c' = none := I.hok.fresh hge
    have J := inv_table (t' := tk) (more := #[rawInt pos.line, rawInt pos.col, .ref c']) (h' := h') I hP (fun b o hb e => hx b o hb e) htb hge ⟨oc, vs, t, hoc, hd, hv⟩
    have J2 := inv_lam (q := X.env.qual ++ "<lambda>") (L := L) (cl := cloFrom X.env.cells L.2.2.names []) (c := c') (t' := tk) (pm := (X.mg "__name__").getD .none) (ctv := ctv) J rfl
    have nF : H h'.objs.size = none := I.hok.fresh (Nat.le_trans hge (Nat.le_of_lt hlt))
    have cf : c' ≠ h'.objs.size := Nat.ne_of_lt hlt
    have pc : P ≠ c' := ne_of_none hP nC
    have pf : P ≠ h'.objs.size := ne_of_none hP nF
    refine h _ c' _ _ J2 ⟨nF, ⟨_, by rw [upd_ne pf, upd_ne pc, upd_same], ?_, fun p v e => ?_⟩, upd_same, by rw [upd_ne cf, upd_same], fun b hb hn => ?_⟩
    · rw [show (ps ++ #[rawInt pos.line, rawInt pos.col, .ref c']).toList = ps.toList ++ [rawInt pos.line, rawInt pos.col, .ref c'] by simp]
      exact PySem.TriplesOk_snoc _ _ _ _ tr
    · rw [show (ps ++ #[rawInt pos.line, rawInt pos.col, .ref c']).toList = ps.toList ++ [rawInt pos.line, rawInt pos.col, .ref c'] by simp] at e
      rcases among_app2 _ tr e with z | ⟨z, _, _⟩
      · obtain ⟨d, e1, e2⟩ := cs p v z
        refine ⟨d, e1, ?_⟩
        have nd : d ≠ P := by
          rintro rfl
          rw [hP] at e2
          exact codeO_ne ps (Option.some.inj e2).symm
        rw [upd_ne (ne_of_none e2 nF), upd_ne (ne_of_none e2 nC), upd_ne nd]
        exact e2
      · exact ⟨c', z, by rw [upd_ne cf, upd_same]⟩
    · rw [upd_ne (by rintro rfl; exact hn nF), upd_ne (by rintro rfl; exact hn nC), upd_ne hb]
end
structure CapX (X : Cx) (fr : List Str) (scope : Scope) (js : List Nat) : Prop where
  hfr : frOf scope.names = fr
  nfr : fr.Nodup
  kfr : ∀ y ∈ fr, X.env.scope.names.lookup y = some .cell
  hjs : js.map (fun j => X.N[j]?) = fr.map some
  fn : ∀ y ∈ fr, X.fn y = true
  has : ∀ y ∈ fr, ∃ c, X.env.cells.lookup y = some c
abbrev clX (X : Cx) (scope : Scope) : List (Str × Addr) := cloFrom X.env.cells scope.names []
section
variable {X : Cx} {fr : List Str} {scope : Scope} {js : List Nat}
theorem CapX.keys (c : CapX X fr scope js) : (clX X scope).map (·.1) = fr := by
  rw [show (clX X scope).map (·.1) = frOf scope.names ++ [] from clo_keys _ _ _, List.append_nil, c.hfr]
theorem CapX.ecl (c : CapX X fr scope js) {y : Str} {a : Addr} (hm : (y, a) ∈ clX X scope) : X.env.cells.lookup y = some a ∧ y ∈ fr := by
  have hy : y ∈ fr := by rw [← c.keys]; exact List.mem_map_of_mem (f := (·.1)) hm
  refine ⟨?_, hy⟩
  rcases cloFrom_mem hm with z | ⟨_, z⟩
  · cases z
  · obtain ⟨b, hb⟩ := c.has y hy
    rw [hb] at z ⊢
    rw [z]; rfl
theorem CapX.nd (c : CapX X fr scope js) (ok : X.Ok) : ((clX X scope).map (·.2)).Nodup := by
  rw [List.Nodup, List.pairwise_iff_getElem]
  intro i j hi hj2 hij
  rw [List.getElem_map, List.getElem_map]
  rw [List.length_map] at hi hj2
  intro z
  obtain ⟨z1, _⟩ := c.ecl (y := (clX X scope)[i].1) (a := (clX X scope)[i].2) (List.getElem_mem hi)
  obtain ⟨z2, _⟩ := c.ecl (y := (clX X scope)[j].1) (a := (clX X scope)[j].2) (List.getElem_mem hj2)
  rw [z] at z1
  have e := ok.inj _ _ _ z1 z2
  have nf := c.nfr
  rw [← c.keys, List.Nodup, List.pairwise_iff_getElem] at nf
  have := nf i j (by rw [List.length_map]; exact hi) (by rw [List.length_map]; exact hj2) hij
  rw [List.getElem_map, List.getElem_map] at this
  exact this e
theorem CapX.len (c : CapX X fr scope js) {ws : List Int} {σ : L2.St} (h : HldV js ws σ) : (clX X scope).length = ws.length := by
  have e1 := congrArg List.length h
  have e2 := congrArg List.length c.hjs
  have e3 := congrArg List.length c.keys
  simp only [List.length_map] at e1 e2 e3
  omega
theorem CapX.len' (c : CapX X fr scope js) : (clX X scope).length = js.length := by
  have e2 := congrArg List.length c.hjs
  have e3 := congrArg List.length c.keys
  simp only [List.length_map] at e2 e3
  omega
/-- what g knows then -/
theorem CapX.gst (c : CapX X fr scope js) (g : GG X.K) (hg : @GIn X.K g X.base) (ws : List Int) : GSt X (gOf g ((clX X scope).map (·.2)) ws) js ws := fun a v e => by
  rcases gOf_cases e with h | ⟨_, h⟩
  · exact .inl (hg a v h)
  · obtain ⟨i, hi, e2⟩ := List.mem_iff_getElem.mp h
    rw [List.length_zip, List.length_map, List.length_map] at hi
    have hi1 : i < (clX X scope).length := by omega
    have hi2 : i < ws.length := by omega
    rw [List.getElem_zip] at e2
    simp only [List.getElem_map, Prod.mk.injEq] at e2
    obtain ⟨z1, z2⟩ := c.ecl (y := (clX X scope)[i].1) (a := (clX X scope)[i].2) (List.getElem_mem hi1)
    have ey : fr[i]? = some (clX X scope)[i].1 := by rw [← c.keys, List.getElem?_map, List.getElem?_eq_getElem hi1]; rfl
    have e3 : (js.map fun j => X.N[j]?)[i]? = some (some (clX X scope)[i].1) := by rw [c.hjs, List.getElem?_map, ey]; rfl
    rw [List.getElem?_map] at e3
    cases ej : js[i]? with
    | none => rw [ej] at e3; cases e3
    | some j =>
      rw [ej] at e3
      exact .inr ⟨i, j, (clX X scope)[i].1, ws[i], ej, Option.some.inj e3, c.kfr _ z2, c.fn _ z2, by rw [z1, e2.1], List.getElem?_eq_getElem hi2, e2.2.symm⟩
theorem CapX.gst' {g gw : GG X.K} {ws : List Int} (c : CapX X fr scope js) (e : gw = gOf g ((clX X scope).map (·.2)) ws) (hg : @GIn X.K g X.base) : GSt X gw js ws := by
  subst e
  exact c.gst g hg ws
theorem gOf_at {K : PySem.W.Frag} {g : GG K} {cs : List Addr} {ws : List Int} (nd : cs.Nodup) (fresh : ∀ c ∈ cs, g.cell c = none) {i : Nat} {c : Addr} {n : Int} (e1 : cs[i]? = some c) (e2 : ws[i]? = some n) : (gOf g cs ws).cell c = some (.int n) := by
  rw [gOf_new (fresh c (List.mem_of_getElem? e1))]
  clear fresh
  induction cs generalizing i ws with
  | nil => cases e1
  | cons a r ih =>
    cases ws with
    | nil => cases e2
    | cons m r2 =>
      rw [List.map_cons, List.zip_cons_cons, List.lookup_cons]
      cases i with
      | zero =>
        cases e1
        cases e2
        rw [beq_self_eq_true]
      | succ i =>
        rw [List.getElem?_cons_succ] at e1 e2
        rw [List.nodup_cons] at nd
        rw [beq_eq_false_iff_ne.mpr fun z => nd.1 (by rw [← z]; exact List.mem_of_getElem? e1)]
        exact ih nd.2 e1 e2
end
end L3

namespace L3
open PySem PySem.Spec PyProof.Rows L2 LamX NdefX
def lamE : Stmt → Expr
  | .Assign _ v _ => v
  | .Expr v _ => v
  | _ => .Name "" ⟨0, 0, 0, 0⟩
theorem tabB_keeps {base base' : Heap} {mg : Str → Option Value} {c P : Addr} (t : LamX.TabB base mg c P) (k : ∀ b o, base.get? b = some o → base'.get? b = some o) : LamX.TabB base' mg c P := ⟨t.code.keeps k, t.bm.keeps k, t.gP⟩
theorem RSt.conv {K : PySem.W.Frag} {s : LS} {H H2 : Hp} (g g' : GG K) (hH : ∀ a (o : HO), H a = Option.some o → H2 a = Option.some o) (hc : ∀ c v, @CelH K g s H c v → @CelH K g' s H2 c v) : ∀ {xs : LSt} {vs : L2.St}, @RSt K g s H xs vs → @RSt K g' s H2 xs vs
  | [], _, h => by simp only [RSt] at h ⊢; exact h
  | none :: xs, _, h => by
    simp only [RSt] at h ⊢
    obtain ⟨v, r, e, h⟩ := h
    exact ⟨v, r, e, RSt.conv g g' hH hc h⟩
  | some x :: xs, _, h => by
    simp only [RSt] at h ⊢
    obtain ⟨v, r, e, h1, h⟩ := h
    exact ⟨v, r, e, RV.conv g g' hH hc h1, RSt.conv g g' hH hc h⟩
structure DnH (K : PySem.W.Frag) (g : GG K) (js : List Nat) (ws : List Int) (s : LS) (H : Hp) (Dl : LEnds) (R : L2.St → V → Hp → Prop) : Prop where
  rt : ∀ (lv : LV) (s' : LS) (σ : L2.St) (H' : Hp) (v : V), Dl.rt lv s' → Step s H s' H' → @RelS K g s' H' → @RV K g s' H' lv v → HldV js ws σ → R σ v H'
theorem DnH.mono {K : PySem.W.Frag} {g : GG K} {js : List Nat} {ws : List Int} {s s1 : LS} {H H1 : Hp} {Dl : LEnds} {R : L2.St → V → Hp → Prop} (d : DnH K g js ws s H Dl R) (st : Step s H s1 H1) : DnH K g js ws s1 H1 Dl R :=
  ⟨fun lv s' σ H' v q st' => d.rt lv s' σ H' v q (st.trans st')⟩
def upC2 (K : PySem.W.Frag) (g : GG K) (js : List Nat) (ws : List Int) (s0 : LS) (H0 : Hp) (t : LTS) : (L2.St → V → Hp → Prop) → L2.St → Hp → Prop := fun R σ H => ∃ σl s Dl, @RSt K g s H σl σ ∧ @RelS K g s H ∧ Step s0 H0 s H ∧ Hld js ws σl ∧ t Dl σl s ∧ DnH K g js ws s H Dl R
def LP2 (X : Cx) (g : GG X.K) (js : List Nat) (ws : List Int) (sts : List Stmt) (t : LTS) : Prop := ∀ s0 H0, PassesOwn (model X.prog X.w) X.A X.env X.xe → PSM X sts (upC2 X.K g js ws s0 H0 t)
def lSeq2 (js : List Nat) (ws : List Int) (t u : LTS) : LTS := fun D σ s => t ⟨fun σ' s' => Hld js ws σ' ∧ u D σ' s', fun _ _ => False, fun _ _ => False, fun _ _ => False, noX⟩ σ s
def lRet2 (te : LTE) : LTS := fun D σ s => te σ s D.rt fun _ _ => False
section
variable {X : Cx} {g : GG X.K} {st : Stmt} {rest : List Stmt} {t u : LTS} {js : List Nat} {ws : List Int} {e : Expr} {te : LTE} {pos : Pos}
theorem lp2_cons (h1 : @LP X g st t) (h2 : LP2 X g js ws rest u) : LP2 X g js ws (st :: rest) (lSeq2 js ws t u) := fun s0 H0 hp =>
  (psm_cons (h1 s0 H0 noX takes_no hp) (h2 s0 H0 hp)).imp fun R σ H ⟨σl, s, Dl, hσ, hs, st, _, h, d⟩ =>
    ⟨σl, s, _, hσ, hs, st, h, ⟨fun σl1 s1 σ1 H1 h1 st1 hs1 r1 => ⟨σl1, s1, Dl, r1, hs1, st.trans st1, h1.1, h1.2, d.mono st1⟩, fun _ _ _ _ z => z.elim, fun _ _ _ _ z => z.elim, fun _ _ _ _ z => z.elim, fun _ _ _ z => z⟩⟩
theorem lp2_ret (he : @LE X g e te) : LP2 X g js ws [.Return (some e) pos] (lRet2 te) := fun s0 H0 hp =>
  (psm_ret (he s0 H0 noX takes_no)).imp fun R σ H ⟨σl, s, Dl, hσ, hs, st, hh, h, d⟩ =>
    ⟨σl, s, Dl.rt, fun _ _ => False, hσ, hs, st, fun _ _ z => z.elim, h, fun lv s' v H' q st' hs' rv => d.rt lv s' σ H' v q st' hs' rv (@Hld.vals _ _ _ _ _ g _ _ hσ hh)⟩
end
structure DnG (K : PySem.W.Frag) (g : GG K) (js : List Nat) (cs : List Addr) (E : LXS) (s : LS) (H : Hp) (Dl : LEnds) (R : L2.St → V → Hp → Prop) : Prop where
  rt : ∀ (ws : List Int) (lv : LV) (s' : LS) (σ : L2.St) (H' : Hp) (v : V), Dl.rt lv s' → Step s H s' H' → @RelS K (gOf g cs ws) s' H' → @RV K (gOf g cs ws) s' H' lv v → HldV js ws σ → R σ v H'
  ex : ∀ C σl s', Dl.ex C σl s' → E C σl s'
theorem DnG.mono {K : PySem.W.Frag} {g : GG K} {js : List Nat} {cs : List Addr} {E : LXS} {s s1 : LS} {H H1 : Hp} {Dl : LEnds} {R : L2.St → V → Hp → Prop} (d : DnG K g js cs E s H Dl R) (st : Step s H s1 H1) : DnG K g js cs E s1 H1 Dl R :=
  ⟨fun ws lv s' σ H' v q st' => d.rt ws lv s' σ H' v q (st.trans st'), d.ex⟩
def upC1 (K : PySem.W.Frag) (g : GG K) (js : List Nat) (cs : List Addr) (s0 : LS) (H0 : Hp) (E : LXS) (t : LTS) : (L2.St → V → Hp → Prop) → L2.St → Hp → Prop := fun R σ H => ∃ σl s Dl, @RSt K g s H σl σ ∧ @RelS K g s H ∧ Step s0 H0 s H ∧ t Dl σl s ∧ DnG K g js cs E s H Dl R
def LP1 (X : Cx) [g : GG X.K] (js : List Nat) (cs : List Addr) (sts : List Stmt) (t : LTS) : Prop := ∀ s0 H0 E, Takes X (WL X.K s0 H0 E) → PassesOwn (model X.prog X.w) X.A X.env X.xe → PSM X sts (upC1 X.K g js cs s0 H0 E t)
/-- from here on the captured names hold what they hold now -/
def lSw (js : List Nat) (u : List Int → LTS) : LTS := fun D σ s => ∃ ws, Hld js ws σ ∧ u ws D σ s
section
variable {X : Cx} [g : GG X.K] {st : Stmt} {rest : List Stmt} {t u : LTS} {js : List Nat} {cs : List Addr}
theorem lp1_cons (h1 : LP X st t) (h2 : LP1 X js cs rest u) : LP1 X js cs (st :: rest) (lSeqM t u) := fun s0 H0 E tk hp =>
  (psm_cons (h1 s0 H0 E tk hp) (h2 s0 H0 E tk hp)).imp fun R σ H ⟨σl, s, Dl, hσ, hs, st, h, d⟩ =>
    ⟨σl, s, _, hσ, hs, st, h, ⟨fun σl1 s1 σ1 H1 h1 st1 hs1 r1 => ⟨σl1, s1, Dl, r1, hs1, st.trans st1, h1, d.mono st1⟩, fun _ _ _ _ z => z.elim, fun _ _ _ _ z => z.elim, fun _ _ _ _ z => z.elim, d.ex⟩⟩
theorem lp1_sw {u : List Int → LTS} (h : ∀ ws, ws.length = js.length → ∀ gw : GG X.K, gw = gOf g cs ws → LP2 X gw js ws rest (u ws)) : LP1 X js cs rest (lSw js u) := fun s0 H0 E tk hp =>
  ⟨fun pins si σ H R I ⟨σl, s, Dl, hσ, hs, st, ⟨ws, hh, h'⟩, d⟩ => (h ws (by have := congrArg List.length hh; simpa using this.symm) _ rfl s0 H0 hp).run pins si σ H R I
    ⟨σl, s, Dl, RSt.conv g (gOf g cs ws) (fun _ _ z => z) (fun _ _ z => z.up) hσ, RelS.conv g (gOf g cs ws) (fun _ _ z => z) (fun _ _ z => z.up) hs, st, hh, h', ⟨fun lv s' σ H' v q st' hs' rv hv => d.rt ws lv s' σ H' v q st' hs' rv hv⟩⟩⟩
end
def lLam (P : Addr) (k : Ck) (ws : List Int) : LTE := fun σ s Q E => s P = some (.tab k.qual) ∧ Q (.clo k (ws.map LV.int)) s
theorem le_lam {X : Cx} {g : GG X.K} [gw : GG X.K] {k : Ck} {js : List Nat} {ws : List Int} {L : Arguments × Expr × Scope} {c P : Addr} {pos : Pos} (hl : lamOf k.st = some L) (TB : TabB X.base X.mg c P) (hcode : X.env.code = .ref c) (hq : X.env.qual ++ "<lambda>" = k.qual)
    (hdef : defaultsOf L.1 X.env = ([], [])) (cp : CapX X k.fr L.2.2 js) (hlw : (clX X L.2.2).length = ws.length) (hfree : ∀ y ∈ L.2.2.names, y.2 = .free → X.env.scope.names.lookup y.1 = some .cell ∨ X.env.scope.names.lookup y.1 = some .free) (hg : @GIn X.K g X.base) (hgw : gw = gOf g ((clX X L.2.2).map (·.2)) ws) : LE X (.Lambda L.1 L.2.1 L.2.2 pos) (lLam P k ws) := by
  subst hgw
  refine @fun s0 H0 E tk => ⟨fun pins si σ H Q I ⟨σl, s, Q0, E1, hσ, hs, st, hE, ⟨hP, h⟩, kk⟩ => ?_⟩
  letI : GG X.K := gOf g ((clX X L.2.2).map (·.2)) ws
  refine lamX I TB hcode hq (tabQ_of hs hP) hdef (fun y hy e => I.ok.has y.1 (hfree y hy e)) fun f c' H1 s' I1 m => ?_
  obtain ⟨st1, hs1, sf, sc⟩ := m.up hs hP
  refine ⟨.ref f, H1, I1, rfl, kk _ s _ H1 h st1 hs1 ?_⟩
  simp only [RV]
  have fresh : ∀ a ∈ (clX X L.2.2).map (·.2), g.cell a = none := fun a ha => by
    cases e : g.cell a with
    | none => rfl
    | some v =>
      exfalso
      obtain ⟨o, u, hb, _, _⟩ := hg a v e
      obtain ⟨⟨y, b⟩, hm, rfl⟩ := List.mem_map.mp ha
      obtain ⟨z1, z2⟩ := cp.ecl hm
      have h1 := I.ok.cab y b (cp.fn y z2) z1
      have h2 := Heap.lt_size (I.ok.bs _ _ hb).1
      exact Nat.not_lt.mpr h1 h2
  refine ⟨f, c', clX X L.2.2, rfl, sf, by rw [k.fo_lam hl]; exact m.fn, sc, m.code, cp.keys, cp.nd I.ok, ?_⟩
  have rx : RVs X.K s H1 (ws.map LV.int) (ws.map V.int) := RVs.ints ws
  refine RVc.of rx (by rw [List.length_map, List.length_map]; exact hlw) fun p hp => .inr ?_
  obtain ⟨i, hi, e⟩ := List.mem_iff_getElem.mp hp
  rw [List.length_zip, List.length_map, List.length_map] at hi
  rw [List.getElem_zip] at e
  simp only [List.getElem_map] at e
  subst e
  exact gOf_at (cp.nd I.ok) fresh (i := i) (by rw [List.getElem?_map, List.getElem?_eq_getElem (by omega)]; rfl) (List.getElem?_eq_getElem (by omega))
section
variable {P : Program} {w : World} {K : PySem.W.Frag} [g : GG K] {mg : Str → Option Value} {base : Heap}
theorem FunG.ok {x qual : Str} {st : Stmt} {f c : Addr} {fd : FuncData} {N ps fr : List Str} {k : Nat} {sp : LSp} {js : List Nat} {lsc : Scope} (F : FunC K x qual st f fd c) (S : FnScope N ps (defScope st)) (len : ∀ vs s Q E, sp vs s Q E → vs.length = ps.length)
    (hfr : frOf lsc.names = fr) (nfr : fr.Nodup) (kfr : ∀ y ∈ fr, (defScope st).names.lookup y = some .cell) (hjs : js.map (fun j => N[j]?) = fr.map some)
    (hbody : ∀ (A : Around) (outer : List Env) (si : Shared) (H : Hp) (E : XK), Room k (A.deeper (PyProof.Rows.envOfC qual (defScope st) si.heap.objs.size f (.ref c))) → CapX (cxOf (L2.CX P w) P w K mg base N qual (defScope st) f (.ref c) A outer si H E) fr lsc js →
      ∃ t, LP1 (cxOf (L2.CX P w) P w K mg base N qual (defScope st) f (.ref c) A outer si H E) js ((clX (cxOf (L2.CX P w) P w K mg base N qual (defScope st) f (.ref c) A outer si H E) lsc).map (·.2)) (defBody st) t ∧ ∀ vs s Q E, sp vs s Q E → t (mEnds Q E) (lstart N vs) s) : LFn P w K mg base (k + 1) f fd ps sp := by
  obtain ⟨oc, od, kV, doc, pm, an, ct, osl, rfl, lk, hcd⟩ := F.ex
  have len' : ∀ vs H Q E, dn K sp vs H Q E → vs.length = ps.length := fun vs H Q E ⟨lvs, s, Q0, E0, r, _, h, _⟩ => by rw [r.length]; exact len _ _ _ _ h
  refine ⟨len', fun A outer s H args us vs Q E hr e0 hb r hsp => ?_⟩
  have hl := len' _ _ _ _ hsp
  have KX : K.In s.heap := e0.mod.kin.keeps fun b o e => (e0.bs b o e).1
  have nl : s.heap.NoLimit := e0.mod.nolimit.keeps fun b o e => (e0.bs b o e).1
  refine codeAny_call_function hr.depth (KX _ _ lk) rfl S.co S.gen rfl (PySem.W.codeRec_of KX hcd) (hb _ _ _ _ ?_)
  refine wpAny_newFunctionEnv_cells S.kind (fun ⟨n, v⟩ hy => ?_) fun env he s1 x => ?_
  · rcases S.par n (List.of_mem_zip hy).1 with q | q
    · exact .inl q
    · exact .inr ⟨q, PySem.W.cellsFrom_some _ _ _ (.inl q)⟩
  subst he
  refine ⟨nl.keeps x.toInCall.keep, codeAny_func (show wpAny _ _ (execs (defBody st) _) _ _ _ from ?_)⟩
  obtain ⟨lvs, ls, Q0, E0, rl, hs, h, kq, ke⟩ := hsp
  have cp : CapX (cxOf (L2.CX P w) P w K mg base N qual (defScope st) f (.ref c) A outer s H E) fr lsc js := ⟨hfr, nfr, kfr, hjs, fun _ _ => rfl, fun y hy => cell_has (kfr y hy)⟩
  obtain ⟨t, ht, hbd⟩ := hbody A outer s H E (hr.deeper _) cp
  have tk := takes_of (X := cxOf (L2.CX P w) P w K mg base N qual (defScope st) f (.ref c) A outer s H E) (E := E) rfl rfl rfl rfl
  have I : Inv (cxOf (L2.CX P w) P w K mg base N qual (defScope st) f (.ref c) A outer s H E) [] (start N vs) H s1 := inv_start S hr.hd e0 hl r x
  have M := ht ls H (fun C σl s' => ∃ s2, Sub s2 s' ∧ E0 C s2) (tk.imp fun cls d σ H' w => by
    obtain ⟨C, σl, s', rfl, rfl, _, hs', st', s2, sb, q⟩ := w
    exact ke C s2 H' q (st'.trans sb.step) (sb.rel hs')) (passes_of rfl)
  obtain ⟨cl, ecl0⟩ : ∃ z, z = clX (cxOf (L2.CX P w) P w K mg base N qual (defScope st) f (.ref c) A outer s H E) lsc := ⟨_, rfl⟩
  rw [← ecl0] at M
  have start_ok : RSt K ls H (lstart N lvs) (start N vs) := by
    unfold lstart
    rw [show start N vs = vs.map some ++ List.replicate (N.length - vs.length) none from rfl, rl.length]
    exact (RSt.vals rl).append (.nones _)
  refine wpAny_mono (M.run [] s1 (start N vs) H (fun σ' v H' => ∃ ws : List Int, HldV js ws σ' ∧ ∀ H2, (∀ a ∈ cl.map (·.2), H' a = none) → (∀ p ∈ (cl.map (·.2)).zip (ws.map V.int), H2 p.1 = some (CelO p.1 p.2)) →
    (∀ b, b ∉ cl.map (·.2) → H2 b = H' b) → Q v H2) I ⟨lstart N lvs, ls, mEnds Q0 E0, start_ok, hs, .refl _ _, hbd lvs ls Q0 E0 h, fun ws lv s' σ H' v hrt st' hs' rv hv => ?_, fun _ _ _ z => z⟩) (fun fl s' hfl => ?_) fun e s' he => he
  · refine ⟨ws, hv, fun H2 h0 h2 r2 => ?_⟩
    have hs1 : @RelS K (gOf g (cl.map (fun q : Str × Addr => q.2)) ws) s' H' := hs'
    have rv1 : @RV K (gOf g (cl.map (fun q : Str × Addr => q.2)) ws) s' H' lv v := rv
    have hH : ∀ a (o : HO), H' a = Option.some o → H2 a = Option.some o := fun a o e => by rw [r2 a fun ha => by rw [h0 a ha] at e; cases e]; exact e
    have hc : ∀ c v, @CelH K (gOf g (cl.map (fun q : Str × Addr => q.2)) ws) s' H' c v → @CelH K g s' H2 c v := fun c v z => CelH.down hH (fun p hp => ⟨@RelS.free K (gOf g (cl.map (fun q : Str × Addr => q.2)) ws) _ _ _ hs1 (h0 _ (List.of_mem_zip hp).1), h2 p hp⟩) z
    have hs2 := RelS.conv (gOf g (cl.map (fun q : Str × Addr => q.2)) ws) g hH hc hs1
    have rv2 := RV.conv (gOf g (cl.map (fun q : Str × Addr => q.2)) ws) g hH hc rv1
    have st2 : Step s' H' s' H2 := fun a o e n => ⟨⟨o, hH a o e, .refl o⟩, n⟩
    obtain ⟨y, s2, fz, q⟩ := hrt
    obtain ⟨a1, a2, a3⟩ := fz K H2 v hs2 rv2
    exact kq y s2 v H2 q ((st'.trans st2).trans a3) a2 a1
  · obtain ⟨u, rfl, v, σ', H', J, rv, ws, hv, q⟩ := hfl
    have nd : (cl.map (·.2)).Nodup := by rw [ecl0]; exact cp.nd J.ok
    have h0 : ∀ a ∈ cl.map (·.2), H' a = none := fun a ha => by
      obtain ⟨⟨y, b⟩, hm, rfl⟩ := List.mem_map.mp ha
      exact J.freeC y b (cp.ecl (by rw [← ecl0]; exact hm)).1
    have l1 : cl.length = ws.length := by rw [ecl0]; exact cp.len hv
    have cells : ∀ p ∈ (cl.map (·.2)).zip (ws.map V.int), H' p.1 = none ∧ ∃ u, RelV p.2 u ∧ s'.heap.IsCell p.1 (some u) := fun p hp => by
      refine ⟨h0 _ (List.of_mem_zip hp).1, ?_⟩
      obtain ⟨i, hi, rfl⟩ := List.mem_iff_getElem.mp hp
      rw [List.length_zip, List.length_map, List.length_map, l1, Nat.min_self] at hi
      rw [List.getElem_zip]
      simp only [List.getElem_map]
      have hi' : i < cl.length := by omega
      obtain ⟨z1, z2⟩ := cp.ecl (y := cl[i].1) (a := cl[i].2) (by rw [← ecl0]; exact List.getElem_mem hi')
      have ey : fr[i]? = some cl[i].1 := by
        have := cp.keys
        rw [← ecl0] at this
        rw [← this, List.getElem?_map, List.getElem?_eq_getElem hi']; rfl
      have e2 : (js.map fun j => N[j]?)[i]? = some (some cl[i].1) := by rw [hjs, List.getElem?_map, ey]; rfl
      rw [List.getElem?_map] at e2
      cases ej : js[i]? with
      | none => rw [ej] at e2; cases e2
      | some j =>
        rw [ej] at e2
        have hN : N[j]? = some cl[i].1 := Option.some.inj e2
        obtain ⟨m, hn, hlk⟩ := J.loc
        obtain ⟨u, ru, l⟩ := hlk j cl[i].1 (.int ws[i]) hN (hv.get ej (List.getElem?_eq_getElem hi)) (.inr (.inl (kfr _ z2)))
        refine ⟨u, ru, ?_⟩
        rcases l with ⟨z, _⟩ | ⟨_, b, hb, hc⟩
        · have z' : (defScope st).names.lookup cl[i].1 = some .local := z
          rw [kfr _ z2] at z'
          cases z'
        · rw [z1] at hb
          cases hb
          exact hc
    have zf : ((cl.map (·.2)).zip (ws.map V.int)).map (·.1) = cl.map (·.2) := List.map_fst_zip (by rw [List.length_map, List.length_map]; omega)
    obtain ⟨H2, k2, h2, r2⟩ := cells_add _ (by rw [zf]; exact nd) J.hok cells
    rw [zf] at r2
    refine ⟨v, H2, J.os, J.bare, un_add J.base r2 h0 (fun a ha => ?_), k2, rv, q H2 h0 h2 r2⟩
    obtain ⟨⟨y, b⟩, hm, rfl⟩ := List.mem_map.mp ha
    exact Heap.get?_none_of_le (J.ok.cab y b rfl (cp.ecl (by rw [← ecl0]; exact hm)).1)
end
end L3

namespace PySem
open Sem (wp)
/-- a zip, whatever it says of the tuple that it gave out -/
abbrev IsZipF (h : Heap) (z TI TO : Addr) (f0 : Value) (ff : Bool) : Prop :=
  h.get? z = some { cls := .type "zip", dict := none, data := .fields #[f0, .bool ff, .bool false, .ref TI, .ref TO], slots := #[] }
section
variable {prog : Program} {w : World} {A : Around} {E : Value → Shared → Prop} {s : Shared}
def ZFree (prog : Program) (w : World) (z : Addr) (s : Shared) : Prop := ∀ (A : Around) (Q : Bool → Shared → Prop) (E : Value → Shared → Prop), Q true s → wpAny (model prog w) A (Builtin.SmallTypes.ownedTupleIsFree (.ref z)) Q E s
theorem zipF_none {z TI TO : Addr} {ff : Bool} (hz : IsZipF s.heap z TI TO .none ff) : ZFree prog w z s := fun A Q E h => by
  unfold Builtin.SmallTypes.ownedTupleIsFree
  exact wpAny_bind (wpAny_field hz rfl (x := .none) rfl (wpAny_pure h))
theorem zipF_dead {z TI TO T : Addr} {ff : Bool} (hz : IsZipF s.heap z TI TO (rawInt T) ff) (hT : s.heap.get? T = none) : ZFree prog w z s := fun A Q E h => by
  unfold Builtin.SmallTypes.ownedTupleIsFree
  refine wpAny_bind (wpAny_field hz rfl (x := rawInt T) rfl ?_)
  show wpAny _ _ (loadIfAlive ((T : Int).toNat) >>= _) _ _ _
  rw [Int.toNat_natCast]
  have al : ∀ {Q : Option Obj → Shared → Prop} {E : Value → Shared → Prop}, Q none s → wpAny (model prog w) A (loadIfAlive T) Q E s := fun {Q E} h => by
    have h' : Q (s.heap.get? T) s := by rw [hT]; exact h
    exact fun _ _ _ => h'
  refine wpAny_bind (al ?_)
  simp only [Option.isNone_none, if_true]
  exact wpAny_pure h
theorem zipF_next_item {z TI TO i1 i2 l1 l2 : Addr} {f0 : Value} {ff : Bool} {k1 k2 : Nat} {xs ys : Array Value} {x y a b : Value} {Q : Value → Shared → Prop} (D : ZipApart z TI TO i1 i2 l1 l2)
    (hz : IsZipF s.heap z TI TO f0 ff) (hfr : ZFree prog w z s) (hTI : IsPair s.heap TI (.ref i1) (.ref i2)) (hTO : IsPair s.heap TO a b)
    (h1 : s.heap.IsListIter i1 l1 k1) (h2 : s.heap.IsListIter i2 l2 k2) (hl1 : s.heap.IsList l1 xs) (hl2 : s.heap.IsList l2 ys) (hx : xs[k1]? = some x) (hy : ys[k2]? = some y)
    (hQ : ∀ h', IsZip h' z TI TO (rawInt s.heap.objs.size) → IsPair h' TO x y → h'.IsListIter i1 l1 (k1 + 1) → h'.IsListIter i2 l2 (k2 + 1) → IsPair h' s.heap.objs.size x y → h'.objs.size = s.heap.objs.size + 1 →
      (∀ c o, c ≠ z → c ≠ TO → c ≠ i1 → c ≠ i2 → s.heap.get? c = some o → h'.get? c = some o) → Q (.ref s.heap.objs.size) { s with heap := h' }) :
    wpAny (model prog w) A (Builtin.«zip.__next__» ⟨[.ref z], []⟩) (fun fin s' => ∃ v, fin = .done (.ret v) ∧ Q v s') E s := by
  show wpAny _ _ (field (.ref z) 2 >>= _) _ _ _
  refine wpAny_bind (wpAny_field hz rfl (x := .bool false) rfl ?_)
  show wpAny _ _ (field (.ref z) 3 >>= _) _ _ _
  refine wpAny_bind (wpAny_field hz rfl (x := .ref TI) rfl ?_)
  refine wpAny_bind (wpAny_seqItems hTI rfl ?_)
  show wpAny _ _ (Builtin.SmallTypes.ownedTupleIsFree (.ref z) >>= _) _ _ _
  refine wpAny_bind (hfr _ _ _ ?_)
  simp only [if_true]
  refine wpAny_bind (wpAny_rule ?_)
  refine wpAny_bind (wpAny_field hz rfl (x := .ref TO) rfl ?_)
  refine wpAny_bind (wpAny_setField_rec hz (by simp) fun h₁ hz₁ hs₁ => ?_)
  replace hz₁ : IsZipF h₁ z TI TO .ellipsis ff := hz₁
  refine wpAny_bind ?_
  simp only [List.zipIdx_cons, List.zipIdx_nil, List.forIn_cons, List.forIn_nil]

  refine wpAny_bind (wpAny_bind (wpAny_onRaise ?_))
  show wpAny _ _ (Builtin.SmallTypes.nextOf (.ref i1) >>= _) _ _ _
  refine wpAny_bind (wpAny_nextOf_list_item (h1.extBut hs₁.extBut D.i1z) (hl1.extBut hs₁.extBut D.l1z) hx fun h₂ h1₂ hs₂ => wpAny_pure ?_)
  have hTO₂ : IsPair h₂ TO a b := hs₂.extBut _ _ D.TOi1 (hs₁.extBut _ _ D.TOz hTO)
  refine wpAny_bind (wpAny_seqItems hTO₂ rfl ?_)
  refine wpAny_bind (wpAny_updateSeq_pair hTO₂ fun h₃ hTO₃ hs₃ => ?_)
  replace hTO₃ : IsPair h₃ TO x b := hTO₃
  refine wpAny_bind (wpAny_letGo (wpAny_pure ?_))

  refine wpAny_bind (wpAny_bind (wpAny_onRaise ?_))
  show wpAny _ _ (Builtin.SmallTypes.nextOf (.ref i2) >>= _) _ _ _
  refine wpAny_bind (wpAny_nextOf_list_item (((h2.extBut hs₁.extBut D.i2z).extBut hs₂.extBut D.i12.symm).extBut hs₃.extBut D.TOi2.symm)
    (((hl2.extBut hs₁.extBut D.l2z).extBut hs₂.extBut D.l2i1).extBut hs₃.extBut D.l2TO) hy fun h₄ h2₄ hs₄ => wpAny_pure ?_)
  have hTO₄ : IsPair h₄ TO x b := hs₄.extBut _ _ D.TOi2 hTO₃
  refine wpAny_bind (wpAny_seqItems hTO₄ rfl ?_)
  refine wpAny_bind (wpAny_updateSeq_pair hTO₄ fun h₅ hTO₅ hs₅ => ?_)
  replace hTO₅ : IsPair h₅ TO x y := hTO₅
  refine wpAny_bind (wpAny_letGo (wpAny_pure (wpAny_pure ?_)))

  refine wpAny_bind (wpAny_seqItems hTO₅ rfl ?_)
  refine wpAny_bind (wpAny_newTuple ?_)
  have hsz : h₅.objs.size = s.heap.objs.size := by rw [hs₅.1, hs₄.1, hs₃.1, hs₂.1, hs₁.1]
  have hz₅ : IsZipF h₅ z TI TO .ellipsis ff := hs₅.extBut _ _ D.TOz.symm (hs₄.extBut _ _ D.i2z.symm (hs₃.extBut _ _ D.TOz.symm (hs₂.extBut _ _ D.i1z.symm hz₁)))
  have hk₅ : ∀ c o, c ≠ z → c ≠ TO → c ≠ i1 → c ≠ i2 → s.heap.get? c = some o → h₅.get? c = some o := fun c o c1 c2 c3 c4 e =>
    hs₅.extBut _ _ c2 (hs₄.extBut _ _ c4 (hs₃.extBut _ _ c2 (hs₂.extBut _ _ c3 (hs₁.extBut _ _ c1 e))))
  have h1₅ : h₅.IsListIter i1 l1 (k1 + 1) := ((h1₂.extBut hs₃.extBut D.TOi1.symm).extBut hs₄.extBut D.i12).extBut hs₅.extBut D.TOi1.symm
  have h2₅ : h₅.IsListIter i2 l2 (k2 + 1) := h2₄.extBut hs₅.extBut D.TOi2.symm
  have hzlt : z < h₅.objs.size := Heap.lt_size hz₅
  have hTOlt : TO < h₅.objs.size := Heap.lt_size hTO₅
  have hi1lt : i1 < h₅.objs.size := by obtain ⟨_, e, _⟩ := h1₅; exact Heap.lt_size e
  have hi2lt : i2 < h₅.objs.size := by obtain ⟨_, e, _⟩ := h2₅; exact Heap.lt_size e
  show wpAny _ _ (Builtin.SmallTypes.ownedTupleHandOut (.ref z) (.ref h₅.objs.size) >>= _) _ _ _
  refine wpAny_bind ?_
  unfold Builtin.SmallTypes.ownedTupleHandOut
  have hz₆ : IsZipF (h₅.push { cls := .type "tuple", data := .seq #[x, y] }) z TI TO .ellipsis ff := Heap.get?_push_of_some _ hz₅
  refine wpAny_bind (wpAny_setField_rec hz₆ (by simp) fun h₇ hz₇ hs₇ => ?_)
  replace hz₇ : IsZipF h₇ z TI TO (rawInt h₅.objs.size) ff := hz₇
  refine wpAny_setField_rec hz₇ (by simp) fun h₈ hz₈ hs₈ => ?_
  replace hz₈ : IsZip h₈ z TI TO (rawInt h₅.objs.size) := hz₈
  have up : ∀ c o, c ≠ z → h₅.get? c = some o → h₈.get? c = some o := fun c o c1 e => hs₈.extBut _ _ c1 (hs₇.extBut _ _ c1 (Heap.get?_push_of_some _ e))
  have hT₈ : IsPair h₈ h₅.objs.size x y := hs₈.extBut _ _ (Nat.ne_of_gt hzlt) (hs₇.extBut _ _ (Nat.ne_of_gt hzlt) (Heap.get?_push_size _ rfl))
  have hz8 : h₈.objs.size = h₅.objs.size + 1 := by rw [hs₈.1, hs₇.1, Heap.size_push]
  rw [hsz] at hz₈ hT₈ hz8
  refine wpAny_pure ⟨_, rfl, ?_⟩
  show Q (.ref h₅.objs.size) _
  rw [hsz]
  exact hQ h₈ hz₈ (up _ _ D.TOz hTO₅) (h1₅.at fun o e => up _ o D.i1z e) (h2₅.at fun o e => up _ o D.i2z e) hT₈ hz8 fun c o c1 c2 c3 c4 e => up c o c1 (hk₅ c o c1 c2 c3 c4 e)

theorem zipF_next_end {z TI TO i1 i2 l1 l2 : Addr} {f0 : Value} {ff : Bool} {k1 k2 : Nat} {xs ys : Array Value} {a b : Value} {Q : Fin → Shared → Prop} (hh : A.handled = none) (D : ZipApart z TI TO i1 i2 l1 l2)
    (hz : IsZipF s.heap z TI TO f0 ff) (hfr : ZFree prog w z s) (hTI : IsPair s.heap TI (.ref i1) (.ref i2)) (hTO : IsPair s.heap TO a b)
    (h1 : s.heap.IsListIter i1 l1 k1) (h2 : s.heap.IsListIter i2 l2 k2) (hl1 : s.heap.IsList l1 xs) (hl2 : s.heap.IsList l2 ys) (hend : xs[k1]? = none ∨ ys[k2]? = none)
    (hE : ∀ h' e, (∀ c o, c ≠ z → c ≠ TO → c ≠ i1 → c ≠ i2 → s.heap.get? c = some o → h'.get? c = some o) → (∃ o, h'.get? e = some o ∧ o.cls = .type "StopIteration") → E (.ref e) { s with heap := h' }) :
    wpAny (model prog w) A (Builtin.«zip.__next__» ⟨[.ref z], []⟩) Q E s := by
  show wpAny _ _ (field (.ref z) 2 >>= _) _ _ _
  refine wpAny_bind (wpAny_field hz rfl (x := .bool false) rfl ?_)
  show wpAny _ _ (field (.ref z) 3 >>= _) _ _ _
  refine wpAny_bind (wpAny_field hz rfl (x := .ref TI) rfl ?_)
  refine wpAny_bind (wpAny_seqItems hTI rfl ?_)
  show wpAny _ _ (Builtin.SmallTypes.ownedTupleIsFree (.ref z) >>= _) _ _ _
  refine wpAny_bind (hfr _ _ _ ?_)
  simp only [if_true]
  refine wpAny_bind (wpAny_rule ?_)
  refine wpAny_bind (wpAny_field hz rfl (x := .ref TO) rfl ?_)
  refine wpAny_bind (wpAny_setField_rec hz (by simp) fun h₁ hz₁ hs₁ => ?_)
  replace hz₁ : IsZipF h₁ z TI TO .ellipsis ff := hz₁
  refine wpAny_bind ?_
  simp only [List.zipIdx_cons, List.zipIdx_nil, List.forIn_cons, List.forIn_nil]
  refine wpAny_bind (wpAny_bind (wpAny_onRaise ?_))
  show wpAny _ _ (Builtin.SmallTypes.nextOf (.ref i1) >>= _) _ _ _
  cases hx : xs[k1]? with
  | none =>
    refine wpAny_bind (wpAny_nextOf_list_end hh (h1.extBut hs₁.extBut D.i1z) (hl1.extBut hs₁.extBut D.l1z) hx fun h₂ e hs₂ he => ?_)
    obtain ⟨oe, hoe, hce⟩ := he
    have hz₂ : IsZipF h₂ z TI TO .ellipsis ff := hs₂ _ _ D.i1z.symm hz₁
    have hez : e ≠ z := fun x => by subst x; rw [hz₂] at hoe; cases hoe; simp at hce
    refine wpAny_setField_rec hz₂ (by simp) fun h₃ _ hs₃ => hE h₃ e (fun c o c1 _ c3 _ x => hs₃.extBut _ _ c1 (hs₂ _ _ c3 (hs₁.extBut _ _ c1 x))) ⟨oe, hs₃.extBut _ _ hez hoe, hce⟩
  | some x =>
    have hy : ys[k2]? = none := by rcases hend with h | h; rw [hx] at h; cases h; exact h
    refine wpAny_bind (wpAny_nextOf_list_item (h1.extBut hs₁.extBut D.i1z) (hl1.extBut hs₁.extBut D.l1z) hx fun h₂ h1₂ hs₂ => wpAny_pure ?_)
    have hTO₂ : IsPair h₂ TO a b := hs₂.extBut _ _ D.TOi1 (hs₁.extBut _ _ D.TOz hTO)
    refine wpAny_bind (wpAny_seqItems hTO₂ rfl ?_)
    refine wpAny_bind (wpAny_updateSeq_pair hTO₂ fun h₃ hTO₃ hs₃ => ?_)
    refine wpAny_bind (wpAny_letGo (wpAny_pure ?_))
    refine wpAny_bind (wpAny_bind (wpAny_onRaise ?_))
    show wpAny _ _ (Builtin.SmallTypes.nextOf (.ref i2) >>= _) _ _ _
    refine wpAny_bind (wpAny_nextOf_list_end hh (((h2.extBut hs₁.extBut D.i2z).extBut hs₂.extBut D.i12.symm).extBut hs₃.extBut D.TOi2.symm)
      (((hl2.extBut hs₁.extBut D.l2z).extBut hs₂.extBut D.l2i1).extBut hs₃.extBut D.l2TO) hy fun h₄ e hs₄ he => ?_)
    obtain ⟨oe, hoe, hce⟩ := he
    have hz₄ : IsZipF h₄ z TI TO .ellipsis ff := hs₄ _ _ D.i2z.symm (hs₃.extBut _ _ D.TOz.symm (hs₂.extBut _ _ D.i1z.symm hz₁))
    have hez : e ≠ z := fun x => by subst x; rw [hz₄] at hoe; cases hoe; simp at hce
    refine wpAny_setField_rec hz₄ (by simp) fun h₅ _ hs₅ => hE h₅ e (fun c o c1 c2 c3 c4 x => hs₅.extBut _ _ c1 (hs₄ _ _ c4 (hs₃.extBut _ _ c2 (hs₂.extBut _ _ c3 (hs₁.extBut _ _ c1 x))))) ⟨oe, hs₅.extBut _ _ hez hoe, hce⟩

theorem wpAny_pyNext_zipF_item {z TI TO i1 i2 l1 l2 : Addr} {f0 : Value} {ff : Bool} {k1 k2 : Nat} {xs ys : Array Value} {x y a b : Value} {Q : Option Value → Shared → Prop} (D : ZipApart z TI TO i1 i2 l1 l2)
    (hz : IsZipF s.heap z TI TO f0 ff) (hfr : ZFree prog w z s) (hTI : IsPair s.heap TI (.ref i1) (.ref i2)) (hTO : IsPair s.heap TO a b)
    (h1 : s.heap.IsListIter i1 l1 k1) (h2 : s.heap.IsListIter i2 l2 k2) (hl1 : s.heap.IsList l1 xs) (hl2 : s.heap.IsList l2 ys) (hx : xs[k1]? = some x) (hy : ys[k2]? = some y)
    (hQ : ∀ h', IsZip h' z TI TO (rawInt s.heap.objs.size) → IsPair h' TO x y → h'.IsListIter i1 l1 (k1 + 1) → h'.IsListIter i2 l2 (k2 + 1) → IsPair h' s.heap.objs.size x y → h'.objs.size = s.heap.objs.size + 1 →
      (∀ c o, c ≠ z → c ≠ TO → c ≠ i1 → c ≠ i2 → s.heap.get? c = some o → h'.get? c = some o) → Q (some (.ref s.heap.objs.size)) { s with heap := h' }) :
    wpAny (model prog w) A (pyNext (.ref z)) Q E s := by
  have hT : s.TypeIs (.ref z) "zip" := ⟨_, hz, rfl⟩
  unfold pyNext
  exact wpAny_bind (wpAny_attempt (wpAny_callSpecial?_slot (name := Str.ofString "__next__") hT F.slot_zip_next
    (wpAny_call_entry F.slot_zip_next hT F.entry_zip_next
      (zipF_next_item D hz hfr hTI hTO h1 h2 hl1 hl2 hx hy fun h' a1 a2 a3 a4 a5 a6 a7 => wpAny_pure (hQ h' a1 a2 a3 a4 a5 a6 a7)) (F.args_zip_next_1 _))))

theorem wpAny_pyNext_zipF_end {z TI TO i1 i2 l1 l2 : Addr} {f0 : Value} {ff : Bool} {k1 k2 : Nat} {xs ys : Array Value} {a b : Value} {Q : Option Value → Shared → Prop} (hh : A.handled = none) (D : ZipApart z TI TO i1 i2 l1 l2)
    (hz : IsZipF s.heap z TI TO f0 ff) (hfr : ZFree prog w z s) (hTI : IsPair s.heap TI (.ref i1) (.ref i2)) (hTO : IsPair s.heap TO a b)
    (h1 : s.heap.IsListIter i1 l1 k1) (h2 : s.heap.IsListIter i2 l2 k2) (hl1 : s.heap.IsList l1 xs) (hl2 : s.heap.IsList l2 ys) (hend : xs[k1]? = none ∨ ys[k2]? = none)
    (hQ : ∀ h', (∀ c o, c ≠ z → c ≠ TO → c ≠ i1 → c ≠ i2 → s.heap.get? c = some o → h'.get? c = some o) → Q none { s with heap := h' }) : wpAny (model prog w) A (pyNext (.ref z)) Q E s := by
  have hT : s.TypeIs (.ref z) "zip" := ⟨_, hz, rfl⟩
  unfold pyNext
  refine wpAny_bind (wpAny_attempt (wpAny_callSpecial?_slot (name := Str.ofString "__next__") hT F.slot_zip_next
    (wpAny_call_entry F.slot_zip_next hT F.entry_zip_next (zipF_next_end hh D hz hfr hTI hTO h1 h2 hl1 hl2 hend fun h' e hk he => ?_) (F.args_zip_next_1 _))))
  obtain ⟨o, ho, hc⟩ := he
  refine wpAny_bind (wpAny_isInstance (T := "StopIteration") (b := true) ⟨o, ho, hc⟩ isSubtype_stop ?_)
  exact wpAny_pure (hQ _ hk)

theorem wpAny_pyIter_zipF {z TI TO : Addr} {f0 : Value} {ff : Bool} {Q : Value → Shared → Prop} (hz : IsZipF s.heap z TI TO f0 ff) (h : Q (.ref z) s) : wpAny (model prog w) A (pyIter (.ref z)) Q E s := by
  have hT : s.TypeIs (.ref z) "zip" := ⟨_, hz, rfl⟩
  refine wpAny_pyIter_slot hT F.slot_zip_iter (wpAny_call_entry F.slot_zip_iter hT F.entry_zip_iter ?_ (F.args_zip_iter_1 _))
  show wpAny _ _ (ret (.ref z)) _ _ s
  exact wpAny_pure ⟨_, rfl, "zip", _, hT, F.slot_zip_next.lookup, h⟩
end
end PySem
namespace L3
open PySem PySem.Spec PyProof.Rows L2
/-- no tuple is let go by a plain name -/
theorem goName {M : Model} {A : Around} {E : Value → Shared → Prop} {s : Shared} {n : Str} {p : Pos} {it u : Value} {Q : Unit → Shared → Prop} (hQ : Q () s) : wpAny M A (letOwnedTupleGo (.Name n p) it u) Q E s := by
  unfold letOwnedTupleGo
  exact wpAny_pure hQ
theorem turn_zipN {P : Program} {w : World} {K : PySem.W.Frag} {n : Str} {np : Pos} {a b z TI TO i1 i2 : Addr} (D : ZipApart z TI TO i1 i2 a b) :
    Turn P w K (.Name n np) (Itz K a b) [z, TI, TO, i1, i2] z (fun i h => (∃ f0 ff, IsZipF h z TI TO f0 ff ∧ (f0 = .none ∨ ∃ T : Nat, f0 = rawInt T)) ∧ IsPair h TI (.ref i1) (.ref i2) ∧ (∃ x y, IsPair h TO x y) ∧ h.IsListIter i1 a i ∧ h.IsListIter i2 b i) where
  mem := by simp
  obj := fun i h st c hc => by
    obtain ⟨⟨f0, ff, hz, _⟩, hTI, ⟨x, y, hTO⟩, ⟨o1, e1, _, d1⟩, ⟨o2, e2, _, d2⟩⟩ := st
    have e' : c = z ∨ c = TI ∨ c = TO ∨ c = i1 ∨ c = i2 := by simpa using hc
    rcases e' with q | q | q | q | q
    · rw [q]; exact ⟨_, hz, fun v q => nomatch q⟩
    · rw [q]; exact ⟨_, hTI, fun v q => nomatch q⟩
    · rw [q]; exact ⟨_, hTO, fun v q => nomatch q⟩
    · rw [q]; exact ⟨o1, e1, fun v q => by rw [d1] at q; cases q⟩
    · rw [q]; exact ⟨o2, e2, fun v q => by rw [d2] at q; cases q⟩
  keep := fun i h h' st k => by
    obtain ⟨⟨f0, ff, hz, hf⟩, hTI, ⟨x, y, hTO⟩, h1, h2⟩ := st
    exact ⟨⟨f0, ff, k z (by simp) _ hz, hf⟩, k TI (by simp) _ hTI, ⟨x, y, k TO (by simp) _ hTO⟩, h1.at fun o q => k i1 (by simp) o q, h2.at fun o q => k i2 (by simp) o q⟩
  item := by
    intro X hP hw hK hc i pins s σ H E I hf st hg
    subst hP hw hK
    obtain ⟨⟨f0, ff, hz, hf0⟩, hTI, ⟨x0, y0, hTO⟩, h1, h2⟩ := st
    obtain ⟨xs, ys, x, y, hqx, hqy, hx, hy⟩ := hg
    obtain ⟨its, rv, p, _⟩ := I.list hqx
    obtain ⟨its2, rv2, p2, _⟩ := I.list hqy
    obtain ⟨u, hu, ru⟩ := rv.get hx
    obtain ⟨u2, hu2, ru2⟩ := rv2.get hy
    have hzl : z < s.heap.objs.size := Heap.lt_size hz
    -- what a new pair leads to
    have fin : ∀ h' : Heap, (∃ f0 ff, IsZipF h' z TI TO f0 ff ∧ (f0 = .none ∨ ∃ T : Nat, f0 = rawInt T)) → IsPair h' TI (.ref i1) (.ref i2) → (∃ x y, IsPair h' TO x y) → h'.IsListIter i1 a (i + 1) → h'.IsListIter i2 b (i + 1) → IsPair h' s.heap.objs.size u u2 → h'.objs.size = s.heap.objs.size + 1 →
        (∀ c o, c ≠ z → c ≠ TO → c ≠ i1 → c ≠ i2 → s.heap.get? c = some o → h'.get? c = some o) →
        ∃ u', some (Value.ref s.heap.objs.size) = some u' ∧ wpAny (model X.prog X.w) X.A (letOwnedTupleGo (.Name n np) (.ref z) u') (fun _ s2 => ∃ x H', Inv X pins σ H' s2 ∧ RelV x u' ∧ (Itz X.K a b).yld i H x H' ∧ ((∃ f0 ff, IsZipF s2.heap z TI TO f0 ff ∧ (f0 = .none ∨ ∃ T : Nat, f0 = rawInt T)) ∧ IsPair s2.heap TI (.ref i1) (.ref i2) ∧ (∃ x y, IsPair s2.heap TO x y) ∧ s2.heap.IsListIter i1 a (i + 1) ∧ s2.heap.IsListIter i2 b (i + 1)) ∧ ∀ b ∈ [z, TI, TO, i1, i2], H' b = none) E { s with heap := h' } := by
      intro h' z' TI' TO' h1' h2' hT hsz hk
      refine ⟨_, rfl, goName ?_⟩
      have hT2 : h'.get? s.heap.objs.size = some { cls := .type "tuple", data := .seq #[u, u2] } := hT
      have new : ObjOk X.prog X.w (upd H s.heap.objs.size (.tup [x, y])) h' s.heap.objs.size (.tup [x, y]) :=
        ⟨by show 2 ≤ sizeLine; decide, [u, u2], .cons ru (.cons ru2 .nil), ⟨_, hT2, rfl, _, rfl⟩⟩
      have I1 : Inv X pins σ (upd H s.heap.objs.size (.tup [x, y])) { s with heap := h' } :=
        I.turnedNew (t' := s.toks) (ch := [z, TI, TO, i1, i2]) (fun c o hb q => hk c o (fun q' => hb (by simp [q'])) (fun q' => hb (by simp [q'])) (fun q' => hb (by simp [q'])) (fun q' => hb (by simp [q'])) q) hf (Nat.le_refl _) new
      refine ⟨.ref s.heap.objs.size, _, I1, rfl, ⟨_, x, y, rfl, I.hok.fresh (Nat.le_refl _), rfl, fun l hl => by rw [I.list_inj hl hqx]; exact hx, fun l hl => by rw [I.list_inj hl hqy]; exact hy⟩, ⟨z', TI', TO', h1', h2'⟩, fun c hcm => ?_⟩
      have hlt : c < s.heap.objs.size := by
        have e' : c = z ∨ c = TI ∨ c = TO ∨ c = i1 ∨ c = i2 := by simpa using hcm
        rcases e' with q | q | q | q | q
        · rw [q]; exact hzl
        · rw [q]; exact Heap.lt_size hTI
        · rw [q]; exact Heap.lt_size hTO
        · rw [q]; obtain ⟨_, e1, _⟩ := h1; exact Heap.lt_size e1
        · rw [q]; obtain ⟨_, e2, _⟩ := h2; exact Heap.lt_size e2
      rw [upd_ne (Nat.ne_of_lt hlt)]
      exact (hf c hcm).1
    have free : ZFree X.prog X.w z s → wpAny (model X.prog X.w) X.A (pyNext (.ref z)) (fun r s1 => ∃ u, r = some u ∧ wpAny (model X.prog X.w) X.A (letOwnedTupleGo (.Name n np) (.ref z) u) (fun _ s2 => ∃ x H', Inv X pins σ H' s2 ∧ RelV x u ∧ (Itz X.K a b).yld i H x H' ∧ ((∃ f0 ff, IsZipF s2.heap z TI TO f0 ff ∧ (f0 = .none ∨ ∃ T : Nat, f0 = rawInt T)) ∧ IsPair s2.heap TI (.ref i1) (.ref i2) ∧ (∃ x y, IsPair s2.heap TO x y) ∧ s2.heap.IsListIter i1 a (i + 1) ∧ s2.heap.IsListIter i2 b (i + 1)) ∧ ∀ b ∈ [z, TI, TO, i1, i2], H' b = none) E s1) E s := fun hfr =>
      wpAny_pyNext_zipF_item D hz hfr hTI hTO h1 h2 p.isList p2.isList (x := u) (y := u2) (by simpa using hu) (by simpa using hu2) fun h' z' TO' h1' h2' hT hsz hk =>
        fin h' ⟨_, _, z', .inr ⟨_, rfl⟩⟩ (hk _ _ D.TIz D.TITO D.TIi1 D.TIi2 hTI) ⟨_, _, TO'⟩ h1' h2' hT hsz hk
    rcases hf0 with rfl | ⟨T, rfl⟩
    · exact free (zipF_none hz)
    · cases hT : s.heap.get? T with
      | none => exact free (zipF_dead hz hT)
      | some oT =>
        exact wpAny_pyNext_zip_item_held D hz hT hTI h1 h2 p.isList p2.isList (x := u) (y := u2) (by simpa using hu) (by simpa using hu2) fun h' z' h1' h2' hT' hsz hk =>
          fin h' ⟨_, _, z', .inr ⟨_, rfl⟩⟩ (hk _ _ D.TIz D.TIi1 D.TIi2 hTI) ⟨_, _, hk _ _ D.TOz D.TOi1 D.TOi2 hTO⟩ h1' h2' hT' hsz fun c o c1 _ c3 c4 e => hk c o c1 c3 c4 e
  done := by
    intro X hP hw hK hc i pins s σ H E I hf st hg
    subst hP hw hK
    obtain ⟨⟨f0, ff, hz, hf0⟩, hTI, ⟨x0, y0, hTO⟩, h1, h2⟩ := st
    obtain ⟨xs, ys, hqx, hqy, hend⟩ := hg
    obtain ⟨its, rv, p, _⟩ := I.list hqx
    obtain ⟨its2, rv2, p2, _⟩ := I.list hqy
    have l1 := rv.length
    have l2 := rv2.length
    have he : its.toArray[i]? = none ∨ its2.toArray[i]? = none := by
      rcases hend with q | q
      · exact .inl (by simp; omega)
      · exact .inr (by simp; omega)
    have free : ZFree X.prog X.w z s → wpAny (model X.prog X.w) X.A (pyNext (.ref z)) (fun r s1 => r = none ∧ Inv X pins σ H s1) E s := fun hfr =>
      wpAny_pyNext_zipF_end (I.ok.hd hc) D hz hfr hTI hTO h1 h2 p.isList p2.isList he fun h' hk => ⟨rfl, I.turnedL (t' := s.toks) (ch := [z, TI, TO, i1, i2]) (fun c o hb q =>
        hk c o (fun q' => hb (by simp [q'])) (fun q' => hb (by simp [q'])) (fun q' => hb (by simp [q'])) (fun q' => hb (by simp [q'])) q) hf⟩
    rcases hf0 with rfl | ⟨T, rfl⟩
    · exact free (zipF_none hz)
    · cases hT : s.heap.get? T with
      | none => exact free (zipF_dead hz hT)
      | some oT =>
        exact wpAny_pyNext_zip_end_held (I.ok.hd hc) D hz hT hTI h1 h2 p.isList p2.isList he fun h' hk => ⟨rfl, I.turnedL (t' := s.toks) (ch := [z, TI, TO, i1, i2]) (fun c o hb q =>
          hk c o (fun q' => hb (by simp [q'])) (fun q' => hb (by simp [q'])) (fun q' => hb (by simp [q'])) q) hf⟩
  self := fun A i s Q E st h => by
    obtain ⟨⟨f0, ff, hz, _⟩, _⟩ := st
    exact wpAny_pyIter_zipF hz h
theorem pi_zipN {X : Cx} {e e2 : Expr} {ta : TA} {p pos np : Pos} {n : Str} (hg : Gl X "zip") (hm : X.mg "zip" = none) (ha : PA X [e, e2] ta)
    (hs : starEach [e, e2] X.env = (false, eval e X.env) :: starEach [e2] X.env := by rfl) (hpl : (backTo pos (starEach [e2] X.env)).any (·.1) = false := by rfl) :
    PI X (.Name n np) (.Call (.Name "zip" p) [e, e2] [] pos) (iZip X.K ta) := by
  refine ⟨fun pins s σ H R I h => ?_⟩
  refine Call_ (ld_blt I hg hm PyProof.Rows.boot_zip (PyProof.Rows.callWith_type1 (thn (ha.run pos pins s σ H _ I h) fun us s1 ⟨vs, H1, I1, r1, q1⟩ => ?_) hs hpl))
  obtain ⟨a, b, xs, ys, rfl, hqx, hqy, q⟩ := q1
  cases r1 with
  | cons r rr =>
    cases rr with
    | cons r' rr =>
      cases rr
      cases r
      cases r'
      obtain ⟨its, rv, p1, _⟩ := I1.list hqx
      obtain ⟨its2, rv2, p2, _⟩ := I1.list hqy
      refine call_zip_2 p1.isList p2.isList fun h' hz hTI hTO h1 h2 hsz hk => wpAny_pyIter_zip hz ?_
      have I2 : Inv X pins σ H1 { s1 with heap := h' } := I1.kept (t' := s1.toks) hk
      refine ⟨s1.heap.objs.size + 4, [s1.heap.objs.size + 4, s1.heap.objs.size + 2, s1.heap.objs.size + 3, s1.heap.objs.size, s1.heap.objs.size + 1], _, _, H1, rfl, I2, turn_zipN (PySem.W.ktu_apart s1.heap.objs.size a b p1.lt p2.lt), ⟨⟨_, _, hz, .inl rfl⟩, hTI, ⟨_, _, hTO⟩, h1, h2⟩, fun c hcm => ?_, q⟩
      have e' : c = s1.heap.objs.size + 4 ∨ c = s1.heap.objs.size + 2 ∨ c = s1.heap.objs.size + 3 ∨ c = s1.heap.objs.size ∨ c = s1.heap.objs.size + 1 := by simpa using hcm
      have hle : s1.heap.objs.size ≤ c := by
        rcases e' with z | z | z | z | z
        · rw [z]; exact Nat.le_add_right _ _
        · rw [z]; exact Nat.le_add_right _ _
        · rw [z]; exact Nat.le_add_right _ _
        · rw [z]; exact Nat.le_refl _
        · rw [z]; exact Nat.le_add_right _ _
      exact I1.fpOk hle (I1.hok.fresh hle)
section
variable {X : Cx} [GG X.K] {K : PySem.W.Frag} [GG K] {s : LS} {H : Hp} {a b e o i : Expr} {es : List Expr} {pos : Pos} {ta tb te to ti : LTE} {tas : LTA} {tg : Expr}
variable {x : Str} {p : Pos}
theorem li_zipN {n : Str} {np : Pos} (hg : Gl X "zip") (hm : X.mg "zip" = none) (ha : LA X [a, b] tas) (hs : starEach [a, b] X.env = (false, eval a X.env) :: starEach [b] X.env := by rfl) (hpl : (backTo pos (starEach [b] X.env)).any (·.1) = false := by rfl) :
    LI X (.Name n np) (.Call (.Name "zip" p) [a, b] [] pos) (iZipL tas) := fun s0 H0 E tk =>
  (pi_zipN hg hm (ha s0 H0 E tk) hs hpl).imp fun σ H R ⟨σl, s, Q0, E1, hσ, hs, st, hE, h, k⟩ => ⟨σl, s, _, E1, hσ, hs, st, hE, h, fun lvs s1 vs H1 h st1 hs1 rs => by
    obtain ⟨lx, ly, rfl, h⟩ := two2_ok h
    obtain ⟨xs, e1, h⟩ := opt_ok h
    obtain ⟨ys, e2, h⟩ := opt_ok h
    obtain ⟨v, w, rfl, rx, ry⟩ := rs.two
    obtain ⟨q, us, rfl, hh, r⟩ := seqR_ok hs1 rx e1
    obtain ⟨q2, us2, rfl, hh2, r2⟩ := seqR_ok hs1 ry e2
    refine ⟨q, q2, us, us2, rfl, hh, hh2, k _ _ _ _ _ h st1 hs1 (it_pairs (n := min xs.length ys.length) rfl (fun i s2 H2 hi st2 hs2 b => ?_) (fun s2 H2 st2 hs2 b => ?_) fun i s2 H2 v H' hi st2 hs2 b y => ?_)⟩
    · obtain ⟨q', us', eq, hh', r'⟩ := seq_later rx hs1 e1 st2 hs2 b.1
      cases eq
      obtain ⟨q', us2', eq, hh2', r2'⟩ := seq_later ry hs1 e2 st2 hs2 b.2
      cases eq
      exact ⟨us', us2', us'[i]'(by rw [r'.length]; omega), us2'[i]'(by rw [r2'.length]; omega), hh', hh2', by simp, by simp⟩
    · obtain ⟨q', us', eq, hh', r'⟩ := seq_later rx hs1 e1 st2 hs2 b.1
      cases eq
      obtain ⟨q', us2', eq, hh2', r2'⟩ := seq_later ry hs1 e2 st2 hs2 b.2
      cases eq
      exact ⟨us', us2', hh', hh2', by rw [r'.length, r2'.length]; omega⟩
    · obtain ⟨q', us', eq, hh', r'⟩ := seq_later rx hs1 e1 st2 hs2 b.1
      cases eq
      obtain ⟨q', us2', eq, hh2', r2'⟩ := seq_later ry hs1 e2 st2 hs2 b.2
      cases eq
      obtain ⟨T, x, z, rfl, nT, rfl, hx, hz⟩ := y
      obtain ⟨lx, f1, f2⟩ := r'.get' (hx us' hh')
      obtain ⟨lz, g1, g2⟩ := r2'.get' (hz us2' hh2')
      exact ⟨T, x, z, lx, lz, rfl, nT, rfl, f1, g1, f2, g2⟩⟩

end
def rMaxT (K : PySem.W.Frag) : List V → Hp → VK → Prop := fun vs H Q => ∃ (a : Addr) (i j : Int), vs = [V.ref a] ∧ SqT K H a [.int i, .int j] ∧ Q (.int (max i j)) H
def rMinT (K : PySem.W.Frag) : List V → Hp → VK → Prop := fun vs H Q => ∃ (a : Addr) (i j : Int), vs = [V.ref a] ∧ SqT K H a [.int i, .int j] ∧ Q (.int (min i j)) H
theorem two_ints {h : Heap} {its : List Value} {i j : Int} (rv : Vals [V.int i, V.int j] its) : PySem.ReadsAll h its [.int i, .int j] [] ∧ its.length = 2 := by
  cases rv with
  | cons r rr =>
    cases rr with
    | cons r2 rr =>
      cases rr
      obtain ⟨t, rfl⟩ := r
      obtain ⟨t2, rfl⟩ := r2
      exact ⟨.cons (as := []) (.int _ _) (.cons (as := []) (.int _ _) .nil), rfl⟩
theorem two_alike (i j : Int) : PySem.W.AlikeAll [.int i, .int j] := by
  refine ⟨fun x hx y hy => ?_, fun x hx => ?_⟩
  · simp only [List.mem_cons, List.not_mem_nil, or_false] at hx hy
    rcases hx with rfl | rfl <;> rcases hy with rfl | rfl <;> rfl
  · simp only [List.mem_cons, List.not_mem_nil, or_false] at hx
    rcases hx with rfl | rfl <;> simp
section
variable {X : Cx}
theorem cr_maxT (hc : X.calm = true) (hu : X.A.units + 65 < cLine) : CallR X (.builtin "max") (rMaxT X.K) := by
  intro pins s σ H vs us Q I r h
  obtain ⟨a, i, j, rfl, hs, q⟩ := h
  obtain ⟨its, rv, hl, _⟩ := I.tuple hs
  rw [Vals.ref1 r]
  obtain ⟨h1, _⟩ := two_ints (h := s.heap) rv
  refine PySem.W.max_tuple_data (I.ok.hd hc) (show s.heap.IsTuple a its.toArray from hl) h1 (two_alike i j) (by simp [PyData.depthAll, PyData.depth]; omega) fun k v h' tk bs _ hr hk => ?_
  have e : PySem.W.maxD (.int i) [.int j] = .int (max i j) := PySem.W.maxD_ints i [j]
  rw [e] at hr
  cases hr
  exact ⟨.int _, H, I.kept hk, ⟨_, rfl⟩, q⟩
theorem cr_minT (hc : X.calm = true) (hu : X.A.units + 65 < cLine) : CallR X (.builtin "min") (rMinT X.K) := by
  intro pins s σ H vs us Q I r h
  obtain ⟨a, i, j, rfl, hs, q⟩ := h
  obtain ⟨its, rv, hl, _⟩ := I.tuple hs
  rw [Vals.ref1 r]
  obtain ⟨h1, _⟩ := two_ints (h := s.heap) rv
  refine PySem.W.min_tuple_data (I.ok.hd hc) (show s.heap.IsTuple a its.toArray from hl) h1 (two_alike i j) (by simp [PyData.depthAll, PyData.depth]; omega) fun k v h' tk bs _ hr hk => ?_
  have e : PySem.W.minD (.int i) [.int j] = .int (min i j) := PySem.W.minD_ints i [j]
  rw [e] at hr
  cases hr
  exact ⟨.int _, H, I.kept hk, ⟨_, rfl⟩, q⟩
end
section
variable {X : Cx} [GG X.K] {K : PySem.W.Frag} [GG K] {s : LS} {H : Hp} {a b e o i : Expr} {es : List Expr} {pos : Pos} {ta tb te to ti : LTE} {tas : LTA} {tg : Expr}
variable {x : Str} {p : Pos}
def rMaxTL : LRc := fun vs s Q => match vs with
  | [.tup [.int i, .int j]] => Q (.int (max i j)) s
  | _ => False
def rMinTL : LRc := fun vs s Q => match vs with
  | [.tup [.int i, .int j]] => Q (.int (min i j)) s
  | _ => False
@[simp] theorem rMaxT_ap (i j : Int) (s : LS) (Q : LVK) : rMaxTL [.tup [.int i, .int j]] s Q = Q (.int (max i j)) s := rfl
@[simp] theorem rMinT_ap (i j : Int) (s : LS) (Q : LVK) : rMinTL [.tup [.int i, .int j]] s Q = Q (.int (min i j)) s := rfl
theorem rMaxT_ok {vs : List LV} {s : LS} {Q : LVK} (h : rMaxTL vs s Q) : ∃ i j, vs = [.tup [.int i, .int j]] ∧ Q (.int (max i j)) s := by
  unfold rMaxTL at h
  split at h
  · exact ⟨_, _, rfl, h⟩
  · exact h.elim
theorem rMinT_ok {vs : List LV} {s : LS} {Q : LVK} (h : rMinTL vs s Q) : ∃ i j, vs = [.tup [.int i, .int j]] ∧ Q (.int (min i j)) s := by
  unfold rMinTL at h
  split at h
  · exact ⟨_, _, rfl, h⟩
  · exact h.elim
theorem two_at {i j : Int} {v : V} (r : RV K s H (.tup [.int i, .int j]) v) : ∃ a, v = .ref a ∧ SqT K H a [.int i, .int j] := by
  simp only [RV] at r
  obtain ⟨a, us, rfl, n, h, r⟩ := r
  simp only [RVs] at r
  obtain ⟨u, us2, rfl, r1, u2, us3, rfl, r2, rfl⟩ := r
  simp only [RV] at r1 r2
  subst r1 r2
  exact ⟨a, rfl, SqT.of h⟩
theorem up_maxT : UpC K (rMaxT K) rMaxTL := fun vs s H lvs Q0 Q hs r h k => by
  obtain ⟨i, j, rfl, h⟩ := rMaxT_ok h
  obtain ⟨v, rfl, r1⟩ := r.one
  obtain ⟨a, rfl, hq⟩ := two_at r1
  exact ⟨a, i, j, rfl, hq, k _ _ _ _ h (.refl _ _) hs .int⟩
theorem up_minT : UpC K (rMinT K) rMinTL := fun vs s H lvs Q0 Q hs r h k => by
  obtain ⟨i, j, rfl, h⟩ := rMinT_ok h
  obtain ⟨v, rfl, r1⟩ := r.one
  obtain ⟨a, rfl, hq⟩ := two_at r1
  exact ⟨a, i, j, rfl, hq, k _ _ _ _ h (.refl _ _) hs .int⟩
theorem le_maxT (hc : X.calm = true) (hu : X.A.units + 65 < cLine) (hg : Gl X "max") (hm : X.mg "max" = none) (ha : LA X (e :: es) tas) (he : starEach (e :: es) X.env = (false, eval e X.env) :: starEach es X.env := by rfl) (hpl : (backTo pos (starEach es X.env)).any (·.1) = false := by rfl) :
    LE X (.Call (.Name "max" p) (e :: es) [] pos) (lCB rMaxTL tas) := le_cb (cr_maxT hc hu) up_maxT hg hm (by decide +kernel) ha (by decide) (by decide) he hpl
theorem le_minT (hc : X.calm = true) (hu : X.A.units + 65 < cLine) (hg : Gl X "min") (hm : X.mg "min" = none) (ha : LA X (e :: es) tas) (he : starEach (e :: es) X.env = (false, eval e X.env) :: starEach es X.env := by rfl) (hpl : (backTo pos (starEach es X.env)).any (·.1) = false := by rfl) :
    LE X (.Call (.Name "min" p) (e :: es) [] pos) (lCB rMinTL tas) := le_cb (cr_minT hc hu) up_minT hg hm (by decide +kernel) ha (by decide) (by decide) he hpl
end
def rGet2L (x y z : LV) (s : LS) (Q : LVK) : Prop := match y with
  | .tup ks => opt (dicT x s) fun kvs => opt (keysL ks) fun k => Q ((valL kvs k).getD z) s
  | _ => False
@[simp] theorem rGet2_tup (x z : LV) (ks : List LV) (s : LS) (Q : LVK) : rGet2L x (.tup ks) z s Q = opt (dicT x s) fun kvs => opt (keysL ks) fun k => Q ((valL kvs k).getD z) s := rfl
def lGet2 (td ty tx : LTE) : LTE := fun σ s Q E => td σ s (fun x s1 => (dicT x s1).isSome = true ∧ ty σ s1 (fun y s2 => tx σ s2 (fun z s3 => rGet2L x y z s3 Q) E) E) E
section
variable {X : Cx} [GG X.K] {o e f : Expr} {to ty tx : LTE} {apos cpos : Pos}
theorem le_get2 (hu : X.A.units + 1 < cLine) (ho : LE X o to) (he : LE X e ty) (hf : LE X f tx) 
    (h1 : attributeBase o "get" X.env (eval o X.env) = eval o X.env := by rfl)
    (h2 : ((backTo cpos (starEach [e, f] X.env)).all (fun x => !x.1) && (backToKw cpos (keywordEach [] X.env)).all (fun x => x.1.isSome)
      && decide (([e, f] : List Expr).length + ([] : List Keyword).length + (if ([] : List Keyword).isEmpty then 0 else 1) < 30)) = true := by rfl)
    (h3 : (apos.endLine == cpos.line) = true := by rfl) (h4 : backTo cpos (starEach [e, f] X.env) = [(false, eval e X.env), (false, eval f X.env)] := by rfl) :
    LE X (.Call (.Attribute o "get" apos) [e, f] [] cpos) (lGet2 to ty tx) := fun s0 H0 E tk => (pe_dget2 hu (ho s0 H0 E tk) (he s0 H0 E tk) (hf s0 H0 E tk) ⟨h1, h2, h3, h4⟩).imp fun σ H Q ⟨σl, s, Q0, E1, hσ, hs, st, hE, h, k⟩ =>
  ⟨σl, s, _, E1, hσ, hs, st, hE, h, fun lx s1 x H1 h st1 hs1 rx => by
    obtain ⟨kvs, ed⟩ := Option.isSome_iff_exists.mp h.1
    obtain ⟨p, us, ob, rfl, hh, d, r⟩ := dicT_ok hs1 rx ed
    have isd : IsD H1 p := by
      rcases d with rfl | ⟨_, rfl⟩
      · exact .inr ⟨us, .inl hh⟩
      · exact .inr ⟨us, .inr ⟨_, hh⟩⟩
    refine ⟨p, rfl, isd, σl, s1, _, E1, hσ.mono st1, hs1, st.trans st1, hE, h.2, fun ly s2 y H2 h st2 hs2 ry => ⟨σl, s2, _, E1, (hσ.mono st1).mono st2, hs2, (st.trans st1).trans st2, hE, h, fun lz s3 z H3 h st3 hs3 rz => ?_⟩⟩
    cases ly with
    | tup ks =>
      obtain ⟨kvs3, ed3, h⟩ := opt_ok h
      obtain ⟨kk, ek, h⟩ := opt_ok h
      obtain ⟨p3, us3, ob3, e3, hh3, d3, r3⟩ := dicT_ok hs3 ((rx.mono st2).mono st3) ed3
      cases e3
      have ry3 := ry.mono st3
      simp only [RV] at ry3
      obtain ⟨b, us1, rfl, nb, hb, rk⟩ := ry3
      rw [keysL_ok ek rk] at hb
      have hv := r3.val kk
      have hrd : Rd H3 p (.dT us3) := by
        rcases d3 with rfl | ⟨_, rfl⟩
        · exact .inl hh3
        · exact .inr ⟨_, hh3⟩
      refine ⟨_, .inr ⟨us3, kk, b, hrd, rfl, hb, rfl⟩, ?_⟩
      cases e1 : valL kvs3 kk with
      | none =>
        rw [e1] at hv h
        have hv : valV us3 kk = none := hv
        rw [hv]
        exact k _ _ _ _ h ((st1.trans st2).trans st3) hs3 rz
      | some lv =>
        rw [e1] at hv h
        obtain ⟨u, eu, ru⟩ := hv
        rw [eu]
        exact k _ _ _ _ h ((st1.trans st2).trans st3) hs3 ru
    | _ => exact h.elim⟩
end
def rIsBL : LR2 := fun x y s Q => match x, y with
  | .bl a, .bl b => Q (.bl (decide (a = b))) s
  | _, _ => False
@[simp] theorem rIsB_ap (a b : Bool) (s : LS) (Q : LVK) : rIsBL (.bl a) (.bl b) s Q = Q (.bl (decide (a = b))) s := rfl
theorem rIsB_ok {x y : LV} {s : LS} {Q : LVK} (h : rIsBL x y s Q) : ∃ a b, x = .bl a ∧ y = .bl b ∧ Q (.bl (decide (a = b))) s := by
  unfold rIsBL at h
  split at h
  · exact ⟨_, _, rfl, rfl, h⟩
  · exact h.elim
section
variable {X : Cx} [GG X.K] {a b : Expr} {ta tb : LTE} {pos : Pos}
theorem up_isB {K : PySem.W.Frag} [GG K] : Up2 K (fun x y H Q => ∃ a b, x = .bl a ∧ y = .bl b ∧ Q (.bl (decide (a = b))) H) rIsBL := fun x y s H lx ly Q0 Q hs rx ry h k => by
  obtain ⟨a, b, rfl, rfl, h⟩ := rIsB_ok h
  exact ⟨a, b, rx.bl', ry.bl', k _ _ _ _ h (.refl _ _) hs .bl⟩
theorem le_isB (ha : LE X a ta) (hb : LE X b tb) : LE X (.Compare a [.Is] [b] pos) (lOp rIsBL ta tb) := le_cmp op_is_bl up_isB ha hb (nomark _)
theorem lt_isB (ha : LE X a ta) (hb : LE X b tb) : LT X (.Compare a [.Is] [b] pos) (lB (lOp rIsBL ta tb)) := lt_cmp op_is_bl up_isB ha hb (nomark _)
end
end L3

namespace L3
open PySem PySem.Spec PyProof.Rows L2
instance : Sor (T3 Nm Int Int) := ⟨fun a b => by simp [Cod.den, nmD, PySem.W.alike, PySem.W.alikeAll], fun a => ⟨_, _, rfl⟩, by decide⟩
end L3

namespace L2
open PySem PySem.Spec PySem.W PyProof.Rows
theorem reads_ints {h : Heap} : ∀ {ns : List Int} {its : List Value}, Vals (ns.map V.int) its → PySem.ReadsAll h its (ns.map PyData.int) []
  | [], _, .nil => .nil
  | n :: ns, _, .cons r rr => by
    obtain ⟨t, rfl⟩ := r
    exact .cons (as := []) (.int _ _) (reads_ints rr)
theorem ints_alike (ns : List Int) : PySem.W.AlikeAll (ns.map PyData.int) := by
  refine ⟨fun x hx y hy => ?_, fun x hx => ?_⟩
  · obtain ⟨a, _, rfl⟩ := List.mem_map.mp hx
    obtain ⟨b, _, rfl⟩ := List.mem_map.mp hy
    rfl
  · obtain ⟨a, _, rfl⟩ := List.mem_map.mp hx
    simp
theorem ints_depth : ∀ ns : List Int, PyData.depthAll (ns.map PyData.int) ≤ 1
  | [] => by simp [PyData.depthAll]
  | n :: ns => by
    have := ints_depth ns
    rw [List.map_cons]
    simp only [PyData.depthAll, PyData.depth]
    omega
theorem fold_max : ∀ (ns : List Int) (n : Int), ns.foldl max n ∈ n :: ns ∧ ∀ y ∈ n :: ns, y ≤ ns.foldl max n
  | [], n => ⟨List.mem_cons_self, fun y hy => by rw [List.mem_singleton.mp hy]; exact Int.le_refl _⟩
  | m :: ns, n => by
    obtain ⟨h1, h2⟩ := fold_max ns (max n m)
    rw [List.foldl_cons]
    have h0 := h2 _ List.mem_cons_self
    refine ⟨?_, fun y hy => ?_⟩
    · rcases List.mem_cons.mp h1 with e | e
      · rw [e]
        rcases Int.le_total n m with q | q
        · rw [Int.max_eq_right q]; simp
        · rw [Int.max_eq_left q]; simp
      · exact List.mem_cons_of_mem _ (List.mem_cons_of_mem _ e)
    · rcases List.mem_cons.mp hy with rfl | hy
      · omega
      · rcases List.mem_cons.mp hy with rfl | hy
        · omega
        · exact h2 y (List.mem_cons_of_mem _ hy)
section
variable {X : Cx}
def rMaxDf (K : PySem.W.Frag) : List V → List V → Hp → VK → Prop := fun vs zs H Q => ∃ (a : Addr) (ns : List Int) (d : V), vs = [V.ref a] ∧ zs = [d] ∧ SqL K H a (ns.map V.int) ∧ 0 < ns.length ∧ ∀ m, m ∈ ns → (∀ y, y ∈ ns → y ≤ m) → Q (.int m) H
theorem cr_maxDf (hc : X.calm = true) (hu : X.A.units + 65 < cLine) : CallRK X (.builtin "max") [Str.ofString "default"] (rMaxDf X.K) := by
  intro pins s σ H vs zs us ws Q I r rz h
  obtain ⟨a, ns, d, rfl, rfl, hs, hne, q⟩ := h
  obtain ⟨its, rv, hl, _⟩ := I.list hs
  rw [Vals.ref1 r]
  obtain ⟨w1, rfl, e1⟩ := vals1 rz
  refine PySem.W.max_list_default (I.ok.hd hc) hl.isList (by simpa using reads_ints (h := s.heap) rv) (ints_alike ns) (by have := ints_depth ns; omega) (fun e => ?_) fun y ys k v h' tk bs e _ hr hk => ?_
  · rw [List.map_eq_nil_iff] at e
    rw [e] at hne
    exact absurd hne (Nat.lt_irrefl _)
  · cases ns with
    | nil => cases e
    | cons n ns =>
      obtain ⟨rfl, rfl⟩ := List.cons.inj e
      rw [PySem.W.maxD_ints] at hr
      cases hr
      obtain ⟨h1, h2⟩ := fold_max ns n
      exact ⟨.int _, H, I.kept hk, ⟨_, rfl⟩, q _ h1 h2⟩
end
section
variable {X : Cx} {α : Type} {den : α → PyData} {e : Expr} {td : TE} {p pos : Pos}
theorem pe_sortedDk (hal : ∀ a b, alike (den a) (den b) = true) (htu : ∀ a, ∃ x r, den a = .tuple (x :: r)) (hdp : ∀ a, (den a).depth ≤ 62) (hu : X.A.units + 64 < cLine)
    (hc : X.calm = true) (hg : Gl X "sorted") (hm : X.mg "sorted" = none) (he : PE X e td) 
    (na : starEach [e] X.env = (false, eval e X.env) :: starEach [] X.env := by rfl) :
    PE X (.Call (.Name "sorted" p) [e] [] pos) (fun σ H Q => td σ H fun x H1 => ∃ d kvs, x = .ref d ∧ Rd H1 d (.dT kvs) ∧ rSortedKs X.K den kvs H1 Q) := by
  refine ⟨fun pins s σ H Q I h => ?_⟩
  refine wpAny_Call_Name_kw (ld_blt (u := .builtin "sorted") I hg hm (by decide +kernel) ?_ (by decide) (by decide))
  refine PyProof.Rows.callWith_builtin1 (args_cons (thn (he.run pins s σ H _ I h) fun u s1 ⟨x, H1, I1, rx, d, kvs, ex, hd, q⟩ => ?_) na) na (by rfl)
  subst ex
  obtain rfl : u = Value.ref d := rx
  obtain ⟨z, hs, xs, rel, dd⟩ := dt_rd I1.hok hd
  obtain ⟨es, ep, raw, hsz, hent⟩ := dd.raw
  refine args_nil ?_
  have hh : X.A.handled = none := I1.ok.hd hc
  have hl0 : kvs.length = es.size := by rw [hsz]; exact Paired.length rel
  have h64 : es.size ≤ sizeLine := by rw [← hl0]; exact z
  refine Calls.call_function_entry kind_sorted plain_sorted entry_sorted (args_sorted1 _) ?_
  unfold Builtin.«sorted»
  refine wpAny_bind (m := checkCount "sorted" 1 1 _) (wpAny_pure ?_)
  refine wpAny_bind (kdu_collect (A := X.A.in1) (KdlSrc.rawDict hs) hh raw h64 fun h' tk acc hk hacc => ?_)
  have hl : acc.toList.length = es.size := by rw [Array.length_toList]; exact hacc.1
  refine wpAny_bind (wpAny_newList ?_ (by rw [hl]; exact h64))
  have k1 : ∀ b o, s1.heap.get? b = some o → h'.get? b = some o := fun b o e => hk b o e
  obtain ⟨us, hul, hus⟩ : ∃ us : List V, us.length = acc.toList.length ∧ ∀ (j : Nat) v, us[j]? = some v → ∃ q k x, v = .ref q ∧ acc.toList[j]? = some (.ref q) ∧ kvs[j]? = some (k, x) ∧ H1 q = some (.tup (k.map kV)) := by
    have key : ∀ j, j < acc.toList.length → ∃ q k x, acc.toList[j]? = some (.ref q) ∧ kvs[j]? = some (k, x) ∧ H1 q = some (.tup (k.map kV)) := fun j hj => by
      have hj2 : j < kvs.length := by omega
      obtain ⟨⟨k, x⟩, hkv⟩ : ∃ y, kvs[j]? = some y := ⟨_, List.getElem?_eq_getElem hj2⟩
      obtain ⟨y, hy, e1, e2, e3⟩ := paired_get rel hkv
      have ha : acc.toList[j]? = some acc.toList[j] := List.getElem?_eq_getElem hj
      obtain ⟨hi, hv⟩ := hacc.2 j _ (by rw [← Array.getElem?_toList]; exact ha)
      obtain ⟨y', hy', q1, _⟩ := hent j hi
      rw [hy] at hy'
      cases hy'
      refine ⟨y.2.1, k, x, ?_, hkv, e2⟩
      rw [ha, hv, q1]
    refine ⟨acc.toList.map fun u => match u with | .ref q => V.ref q | _ => V.int 0, by simp, fun j v hj => ?_⟩
    have hj2 : j < acc.toList.length := by
      have := (List.getElem?_eq_some_iff.mp hj).1
      simpa using this
    obtain ⟨q, k, x, h1, h2, h3⟩ := key j hj2
    rw [List.getElem?_map, h1] at hj
    cases hj
    exact ⟨q, k, x, rfl, h1, h2, h3⟩
  obtain ⟨bs, rfl, hdp2, hq⟩ := q us (by omega) fun j v hj => by
    obtain ⟨q, k, x, e1, _, e2, e3⟩ := hus j v hj
    exact ⟨q, k, x, e1, e2, e3⟩
  have hvals : Vals (bs.map (·.2)) acc.toList := by
    refine vals_of_at hul fun j x u hx hu => ?_
    obtain ⟨q, k, y, rfl, e2, _⟩ := hus j x hx
    rw [e2] at hu
    cases hu
    rfl
  have I2 : Inv X pins σ H1 { s1 with heap := h', toks := tk } := I1.kept k1
  have hob : (h'.push { cls := .type "list", data := .seq acc.toList.toArray }).get? h'.objs.size = some (seqObj "list" acc.toList.toArray 0) := Heap.get?_push_size _ rfl
  have kb : ∀ b o, h'.get? b = some o → (h'.push { cls := .type "list", data := .seq acc.toList.toArray }).get? b = some o := fun b o e => Heap.get?_push_of_some _ e
  have ne0 : ∀ b o, h'.get? b = some o → b ≠ h'.objs.size := fun b o e => Nat.ne_of_lt (Heap.lt_size e)
  have hn0 : H1 h'.objs.size = none := I2.hok.fresh (Nat.le_refl _)
  generalize hh2 : h'.push { cls := .type "list", data := .seq acc.toList.toArray } = h3 at hob kb ⊢
  have er' : EachIs (fun v (b : α × V) => ∃ as, Reads (sortingHeap h3 h'.objs.size acc.toList) v (den b.1) as) acc.toList bs := eachOf hvals fun p m u r => by
    obtain ⟨as, rd⟩ := Dp.reads I2 _ _ _ (hdp2 p m) r
    exact ⟨as, PyProof.Rows.Reads.keeps (fun b o e => sortingHeap_old (ne0 _ _ e) (kb _ _ e)) rd⟩
  have er : EachIs (fun v (b : α × V) => RelV b.2 v) acc.toList bs := eachOf hvals fun p _ u r => r
  have hbl : bs.length ≤ sizeLine := by rw [List.length_map] at hul; omega
  have hgo : wpAny (model X.prog X.w) X.A.in1 (call (.builtin "list.sort") [.ref h'.objs.size]) (fun _ s' => EP X pins σ Q (.ref h'.objs.size) s') X.xe { s1 with heap := h3, toks := tk } := by
    refine wpAny_call_entry slot_list_sort ⟨_, hob, rfl⟩ entry_list_sort (list_sort_vals (s := { s1 with heap := h3, toks := tk }) (κ := dataKind (sortingHeap h3 h'.objs.size acc.toList) (bs.map fun b => den b.1)) hob
      (SortsAt.data (s := { s1 with heap := sortingHeap h3 h'.objs.size acc.toList, toks := tk }) (each_map (R := fun v d => ∃ as, Reads (sortingHeap h3 h'.objs.size acc.toList) v d as) (fun b : α × V => den b.1) er') (AllAlike.of fun p p' => hal _ _) (Sortable.tuples fun p => htu _) (bound_map fun b _ => by have := hdp b.1; show X.A.units + 1 + 1 + _ < _; omega)) (by rw [er.length]; exact hbl) ⟨.none, rfl, ?_⟩) (args_list_sort _)
    obtain ⟨out, eo⟩ : ∃ z, z = sortVals (dataKind (sortingHeap h3 h'.objs.size acc.toList) (bs.map fun b => den b.1)) false acc.toList acc.toList := ⟨_, rfl⟩
    have ho2 := sortVals_data (enc := fun b : α × V => den b.1) false er er' (AllAlike.of fun p p' => hal _ _)
    rw [← eo] at ho2 ⊢
    have rv : Vals ((bs.mergeSort (dataLe false fun p => den p.1)).map (·.2)) out := valsOf ho2
    obtain ⟨eF, heF⟩ := PyProof.Rows.sortedHeap_at (vs := acc.toList) (out := out.toArray) hob
    have kF : ∀ b o, h'.get? b = some o → (sortedHeap h3 h'.objs.size acc.toList out.toArray).get? b = some o := fun b o e => (PyProof.Rows.sortedHeap_old (ne0 _ _ e) (Heap.lt_size (kb b o e))).trans (kb b o e)
    have I3 : Inv X pins σ H1 { s1 with heap := sortedHeap h3 h'.objs.size acc.toList out.toArray, toks := tk } := I1.kept (t' := tk) fun b o e => kF b o (k1 b o e)
    have I4 : Inv X pins σ (upd H1 h'.objs.size (.lst ((bs.mergeSort (dataLe false fun p => den p.1)).map (·.2)))) { s1 with heap := sortedHeap h3 h'.objs.size acc.toList out.toArray, toks := tk } :=
      I3.take (h' := sortedHeap h3 h'.objs.size acc.toList out.toArray) (t' := tk) (fun b ob _ e => e) (I2.fpOk (Nat.le_refl _) hn0) ⟨by rw [List.length_map, List.length_mergeSort]; exact hbl, out, eF, rv, heF⟩
    exact ⟨.ref h'.objs.size, _, I4, rfl, hq _ hn0⟩
  refine wpAny_bind (wpAny_holding (wpAny_mono hgo (fun _ s' x => ?_) fun _ _ e => e))
  exact wpAny_pure ⟨_, rfl, x⟩
end
end L2
namespace L3
open PySem PySem.Spec PyProof.Rows L2
section
variable {X : Cx} [GG X.K] {o e d : Expr} {es : List Expr} {to td : LTE} {tas : LTA} {p pos kpos : Pos}
theorem ll_sortedDict (α : Type) [Cod α] [S : Sor α] (hu : X.A.units + 64 < cLine) (hc : X.calm = true) (hg : Gl X "sorted") (hm : X.mg "sorted" = none) (ho : LE X o to)
    (na : starEach [o] X.env = (false, eval o X.env) :: starEach [] X.env := by rfl) :
    LL X (.Call (.Name "sorted" p) [o] [] pos) (lSrtK α to) := fun s0 H0 E tk =>
  (pe_sortedDk (den := Cod.den (α := α)) S.ali S.tup (fun a => Nat.le_trans (Cod.hdep a) S.shal) hu hc hg hm (ho s0 H0 E tk) na).imp fun σ H Q ⟨σl, s, Q0, E1, hσ, hs, st, hE, h, k⟩ => ⟨σl, s, _, E1, hσ, hs, st, hE, h, fun lx s1 x H1 h st1 hs1 rx => by
    cases lx with
    | dT kvs =>
      obtain ⟨bs, ek, h⟩ := h
      simp only [RV] at rx
      obtain ⟨d, us, ob, rfl, n, hh, isd, r⟩ := rx
      refine ⟨d, us, rfl, isd.rd hh, fun vs hl hv => ?_⟩
      have hl2 : us.length = kvs.length := r.length
      have hl3 : kvs.length = bs.length := by have := congrArg List.length ek; simpa using this
      have al : ∀ q ∈ bs.zip vs, RV X.K s1 H1 (Cod.enc q.1) q.2 := fun q hq => by
        obtain ⟨j, hj⟩ := List.mem_iff_getElem?.mp hq
        obtain ⟨h1, h2⟩ := List.getElem?_zip_eq_some.mp hj
        obtain ⟨a, kk, x, e1, e2, e3⟩ := hv j _ h2
        obtain ⟨lx, e4, _⟩ := r.get e2
        have e5 : (bs.map Cod.enc)[j]? = some (keyT kk) := by rw [← ek, List.getElem?_map, e4]; rfl
        rw [List.getElem?_map, h1] at e5
        have e6 : Cod.enc q.1 = keyT kk := Option.some.inj e5
        rw [e6, e1]
        simp only [keyT, RV]
        exact ⟨a, _, rfl, hs1.tup0 e3, e3, RVs.keys kk⟩
      have z1 : (bs.zip vs).map (·.1) = bs := List.map_fst_zip (by omega)
      have z2 : (bs.zip vs).map (·.2) = vs := List.map_snd_zip (by omega)
      refine ⟨bs.zip vs, z2.symm, fun q hq => Isd.dp hs1 (isd_enc s1 q.1) (al q hq), fun l np => ?_⟩
      have e : sortD bs = ((bs.zip vs).mergeSort (PySem.W.dataLe false fun p => Cod.den p.1)).map (·.1) := by
        unfold sortD
        conv => lhs; rw [← z1]
        rw [List.map_mergeSort]
        exact fun a _ b _ => rfl
      rw [e] at h
      exact k _ _ _ _ h st1 hs1 (pairDown fun q m => al q ((List.mergeSort_perm _ _).mem_iff.mp m)) l np
    | _ => exact False.elim h⟩
/-- max(xs, default=d), xs not empty -/
def lMaxDf (t : LTA) (td : LTE) : LTE := fun σ s Q E => t σ s (fun vs s1 => td σ s1 (fun _ s2 => one1 vs fun x => opt (seqL x s2) fun xs => opt (intsOf xs) fun ns => 0 < ns.length ∧ ∀ m, m ∈ ns → (∀ y, y ∈ ns → y ≤ m) → Q (.int m) s2) E) E
theorem le_maxDf (hc : X.calm = true) (hu : X.A.units + 65 < cLine) (hg : Gl X "max") (hm : X.mg "max" = none) (ha : LA X (e :: es) tas) (hd : LE X d td)
    (he : backTo pos (starEach (e :: es) X.env) = (false, eval e X.env) :: backTo pos (starEach es X.env) := by rfl) (hpl : (backTo pos (starEach (e :: es) X.env)).any (·.1) = false := by rfl)
    (hall : (backToKw pos (keywordEach [⟨some "default", d, kpos⟩] X.env)).all (·.1.isSome) = true := by rfl) (hnone : (backToKw pos (keywordEach [⟨some "default", d, kpos⟩] X.env)).any (·.1.isNone) = false := by rfl) (hks : (backToKw pos (keywordEach [⟨some "default", d, kpos⟩] X.env)).filterMap (·.1) = [Str.ofString "default"] := by rfl) :
    LE X (.Call (.Name "max" p) (e :: es) [⟨some "default", d, kpos⟩] pos) (lMaxDf tas td) := fun s0 H0 E tk =>
  (pe_callBK (cr_maxDf hc hu) hg hm (by decide +kernel) (ha s0 H0 E tk) (pk_cons (nm := some "default") (kpos := kpos) (hd s0 H0 E tk) pk_nil) (by decide) (by decide) he hpl hall hnone hks).imp fun σ H Q ⟨σl, s, Q0, E1, hσ, hs, st, hE, h, k⟩ =>
  ⟨σl, s, _, E1, hσ, hs, st, hE, h, fun lvs s1 vs H1 h st1 hs1 r => ⟨σl, s1, _, E1, hσ.mono st1, hs1, st.trans st1, hE, h, fun lz s3 z H3 h st3 hs3 rz => by
    obtain ⟨x, rfl, h⟩ := one1_ok h
    obtain ⟨xs, e1, h⟩ := opt_ok h
    obtain ⟨ns, e2, h0, h⟩ := opt_ok h
    obtain ⟨v, rfl, r1⟩ := (r.mono st3).one
    obtain ⟨q, us, rfl, hh, r2⟩ := seqL_ok hs3 r1 e1
    rw [intsOf_ok e2] at r2
    rw [r2.of_ints] at hh
    exact ⟨q, ns, z, rfl, rfl, SqL.of hh, h0, fun m hm hle => k _ _ _ _ (h m hm hle) (st1.trans st3) hs3 .int⟩⟩⟩
end
end L3

namespace L3
open PySem PySem.Spec PyProof.Rows L2 LamX NdefX
def lClo2x (c1 c2 : Ck) (sp : List LV → LSp) (i : Nat) (t : LTA) : LTE := fun σ s Q E => match σ[i]? with
  | some (some (.clo k xs)) => (k = c1 ∨ k = c2) ∧ ncls xs = true ∧ t σ s (fun vs s1 => CloGo sp xs vs s1 Q) E
  | _ => False
theorem le_clo2x {X : Cx} [GG X.K] {c1 c2 : Ck} {ps : List Str} {sp : List LV → LSp} {i k1 k2 : Nat} {x : Str} {e : Expr} {es : List Expr} {p pos : Pos} {t : LTA} (F1 : CloOk X.prog X.w X.K X.mg X.base k1 c1 ps sp) (hr1 : Room k1 X.A) (F2 : CloOk X.prog X.w X.K X.mg X.base k2 c2 ps sp) (hr2 : Room k2 X.A) (hG : GIn X.K X.base) (n1 : c1.fr.Nodup) (n2 : c2.fr.Nodup)
    (hN : X.N[i]? = some x) (hv : Vis X.env.scope x) (ha : LA X (e :: es) t) (hd : (x == ("__debug__" : Str)) = false := by decide) (hcd : (x == ("__classdict__" : Str)) = false := by decide)
    (he : starEach (e :: es) X.env = (false, eval e X.env) :: starEach es X.env := by rfl) (hpl : (backTo pos (starEach es X.env)).any (·.1) = false := by rfl) : LE X (.Call (.Name x p) (e :: es) [] pos) (lClo2x c1 c2 sp i t) := fun s0 H0 E tk => by
  refine ⟨fun pins si σ H Q I ⟨σl, s, Q0, E1, hσ, hs, st, hE, h, kq⟩ => ?_⟩
  unfold lClo2x at h
  split at h
  case h_2 => exact h.elim
  case h_1 k xs ei =>
    obtain ⟨hk, n, h⟩ := h
    rcases hk with rfl | rfl
    · exact (le_clo2 (p := p) F1 hr1 hG n1 hN hv ha hd hcd he hpl s0 H0 E tk).run pins si σ H Q I ⟨σl, s, Q0, E1, hσ, hs, st, hE, by unfold lClo2; rw [ei]; exact ⟨rfl, n, h⟩, kq⟩
    · exact (le_clo2 (p := p) F2 hr2 hG n2 hN hv ha hd hcd he hpl s0 H0 E tk).run pins si σ H Q I ⟨σl, s, Q0, E1, hσ, hs, st, hE, by unfold lClo2; rw [ei]; exact ⟨rfl, n, h⟩, kq⟩
section
variable {X : Cx} [g : GG X.K] {k : Nat} {f C : Addr} {fd : FuncData} {ps : List Str} {sp : LSp} {x m : Str} {p pos apos : Pos} {e o : Expr} {es : List Expr} {tas : LTA} {ta : LTE} {js : List Nat} {ws : List Int}
def lMethG (js : List Nat) (ws : List Int) (C : Addr) (m : Str) (sp : LSp) (ta : LTE) (t : LTA) : LTE := fun σ s Q E => Hld js ws σ ∧ lMeth C m sp ta t σ s Q E
theorem le_methG {pl : Sem Bool} (hG : GSt X g js ws) (ha : LE X o ta) (c : Cls X.K C) (hm : Meth X.K C m f) (F : LFnG X g k f fd ps sp) (hr : Room k X.A) (hb : Binds X.K fd ps []) (hes : LA X (e :: es) tas)
    (hst : starEach (e :: es) X.env = (false, eval e X.env) :: starEach es X.env := by rfl) (hpl : (backTo pos (starEach es X.env)).any (·.1) = false := by rfl)
    (ht : eval (.Call (.Attribute o m apos) (e :: es) [] pos) X.env = (do
      let ov ← eval o X.env
      standAt apos.atName
      let (f, first) ← holding [ov] (getMethod ov m pl)
      callWith pos f first (backTo pos (starEach (e :: es) X.env)) (backToKw pos (keywordEach [] X.env))) := by rfl) : LE X (.Call (.Attribute o m apos) (e :: es) [] pos) (lMethG js ws C m sp ta tas) := fun s0 H0 E tk =>
  ⟨fun pins si σ H Q I ⟨σl, s, Q0, E1, hσ, hs, st, hE, ⟨hh0, h⟩, kk⟩ => by
    refine PySem.W.methodCall_KW (pl := pl) (thn (ha.go tk I hσ hs st hE h) fun u si1 hx => ?_) ht
    obtain ⟨x, H1, I1, rv, lx, s1, st1, hs1, rx, h⟩ := hx
    obtain ⟨a, dx, us, rfl, hh, l⟩ := meth_ok hs1 rx h.1
    obtain rfl : u = Value.ref a := rv
    refine getmeth_ok I1 hh c hm l ?_
    refine PySem.W.callWith_K (first := [.ref a]) (h₀ := X.base) I.ok.mod.kin hm.kp (thn (hes.go tk pos I1 (hσ.mono st1) hs1 (st.trans st1) hE h.2) fun us si2 hx2 => ?_) hst hpl
    obtain ⟨vs, H2, I2, rvs, lvs, s2, st2, hs2, r, h⟩ := hx2
    have st12 := st1.trans st2
    obtain ⟨base', kb, gi, e0⟩ := base_more g hG I2 (hh0.vals hσ)
    exact ⟨I2.kIn, run_fnG (E := fun _ => WE (WL X.K s0 H0 E) σ) (us := .ref a :: us) (vs := .ref a :: vs) (F base' kb gi) hr hb (passAt tk σ) I2 e0 (.cons rfl rvs) (dn_call (hσ.mono st12) hs2 (st.trans st12) hE (.cons (rx.mono st2) r) h fun lv s3 v H3 q st3 => kk lv s3 v H3 q (st12.trans st3))⟩⟩
theorem le_meth0G {pl : Sem Bool} (hG : GSt X g js ws) (ha : LE X o ta) (c : Cls X.K C) (hm : Meth X.K C m f) (F : LFnG X g k f fd ps sp) (hr : Room k X.A) (hb : Binds X.K fd ps [])
    (ht : eval (.Call (.Attribute o m apos) [] [] pos) X.env = (do
      let ov ← eval o X.env
      standAt apos.atName
      let (f, first) ← holding [ov] (getMethod ov m pl)
      callWith pos f first (backTo pos (starEach [] X.env)) (backToKw pos (keywordEach [] X.env))) := by rfl) : LE X (.Call (.Attribute o m apos) [] [] pos) (lMethG js ws C m sp ta lNil) := fun s0 H0 E tk =>
  ⟨fun pins si σ H Q I ⟨σl, s, Q0, E1, hσ, hs, st, hE, ⟨hh0, h⟩, kk⟩ => by
    refine PySem.W.methodCall_KW (pl := pl) (thn (ha.go tk I hσ hs st hE h) fun u si1 hx => ?_) ht
    obtain ⟨x, H1, I1, rv, lx, s1, st1, hs1, rx, h⟩ := hx
    obtain ⟨a, dx, us, rfl, hh, l⟩ := meth_ok hs1 rx h.1
    obtain rfl : u = Value.ref a := rv
    refine getmeth_ok I1 hh c hm l ?_
    obtain ⟨base', kb, gi, e0⟩ := base_more g hG I1 (hh0.vals hσ)
    exact PySem.W.callWith_K0 (first := [.ref a]) I1.kIn hm.kp (run_fnG (E := fun _ => WE (WL X.K s0 H0 E) σ) (us := [.ref a]) (vs := [.ref a]) (F base' kb gi) hr hb (passAt tk σ) I1 e0 (.cons rfl .nil)
      (dn_call (hσ.mono st1) hs1 (st.trans st1) hE (.cons rx .nil) h.2 fun lv s3 v H3 q st3 => kk lv s3 v H3 q (st1.trans st3)))⟩
end
end L3

namespace L2
open PySem PySem.Spec PyProof.Rows
abbrev ExcP := L3.ExcP
theorem excP_ok {P : Program} {w : World} {H : Hp} {h : Heap} {a : Addr} {oe : Obj} {vs : Array Value} {cls : Value} {d : Option Addr} (e : h.get? a = some oe) (hz : Zc cls d oe) (hd : oe.data = .fields vs) : ObjOk P w H h a (.ext (ExcP a cls d)) :=
  ⟨⟨oe, vs, e, hz, hd⟩, ⟨oe, e⟩, fun _ _ ⟨o, us, z, q, r⟩ st => ⟨o, us, st _ z, q, r⟩⟩
/-- a pinned exception, tracked instead -/
theorem Inv.excOn {X : Cx} {a : Addr} {oe : Obj} {vs : Array Value} {cls : Value} {d : Option Addr} {pn : List (Addr × Obj)} {σ : St} {H : Hp} {s : Shared} (ok : X.Ok) (I : Inv (X.suite a ((a, oe) :: pn)) [] σ H s) (hz : Zc cls d oe) (hd : oe.data = .fields vs)
    (n0 : ∀ o, X.s_0.heap.get? a = some o → a ∉ X.ex → False) (np : ∀ p ∈ pn, p.1 ≠ a) : Inv (X.suite a pn) [] σ (upd H a (.ext (ExcP a cls d))) s := by
  obtain ⟨q1, q2, q3, q4, _⟩ := I.pin (a, oe) (by simp)
  have other : ∀ {b : Addr} {u : HO}, H b = some u → upd H a (.ext (ExcP a cls d)) b = some u := fun {b u} e => by
    rw [upd_ne (by rintro rfl; rw [show H b = none from q2] at e; cases e)]
    exact e
  refine ⟨ok.suite a pn, I.os, I.bare, ⟨I.base.keep, I.base.slot, fun b o e n hx => ?_, I.base.there, fun b xs e => other (I.base.tups b xs e), fun b o u e => other (I.base.frzs b o u e), fun b ps e => ?_⟩, I.loc, I.cell, ?_, fun x c e => ?_, fun p hp => ?_, fun b o e => ?_, I.len⟩
  · by_cases hb : b = a
    · subst hb
      exact (n0 o e hx).elim
    · rw [upd_ne hb]
      exact I.base.free b o e n hx
  · obtain ⟨more, z⟩ := I.base.tbls b ps e
    exact ⟨more, other z⟩
  · rw [upd_ne (Ne.symm q3)]
    exact I.free
  · have hc : c ≠ a := by
      rintro rfl
      obtain ⟨v, o, z1, z2⟩ := I.cell x c e
      rw [show s.heap.get? c = some oe from q1] at z1
      cases z1
      rw [hd] at z2
      cases z2
    rw [upd_ne hc]
    exact I.freeC x c e
  · rw [List.append_nil] at hp
    obtain ⟨r1, r2, r3, r4, r5⟩ := I.pin p (by rw [List.append_nil]; exact List.mem_cons_of_mem _ hp)
    exact ⟨r1, by rw [upd_ne (np p hp)]; exact r2, r3, r4, r5⟩
  · by_cases hb : b = a
    · subst hb
      rw [upd_same] at e
      cases e
      exact excP_ok q1 hz hd
    · rw [upd_ne hb] at e
      exact (I.hok b o e).stay (fun _ _ _ r => r) (fun _ r => other r) fun _ _ r => other r
/-- out of a suite whose exception is tracked -/
theorem Inv.excOff {X : Cx} {a : Addr} {pins pn' : List (Addr × Obj)} {σ : St} {H : Hp} {s : Shared} (I : Inv (X.suite a (X.pn ++ pins)) pn' σ H s) (ok : X.Ok) : Inv X pins σ H s :=
  ⟨ok, I.os, I.bare, I.base, I.loc, I.cell, I.free, I.freeC, fun p hp => I.pin p (List.mem_append_left _ hp), I.hok, I.len⟩
def wAsX (K : PySem.W.Frag) (c : Value) (i : Nat) (ts : Addr → Value → Option Addr → TS) (Wout : WX) (D : Ends) : WX := fun cls d σ H =>
  ∃ b, PySem.W.exmOne K cls c = some b ∧ (b = true → ∀ a, H a = none → ts a cls d { nx := fun σ' H' => D.nx (σ'.set i none) H', rt := D.rt, bk := fun σ' H' => D.bk (σ'.set i none) H', ct := fun σ' H' => D.ct (σ'.set i none) H' } (σ.set i (some (.ref a))) (upd H a (.ext (ExcP a cls d)))) ∧
    (b = false → Wout cls d σ H)
section
variable {X : Cx} {x n : Str} {c : Value} {i : Nat} {body suite : List Stmt} {b₀ : Stmt} {np pos pos' : Pos} {tb : WX → TS} {ts : Addr → Value → Option Addr → TS} {Wout : WX}
/-- the suite: begun with the exception tracked, ended without its name -/
theorem suite_run {a : Addr} {oe : Obj} {vs : Array Value} {cls : Value} {d : Option Addr} {pins : List (Addr × Obj)} {σ : St} {H : Hp} {s : Shared} {D : Ends} (ok : X.Ok) (hN : X.N.Nodup) (hi : X.N[i]? = some n) (hln : X.env.kindOf n = some .local)
    (hsu : ∀ (a : Addr) (cls : Value) (d : Option Addr) (pn : List (Addr × Obj)), PSs (X.suite a pn) (b₀ :: suite) (ts a cls d))
    (S : Inv (X.suite a ((a, oe) :: (X.pn ++ pins))) [] σ H s) (hz : Zc cls d oe) (hd : oe.data = .fields vs) (n0 : ∀ o, X.s_0.heap.get? a = some o → a ∉ X.ex → False) (np : ∀ p ∈ X.pn ++ pins, p.1 ≠ a)
    (h : ts a cls d { nx := fun σ' H' => D.nx (σ'.set i none) H', rt := D.rt, bk := fun σ' H' => D.bk (σ'.set i none) H', ct := fun σ' H' => D.ct (σ'.set i none) H' } (σ.set i (some (.ref a))) (upd H a (.ext (ExcP a cls d))))
    {Q : Flow → Shared → Prop} (hQ : ∀ f s', SP X pins D f s' → Q f s') {E1 E2 : Value → Shared → Prop} :
    wpAny (model X.prog X.w) (X.A.mark (some (.ref a))) (storeName X.env n (.ref a)) (fun _ s5 => wpAny (model X.prog X.w) (X.A.mark (some (.ref a))) (execs (b₀ :: suite) X.env) (fun f s6 => wpAny (model X.prog X.w) X.A (do bindName X.env n .none; unbindBehindTheSuite X.env n pos') (fun _ s7 => Q f s7) X.xe s6) E1 s5) E2 s := by
  refine store_ok (X := X.suite a ((a, oe) :: (X.pn ++ pins))) (v := .ref a) S hN hi (.inl hln) rfl (fun s5 S5 => ?_) (.inr hln)
  have T := Inv.excOn ok S5 hz hd n0 np
  refine wpAny_mono ((hsu a cls d (X.pn ++ pins)).run [] s5 _ _ _ T h) (fun f s6 hsp => ?_) (fun _ _ z => False.elim z)
  have over : ∀ {σ6 : St} {H6 : Hp} {R : Shared → Prop}, Inv (X.suite a (X.pn ++ pins)) [] σ6 H6 s6 → (∀ s7, Inv X pins (σ6.set i none) H6 s7 → R s7) →
      wpAny (model X.prog X.w) X.A (do bindName X.env n .none; unbindBehindTheSuite X.env n pos') (fun _ s7 => R s7) X.xe s6 := fun {σ6 H6 R} S6 hq => gone_ok (S6.excOff ok) hN hi hln hq
  cases f with
  | next =>
    obtain ⟨σ6, H6, S6, q6⟩ := hsp
    exact over S6 fun s7 J7 => hQ _ _ ⟨_, _, J7, q6⟩
  | brk =>
    obtain ⟨σ6, H6, S6, q6⟩ := hsp
    exact over S6 fun s7 J7 => hQ _ _ ⟨_, _, J7, q6⟩
  | cont =>
    obtain ⟨σ6, H6, S6, q6⟩ := hsp
    exact over S6 fun s7 J7 => hQ _ _ ⟨_, _, J7, q6⟩
  | ret u =>
    obtain ⟨v6, σ6, H6, S6, r6, q6⟩ := hsp
    exact over S6 fun s7 J7 => hQ _ _ ⟨_, _, _, J7, r6, q6⟩
end
end L2
namespace L2
open PySem PySem.Spec PyProof.Rows
section
variable {X : Cx} {x n : Str} {c : Value} {i : Nat} {body suite : List Stmt} {b₀ : Stmt} {np pos pos' : Pos} {tb : WX → TS} {ts : Addr → Value → Option Addr → TS} {Wout : WX}
theorem ps_try_asX (hs : X.stack = X.env :: X.outer) (hf : X.env.frame = some X.env.locals) (hN : X.N.Nodup) (hi : X.N[i]? = some n) (hln : X.env.kindOf n = some .local) (hc : Names X x c) (tk : Takes X Wout)
    (hb : ∀ (W : WX) (pn : List (Addr × Obj)) (xe : Value → Shared → Prop), Takes (X.tr pn xe) W → PassesOwn (model X.prog X.w) X.A X.env xe → PSs (X.tr pn xe) body (tb W))
    (hsu : ∀ (a : Addr) (cls : Value) (d : Option Addr) (pn : List (Addr × Obj)), PSs (X.suite a pn) (b₀ :: suite) (ts a cls d)) :
    PS X (.Try body [.ExceptHandler (some (.Name x np)) (some n) (b₀ :: suite) pos'] [] [] pos) (fun D σ H => tb (wAsX X.K c i ts Wout D) D σ H) := by
  constructor
  intro pins s σ H D I h
  have ok := I.ok
  have frames : X.A.frames = some (X.env :: X.outer) := ok.frames.trans (congrArg some hs)
  have fin : ∀ {f : Flow} {s1 : Shared}, SP (X.tr (X.pn ++ pins) (fun e s₁ => wpAny (model X.prog X.w) X.A (noteFrame e X.env) (fun _ s₂ => wpAny (model X.prog X.w) X.A (setFlight e none) (fun _ s₃ =>
      wpAny (model X.prog X.w) X.A (handleBy e X.env [.ExceptHandler (some (.Name x np)) (some n) (b₀ :: suite) pos']) (SP X pins D) X.xe s₃) X.xe s₂) X.xe s₁)) [] D f s1 → SP X pins D f s1 := fun {f s1} hsp => by
    cases f with
    | next => obtain ⟨σ', H', J', q⟩ := hsp; exact ⟨σ', H', J'.ofTry ok, q⟩
    | brk => obtain ⟨σ', H', J', q⟩ := hsp; exact ⟨σ', H', J'.ofTry ok, q⟩
    | cont => obtain ⟨σ', H', J', q⟩ := hsp; exact ⟨σ', H', J'.ofTry ok, q⟩
    | ret u => obtain ⟨v, σ', H', J', r, q⟩ := hsp; exact ⟨v, σ', H', J'.ofTry ok, r, q⟩
  refine wpAny_Try_except (wpAny_mono ((hb (wAsX X.K c i ts Wout D) (X.pn ++ pins) _ (fun u s' xx => ?_) PassesOwn.looking).run [] s σ H D (I.toTry _) h) (fun f s1 hsp => ?_) fun e s1 he => he)
  · obtain ⟨a, B, sI, pins', σ', H', cls, d, rfl, J', nb, up, sky, na, os, ag, b, hb1, hyes, hno⟩ := xx
    have J : Inv X pins σ' H' sI := J'.ofTry ok
    have sky2 : Sky B (X.env :: X.outer) a (Zc cls d) X.env.locals s'.heap := hs ▸ sky
    refine Sky.land Zc.steady frames hf sky2 fun h3 fl3 up3 => ?_
    have J3 : Inv X pins σ' H' { s' with heap := h3 } := J.landed nb fl3.1 (up.trans up3) os ag
    obtain ⟨oe3, vs3, he3, hz3, hd3⟩ := fl3.there
    -- the exception is no frame of those that run
    have nfr : a ∉ frs (X.env :: X.outer) := fun hm => by
      obtain ⟨_, o', e', hnf⟩ := fl3.2.2.1.mem hm
      rw [he3] at e'
      cases e'
      exact hnf _ hd3
    have cons : frs (X.env :: X.outer) = X.env.locals :: X.fs := by
      show (X.env :: X.outer).filterMap (·.frame) = _
      rw [List.filterMap_cons, hf]
      first | done | rfl
    have nL : a ≠ X.env.locals := fun z => nfr (by rw [cons, z]; exact List.mem_cons_self)
    have nF : a ∉ X.fs := fun z => nfr (by rw [cons]; exact List.mem_cons_of_mem _ z)
    have none_ : ∀ o, sI.heap.get? a = some o → False := fun o e => by
      have := nb a o e (by rw [hs]; exact nfr)
      rw [fl3.2.1] at this
      cases this
    have n0 : ∀ o, X.s_0.heap.get? a = some o → a ∉ X.ex → False := fun o e hx => by
      obtain ⟨o', e'⟩ := J.base.there a o e hx
      exact none_ o' e'
    have npin : ∀ p ∈ X.pn ++ pins, p.1 ≠ a := fun p hp z => none_ p.2 (by rw [← z]; exact (J.pin p hp).1)
    have S3 := J3.suite he3 hd3 na nL nF
    refine wpAny_handleBy_cons (codeAny_handlers_test ?_) (by intro q; cases q)
    have LT : PySem.W.Looks (model X.prog X.w) h3 (typeOf (.ref a)) cls := fun A Q E s k q => wpAny_typeOf_ref (k _ _ he3) (by rw [hz3.1]; exact q)
    have LM := PySem.W.exm_one (M := model X.prog X.w) J3.kIn LT hb1
    have asked : ∀ {Q : Value → Shared → Prop} {E : Value → Shared → Prop}, Q c { s' with heap := h3 } → wpAny (model X.prog X.w) (X.A.mark (some (.ref a))) (eval (.Name x np) X.env) Q E { s' with heap := h3 } := fun q => by
      obtain ⟨hg, hdbg, hm | ⟨hm, hv, hnn⟩⟩ := hc
      · exact ld_glob (X := X.suite a ((a, oe3) :: (X.pn ++ pins))) S3 hg hm q hdbg
      · exact ld_blt (X := X.suite a ((a, oe3) :: (X.pn ++ pins))) S3 hg hm hv q hnn hdbg
    refine asked (LM.here ?_)
    cases b with
    | true =>
      refine codeAny_handlers_suite_as (HandSPX.lands_againZ fl3 fun h4 fl4 up4 => ?_)
      have J4 : Inv X pins σ' H' { s' with heap := h4 } := J.landed nb fl4.1 ((up.trans up3).trans up4) os ag
      obtain ⟨oe4, vs4, he4, hz4, hd4⟩ := fl4.there
      exact suite_run ok hN hi hln hsu (J4.suite he4 hd4 na nL nF) hz4 hd4 n0 npin (hyes rfl a na) (fun _ _ q => q)
    | false =>
      show wpAny _ X.A (handleBy (.ref a) X.env []) _ _ _
      refine wpAny_handleBy_nil ?_
      obtain ⟨k1, k2, k3, oe, vs, T, oT, ts', he, hz, hd, h1, hr⟩ := id fl3
      have on : wpAny (model X.prog X.w) X.A (setFlight (.ref a) X.env.frame) (fun _ s4 => wpAny (model X.prog X.w) X.A (throw (.ref a) : Sem Flow) (SP X pins D) X.xe s4) X.xe { s' with heap := h3 } := by
        rw [hf]
        refine HandSPX.setFlight_upZ fl3 fun h4 hh4 up4 => wpAny_throw (tk _ _ ⟨a, B, sI, pins, σ', H', cls, d, rfl, J, nb, (up.trans up3).trans up4, .inr (.inr (by rw [hs]; exact hh4)), na, os, ag, hno rfl⟩)
      unfold PySem.passOn
      refine wpAny_bind (wpAny_field he hd h1 ?_)
      rw [if_neg (show ¬ ((Value.ref T == Value.none) = true) by simp)]
      first
        | exact wpAny_bind (wpAny_pure (wpAny_bind on))
        | exact wpAny_bind on
  · cases f with
    | next => exact wpAny_execs_nil (fin hsp)
    | brk => exact fin hsp
    | cont => exact fin hsp
    | ret u => exact fin hsp
end
end L2
namespace L2
open PySem PySem.Spec PyProof.Rows
theorem excP_inst {X : Cx} {pins : List (Addr × Obj)} {σ : St} {H : Hp} {s : Shared} {a D : Addr} (I : Inv X pins σ H s) (h : H a = some (.ext (ExcP a (.ref D) none))) : ∃ oe, PySem.W.InstAt s.heap a oe D none := by
  obtain ⟨⟨oe, vs, e, ⟨h1, h2⟩, h3⟩, _, _⟩ := I.hok a _ h
  refine ⟨oe, ?_⟩
  obtain ⟨oc, od, oda, osl⟩ := oe
  dsimp only at h1 h2 h3
  subst h1 h2 h3
  exact ⟨e, rfl, rfl, trivial⟩
def rIsX (K : PySem.W.Frag) : List V → Hp → VK → Prop := fun xs H Q => ∃ (a D : Addr) (c : V) (u : Value) (b : Bool), xs = [.ref a, c] ∧ H a = some (.ext (ExcP a (.ref D) none)) ∧ ExcC K D ∧ ClsV c u ∧ PySem.W.kitOne K (.ref D) u = some b ∧ Q (.bl b) H
def rIsXT (K : PySem.W.Frag) : List V → Hp → VK → Prop := fun xs H Q => ∃ (a D tp : Addr) (cs : List V) (us : List Value) (b : Bool), xs = [.ref a, .ref tp] ∧ H a = some (.ext (ExcP a (.ref D) none)) ∧ ExcC K D ∧ H tp = some (.tup cs) ∧ Paired ClsV cs us ∧ PySem.W.kitAny K (.ref D) us = some b ∧ Q (.bl b) H
section
variable {X : Cx}
theorem call_isX : CallR X (.builtin "isinstance") (rIsX X.K) := by
  intro pins s σ H xs us Q I r h
  obtain ⟨a, D, c, u, b, rfl, ha, C, k, e, q⟩ := h
  obtain ⟨u1, u2, rfl, r1, r2⟩ := vals2 r
  cases (show u1 = Value.ref a from r1)
  have e2 := k.eq r2
  subst e2
  obtain ⟨oe, J⟩ := excP_inst I ha
  exact PySem.W.kia_one (PySem.W.handS_kitx_exc C.hg C.hk C.hs C.hd C.ha C.hn C.ht C.hm) I.kIn J e (fun z => nomatch z) fun tk => ⟨.bl b, H, I.tok tk, rfl, q⟩
theorem call_isXT : CallR X (.builtin "isinstance") (rIsXT X.K) := by
  intro pins s σ H xs us Q I r h
  obtain ⟨a, D, tp, cs, ws, b, rfl, ha, C, hT, k, e, q⟩ := h
  obtain ⟨u1, u2, rfl, r1, r2⟩ := vals2 r
  cases (show u1 = Value.ref a from r1)
  cases (show u2 = Value.ref tp from r2)
  obtain ⟨oe, J⟩ := excP_inst I ha
  obtain ⟨_, its, rv, o, h1, h2, n, h3⟩ := (show ObjOk X.prog X.w H s.heap tp (.tup cs) from I.hok tp _ hT)
  have e3 := ClsV.all k rv
  subst e3
  obtain ⟨oc, od, dt, sl⟩ := o
  simp only at h2 h3
  subst h2 h3
  exact PySem.W.kia_tup (PySem.W.handS_kitx_exc C.hg C.hk C.hs C.hd C.ha C.hn C.ht C.hm) I.kIn J h1 e (fun z => nomatch z) fun tk => ⟨.bl b, H, I.tok tk, rfl, q⟩
end
end L2
namespace L3
open PySem PySem.Spec PyProof.Rows L2
/-- except x as n: the exception is a value from there on -/
def lTryAsX (K : PySem.W.Frag) (c : Value) (i : Nat) (tb : LTS) (ts : Addr → LTS) : LTS := fun D σ s => tb (D.wex fun C σ' s' => ∃ b, PySem.W.exmOne K (.ref C) c = some b ∧
  (b = true → ts C { nx := fun σ' s' => D.nx (σ'.set i none) s', rt := D.rt, bk := fun σ' s' => D.bk (σ'.set i none) s', ct := fun σ' s' => D.ct (σ'.set i none) s', ex := noX } (σ'.set i (some (.exc C))) s') ∧ (b = false → D.ex C σ' s')) σ s
@[simp] theorem lTryAsX_ap (K : PySem.W.Frag) (c : Value) (i : Nat) (tb : LTS) (ts : Addr → LTS) (D : LEnds) (σ : LSt) (s : LS) : lTryAsX K c i tb ts D σ s = tb (D.wex fun C σ' s' => ∃ b, PySem.W.exmOne K (.ref C) c = some b ∧
  (b = true → ts C { nx := fun σ' s' => D.nx (σ'.set i none) s', rt := D.rt, bk := fun σ' s' => D.bk (σ'.set i none) s', ct := fun σ' s' => D.ct (σ'.set i none) s', ex := noX } (σ'.set i (some (.exc C))) s') ∧ (b = false → D.ex C σ' s')) σ s := rfl
theorem exc_in {K : PySem.W.Frag} [GG K] {s : LS} {H : Hp} {a C : Addr} (hs : RelS K s H) (na : H a = none) : Step s H s (upd H a (.ext (ExcP a (.ref C) none))) ∧ RelS K s (upd H a (.ext (ExcP a (.ref C) none))) ∧ RV K s (upd H a (.ext (ExcP a (.ref C) none))) (.exc C) (.ref a) := by
  have other : ∀ {b : Addr} {u : HO}, H b = some u → upd H a (.ext (ExcP a (.ref C) none)) b = some u := fun {b u} e => by
    rw [upd_ne (by rintro rfl; rw [na] at e; cases e)]
    exact e
  have st : Step s H s (upd H a (.ext (ExcP a (.ref C) none))) := fun b o e n => ⟨⟨o, other e, .refl o⟩, n⟩
  refine ⟨st, fun b o e => (hs b o e).mono st fun u z => other z, ?_⟩
  simp only [RV]
  exact ⟨a, rfl, hs.free na, upd_same⟩
section
variable {X : Cx} [GG X.K] {x n : Str} {i : Nat} {body suite : List Stmt} {b₀ : Stmt} {np pos pos' p : Pos} {c : Value} {tbd : LTS} {ts : Addr → LTS} {e : Expr} {es : List Expr} {tas : LTA}
theorem lp_try_asX (hs' : X.stack = X.env :: X.outer) (hf : X.env.frame = some X.env.locals) (hN : X.N.Nodup) (hi : X.N[i]? = some n) (hln : X.env.kindOf n = some .local) (hc : Names X x c)
    (hb : ∀ (pn : List (Addr × Obj)) (xe : Value → Shared → Prop), LPs (X.tr pn xe) body tbd)
    (hsu : ∀ (a C : Addr) (pn : List (Addr × Obj)), LPs (X.suite a pn) (b₀ :: suite) (ts C)) :
    LP X (.Try body [.ExceptHandler (some (.Name x np)) (some n) (b₀ :: suite) pos'] [] [] pos) (lTryAsX X.K c i tbd ts) := fun s0 H0 E tk hp => by
  refine (ps_try_asX (tb := fun W D σ H => ∃ s1 H1 E', (∀ cls d σ H, WL X.K s1 H1 E' cls d σ H → W cls d σ H) ∧ upS X.K s1 H1 E' tbd D σ H)
    (ts := fun a cls d D σ H => ∃ C s1 H1, cls = .ref C ∧ d = none ∧ upS X.K s1 H1 noX (ts C) D σ H) hs' hf hN hi hln hc tk (fun W pn xe tk' po => ⟨fun pins si σ H D I ⟨s1, H1, E', hw, h⟩ => ?_⟩) (fun a cls d pn => ⟨fun pins si σ H D I ⟨C, s1, H1, e1, e2, h⟩ => ?_⟩)).imp ?_
  · exact (hb pn xe s1 H1 E' (tk'.imp hw) po).run pins si σ H D I h
  · subst e1 e2
    exact (hsu a C pn s1 H1 noX takes_no PassesOwn.never).run pins si σ H D I h
  · intro D σ H ⟨σl, s, Dl, hσ, hs, st, h, d⟩
    refine ⟨s, H, fun C σ' s' => ∃ b, PySem.W.exmOne X.K (.ref C) c = some b ∧
      (b = true → ts C { nx := fun σ' s' => Dl.nx (σ'.set i none) s', rt := Dl.rt, bk := fun σ' s' => Dl.bk (σ'.set i none) s', ct := fun σ' s' => Dl.ct (σ'.set i none) s', ex := noX } (σ'.set i (some (.exc C))) s') ∧ (b = false → Dl.ex C σ' s'), fun cls dd σ' H' ⟨C, σl', s', e1, e2, hσ', hs1, st1, b, eb, h1, h2⟩ => ?_, σl, s, _, hσ, hs, .refl _ _, h, ⟨d.nx, d.rt, d.bk, d.ct, fun _ _ _ q => q⟩⟩
    subst e1 e2
    refine ⟨b, eb, fun q a na => ?_, fun q => ⟨C, σl', s', rfl, rfl, hσ', hs1, st.trans st1, d.ex _ _ _ (h2 q)⟩⟩
    obtain ⟨stX, hsX, rx⟩ := exc_in (C := C) hs1 na
    have d1 := d.mono (st1.trans stX)
    refine ⟨C, s', _, rfl, rfl, _, s', _, (hσ'.mono stX).set i rx, hsX, .refl _ _, h1 q, ⟨?_, d1.rt, ?_, ?_, fun _ _ _ z => z⟩⟩
    · exact fun σ2 s2 σr H2 z st2 hs2 r2 => d1.nx _ _ _ _ z st2 hs2 (r2.setN i none)
    · exact fun σ2 s2 σr H2 z st2 hs2 r2 => d1.bk _ _ _ _ z st2 hs2 (r2.setN i none)
    · exact fun σ2 s2 σr H2 z st2 hs2 r2 => d1.ct _ _ _ _ z st2 hs2 (r2.setN i none)
/-- isinstance(e, c), e an exception -/
def rIsXL (K : PySem.W.Frag) : LRc := fun vs s Q => match vs with
  | [.exc C, c] => ExcC K C ∧ opt (clsVal c) fun u => ∃ b, PySem.W.kitOne K (.ref C) u = some b ∧ Q (.bl b) s
  | _ => False
@[simp] theorem rIsXL_ap (K : PySem.W.Frag) (C : Addr) (c : LV) (s : LS) (Q : LVK) : rIsXL K [.exc C, c] s Q = (ExcC K C ∧ opt (clsVal c) fun u => ∃ b, PySem.W.kitOne K (.ref C) u = some b ∧ Q (.bl b) s) := rfl
def clsVals : List LV → Option (List Value)
  | [] => some []
  | c :: cs => (clsVal c).bind fun u => (clsVals cs).map (u :: ·)
def rIsXTL (K : PySem.W.Frag) : LRc := fun vs s Q => match vs with
  | [.exc C, .tup cs] => ExcC K C ∧ opt (clsVals cs) fun us => ∃ b, PySem.W.kitAny K (.ref C) us = some b ∧ Q (.bl b) s
  | _ => False
@[simp] theorem rIsXTL_ap (K : PySem.W.Frag) (C : Addr) (cs : List LV) (s : LS) (Q : LVK) : rIsXTL K [.exc C, .tup cs] s Q = (ExcC K C ∧ opt (clsVals cs) fun us => ∃ b, PySem.W.kitAny K (.ref C) us = some b ∧ Q (.bl b) s) := rfl
theorem clsVals_ok {K : PySem.W.Frag} [GG K] {s : LS} {H : Hp} : ∀ {cs : List LV} {vs : List V} {us : List Value}, RVs K s H cs vs → clsVals cs = some us → Paired ClsV vs us
  | [], _, _, r, h => by
    simp only [RVs] at r
    cases h
    rw [r]
    exact .nil
  | c :: cs, _, _, r, h => by
    simp only [RVs] at r
    obtain ⟨v, vs, rfl, r1, r2⟩ := r
    obtain ⟨u, e1, h⟩ := Option.bind_eq_some_iff.mp h
    obtain ⟨us, e2, rfl⟩ := Option.map_eq_some_iff.mp h
    exact .cons (clsVal_ok r1 e1) (clsVals_ok r2 e2)
theorem up_isX {K : PySem.W.Frag} [GG K] : UpC K (rIsX K) (rIsXL K) := fun vs s H lvs Q0 Q hs r h k => by
  unfold rIsXL at h
  split at h
  · next C c =>
    obtain ⟨hC, h⟩ := h
    obtain ⟨u, e1, b, e2, h⟩ := opt_ok h
    obtain ⟨v, w, rfl, r1, r2⟩ := r.two
    simp only [RV] at r1
    obtain ⟨a, rfl, na, ha⟩ := r1
    exact ⟨a, C, w, u, b, rfl, ha, hC, clsVal_ok r2 e1, e2, k _ _ _ _ h (.refl _ _) hs .bl⟩
  · exact h.elim
theorem up_isXT {K : PySem.W.Frag} [GG K] : UpC K (rIsXT K) (rIsXTL K) := fun vs s H lvs Q0 Q hs r h k => by
  unfold rIsXTL at h
  split at h
  · next C cs =>
    obtain ⟨hC, h⟩ := h
    obtain ⟨us, e1, b, e2, h⟩ := opt_ok h
    obtain ⟨v, w, rfl, r1, r2⟩ := r.two
    simp only [RV] at r1 r2
    obtain ⟨a, rfl, na, ha⟩ := r1
    obtain ⟨tp, ws, rfl, nt, ht, rt⟩ := r2
    exact ⟨a, C, tp, ws, us, b, rfl, ha, hC, ht, clsVals_ok rt e1, e2, k _ _ _ _ h (.refl _ _) hs .bl⟩
  · exact h.elim
theorem le_isX (hg : Gl X "isinstance") (hm : X.mg "isinstance" = none) (ha : LA X (e :: es) tas) (he : starEach (e :: es) X.env = (false, eval e X.env) :: starEach es X.env := by rfl) (hpl : (backTo pos (starEach es X.env)).any (·.1) = false := by rfl) :
    LE X (.Call (.Name "isinstance" p) (e :: es) [] pos) (lCB (rIsXL X.K) tas) := le_cb call_isX up_isX hg hm (by decide +kernel) ha (by decide) (by decide) he hpl
theorem le_isXT (hg : Gl X "isinstance") (hm : X.mg "isinstance" = none) (ha : LA X (e :: es) tas) (he : starEach (e :: es) X.env = (false, eval e X.env) :: starEach es X.env := by rfl) (hpl : (backTo pos (starEach es X.env)).any (·.1) = false := by rfl) :
    LE X (.Call (.Name "isinstance" p) (e :: es) [] pos) (lCB (rIsXTL X.K) tas) := le_cb call_isXT up_isXT hg hm (by decide +kernel) ha (by decide) (by decide) he hpl
end
end L3

namespace DTE
open PySem PySem.W PySem.Calls PyProof.Rows PyProof.V PySem.Spec
open AutoSeq1 (wpAny_loadPart')
open MeetsSeq MeetsSeq2 MeetsSeq3
open SeqAt (EqP)
section
variable {prog : Program} {w : World}
theorem tup_neP (l b : Addr) (items items2 : Array Value) (n n2 : Nat) (dd dd2 : Option Addr) (sl sl2 : Array (Option Value)) (hsz : items.size = items2.size) :
    MeetsIn prog w (Builtin.«tuple.__ne__» ⟨[.ref l, .ref b], []⟩)
      (fun A R s => s.heap.get? l = some { cls := .type "tuple", dict := dd, data := .seq items n, slots := sl } ∧ s.heap.get? b = some { cls := .type "tuple", dict := dd2, data := .seq items2 n2, slots := sl2 } ∧
        (∀ j (h1 : j < items.size) (h2 : j < items2.size), EqP prog w A.in1 s items[j] items2[j] true) ∧
        R (.ok (.ret (.bool false))) s) :=
  .of_wp fun A R s h => by
    obtain ⟨hp, g, d, tk, os⟩ := s; obtain ⟨hl, hb, he, h⟩ := h
    have f2 := AutoSeq1.sub_tuple_tuple
    have hZ : (items.toList.zip items2.toList).length = items.size := by simp [hsz]
    wp_walk using wpAny_loadPart' hl, wpAny_loadPart' hb, wpAny_forIn_list _ (fun rest b s' => b.1 = none ∧ s' = ⟨hp, g, d, tk, os⟩ ∧ ∃ i, rest = (items.toList.zip items2.toList).drop i) _
    case turn =>
      rintro ⟨y, x⟩ rest b s' ⟨hb', rfl, i, hz⟩
      have hlt : i < (items.toList.zip items2.toList).length := by
        rcases Nat.lt_or_ge i (items.toList.zip items2.toList).length with h' | h'
        · exact h'
        · rw [List.drop_of_length_le h'] at hz; cases hz
      have h1 : i < items.size := by omega
      have h2 : i < items2.size := by omega
      rw [List.drop_eq_getElem_cons hlt] at hz
      injection hz with hyx hrest
      have hy : y = items[i] := by have := congrArg Prod.fst hyx; simpa using this
      have hx : x = items2[i] := by have := congrArg Prod.snd hyx; simpa using this
      subst hy hx
      refine wpAny_bind (he i h1 h2 _ _ ?_)
      wp_walk
      exact ⟨rfl, rfl, i + 1, hrest⟩
    case fin =>
      rintro ⟨b1, b2⟩ s' ⟨hb', rfl, i, hz⟩
      simp only at hb'
      subst hb'
      wp_walk
      exact ⟨_, rfl, by simpa [Builtin.Tuple.tupleCompareSizes, bne, hsz] using h⟩
    case h =>
      exact ⟨rfl, rfl, 0, rfl⟩
theorem ne_tupsP {A : Around} {E : Value → Shared → Prop} {s : Shared} {l b : Addr} {items items2 : Array Value} {Q : Value → Shared → Prop} (hl : s.heap.IsTuple l items) (hb : s.heap.IsTuple b items2) (hsz : items.size = items2.size) (hu : A.units < cLine)
    (he : ∀ j (h1 : j < items.size) (h2 : j < items2.size), EqP prog w A.in1 s items[j] items2[j] true) (h : Q (.bool false) s) :
    wpAny (model prog w) A (richCompare .NotEq (.ref l) (.ref b)) Q E s := by
  obtain ⟨⟨cls, dd, data, sl⟩, ho, hc, n, hd⟩ := id hl
  obtain ⟨⟨cls2, dd2, data2, sl2⟩, ho2, hc2, n2, hd2⟩ := id hb
  simp only at hc hd hc2 hd2
  subst hc hd hc2 hd2
  exact wpAny_richCompare_same_room (T := "tuple") (op := .NotEq) ⟨_, ho, rfl⟩ ⟨_, ho2, rfl⟩ F.slot_tuple_ne (call_meetsIn F.slot_tuple_ne ⟨_, ho, rfl⟩ F.entry_tuple_ne (F.args_tuple_ne_2 _ _) (tup_neP l b items items2 n n2 dd dd2 sl sl2 hsz)
    ⟨ho, ho2, he, show Value.bool false ≠ Value.notImplemented ∧ Q (.bool false) s from ⟨(fun x => nomatch x), h⟩⟩) hu
end
end DTE
namespace L2
open PySem PySem.Spec PyProof.Rows DTE
/-- equal: as data, or as dicts of data -/
def PEq (K : PySem.W.Frag) (H : Hp) (x y : V) : Prop := (∃ d e, Dp K H x d ∧ Dp K H y e ∧ SeqAt.shaped d = true ∧ SeqAt.shaped e = true ∧ PyData.eqv d e = true) ∨
  ∃ a b us vs, x = .ref a ∧ y = .ref b ∧ Rd H a (.dT us) ∧ Rd H b (.dT vs) ∧ us.length = vs.length ∧ ∀ p ∈ us, ∃ v d e, valV vs p.1 = some v ∧ Dp K H p.2 d ∧ Dp K H v e ∧ SeqAt.shaped d = true ∧ SeqAt.shaped e = true ∧ PyData.eqv d e = true
def rNeTS (K : PySem.W.Frag) : R2 := fun x y H Q => ∃ a b us vs, x = .ref a ∧ y = .ref b ∧ SqT K H a us ∧ SqT K H b vs ∧ Paired (PEq K H) us vs ∧ Q (.bl false) H
section
variable {X : Cx} {pins : List (Addr × Obj)} {σ : L2.St} {H : Hp} {s : Shared}
theorem pEq_run (I : Inv X pins σ H s) {x y : V} {v u : Value} (hu : X.A.units + 66 < cLine) (h : PEq X.K H x y) (rx : RelV x v) (ry : RelV y u) : SeqAt.EqP X.prog X.w X.A.in1 s v u true := by
  rcases h with ⟨d, e, hd, he, sd, se, q⟩ | ⟨a, b, us, vs, rfl, rfl, ea, eb, hl, hp⟩
  · obtain ⟨as, r1⟩ := Dp.reads I d x v hd rx
    obtain ⟨bs, r2⟩ := Dp.reads I e y u he ry
    have := (PySem.W.keq_at (A := X.A) r1 r2 sd se (show X.A.units + 1 + 64 < cLine by omega)).eqP (prog := X.prog) (w := X.w)
    rwa [q] at this
  · obtain rfl : v = Value.ref a := rx
    obtain rfl : u = Value.ref b := ry
    by_cases ne : a = b
    · subst ne
      exact (SeqAt.EqAt.same _).eqP
    obtain ⟨_, sa, xs, r1, dA⟩ := dt_rd I.hok ea
    obtain ⟨_, sb, ys, r2, dB⟩ := dt_rd I.hok eb
    refine SeqAt.eqP_refs ne fun E Q q => ?_
    refine eq_tups (tell := fun _ => true) (tupleKind_room_in1 (show X.A.units + 1 + 1 < cLine by omega)) (show X.A.units + 1 < cLine by omega) sa sb dA dB (fun x m => ?_) ?_
    · obtain ⟨v, mv, rv⟩ := r1.mem m
      obtain ⟨z, d, e, ez, hd, he, sd, se, q⟩ := hp _ mv
      have r := r2.val x.1
      unfold Hit
      cases e2 : atKey ys x.1 with
      | none => rw [e2, ez] at r; exact r.elim
      | some p =>
        rw [e2, ez] at r
        obtain ⟨as, q1⟩ := Dp.reads I d v _ hd rv
        obtain ⟨bs, q2⟩ := Dp.reads I e z _ he r
        have := (PySem.W.keq_at (A := X.A.in1) q1 q2 sd se (show X.A.units + 1 + 1 + 64 < cLine by omega)).eqP (prog := X.prog) (w := X.w)
        rwa [q] at this
    · rw [r1.length, r2.length] at hl
      rw [hl, show (xs.all fun _ => true) = true from List.all_eq_true.mpr fun _ _ => rfl]
      simpa using q
theorem op_neTS (hu : X.A.units + 66 < cLine) : OpR X (compareOp .NotEq) (rNeTS X.K) := by
  intro pins s σ H x y v u Q I rx ry ⟨a, b, us, vs, ex, ey, ea, eb, hp, q⟩
  subst ex ey
  obtain rfl : v = Value.ref a := rx
  obtain rfl : u = Value.ref b := ry
  obtain ⟨xs, r1, p1, _⟩ := I.tuple ea
  obtain ⟨ys, r2, p2, _⟩ := I.tuple eb
  have hsz : xs.toArray.size = ys.toArray.size := by
    rw [List.size_toArray, List.size_toArray, ← r1.length, ← r2.length]
    exact Paired.length hp
  have go : ∀ {us vs : List V}, Paired (PEq X.K H) us vs → ∀ {xs ys : List Value}, Vals us xs → Vals vs ys → ∀ j (h1 : j < xs.length) (h2 : j < ys.length), SeqAt.EqP X.prog X.w X.A.in1 s xs[j] ys[j] true := by
    intro us vs hp
    induction hp with
    | nil =>
      intro xs ys r1 r2 j h1 h2
      cases r1
      exact absurd h1 (Nat.not_lt_zero j)
    | cons h _ k =>
      intro xs ys r1 r2 j h1 h2
      cases r1 with
      | cons a1 b1 =>
        cases r2 with
        | cons a2 b2 =>
          cases j with
          | zero => exact pEq_run I hu h a1 a2
          | succ j => exact k b1 b2 j (Nat.lt_of_succ_lt_succ h1) (Nat.lt_of_succ_lt_succ h2)
  refine ne_tupsP p1 p2 hsz (by omega) (fun j h1 h2 => ?_) ⟨.bl _, H, I, rfl, q⟩
  have k := go hp r1 r2 j (by simpa using h1) (by simpa using h2)
  simpa using k
end
end L2
namespace L3
open PySem PySem.Spec PyProof.Rows L2
/-- a value that equals itself when laid twice -/
def PEL (s : LS) (z : LV) : Prop := (∃ d, Isd s d z ∧ SeqAt.shaped d = true ∧ PyData.eqv d d = true) ∨ ∃ as ds, z = .dT as ∧ datK as = some ds ∧ (ds.map (·.1)).Nodup ∧ ∀ p ∈ ds, SeqAt.shaped p.2 = true ∧ PyData.eqv p.2 p.2 = true
def rNeTSL : LR2 := fun x y s Q => ∃ zs, x = .tup zs ∧ y = .tup zs ∧ (∀ z ∈ zs, PEL s z) ∧ Q (.bl false) s
@[simp] theorem rNeTSL_ap (x y : LV) (s : LS) (Q : LVK) : rNeTSL x y s Q = ∃ zs, x = .tup zs ∧ y = .tup zs ∧ (∀ z ∈ zs, PEL s z) ∧ Q (.bl false) s := rfl
section
variable {K : PySem.W.Frag} [GG K] {s : LS} {H : Hp}
theorem dat_two (hs : RelS K s H) {as : List (List Key × LV)} {ds : List (List Key × PyData)} {us vs : List (List Key × V)} (r1 : RVk K s H as us) (r2 : RVk K s H as vs) (e : datK as = some ds) (nd : (ds.map (·.1)).Nodup) (ok : ∀ p ∈ ds, SeqAt.shaped p.2 = true ∧ PyData.eqv p.2 p.2 = true) :
    us.length = vs.length ∧ ∀ p ∈ us, ∃ v d e, valV vs p.1 = some v ∧ Dp K H p.2 d ∧ Dp K H v e ∧ SeqAt.shaped d = true ∧ SeqAt.shaped e = true ∧ PyData.eqv d e = true := by
  obtain ⟨l1, m1, c1⟩ := datK_dp hs r1 e
  obtain ⟨l2, m2, c2⟩ := datK_dp hs r2 e
  refine ⟨l1.symm.trans l2, fun p hp => ?_⟩
  have q1 : valV us p.1 = some p.2 := by
    have nd' : (us.map (·.1)).Nodup := by rw [m1]; exact nd
    clear c1 m1 l1 r1
    induction us with
    | nil => cases hp
    | cons q us ih =>
      rw [List.map_cons, List.nodup_cons] at nd'
      rcases List.mem_cons.mp hp with rfl | hp
      · simp [valV]
      · have ne : q.1 ≠ p.1 := fun e => nd'.1 (by rw [e]; exact List.mem_map_of_mem hp)
        have := ih hp nd'.2
        simpa [valV, ne] using this
  have a1 := c1 p.1
  rw [q1] at a1
  obtain ⟨d, ed, dd⟩ := a1
  have a2 := c2 p.1
  cases q2 : valV vs p.1 with
  | none =>
    rw [q2] at a2
    rw [a2] at ed
    cases ed
  | some v =>
    rw [q2] at a2
    obtain ⟨e, ee, de⟩ := a2
    rw [ee] at ed
    cases ed
    obtain ⟨k1, k2⟩ := ok _ (lookD_mem ee)
    exact ⟨v, d, d, rfl, dd, de, k1, k1, k2⟩
theorem pEL_two (hs : RelS K s H) {z : LV} (h : PEL s z) {v w : V} (r1 : RV K s H z v) (r2 : RV K s H z w) : PEq K H v w := by
  rcases h with ⟨d, h1, h2, h3⟩ | ⟨as, ds, rfl, e, nd, ok⟩
  · exact .inl ⟨d, d, h1.dp hs r1, h1.dp hs r2, h2, h2, h3⟩
  · obtain ⟨a, us, o, rfl, hh, hd, r⟩ := dicT_ok hs r1 rfl
    obtain ⟨b, vs, o', rfl, hh', hd', r'⟩ := dicT_ok hs r2 rfl
    obtain ⟨k1, k2⟩ := dat_two hs r r' e nd ok
    exact .inr ⟨a, b, us, vs, rfl, rfl, hd.rd hh, hd'.rd hh', k1, k2⟩
theorem pELs_two (hs : RelS K s H) : ∀ {zs : List LV} {vs ws : List V}, (∀ z ∈ zs, PEL s z) → RVs K s H zs vs → RVs K s H zs ws → Paired (PEq K H) vs ws
  | [], vs, ws, _, r1, r2 => by
    simp only [RVs] at r1 r2
    subst r1 r2
    exact .nil
  | z :: zs, _, _, h, r1, r2 => by
    simp only [RVs] at r1 r2
    obtain ⟨v, vs, rfl, a1, b1⟩ := r1
    obtain ⟨w, ws, rfl, a2, b2⟩ := r2
    exact .cons (pEL_two hs (h z List.mem_cons_self) a1 a2) (pELs_two hs (fun x m => h x (List.mem_cons_of_mem _ m)) b1 b2)
theorem up_neTS : Up2 K (rNeTS K) rNeTSL := fun x y s H lx ly Q0 Q hs rx ry ⟨zs, e1, e2, h, q⟩ k => by
  subst e1 e2
  simp only [RV] at rx ry
  obtain ⟨a, us, rfl, _, ha, ra⟩ := rx
  obtain ⟨b, vs, rfl, _, hb, rb⟩ := ry
  exact ⟨a, b, us, vs, rfl, rfl, SqT.of ha, SqT.of hb, pELs_two hs h ra rb, k _ _ _ _ q (.refl _ _) hs .bl⟩
end
section
variable {X : Cx} [GG X.K] {a b : Expr} {ta tb : LTE} {pos : Pos}
theorem le_neTS (hu : X.A.units + 66 < cLine) (ha : LE X a ta) (hb : LE X b tb) : LE X (.Compare a [.NotEq] [b] pos) (lOp rNeTSL ta tb) := le_cmp (op_neTS hu) up_neTS ha hb (nomark _)
theorem lt_neTS (hu : X.A.units + 66 < cLine) (ha : LE X a ta) (hb : LE X b tb) : LT X (.Compare a [.NotEq] [b] pos) (lB (lOp rNeTSL ta tb)) := lt_cmp (op_neTS hu) up_neTS ha hb (nomark _)
end
theorem hu66 {k : Nat} {A : Around} (hr : Room k A) : A.units + 66 < cLine := by have := hr.un; omega
end L3

namespace L2
open PySem PySem.Spec PyProof.Rows Builtin Builtin.Str
/-- the first y of x replaced -/
def rep1 (x y z : Str) : Str := if (occurrences x y 0 x.length 1).isEmpty = true then x else glued z (partsBetween x (occurrences x y 0 x.length 1) y.length)
theorem gives_rep1 (x y z : Str) (t u v w : Tok) (hy : (y.length == 0) = false) (hyz : (y == z) = false) (h0 : (u == 0 || v == 0) = false) (huv : (u == v) = false) (hl : tooLong (x.length + (occurrences x y 0 x.length 1).length * z.length) = false) :
    Gives («str.replace» ⟨[.str x t, .str y u, .str z v, .int 1 w], []⟩) (if (occurrences x y 0 x.length 1).isEmpty = true then .val (.str x t) else .str (glued z (partsBetween x (occurrences x y 0 x.length 1) y.length))) := by
  show Gives (if ((occurrences x y 0 x.length 1).isEmpty || (y.length == 0 && z.length == 0)) = true then (do rule "str.replace.nothing"; ret (.str x t)) else
          (do let same ← isSame (.str y u) (.str z v)
              if same = true then (do rule "str.replace.old-is-new"; ret (.str x t)) else
              if tooLong (x.length + (occurrences x y 0 x.length 1).length * z.length) = true then unsupported "str.replace:memory" else
              retStr (glued z (partsBetween x (occurrences x y 0 x.length 1) y.length)))) _
  rw [hy, Bool.false_and, Bool.or_false]
  cases hc : (occurrences x y 0 x.length 1).isEmpty
  · rw [isSame_str_other y z u v h0 huv hyz, hl]
    exact .of_eq rfl
  · exact .rule (.of_eq rfl)
theorem call_rep1 {prog : Program} {w : World} {A : Around} {E : Value → Shared → Prop} {s : Shared} {x y z : Str} {t u v k : Tok} {Q : Value → Shared → Prop} (hy : (y.length == 0) = false) (hyz : (y == z) = false) (h0 : (u == 0 || v == 0) = false) (huv : (u == v) = false)
    (hb : x.length + z.length ≤ 16777216) (hq : ∀ t' k', Q (.str (rep1 x y z) t') { s with toks := k' }) :
    wpAny (model prog w) A (call (.builtin "str.replace") [.str x t, .str y u, .str z v, .int 1 k]) Q E s := by
  have h1 := StrLaws.occ_length_le x y 0 x.length 1
  have h2 : (occurrences x y 0 x.length 1).length * z.length ≤ 1 * z.length := Nat.mul_le_mul_right _ h1
  have hl : tooLong (x.length + (occurrences x y 0 x.length 1).length * z.length) = false := by
    unfold tooLong sizeLine
    exact decide_eq_false (by omega)
  refine call_gives F.slot_str_replace (typeIs_str _ _ _) F.entry_str_replace (F.args_str_replace_4 _ _ _ _) (gives_rep1 x y z t u v k hy hyz h0 huv hl) ?_
  have hq' := hq
  unfold rep1 at hq'
  cases hc : (occurrences x y 0 x.length 1).isEmpty
  · rw [hc] at hq'
    simp only [Bool.false_eq_true, if_false] at hq' ⊢
    refine ⟨?_, hq' _ _⟩
    have hy2 : (glued y (partsBetween x (occurrences x y 0 x.length 1) y.length)).length = x.length := by rw [StrLaws.glued_between_self]
    rw [size_glued, length_partsBetween, Nat.add_sub_cancel] at hy2
    rw [size_glued, length_partsBetween, Nat.add_sub_cancel, sizeLine_eq]
    omega
  · rw [hc] at hq'
    simp only [if_true] at hq' ⊢
    exact hq' _ _
section
variable {X : Cx} {st : Stmt} {rest : List Stmt} {t u : TS} {o e : Expr} {to te : TE}
def PEo (X : Cx) (e : Expr) (t : TE) : Prop :=
  ∀ (pins : List (Addr × Obj)) (s : Shared) (σ : St) (H : Hp) (Q : VK), Inv X pins σ H s → t σ H Q → wpAny (model X.prog X.w) X.A (eval e X.env) (fun v s1 => EP X pins σ Q v s1 ∧ 1 ≤ s1.toks) X.xe s
def PSo (X : Cx) (st : Stmt) (t : TS) : Prop :=
  ∀ (pins : List (Addr × Obj)) (s : Shared) (σ : St) (H : Hp) (D : Ends), Inv X pins σ H s → t D σ H → wpAny (model X.prog X.w) X.A (exec st X.env) (fun f s1 => SP X pins D f s1 ∧ 1 ≤ s1.toks) X.xe s
/-- o.split(a written text) -/
theorem peo_split {c : Str} {j : Nat} {cpos apos pos : Pos} (ho : PE X o to) (hbase : attributeBase o "split" X.env (eval o X.env) = eval o X.env := by rfl) (hline : (apos.endLine == pos.line) = true := by rfl)
    (hs : starEach [.Constant (.str c) j cpos] X.env = [(false, eval (.Constant (.str c) j cpos) X.env)] := by rfl) :
    PEo X (.Call (.Attribute o "split" apos) [.Constant (.str c) j cpos] [] pos) (tM1 (fun x xs H Q => ∃ a b, x = .str a ∧ xs = [.str b] ∧ (b.length == 0) = false ∧ a.length + 2 ≤ sizeLine ∧ rNewStrs (Txt.split a b) H Q) to (tC (.str c))) := by
  intro pins s σ H Q I h
  refine PySem.Call_method1 hbase hs hline (thn (ho.run pins s σ H _ I h) fun v s1 ⟨x, H1, I1, r1, q1⟩ => ?_)
  obtain ⟨⟨a, rfl⟩, q1⟩ := q1
  obtain ⟨t, rfl⟩ := _root_.id r1
  refine ⟨"str", _, F.plainAttrs_str, F.slot_str_split, F.type_str_split, typeIs_str _ _ _, (fun _ e => nomatch e), Calls.callWith_builtin rfl (Calls.evalArgs_plain (Calls.spliced_cons ?_))⟩
  refine Calls.Constant_str (k := j) (pos := cpos) ?_
  refine Calls.spliced_nil ?_
  refine wpAny_mono (PySem.wpAny_toks (mt_split pins _ σ H1 _ [V.str c] _ [Value.str c s1.toks] Q (I1.tok (s1.toks + 1)) r1 (.cons ⟨s1.toks, rfl⟩ .nil) q1)) (fun v s2 q => ?_) fun _ _ z => z.2
  have hk : s1.toks + 1 ≤ s2.toks := q.1
  exact ⟨q.2, by omega⟩
theorem pso_set {i : Nat} {x : Str} {pos' pos : Pos} (hN : X.N.Nodup) (hi : X.N[i]? = some x) (hx : Loc X.env.scope x) (he : PEo X e te) (hs : swapsWith e (some (.Name x pos')) pos.line X.env = pure false := by rfl) (hf : X.fn x = true ∨ X.env.scope.names.lookup x = some .local := by first | exact .inl rfl | exact .inr rfl | assumption) :
    PSo X (.Assign [.Name x pos'] e pos) (tAsg te (gName i)) := by
  intro pins s σ H D I h
  refine wpAny_Assign_Name (thn (he pins s σ H _ I h) fun v s1 ⟨⟨y, H1, I1, r1, q1⟩, h1⟩ => ?_) hs
  refine wpAny_mono (PySem.wpAny_toks (store_ok I1 hN hi hx r1 (Q := fun _ s2 => SP X pins D .next s2) (fun s2 I2 => ⟨_, H1, I2, q1⟩) hf)) (fun _ s2 q => ?_) fun _ _ z => z.2
  exact ⟨q.2, Nat.le_trans h1 q.1⟩
theorem psso_cons (h1 : PSo X st t) (h2 : PSsT X rest u) : PSs X (st :: rest) (tSeq t u) := by
  refine ⟨fun pins s σ H D I h => ?_⟩
  refine wpAny_execs_cons (thn (h1 pins s σ H { D with nx := u D } I h) fun f s1 ⟨q, hk⟩ => ?_)
  cases f with
  | next =>
    obtain ⟨σ', H', I', q⟩ := q
    exact h2 pins s1 σ' H' D hk I' q
  | ret v => exact q
  | brk => exact q
  | cont => exact q
theorem psst_one (h : PST X st t) : PSsT X [st] t := by
  intro pins s σ H D h0 I q
  refine wpAny_execs_cons (thn (h pins s σ H D h0 I q) fun f s1 q => ?_)
  cases f with
  | next => exact wpAny_execs_nil q
  | ret v => exact q
  | brk => exact q
  | cont => exact q
theorem pst_if {c : Expr} {a b : List Stmt} {tc : TT} {pos : Pos} (hc : PT X c tc) (ha : PSsT X a t) (hb : PSsT X b u) : PST X (.If c a b pos) (tIfS tc t u) := by
  intro pins s σ H D h0 I h
  refine wpAny_If (wpAny_mono (PySem.wpAny_toks (hc.run pins s σ H _ I h)) (fun d s1 ⟨hk, H1, I1, q1⟩ => ?_) fun _ _ z => z.2)
  cases d with
  | true => exact ha pins s1 σ H1 D (Nat.le_trans h0 hk) I1 q1
  | false => exact hb pins s1 σ H1 D (Nat.le_trans h0 hk) I1 q1
theorem pst_ret {pos : Pos} (he : PET X e te) : PST X (.Return (some e) pos) (tRet te) := by
  intro pins s σ H D h0 I h
  exact wpAny_Return_some (thn (he pins s σ H _ h0 I h) fun v s1 ⟨x, H1, I1, r1, q1⟩ => ⟨x, σ, H1, I1, r1, q1⟩)
def tRep1 (y z : Str) (to : TE) : TE := fun σ H Q => to σ H fun x H1 => ∃ a, x = .str a ∧ ((y.length == 0) = false ∧ (y == z) = false ∧ a.length + z.length ≤ 16777216) ∧ Q (.str (rep1 a y z)) H1
/-- o.replace(y, z, 1), y and z written -/
theorem pet_rep1 {y z : Str} {j0 j1 j2 : Nat} {c0 c1 c2 apos pos : Pos} (ho : PE X o to) (hbase : attributeBase o "replace" X.env (eval o X.env) = eval o X.env := by rfl) (hline : (apos.endLine == pos.line) = true := by rfl)
    (hst : starEach [.Constant (.str y) j0 c0, .Constant (.str z) j1 c1, .Constant (.int 1) j2 c2] X.env = [(false, eval (.Constant (.str y) j0 c0) X.env), (false, eval (.Constant (.str z) j1 c1) X.env), (false, eval (.Constant (.int 1) j2 c2) X.env)] := by rfl) :
    PET X (.Call (.Attribute o "replace" apos) [.Constant (.str y) j0 c0, .Constant (.str z) j1 c1, .Constant (.int 1) j2 c2] [] pos) (tRep1 y z to) := by
  intro pins s σ H Q h0 I h
  refine PySem.wpAny_Call_method_lateS hbase (by rw [hst]; rfl) hline ?_
  rw [hst]
  refine wpAny_mono (PySem.wpAny_toks (ho.run pins s σ H _ I h)) (fun v s1 ⟨hk, x, H1, I1, r1, q1⟩ => ?_) fun _ _ z => z.2
  obtain ⟨a, rfl, ⟨hy, hyz, hb⟩, q⟩ := q1
  obtain ⟨t, rfl⟩ := _root_.id r1
  refine ⟨"str", _, F.plainAttrs_str, F.slot_str_replace, F.type_str_replace, typeIs_str _ _ _, (fun _ e => nomatch e), Calls.callWith_builtin rfl (Calls.evalArgs_plain (Calls.spliced_cons ?_))⟩
  refine Calls.Constant_str (k := j0) (pos := c0) ?_
  refine Calls.spliced_cons ?_
  refine Calls.Constant_str (k := j1) (pos := c1) ?_
  refine Calls.spliced_cons ?_
  refine wpAny_Constant_int (k := j2) (pos := c2) ?_
  refine Calls.spliced_nil ?_
  have z0 : s1.toks ≠ 0 := by omega
  refine call_rep1 hy hyz (by simp [z0]) (by simp) hb fun t' k' => ⟨.str (rep1 a y z), H1, I1.tok k', ⟨t', rfl⟩, q⟩
end
end L2
namespace L3
open PySem PySem.Spec PyProof.Rows L2
section
variable {X : Cx} [GG X.K] {K : PySem.W.Frag} [GG K] {a b c e o : Expr} {st : Stmt} {sts sts2 : List Stmt} {pos apos p : Pos} {te to ta tb : LTE} {tt : LTT} {t u : LTS} {x : Str} {tg : Expr}
theorem le_globS {z : Str} (hg : Gl X x) (hm : ∃ t, X.mg x = some (.str z t)) (hd : (x == ("__debug__" : Str)) = false := by decide) : LE X (.Name x pos) (lC (.str z)) := by
  obtain ⟨t, hm⟩ := hm
  exact le_of_pe_c (v := .str z) (pe_glob hg hm ⟨t, rfl⟩ hd) fun _ _ => by simp only [RV]
def signsL (z : Str) : List LV := z.cps.toList.map fun c => .str ⟨#[c]⟩
def iStrL (te : LTE) : LTI := fun σ s Q E => te σ s (fun x s1 => match x with
  | .str z => Q (signsL z) (fun _ => True) s1
  | _ => False) E
theorem it_str {z : Str} {s1 : LS} {H1 : Hp} : ItR K (Its z) (signsL z) (fun _ => True) s1 H1 where
  go := fun i s H hi st hs _ => by
    show i < z.cps.size
    simpa [signsL] using hi
  stop := fun s H st hs _ => by
    show z.cps.size ≤ (signsL z).length
    simp [signsL]
  yld := fun i s H x H' hi st hs _ y => by
    obtain ⟨rfl, c, hc, rfl⟩ := y
    refine ⟨.str ⟨#[c]⟩, ?_, .str, .refl _ _, hs⟩
    unfold signsL
    rw [List.getElem?_map, Array.getElem?_toList, hc]
    rfl
theorem li_str (he : LE X e te) : LI X tg e (iStrL te) := fun s0 H0 E tk => (pi_str (he s0 H0 E tk)).imp fun σ H R ⟨σl, s, Q0, E1, hσ, hs, st, hE, h, k⟩ => ⟨σl, s, _, E1, hσ, hs, st, hE, h, fun lx s1 x H1 h st1 hs1 rx => by
  cases lx <;> try exact False.elim h
  next z => exact ⟨z, rx.str', k _ _ _ _ _ h st1 hs1 it_str⟩⟩
def rNinSg : LR2 := fun x y s Q => match x, y with
  | .str a, .str z => (match a.cps.toList with
    | [c] => Q (.bl (!decide (c ∈ z.cps.toList))) s
    | _ => False)
  | _, _ => False
theorem up_ninSg : Up2 K (fun x y H Q => ∃ (c : Nat) (z : Str), x = .str ⟨#[c]⟩ ∧ y = .str z ∧ Q (.bl (!decide (c ∈ z.cps.toList))) H) rNinSg := fun x y s H lx ly Q0 Q hs rx ry h k => by
  cases lx <;> try exact False.elim h
  cases ly <;> try exact False.elim h
  next a z =>
    have h : (match a.cps.toList with
      | [c] => Q0 (.bl (!decide (c ∈ z.cps.toList))) s
      | _ => False) := h
    split at h
    · next c e =>
      have ea : a = ⟨#[c]⟩ := by
        obtain ⟨cps⟩ := a
        simp only at e
        have e2 : cps = #[c] := Array.toList_inj.mp e
        rw [e2]
      subst ea
      exact ⟨c, z, rx.str', ry.str', k _ _ _ _ h (.refl _ _) hs .bl⟩
    · exact h.elim
theorem lt_ninSg (ha : LE X a ta) (hb : LE X b tb) (hm : behindInMarks .NotIn b = false) : LT X (.Compare a [.NotIn] [b] pos) (lB (lOp rNinSg ta tb)) := lt_cmp op_notIn_sign up_ninSg ha hb hm
def flatL : LV → Option V
  | .non => some .non
  | .bl b => some (.bl b)
  | .int i => some (.int i)
  | .str z => some (.str z)
  | _ => none
def flatsL : List LV → Option (List V)
  | [] => some []
  | x :: xs => (flatL x).bind fun u => (flatsL xs).map (u :: ·)
def seqU (x : LV) (s : LS) : Option (List LV) := match x with
  | .tup xs => some xs
  | x => seqL x s
def rInU : LR2 := fun x y s Q => opt (seqU y s) fun xs => opt (flatL x) fun u => opt (flatsL xs) fun us => Q (.bl (inV u us)) s
theorem flatL_ok {s : LS} {H : Hp} {lx : LV} {u v : V} (r : RV K s H lx v) (h : flatL lx = some u) : v = u ∧ flatV u = true := by
  cases lx <;> simp only [flatL, Option.some.injEq, reduceCtorEq] at h <;> subst h <;> simp only [RV] at r <;> exact ⟨r, rfl⟩
theorem flatsL_ok {s : LS} {H : Hp} : ∀ {xs : List LV} {us vs : List V}, RVs K s H xs vs → flatsL xs = some us → vs = us ∧ us.all flatV = true
  | [], _, _, r, h => by
    simp only [RVs] at r
    cases h
    exact ⟨r, rfl⟩
  | x :: xs, _, _, r, h => by
    simp only [RVs] at r
    obtain ⟨v, vs, rfl, r1, r2⟩ := r
    obtain ⟨u, e1, h⟩ := Option.bind_eq_some_iff.mp h
    obtain ⟨us, e2, rfl⟩ := Option.map_eq_some_iff.mp h
    obtain ⟨rfl, f1⟩ := flatL_ok r1 e1
    obtain ⟨rfl, f2⟩ := flatsL_ok r2 e2
    exact ⟨rfl, by rw [List.all_cons, f1, f2]; rfl⟩
theorem up_inU : Up2 K (rIn K false) rInU := fun x y s H lx ly Q0 Q hs rx ry h k => by
  obtain ⟨xs, e1, h⟩ := opt_ok h
  obtain ⟨u, e2, h⟩ := opt_ok h
  obtain ⟨us, e3, h⟩ := opt_ok h
  obtain ⟨rfl, f1⟩ := flatL_ok rx e2
  have go : ∃ p vs, y = .ref p ∧ (SqL K H p vs ∨ SqT K H p vs) ∧ RVs K s H xs vs := by
    unfold seqU at e1
    split at e1
    · next ys =>
      cases e1
      simp only [RV] at ry
      obtain ⟨a, vs, rfl, _, hh, r⟩ := ry
      exact ⟨a, vs, rfl, .inr (SqT.of hh), r⟩
    · obtain ⟨a, vs, rfl, hh, r⟩ := seqL_ok hs ry e1
      exact ⟨a, vs, rfl, .inl (SqL.of hh), r⟩
  obtain ⟨p, vs, rfl, hq, r⟩ := go
  obtain ⟨rfl, f2⟩ := flatsL_ok r e3
  exact ⟨p, vs, rfl, hq, f1, f2, k _ _ _ _ h (.refl _ _) hs .bl⟩
theorem lt_inU (ha : LE X a ta) (hb : LE X b tb) (hm : behindInMarks .In b = false) : LT X (.Compare a [.In] [b] pos) (lB (lOp rInU ta tb)) := lt_cmp op_in_seq up_inU ha hb hm
def lTupOf (te : LTE) : LTE := fun σ s Q E => te σ s (fun x s1 => opt (seqL x s1) fun xs => Q (.tup xs) s1) E
theorem le_tupOf (hg : Gl X "tuple") (hm : X.mg "tuple" = none) (ha : LE X a ta) (na : starEach [a] X.env = (false, eval a X.env) :: starEach [] X.env := by rfl) : LE X (.Call (.Name "tuple" p) [a] [] pos) (lTupOf ta) := fun s0 H0 E tk =>
  (pe_tupleOf hg hm (ha s0 H0 E tk) na).imp fun σ H Q ⟨σl, s, Q0, E1, hσ, hs, st, hE, h, k⟩ => ⟨σl, s, _, E1, hσ, hs, st, hE, h, fun lx s1 x H1 h st1 hs1 rx => by
    obtain ⟨xs, e, h⟩ := opt_ok h
    obtain ⟨a, us, rfl, hh, r⟩ := seqL_ok hs1 rx e
    exact .inl ⟨a, us, rfl, SqL.of hh, fun q np => k _ _ _ _ h (st1.trans (.new hs1 np)) (hs1.new np) (r.tupAt hs1 np)⟩⟩
def rStrL : LRc := fun vs s Q => match vs with
  | [.int i] => (-1000000000000000000000000000000 < i ∧ i < 1000000000000000000000000000000) ∧ Q (.str (Str.ofString (toString i))) s
  | _ => False
theorem log_ok {i : Int} (h1 : -1000000000000000000000000000000 < i) (h2 : i < 1000000000000000000000000000000) : i.natAbs.log2 < 1920 := by
  by_cases z : i.natAbs = 0
  · rw [z]; decide
  · rw [Nat.log2_lt z]
    have e : (1000000000000000000000000000000 : Nat) ≤ 2 ^ 1920 := by decide
    omega
theorem up_strL : UpC K (fun xs H Q => ∃ i : Int, xs = [.int i] ∧ i.natAbs.log2 < 1920 ∧ Q (.str (toString i)) H) rStrL := fun vs s H lvs Q0 Q hs r h k => by
  rcases lvs with _ | ⟨x, _ | ⟨c, l⟩⟩
  · exact False.elim h
  · obtain ⟨v, rfl, r1⟩ := r.one
    cases x with
    | int i => exact ⟨i, by rw [r1.int'], log_ok h.1.1 h.1.2, k _ _ _ _ h.2 (.refl _ _) hs .str⟩
    | _ => exact False.elim h
  · exact False.elim (by cases x <;> exact h)
theorem le_str1 {es : List Expr} {tas : LTA} (hg : Gl X "str") (hm : X.mg "str" = none) (ha : LA X (e :: es) tas) (he : starEach (e :: es) X.env = (false, eval e X.env) :: starEach es X.env := by rfl) (hpl : (backTo pos (starEach es X.env)).any (·.1) = false := by rfl) :
    LE X (.Call (.Name "str" p) (e :: es) [] pos) (lCB rStrL tas) := le_cty call_str_int up_strL hg hm PyProof.Rows.boot_str ha (by decide) (by decide) he hpl
def rIntSL : LRc := fun vs s Q => match vs with
  | [.str a] => ∃ n, (PySem.intText? a = some n ∧ a.length ≤ 640) ∧ Q (.int n) s
  | _ => False
theorem up_intS : UpC K (fun xs H Q => ∃ a n, xs = [.str a] ∧ PySem.intText? a = some n ∧ a.length ≤ 640 ∧ Q (.int n) H) rIntSL := fun vs s H lvs Q0 Q hs r h k => by
  rcases lvs with _ | ⟨x, _ | ⟨c, l⟩⟩
  · exact False.elim h
  · obtain ⟨v, rfl, r1⟩ := r.one
    cases x with
    | str a =>
      obtain ⟨n, ⟨h1, h2⟩, h⟩ := h
      exact ⟨a, n, by rw [r1.str'], h1, h2, k _ _ _ _ h (.refl _ _) hs .int⟩
    | _ => exact False.elim h
  · exact False.elim (by cases x <;> exact h)
theorem le_intS {es : List Expr} {tas : LTA} (hg : Gl X "int") (hm : X.mg "int" = none) (ha : LA X (e :: es) tas) (he : starEach (e :: es) X.env = (false, eval e X.env) :: starEach es X.env := by rfl) (hpl : (backTo pos (starEach es X.env)).any (·.1) = false := by rfl) :
    LE X (.Call (.Name "int" p) (e :: es) [] pos) (lCB rIntSL tas) := le_cty call_int_str up_intS hg hm PyProof.Rows.boot_int ha (by decide) (by decide) he hpl
def LPT (X : Cx) [GG X.K] (st : Stmt) (t : LTS) : Prop := ∀ s0 H0 E, Takes X (WL X.K s0 H0 E) → PassesOwn (model X.prog X.w) X.A X.env X.xe → PST X st (upS X.K s0 H0 E t)
def LPsT (X : Cx) [GG X.K] (st : List Stmt) (t : LTS) : Prop := ∀ s0 H0 E, Takes X (WL X.K s0 H0 E) → PassesOwn (model X.prog X.w) X.A X.env X.xe → PSsT X st (upS X.K s0 H0 E t)
def LPo (X : Cx) [GG X.K] (st : Stmt) (t : LTS) : Prop := ∀ s0 H0 E, Takes X (WL X.K s0 H0 E) → PassesOwn (model X.prog X.w) X.A X.env X.xe → PSo X st (upS X.K s0 H0 E t)
def LEo (X : Cx) [GG X.K] (e : Expr) (t : LTE) : Prop := ∀ s0 H0 E, Takes X (WL X.K s0 H0 E) → PEo X e (up X.K s0 H0 E t)
def LET (X : Cx) [GG X.K] (e : Expr) (t : LTE) : Prop := ∀ s0 H0 E, Takes X (WL X.K s0 H0 E) → PET X e (up X.K s0 H0 E t)
theorem lpt_of (h : LP X st t) : LPT X st t := fun s0 H0 E tk hp => PST.of (h s0 H0 E tk hp)
theorem lpst_of (h : LPs X sts t) : LPsT X sts t := fun s0 H0 E tk hp => PSsT.of (h s0 H0 E tk hp)
theorem lpst_cons (h1 : LPT X st t) (h2 : LPsT X sts u) : LPsT X (st :: sts) (lSeq t u) := fun s0 H0 E tk hp pins s σ H D h0 I ⟨σl, sl, Dl, hσ, hs, st, h, d⟩ =>
  psst_cons (h1 s0 H0 E tk hp) (h2 s0 H0 E tk hp) pins s σ H D h0 I ⟨σl, sl, _, hσ, hs, st, h, ⟨fun σl1 s1 σ1 H1 h1 st1 hs1 r1 => ⟨σl1, s1, Dl, r1, hs1, st.trans st1, h1, d.mono st1⟩, d.rt, d.bk, d.ct, d.ex⟩⟩
theorem lpso_cons (h1 : LPo X st t) (h2 : LPsT X sts u) : LPs X (st :: sts) (lSeq t u) := fun s0 H0 E tk hp => (psso_cons (h1 s0 H0 E tk hp) (h2 s0 H0 E tk hp)).imp fun D σ H ⟨σl, s, Dl, hσ, hs, st, h, d⟩ =>
  ⟨σl, s, _, hσ, hs, st, h, ⟨fun σl1 s1 σ1 H1 h1 st1 hs1 r1 => ⟨σl1, s1, Dl, r1, hs1, st.trans st1, h1, d.mono st1⟩, d.rt, d.bk, d.ct, d.ex⟩⟩
theorem lpst_one (h1 : LPT X st t) : LPsT X [st] t := fun s0 H0 E tk hp => psst_one (h1 s0 H0 E tk hp)
theorem lpt_if (hc : LT X c tt) (ha : LPsT X sts t) (hb : LPsT X sts2 u) : LPT X (.If c sts sts2 pos) (lIf tt t u) := fun s0 H0 E tk hp pins s σ H D h0 I ⟨σl, sl, Dl, hσ, hs, st, h, d⟩ =>
  pst_if (hc s0 H0 E tk) (ha s0 H0 E tk hp) (hb s0 H0 E tk hp) pins s σ H D h0 I
    ⟨σl, sl, _, _, hσ, hs, st, fun C s' q => d.ex C σl s' q, h, fun b s1 H1 h st1 hs1 => by
      cases b with
      | true => exact ⟨σl, s1, Dl, hσ.mono st1, hs1, st.trans st1, h.1 rfl, d.mono st1⟩
      | false => exact ⟨σl, s1, Dl, hσ.mono st1, hs1, st.trans st1, h.2 rfl, d.mono st1⟩⟩
theorem lpt_ret (he : LET X e te) : LPT X (.Return (some e) pos) (lRet te) := fun s0 H0 E tk hp pins s σ H D h0 I ⟨σl, sl, Dl, hσ, hs, st, h, d⟩ =>
  pst_ret (he s0 H0 E tk) pins s σ H D h0 I ⟨σl, sl, _, _, hσ, hs, st, fun C s' q => d.ex C σl s' q, h, d.rt⟩
def lRep1 (y z : Str) (to : LTE) : LTE := fun σ s Q E => to σ s (fun x s1 => strV x fun a => ((y.length == 0) = false ∧ (y == z) = false ∧ a.length + z.length ≤ 16777216) ∧ Q (.str (rep1 a y z)) s1) E
theorem let_rep1 {y z : Str} {j0 j1 j2 : Nat} {c0 c1 c2 : Pos} (ho : LE X o to) (hbase : attributeBase o "replace" X.env (eval o X.env) = eval o X.env := by rfl) (hline : (apos.endLine == pos.line) = true := by rfl)
    (hst : starEach [.Constant (.str y) j0 c0, .Constant (.str z) j1 c1, .Constant (.int 1) j2 c2] X.env = [(false, eval (.Constant (.str y) j0 c0) X.env), (false, eval (.Constant (.str z) j1 c1) X.env), (false, eval (.Constant (.int 1) j2 c2) X.env)] := by rfl) :
    LET X (.Call (.Attribute o "replace" apos) [.Constant (.str y) j0 c0, .Constant (.str z) j1 c1, .Constant (.int 1) j2 c2] [] pos) (lRep1 y z to) := fun s0 H0 E tk pins s σ H Q h0 I ⟨σl, sl, Q0, E1, hσ, hs, st, hE, h, k⟩ =>
  pet_rep1 (ho s0 H0 E tk) hbase hline hst pins s σ H Q h0 I ⟨σl, sl, _, E1, hσ, hs, st, hE, h, fun lx s1 x H1 h st1 hs1 rx => by
    obtain ⟨a, rfl, h1, h⟩ := strV_ok h
    rw [rx.str']
    exact ⟨a, rfl, h1, k _ _ _ _ h st1 hs1 .str⟩⟩
theorem leo_split {z : Str} {j : Nat} {cpos : Pos} (ho : LE X o to) (hbase : attributeBase o "split" X.env (eval o X.env) = eval o X.env := by rfl) (hline : (apos.endLine == pos.line) = true := by rfl)
    (hs : starEach [.Constant (.str z) j cpos] X.env = [(false, eval (.Constant (.str z) j cpos) X.env)] := by rfl) :
    LEo X (.Call (.Attribute o "split" apos) [.Constant (.str z) j cpos] [] pos) (lFz (lSplit to (lC (.str z)))) := fun s0 H0 E tk pins s σ H Q I h => by
  obtain ⟨σl, sl, Q0, E1, hσ, hs', st, hE, h, k⟩ := fz_up h
  refine peo_split (ho s0 H0 E tk) hbase hline hs pins s σ H Q I ⟨σl, sl, _, E1, hσ, hs', st, hE, h, fun lx s1 x H1 h st1 hs1 rx => ?_⟩
  obtain ⟨a, rfl, h⟩ := strV_ok h
  rw [rx.str']
  obtain ⟨⟨h1, h2⟩, h⟩ := h
  refine ⟨⟨a, rfl⟩, ?_⟩
  exact ⟨a, z, rfl, rfl, h1, h2, k _ _ _ _ h st1 hs1 (RVs.strs _)⟩
theorem lpo_set {i : Nat} {pos' : Pos} (hN : X.N.Nodup) (hi : X.N[i]? = some x) (hx : Loc X.env.scope x) (he : LEo X e te) (hs : swapsWith e (some (.Name x pos')) pos.line X.env = pure false := by rfl)
    (hf : X.fn x = true ∨ X.env.scope.names.lookup x = some .local := by first | exact .inl rfl | exact .inr rfl | assumption) : LPo X (.Assign [.Name x pos'] e pos) (lAsg te (lgName i)) := fun s0 H0 E tk hp pins s σ H D I ⟨σl, sl, Dl, hσ, hs', st, h, d⟩ =>
  pso_set hN hi hx (he s0 H0 E tk) hs hf pins s σ H D I
    ⟨σl, sl, _, _, hσ, hs', st, fun C s' q => d.ex C σl s' q, h, fun lx s1 x H1 h st1 hs1 rx => d.nx _ _ _ _ h st1 hs1 ((hσ.mono st1).set i rx)⟩
end
end L3


namespace Law
open PySem PySem.Spec L2 L3
local macro_rules
  | `(tactic| simp_arith) => `(tactic| ((conv => whnf); repeat ((first | with_reducible refine ifTT ?_ | with_reducible refine ifFF ?_ | with_reducible refine ifnT ?_ | with_reducible refine ifnF ?_ | with_reducible refine ifTr ?_ | with_reducible refine ifFr ?_ | (with_reducible refine And.intro ?_ ?_; · (first | with_reducible rfl | with_reducible exact ⟨rfl, rfl⟩ | decide | omega | (dsimp only; decide) | (dsimp only; omega) | (unfold CDiv; omega) | (unfold CPow; decide) | (unfold CMul; omega) | (simp only [List.length_cons, List.length_nil]; omega)))); conv => whnf)))
local macro_rules
  | `(tactic| simp_arith [$ls,*]) => `(tactic| ((conv => whnf); repeat ((first | with_reducible refine ifTT ?_ | with_reducible refine ifFF ?_ | with_reducible refine ifnT ?_ | with_reducible refine ifnF ?_ | with_reducible refine ifTr ?_ | with_reducible refine ifFr ?_ | (with_reducible refine And.intro ?_ ?_; · (first | with_reducible rfl | with_reducible exact ⟨rfl, rfl⟩ | decide | omega | (dsimp only; decide) | (dsimp only; omega) | (unfold CDiv; omega) | (unfold CPow; decide) | (unfold CMul; omega) | (simp only [List.length_cons, List.length_nil]; omega) | (simp only [Option.isSome_some]; done) | (simp only [meth_ref, put_same', seqL_ref, $ls,*]; first | done | exact ⟨rfl, rfl⟩ | exact ⟨trivial, rfl⟩ | rfl))) | (simp (decide := true) only [put_same', put_put, decF, decT, Bool.not_true, Bool.not_false, putL_nil, putL_cons, if_true, if_false, seqR_ref, seqL_ref, lenL_ref, dicK_ref, dicT_ref, dat_ref, dat_non, dat_bl, dat_int, dat_str, dat_lst, dat_tup, datV_non, datV_bl, datV_int, datV_str, datV_lst, datV_tup, datVs_nil, datVs_cons, tyAt_ref, opt_some, Option.map_some, Option.bind_some, dv_ints, dv_bls, dv_nms, dv_prs, dv_nm, dt_nm, dt_pr, dv_pr, sh_int, sh_bl, sh_none, sh_nil, eqv_nil, sh_ints, sh_bls, sh_nm, sh_nms, sh_pr, sh_prs, anyI, anyN, anyP, eqv_int, eqv_bl, eqv_ints, eqv_bls, eqv_nms, eqv_prs, eqv_nm, eqv_pr, $ls,*])); conv => whnf)))
def topS (i : Nat) : Stmt := PySem.Challenge.pw_backline_k71_rows_as_text.main.body.getD i (.Pass ⟨0, 0, 0, 0⟩)
def inDef (st : Stmt) (j : Nat) : Stmt := (defBody st).getD j (.Pass ⟨0, 0, 0, 0⟩)
abbrev s_number_in : Stmt := topS 9
abbrev s_row_shown : Stmt := topS 10
abbrev s_rows_shown : Stmt := topS 11
abbrev s_row_of : Stmt := topS 12
abbrev s_read_rows : Stmt := topS 13
abbrev s_law_cell_at : Stmt := topS 15
abbrev s_law_mixed : Stmt := topS 16
abbrev s_law_number : Stmt := topS 17
abbrev s_law_row : Stmt := topS 18
abbrev s_law_text : Stmt := topS 19
abbrev s_law_bad : Stmt := topS 20
abbrev s_law_refused : Stmt := topS 21
abbrev s_law_same : Stmt := topS 22
abbrev s_law : Stmt := topS 23
theorem sc_number_in : FnScope ["word", "most", "sign"] ["word", "most"] (defScope s_number_in) := ⟨rfl, rfl, rfl, by decide +kernel, rfl, by decide +kernel, by decide +kernel⟩
theorem sc_row_shown : FnScope ["row", "name", "part"] ["row"] (defScope s_row_shown) := ⟨rfl, rfl, rfl, by decide +kernel, rfl, by decide +kernel, by decide +kernel⟩
theorem sc_rows_shown : FnScope ["rows", "row"] ["rows"] (defScope s_rows_shown) := ⟨rfl, rfl, rfl, by decide +kernel, rfl, by decide +kernel, by decide +kernel⟩
theorem sc_row_of : FnScope ["text", "words", "numbers", "word"] ["text"] (defScope s_row_of) := ⟨rfl, rfl, rfl, by decide +kernel, rfl, by decide +kernel, by decide +kernel⟩
theorem sc_read_rows : FnScope ["text", "found", "line", "row"] ["text"] (defScope s_read_rows) := ⟨rfl, rfl, rfl, by decide +kernel, rfl, by decide +kernel, by decide +kernel⟩
theorem sc_law_cell_at : FnScope ["_law_script", "_law_k"] ["_law_script", "_law_k"] (defScope s_law_cell_at) := ⟨rfl, rfl, rfl, by decide +kernel, rfl, by decide +kernel, by decide +kernel⟩
theorem sc_law_mixed : FnScope ["_law_cell", "_law_k", "_law_number_here"] ["_law_cell", "_law_k"] (defScope s_law_mixed) := ⟨rfl, rfl, rfl, by decide +kernel, rfl, by decide +kernel, by decide +kernel⟩
theorem sc_law_number : FnScope ["_law_number_here"] ["_law_number_here"] (defScope s_law_number) := ⟨rfl, rfl, rfl, by decide +kernel, rfl, by decide +kernel, by decide +kernel⟩
theorem sc_law_row : FnScope ["_law_cell", "_law_k", "_law_number_here", "_law_hand", "_law_j"] ["_law_cell", "_law_k"] (defScope s_law_row) := ⟨rfl, rfl, rfl, by decide +kernel, rfl, by decide +kernel, by decide +kernel⟩
theorem sc_law_text : FnScope ["_law_row_here", "_law_words", "_law_part"] ["_law_row_here"] (defScope s_law_text) := ⟨rfl, rfl, rfl, by decide +kernel, rfl, by decide +kernel, by decide +kernel⟩
theorem sc_law_bad : FnScope ["_law_row_here", "_law_number_here", "_law_words", "_law_bad_here", "_law_at", "_law_way"] ["_law_row_here", "_law_number_here"] (defScope s_law_bad) := ⟨rfl, rfl, rfl, by decide +kernel, rfl, by decide +kernel, by decide +kernel⟩
theorem sc_law_refused : FnScope ["_law_text_here", "e", "_law_others"] ["_law_text_here"] (defScope s_law_refused) := ⟨rfl, rfl, rfl, by decide +kernel, rfl, by decide +kernel, by decide +kernel⟩
theorem sc_law_same : FnScope ["_law_found", "_law_rows", "_law_row_here", "_law_part"] ["_law_found", "_law_rows"] (defScope s_law_same) := ⟨rfl, rfl, rfl, by decide +kernel, rfl, by decide +kernel, by decide +kernel⟩
theorem sc_law : FnScope ["_law_script", "_law_many", "_law_rows", "_law_k", "_law_text_here", "_law_row_here", "_law_handed", "_law_found", "_law_number_here", "_law_at", "_law_bad_here", "_law_texts", "_law_behind"] ["_law_script"] (defScope s_law) := ⟨rfl, rfl, rfl, by decide +kernel, rfl, by decide +kernel, by decide +kernel⟩
structure Ad where
  c_WeaveError : Addr
  c_NoPoint : Addr
  c_NoHand : Addr
  c_NoLetter : Addr
  c_NoText : Addr
  c_NoRow : Addr
  f_number_in : Addr
  f_row_shown : Addr
  f_rows_shown : Addr
  f_row_of : Addr
  f_read_rows : Addr
  f_law_cell_at : Addr
  f_law_mixed : Addr
  f_law_number : Addr
  f_law_row : Addr
  f_law_text : Addr
  f_law_bad : Addr
  f_law_refused : Addr
  f_law_same : Addr
  f_law : Addr
structure Fd where
  d_number_in : FuncData
  d_row_shown : FuncData
  d_rows_shown : FuncData
  d_row_of : FuncData
  d_read_rows : FuncData
  d_law_cell_at : FuncData
  d_law_mixed : FuncData
  d_law_number : FuncData
  d_law_row : FuncData
  d_law_text : FuncData
  d_law_bad : FuncData
  d_law_refused : FuncData
  d_law_same : FuncData
  d_law : FuncData
abbrev spTop (A : Ad) : LSp := spLaw []
structure Txt (K : PySem.W.Frag) (mg : Str → Option Value) (A : Ad) (D : Fd) : Prop where
  F_number_in : Fun K "number_in" "number_in" s_number_in A.f_number_in D.d_number_in
  q_number_in : Binds K D.d_number_in ["word", "most"] []
  m_number_in : mg "number_in" = some (.ref A.f_number_in)
  k_number_in : PySem.W.keepIn K (.ref A.f_number_in) = true
  F_row_shown : Fun K "row_shown" "row_shown" s_row_shown A.f_row_shown D.d_row_shown
  q_row_shown : Binds K D.d_row_shown ["row"] []
  m_row_shown : mg "row_shown" = some (.ref A.f_row_shown)
  k_row_shown : PySem.W.keepIn K (.ref A.f_row_shown) = true
  F_rows_shown : Fun K "rows_shown" "rows_shown" s_rows_shown A.f_rows_shown D.d_rows_shown
  q_rows_shown : Binds K D.d_rows_shown ["rows"] []
  m_rows_shown : mg "rows_shown" = some (.ref A.f_rows_shown)
  k_rows_shown : PySem.W.keepIn K (.ref A.f_rows_shown) = true
  F_row_of : Fun K "row_of" "row_of" s_row_of A.f_row_of D.d_row_of
  q_row_of : Binds K D.d_row_of ["text"] []
  m_row_of : mg "row_of" = some (.ref A.f_row_of)
  k_row_of : PySem.W.keepIn K (.ref A.f_row_of) = true
  F_read_rows : Fun K "read_rows" "read_rows" s_read_rows A.f_read_rows D.d_read_rows
  q_read_rows : Binds K D.d_read_rows ["text"] []
  m_read_rows : mg "read_rows" = some (.ref A.f_read_rows)
  k_read_rows : PySem.W.keepIn K (.ref A.f_read_rows) = true
  F_law_cell_at : Fun K "_law_cell_at" "_law_cell_at" s_law_cell_at A.f_law_cell_at D.d_law_cell_at
  q_law_cell_at : Binds K D.d_law_cell_at ["_law_script", "_law_k"] []
  m_law_cell_at : mg "_law_cell_at" = some (.ref A.f_law_cell_at)
  k_law_cell_at : PySem.W.keepIn K (.ref A.f_law_cell_at) = true
  F_law_mixed : Fun K "_law_mixed" "_law_mixed" s_law_mixed A.f_law_mixed D.d_law_mixed
  q_law_mixed : Binds K D.d_law_mixed ["_law_cell", "_law_k"] []
  m_law_mixed : mg "_law_mixed" = some (.ref A.f_law_mixed)
  k_law_mixed : PySem.W.keepIn K (.ref A.f_law_mixed) = true
  F_law_number : Fun K "_law_number" "_law_number" s_law_number A.f_law_number D.d_law_number
  q_law_number : Binds K D.d_law_number ["_law_number_here"] []
  m_law_number : mg "_law_number" = some (.ref A.f_law_number)
  k_law_number : PySem.W.keepIn K (.ref A.f_law_number) = true
  F_law_row : Fun K "_law_row" "_law_row" s_law_row A.f_law_row D.d_law_row
  q_law_row : Binds K D.d_law_row ["_law_cell", "_law_k"] []
  m_law_row : mg "_law_row" = some (.ref A.f_law_row)
  k_law_row : PySem.W.keepIn K (.ref A.f_law_row) = true
  F_law_text : Fun K "_law_text" "_law_text" s_law_text A.f_law_text D.d_law_text
  q_law_text : Binds K D.d_law_text ["_law_row_here"] []
  m_law_text : mg "_law_text" = some (.ref A.f_law_text)
  k_law_text : PySem.W.keepIn K (.ref A.f_law_text) = true
  F_law_bad : Fun K "_law_bad" "_law_bad" s_law_bad A.f_law_bad D.d_law_bad
  q_law_bad : Binds K D.d_law_bad ["_law_row_here", "_law_number_here"] []
  m_law_bad : mg "_law_bad" = some (.ref A.f_law_bad)
  k_law_bad : PySem.W.keepIn K (.ref A.f_law_bad) = true
  F_law_refused : Fun K "_law_refused" "_law_refused" s_law_refused A.f_law_refused D.d_law_refused
  q_law_refused : Binds K D.d_law_refused ["_law_text_here"] []
  m_law_refused : mg "_law_refused" = some (.ref A.f_law_refused)
  k_law_refused : PySem.W.keepIn K (.ref A.f_law_refused) = true
  F_law_same : Fun K "_law_same" "_law_same" s_law_same A.f_law_same D.d_law_same
  q_law_same : Binds K D.d_law_same ["_law_found", "_law_rows"] []
  m_law_same : mg "_law_same" = some (.ref A.f_law_same)
  k_law_same : PySem.W.keepIn K (.ref A.f_law_same) = true
  F_law : Fun K "law" "law" s_law A.f_law D.d_law
  q_law : Binds K D.d_law ["_law_script"] []
  m_law : mg "law" = some (.ref A.f_law)
  k_law : PySem.W.keepIn K (.ref A.f_law) = true
  g_FIGURES : ∃ t, mg "FIGURES" = some (.str "0123456789" t)
  b_ValueError : mg "ValueError" = none
  b_any : mg "any" = none
  b_bool : mg "bool" = none
  b_int : mg "int" = none
  b_isinstance : mg "isinstance" = none
  b_len : mg "len" = none
  b_list : mg "list" = none
  b_range : mg "range" = none
  b_str : mg "str" = none
  b_tuple : mg "tuple" = none
  x_WeaveError : ExK K mg "WeaveError" A.c_WeaveError
  e_WeaveError : ExcC K A.c_WeaveError
  x_NoPoint : ExK K mg "NoPoint" A.c_NoPoint
  e_NoPoint : ExcC K A.c_NoPoint
  x_NoHand : ExK K mg "NoHand" A.c_NoHand
  e_NoHand : ExcC K A.c_NoHand
  x_NoLetter : ExK K mg "NoLetter" A.c_NoLetter
  e_NoLetter : ExcC K A.c_NoLetter
  x_NoText : ExK K mg "NoText" A.c_NoText
  e_NoText : ExcC K A.c_NoText
  x_NoRow : ExK K mg "NoRow" A.c_NoRow
  e_NoRow : ExcC K A.c_NoRow
  xm_NoText_WeaveError : PySem.W.exmOne K (.ref A.c_NoText) (.ref A.c_WeaveError) = some true
  kt_NoText_NoHand : PySem.W.kitOne K (.ref A.c_NoText) (.ref A.c_NoHand) = some false
  kt_NoText_NoLetter : PySem.W.kitOne K (.ref A.c_NoText) (.ref A.c_NoLetter) = some false
  kt_NoText_NoPoint : PySem.W.kitOne K (.ref A.c_NoText) (.ref A.c_NoPoint) = some false
  kt_NoText_NoRow : PySem.W.kitOne K (.ref A.c_NoText) (.ref A.c_NoRow) = some false
  kt_NoText_NoText : PySem.W.kitOne K (.ref A.c_NoText) (.ref A.c_NoText) = some true
  kt_NoText_ValueError : PySem.W.kitOne K (.ref A.c_NoText) (.type "ValueError") = some true
  kt_list_list : PySem.W.kitOne K (.type "list") (.type "list") = some true
  kt_tuple_tuple : PySem.W.kitOne K (.type "tuple") (.type "tuple") = some true
  kt_int_bool : PySem.W.kitOne K (.type "int") (.type "bool") = some false
structure Bs (K : PySem.W.Frag) [GG K] (mg : Str → Option Value) (base : Heap) (A : Ad) : Prop where
  hG : GIn K base
theorem Bs.more {K : PySem.W.Frag} {g g' : GG K} {mg : Str → Option Value} {base base' : Heap} {A : Ad} (B : @Bs K g mg base A) (kb : ∀ b o, base.get? b = some o → base'.get? b = some o) (gi : @GIn K g' base') : @Bs K g' mg base' A := @Bs.mk K g' mg base' A gi
inductive Row where
  | own (h : Int)
  | use (h : Int) (n : Nm)
  | write (h : Int)
deriving DecidableEq
def rowL : Row → LV
  | .own h => .tup [.str "own", .int h]
  | .use h n => .tup [.str "use", .int h, nmL n]
  | .write h => .tup [.str "write", .int h]
def rowD : Row → PyData
  | .own h => .tuple [.str "own", .int h]
  | .use h n => .tuple [.str "use", .int h, nmD n]
  | .write h => .tuple [.str "write", .int h]
theorem nOU : ¬ ("own" : Str) = "use" := by decide
theorem nOW : ¬ ("own" : Str) = "write" := by decide
theorem nUW : ¬ ("use" : Str) = "write" := by decide
theorem nUO : ¬ ("use" : Str) = "own" := by decide
theorem nWO : ¬ ("write" : Str) = "own" := by decide
theorem nWU : ¬ ("write" : Str) = "use" := by decide
theorem sO : PyData.strOk ("own" : Str) = true := by decide +kernel
theorem sU : PyData.strOk ("use" : Str) = true := by decide +kernel
theorem sW : PyData.strOk ("write" : Str) = true := by decide +kernel
instance : Cod Row := ⟨rowL, rowD, fun r => by cases r <;> simp [rowL, rowD, nmL, nmD], fun r => by cases r <;> simp [rowD, nmD, PyData.canLay0, PyData.canLayAll0, sO, sU, sW], 2, fun r => by cases r <;> simp [rowD, nmD, PyData.depth, PyData.depthAll], fun a b => by
  rcases a with h | ⟨h, ⟨n1, n2, n3⟩⟩ | h <;> rcases b with g | ⟨g, ⟨m1, m2, m3⟩⟩ | g <;> simp [rowD, nmD, PyData.eqv, PyData.eqvAll, nOU, nOW, nUW, nUO, nWO, nWU]⟩

def digs (l : List Nat) : Prop := ∀ c ∈ l, 48 ≤ c ∧ c ≤ 57
instance (l : List Nat) : Decidable (digs l) := inferInstanceAs (Decidable (∀ c ∈ l, 48 ≤ c ∧ c ≤ 57))
/-- a number's figures: not too many, no nought ahead -/
def numW (most : Int) (w : Str) : Prop := w.cps.toList ≠ [] ∧ (w.length : Int) ≤ most ∧ (w.cps.toList.head? = some 48 → w.length ≤ 1) ∧ digs w.cps.toList
instance (most : Int) (w : Str) : Decidable (numW most w) := inferInstanceAs (Decidable (_ ∧ _ ∧ _ ∧ _))
def numO (most : Int) (w : Str) : Option Int := if numW most w then some ((NumText.digitsVal w.cps.toList : Nat) : Int) else none
def optL : Option Int → LV
  | none => .non
  | some i => .int i
def optV : Option Int → V
  | none => .non
  | some i => .int i
theorem figs_mem (c : Nat) : c ∈ (Str.ofString "0123456789").cps.toList ↔ 48 ≤ c ∧ c ≤ 57 := by
  have e : (Str.ofString "0123456789").cps.toList = [48, 49, 50, 51, 52, 53, 54, 55, 56, 57] := by decide +kernel
  rw [e]
  simp only [List.mem_cons, List.not_mem_nil, or_false]
  omega
theorem flats_opt (ns : List (Option Int)) : flatsL (ns.map optL) = some (ns.map optV) := by
  induction ns with
  | nil => rfl
  | cons n ns ih => cases n <;> simp [flatsL, flatL, optL, optV, ih]
theorem inV_none (ns : List (Option Int)) : inV .non (ns.map optV) = decide (none ∈ ns) := by
  induction ns with
  | nil => rfl
  | cons n ns ih =>
    unfold inV at ih ⊢
    rw [List.map_cons, List.any_cons, ih]
    cases n with
    | none => simp [optV, eqV]
    | some i => simp [optV, eqV]
def rowN (w : Str) : List (Option Int) → Option Row
  | [some a] => if w = "own" then some (.own a) else if w = "write" then some (.write a) else none
  | [some h, some a, some b, some c] => if w = "use" then some (.use h ⟨a, b, c⟩) else none
  | _ => none
def rowO : List Str → Option Row
  | [] => none
  | w :: r => rowN w (r.map (numO 6))
theorem rowN_none {w : Str} {ns : List (Option Int)} (h1 : ¬ ((w = "own" ∨ w = "write") ∧ ns.length = 1)) (h2 : ¬ (w = "use" ∧ ns.length = 4)) : rowN w ns = none := by
  unfold rowN
  split
  · rw [if_neg fun e => h1 ⟨.inl e, rfl⟩, if_neg fun e => h1 ⟨.inr e, rfl⟩]
  · rw [if_neg fun e => h2 ⟨e, rfl⟩]
  · rfl
theorem rowN_gap {w : Str} {ns : List (Option Int)} (h : none ∈ ns) : rowN w ns = none := by
  unfold rowN
  split
  · simp at h
  · simp at h
  · rfl
theorem inV_two (w a b : Str) : inV (.str w) [.str a, .str b] = decide (w = a ∨ w = b) := by
  have e : ∀ x : Str, (x == w) = decide (w = x) := fun x => by
    rw [Bool.eq_iff_iff, beq_iff_eq, decide_eq_true_iff]
    exact eq_comm
  unfold inV
  simp only [List.any_cons, List.any_nil, eqV, Bool.or_false, e]
  rw [Bool.eq_iff_iff]
  simp
def rowOL : Option Row → LV
  | none => .non
  | some r => rowL r
theorem str_nil {w : Str} (h : w.cps.toList = []) : w = Str.ofString "" := by
  obtain ⟨cps⟩ := w
  have : cps = #[] := Array.toList_inj.mp h
  subst this
  rfl
theorem sg_nought (c : Nat) : (⟨#[c]⟩ : Str) = Str.ofString "0" ↔ c = 48 := by
  have e : Str.ofString "0" = ⟨#[48]⟩ := by decide +kernel
  rw [e]
  constructor
  · intro h
    injection h with h
    simpa using congrArg Array.toList h
  · intro h; rw [h]
section
variable {P : Program} {w : World} {K : PySem.W.Frag} [GG K] {mg : Str → Option Value} {base : Heap} {A : Ad} {D : Fd}
def spNumIn : LSp := fun vs s Q E => ∃ (wd : Str) (most : Int), vs = [.str wd, .int most] ∧ most ≤ 600 ∧ wd.length ≤ 16777216 ∧ Q (optL (numO most wd)) s
theorem ok_number_in (T : Txt K mg A D) (B : Bs K mg base A) : LFn P w K mg base 1 A.f_number_in D.d_number_in ["word", "most"] spNumIn := by
  refine T.F_number_in.okL sc_number_in (fun vs s Q E ⟨_, _, h, _⟩ => by rw [h]; rfl) (fun cdv A' outer si H E hr => ⟨_, (lps_cons (lp_if (LW.lt (lw_or (lt_eq (lv 0) le_str) (lw_or (lt_gt (le_len rfl T.b_len (la_cons (lv 0) la_nil)) (lv 1)) (lw_or1 (LW.lt (lw_and (lt_eq (le_item (hu_of hr) (lv 0) le_int) le_str) (lw_and1 (lt_gt (le_len rfl T.b_len (la_cons (lv 0) la_nil)) le_int)))))))) (lps_one (lp_ret le_non)) lps_nil)
    (lps_cons (lp_for rfl (li_str (lv 0)) (lg_name (i := 2) sc_number_in.nd rfl (by first | exact Or.inl rfl | exact Or.inr rfl)) (lps_one (lp_if (lt_ninSg (lv 2) (le_globS rfl T.g_FIGURES) (by rfl)) (lps_one (lp_ret le_non)) lps_nil)))
    (lps_one (lp_ret (le_intS rfl T.b_int (la_cons (lv 0) la_nil)))))), fun vs s Q E h => ?_⟩)
  obtain ⟨wd, most, rfl, hm, hl, h⟩ := h
  have ewl : wd.length = wd.cps.toList.length := by simp [Str.length]
  have bad : ¬ numW most wd → Q .non s := fun hb => by
    unfold numO at h
    rw [if_neg hb] at h
    exact h
  simp_arith
  refine ifD (fun h0 => ?_) (fun h0 => ?_)
  · simp_arith
    exact fin (.refl _) (bad fun z => z.1 (by rw [h0]; rfl))
  obtain ⟨c, cs, e0⟩ : ∃ c cs, wd.cps.toList = c :: cs := by
    cases e : wd.cps.toList with
    | nil => exact absurd (str_nil e) h0
    | cons c cs => exact ⟨c, cs, rfl⟩
  simp_arith
  refine ifD (fun h1 => ?_) (fun h1 => ?_)
  · simp_arith
    exact fin (.refl _) (bad fun z => by have := z.2.1; omega)
  simp_arith
  have ea : atI (c :: cs) 0 = some c := atI_nat (xs := c :: cs) (j := 0) (v := c) rfl
  rw [e0, ea]
  simp_arith
  have rest : (c = 48 → ¬ (wd.length : Int) > 1) → lFor (iStrL (lVar 0)) (lgName 2) (lIf (lB (lOp rNinSg (lVar 2) (lC (LV.str (Str.ofString "0123456789"))))) (lRet (lC LV.non)) lNext)
      ((lEnds Q E).wnx (lRet (lCB rIntSL (lCons (lVar 0) lNil)) (lEnds Q E))) (lstart [Str.ofString "word", Str.ofString "most", Str.ofString "sign"] [LV.str wd, LV.int most]) s := fun h2 => by
    simp_arith
    refine lLoop_map (fun c => LV.str ⟨#[c]⟩) (fun q r σ s' => ∃ v2, σ = [some (.str wd), some (.int most), v2] ∧ s' = s ∧ digs q) (xs := wd.cps.toList) ⟨_, rfl, rfl, fun c hc => by cases hc⟩ (fun _ _ _ _ _ => trivial) ?_ ?_
    · rintro q d r σ s1 N eq ⟨v2, rfl, rfl, hq⟩ hN
      simp_arith
      refine ⟨fun hc => ?_, fun hc => ?_⟩
      · simp_arith
        refine fin (.refl _) (bad fun z => ?_)
        have := z.2.2.2 d (by rw [eq]; simp)
        rw [decide_eq_true ((figs_mem d).mpr this)] at hc
        cases hc
      · simp_arith
        refine hN _ _ ⟨_, rfl, rfl, fun e he => ?_⟩
        rcases List.mem_append.mp he with he | he
        · exact hq e he
        · rw [List.mem_singleton.mp he]
          exact (figs_mem d).mp (by simpa using hc)
    · rintro σ s1 ⟨v2, rfl, rfl, hq⟩
      have hn : numW most wd := ⟨by rw [e0]; simp, by omega, fun h => by
        rw [e0] at h
        have := h2 (by simpa using h)
        omega, hq⟩
      unfold numO at h
      rw [if_pos hn] at h
      simp_arith
      refine ⟨_, ⟨PySem.intText_digits hq hn.1 (by omega), by omega⟩, ?_⟩
      exact fin (.refl _) h
  refine ifD (fun h2 => ?_) (fun h2 => ?_)
  · simp_arith
    refine ifD (fun h3 => ?_) (fun h3 => ?_)
    · simp_arith
      exact fin (.refl _) (bad fun z => by have := z.2.2.1 (by rw [e0, (sg_nought c).mp h2]; rfl); omega)
    · simp_arith
      exact rest fun _ => h3
  · simp_arith
    exact rest fun e => absurd ((sg_nought c).mpr e) h2
end
end Law

namespace Law
open PySem PySem.Spec L2 L3
local macro_rules
  | `(tactic| simp_arith) => `(tactic| ((conv => whnf); repeat ((first | with_reducible refine ifTT ?_ | with_reducible refine ifFF ?_ | with_reducible refine ifnT ?_ | with_reducible refine ifnF ?_ | with_reducible refine ifTr ?_ | with_reducible refine ifFr ?_ | (with_reducible refine And.intro ?_ ?_; · (first | with_reducible rfl | with_reducible exact ⟨rfl, rfl⟩ | decide | omega | (dsimp only; decide) | (dsimp only; omega) | (unfold CDiv; omega) | (unfold CPow; decide) | (unfold CMul; omega) | (simp only [List.length_cons, List.length_nil]; omega)))); conv => whnf)))
local macro_rules
  | `(tactic| simp_arith [$ls,*]) => `(tactic| ((conv => whnf); repeat ((first | with_reducible refine ifTT ?_ | with_reducible refine ifFF ?_ | with_reducible refine ifnT ?_ | with_reducible refine ifnF ?_ | with_reducible refine ifTr ?_ | with_reducible refine ifFr ?_ | (with_reducible refine And.intro ?_ ?_; · (first | with_reducible rfl | with_reducible exact ⟨rfl, rfl⟩ | decide | omega | (dsimp only; decide) | (dsimp only; omega) | (unfold CDiv; omega) | (unfold CPow; decide) | (unfold CMul; omega) | (simp only [List.length_cons, List.length_nil]; omega) | (simp only [Option.isSome_some]; done) | (simp only [meth_ref, put_same', seqL_ref, $ls,*]; first | done | exact ⟨rfl, rfl⟩ | exact ⟨trivial, rfl⟩ | rfl))) | (simp (decide := true) only [put_same', put_put, decF, decT, Bool.not_true, Bool.not_false, putL_nil, putL_cons, if_true, if_false, seqR_ref, seqL_ref, lenL_ref, dicK_ref, dicT_ref, dat_ref, dat_non, dat_bl, dat_int, dat_str, dat_lst, dat_tup, datV_non, datV_bl, datV_int, datV_str, datV_lst, datV_tup, datVs_nil, datVs_cons, tyAt_ref, opt_some, Option.map_some, Option.bind_some, dv_ints, dv_bls, dv_nms, dv_prs, dv_nm, dt_nm, dt_pr, dv_pr, sh_int, sh_bl, sh_none, sh_nil, eqv_nil, sh_ints, sh_bls, sh_nm, sh_nms, sh_pr, sh_prs, anyI, anyN, anyP, eqv_int, eqv_bl, eqv_ints, eqv_bls, eqv_nms, eqv_prs, eqv_nm, eqv_pr, $ls,*])); conv => whnf)))

def numT (i : Int) : Str := Str.ofString (toString i)
def rowW : Row → List Str
  | .own h => ["own", numT h]
  | .write h => ["write", numT h]
  | .use h n => ["use", numT h, numT n.hand, numT n.place, numT n.k]
def rowT (r : Row) : Str := Txt.join " " (rowW r)
def NumOk (i : Int) : Prop := 0 ≤ i ∧ i < 1000000
def RowOk : Row → Prop
  | .own h => NumOk h
  | .write h => NumOk h
  | .use h n => NumOk h ∧ NumOk n.hand ∧ NumOk n.place ∧ NumOk n.k
theorem numT_nat {i : Int} (h : 0 ≤ i) : numT i = Str.ofString (toString ((i.toNat : Nat) : Int)) := by rw [Int.toNat_of_nonneg h]; rfl
theorem numT_tl {i : Int} (h : 0 ≤ i) : (numT i).cps.toList = TL.numL i.toNat := by rw [numT_nat h]; exact TL.tl_num _
theorem numT_len {i : Int} (h : NumOk i) : (numT i).length ≤ 6 := by
  have e : (numT i).length = (numT i).cps.toList.length := by simp [Str.length]
  rw [e, numT_tl h.1]
  refine TL.numL_len (by omega) ?_
  have := h.2
  have := h.1
  omega
theorem tl_eq (w : Str) : TL.tl w = w.cps.toList := rfl
theorem len_tl (w : Str) : w.length = (TL.tl w).length := TL.len_tl w
theorem tl_sp : TL.tl (Str.ofString " ") = [32] := by decide +kernel
theorem tl_nl : TL.tl (Str.ofString "\n") = [10] := by decide +kernel
theorem tl_own : TL.tl (Str.ofString "own") = [111, 119, 110] := by decide +kernel
theorem tl_use : TL.tl (Str.ofString "use") = [117, 115, 101] := by decide +kernel
theorem tl_write : TL.tl (Str.ofString "write") = [119, 114, 105, 116, 101] := by decide +kernel
theorem rowW_len (r : Row) : (rowW r).length ≤ 5 := by cases r <;> simp [rowW]
theorem join_tl (y : Str) (ws : List Str) : TL.tl (Txt.join y ws) = TL.joinL (TL.tl y) (ws.map TL.tl) := by rw [TL.join_eq, TL.tl_join]
theorem two_join (w n : Str) : Txt.join (Str.ofString " ") [w, n] = w ++ Str.ofString " " ++ n := by
  apply TL.ext_tl
  rw [join_tl, TL.tl_append, TL.tl_append, tl_sp]
  simp [TL.joinL]
theorem rowW_free {r : Row} (h : RowOk r) {w : Str} (hw : w ∈ rowW r) : (32 ∉ TL.tl w ∧ 10 ∉ TL.tl w) ∧ w.length ≤ 6 := by
  have num : ∀ {i : Int}, NumOk i → (32 ∉ TL.tl (numT i) ∧ 10 ∉ TL.tl (numT i)) ∧ (numT i).length ≤ 6 := fun {i} hi => by
    refine ⟨?_, numT_len hi⟩
    rw [tl_eq, numT_tl hi.1]
    exact ⟨TL.numL_free (by omega), TL.numL_free (by omega)⟩
  have o : (32 ∉ TL.tl (Str.ofString "own") ∧ 10 ∉ TL.tl (Str.ofString "own")) ∧ (Str.ofString "own").length ≤ 6 := by rw [len_tl, tl_own]; decide
  have u : (32 ∉ TL.tl (Str.ofString "use") ∧ 10 ∉ TL.tl (Str.ofString "use")) ∧ (Str.ofString "use").length ≤ 6 := by rw [len_tl, tl_use]; decide
  have wr : (32 ∉ TL.tl (Str.ofString "write") ∧ 10 ∉ TL.tl (Str.ofString "write")) ∧ (Str.ofString "write").length ≤ 6 := by rw [len_tl, tl_write]; decide
  cases r with
  | own i =>
    simp only [rowW, List.mem_cons, List.not_mem_nil, or_false] at hw
    rcases hw with rfl | rfl
    · exact o
    · exact num h
  | write i =>
    simp only [rowW, List.mem_cons, List.not_mem_nil, or_false] at hw
    rcases hw with rfl | rfl
    · exact wr
    · exact num h
  | use i n =>
    simp only [rowW, List.mem_cons, List.not_mem_nil, or_false] at hw
    rcases hw with rfl | rfl | rfl | rfl | rfl
    · exact u
    · exact num h.1
    · exact num h.2.1
    · exact num h.2.2.1
    · exact num h.2.2.2
theorem rowT_split {r : Row} (h : RowOk r) : Txt.split (rowT r) (Str.ofString " ") = rowW r := by
  unfold rowT
  exact TL.split_join tl_sp (by decide +kernel) (by cases r <;> simp [rowW]) fun w hw => (rowW_free h hw).1.1
theorem joinL_mem (S : List Nat) (c : Nat) : ∀ ps : List (List Nat), c ∈ TL.joinL S ps → c ∈ S ∨ ∃ p ∈ ps, c ∈ p
  | [], h => by simp [TL.joinL] at h
  | [p], h => .inr ⟨p, by simp, by simpa [TL.joinL] using h⟩
  | p :: q :: ps, h => by
    have e : TL.joinL S (p :: q :: ps) = p ++ (S ++ TL.joinL S (q :: ps)) := by simp [TL.joinL]
    rw [e, List.mem_append, List.mem_append] at h
    rcases h with h | h | h
    · exact .inr ⟨p, by simp, h⟩
    · exact .inl h
    · rcases joinL_mem S c (q :: ps) h with h | ⟨z, hz, hc⟩
      · exact .inl h
      · exact .inr ⟨z, List.mem_cons_of_mem _ hz, hc⟩
theorem rowT_free {r : Row} (h : RowOk r) : 10 ∉ TL.tl (rowT r) := fun hc => by
  unfold rowT at hc
  rw [join_tl, tl_sp] at hc
  rcases joinL_mem _ _ _ hc with hc | ⟨p, hp, hc⟩
  · simp at hc
  · obtain ⟨w, hw, rfl⟩ := List.mem_map.mp hp
    exact (rowW_free h hw).1.2 hc
theorem numL_head : ∀ {n : Nat}, 1 ≤ n → (TL.numL n).head? ≠ some 48 := by
  intro n
  induction n using Nat.strongRecOn with
  | _ n ih =>
    intro h1 h0
    by_cases c : n < 10
    · rw [TL.numL_lt c] at h0
      simp at h0
      omega
    · rw [TL.numL_step (by omega)] at h0
      refine ih (n / 10) (by omega) (by omega) ?_
      cases e : TL.numL (n / 10) with
      | nil => exact absurd e (TL.numL_ne _)
      | cons a b => rw [e] at h0; simpa using h0
theorem numO_num {i : Int} (h : NumOk i) : numO 6 (numT i) = some i := by
  have e := numT_tl h.1
  have hl := numT_len h
  have hn : numW 6 (numT i) := by
    refine ⟨by rw [e]; exact TL.numL_ne _, by omega, fun h0 => ?_, by rw [e]; exact TL.numL_digits _⟩
    have e2 : (numT i).length = (numT i).cps.toList.length := by simp [Str.length]
    rw [e2, e]
    rw [e] at h0
    by_cases c : i.toNat < 10
    · rw [TL.numL_lt c]; simp
    · exfalso
      exact numL_head (by omega) h0
  unfold numO
  rw [if_pos hn, e, TL.numL_val]
  congr 1
  exact Int.toNat_of_nonneg h.1
end Law

namespace Law
open PySem PySem.Spec L2 L3
local macro_rules
  | `(tactic| simp_arith) => `(tactic| ((conv => whnf); repeat ((first | with_reducible refine ifTT ?_ | with_reducible refine ifFF ?_ | with_reducible refine ifnT ?_ | with_reducible refine ifnF ?_ | with_reducible refine ifTr ?_ | with_reducible refine ifFr ?_ | (with_reducible refine And.intro ?_ ?_; · (first | with_reducible rfl | with_reducible exact ⟨rfl, rfl⟩ | decide | omega | (dsimp only; decide) | (dsimp only; omega) | (unfold CDiv; omega) | (unfold CPow; decide) | (unfold CMul; omega) | (simp only [List.length_cons, List.length_nil]; omega)))); conv => whnf)))
local macro_rules
  | `(tactic| simp_arith [$ls,*]) => `(tactic| ((conv => whnf); repeat ((first | with_reducible refine ifTT ?_ | with_reducible refine ifFF ?_ | with_reducible refine ifnT ?_ | with_reducible refine ifnF ?_ | with_reducible refine ifTr ?_ | with_reducible refine ifFr ?_ | (with_reducible refine And.intro ?_ ?_; · (first | with_reducible rfl | with_reducible exact ⟨rfl, rfl⟩ | decide | omega | (dsimp only; decide) | (dsimp only; omega) | (unfold CDiv; omega) | (unfold CPow; decide) | (unfold CMul; omega) | (simp only [List.length_cons, List.length_nil]; omega) | (simp only [Option.isSome_some]; done) | (simp only [meth_ref, put_same', seqL_ref, $ls,*]; first | done | exact ⟨rfl, rfl⟩ | exact ⟨trivial, rfl⟩ | rfl))) | (simp (decide := true) only [put_same', put_put, decF, decT, Bool.not_true, Bool.not_false, putL_nil, putL_cons, if_true, if_false, seqR_ref, seqL_ref, lenL_ref, dicK_ref, dicT_ref, dat_ref, dat_non, dat_bl, dat_int, dat_str, dat_lst, dat_tup, datV_non, datV_bl, datV_int, datV_str, datV_lst, datV_tup, datVs_nil, datVs_cons, tyAt_ref, opt_some, Option.map_some, Option.bind_some, dv_ints, dv_bls, dv_nms, dv_prs, dv_nm, dt_nm, dt_pr, dv_pr, sh_int, sh_bl, sh_none, sh_nil, eqv_nil, sh_ints, sh_bls, sh_nm, sh_nms, sh_pr, sh_prs, anyI, anyN, anyP, eqv_int, eqv_bl, eqv_ints, eqv_bls, eqv_nms, eqv_prs, eqv_nm, eqv_pr, $ls,*])); conv => whnf)))

theorem sum_le {ws : List Str} {k : Nat} (h : ∀ w ∈ ws, w.length ≤ k) : (ws.map (·.length)).sum ≤ k * ws.length := by
  induction ws with
  | nil => simp
  | cons w ws ih =>
    have h1 := h w List.mem_cons_self
    have h2 := ih fun z hz => h z (List.mem_cons_of_mem _ hz)
    rw [List.map_cons, List.sum_cons, List.length_cons, Nat.mul_succ]
    omega
theorem rowT_len {r : Row} (h : RowOk r) : (rowT r).length ≤ 40 := by
  have h1 : (rowT r).length = (TL.joinL [32] ((rowW r).map TL.tl)).length := by rw [len_tl]; unfold rowT; rw [join_tl, tl_sp]
  have h2 : ∀ ps : List (List Nat), (∀ p ∈ ps, p.length ≤ 6) → (TL.joinL [32] ps).length ≤ 7 * ps.length := by
    intro ps
    induction ps with
    | nil => intro _; simp [TL.joinL]
    | cons p ps ih =>
      intro hp
      have h3 := hp p List.mem_cons_self
      have h4 := ih fun z hz => hp z (List.mem_cons_of_mem _ hz)
      cases ps with
      | nil => simp [TL.joinL]; omega
      | cons q ps =>
        have e : TL.joinL [32] (p :: q :: ps) = p ++ ([32] ++ TL.joinL [32] (q :: ps)) := by simp [TL.joinL]
        rw [e]
        simp only [List.length_append, List.length_cons, List.length_nil] at h4 ⊢
        omega
  have h5 := h2 ((rowW r).map TL.tl) fun p hp => by
    obtain ⟨w, hw, rfl⟩ := List.mem_map.mp hp
    rw [← len_tl]
    exact (rowW_free h hw).2
  have h6 := rowW_len r
  rw [List.length_map] at h5
  omega
theorem rowW_sum {r : Row} (h : RowOk r) : ((rowW r).map (·.length)).sum + (rowW r).length * (Str.ofString " ").length ≤ 16777216 := by
  have h1 := sum_le (ws := rowW r) (k := 6) fun w hw => (rowW_free h hw).2
  have h2 := rowW_len r
  rw [len_tl, tl_sp]
  simp only [List.length_cons, List.length_nil]
  omega
section
variable {P : Program} {w : World} {K : PySem.W.Frag} [GG K] {mg : Str → Option Value} {base : Heap} {A : Ad} {D : Fd}
def spShown : LSp := fun vs s Q E => ∃ r : Row, vs = [rowL r] ∧ RowOk r ∧ Q (.str (rowT r)) s
theorem ok_row_shown (T : Txt K mg A D) (B : Bs K mg base A) : LFn P w K mg base 1 A.f_row_shown D.d_row_shown ["row"] spShown := by
  refine T.F_row_shown.okL sc_row_shown (fun vs s Q E ⟨_, h, _⟩ => by rw [h]; rfl) (fun cdv A' outer si H E hr => ⟨_, (lps_cons (lp_if (lt_eq (le_item (hu_of hr) (lv 0) le_int) le_str) (lps_cons (lp_setLcF (i := 1) rfl sc_row_shown.nd rfl rfl (own := [("part", 2)]) (g := CTg.one 2) (li_tup (le_item (hu_of hr) (lv 0) le_int)) (blkOk_by (N := ["row", "name", "part"]) (sc := defScope s_row_shown) (by decide +kernel)) (by decide) (fun _ _ _ _ _ => pg_name (i := 2) sc_row_shown.nd rfl (Or.inl rfl)) (fun _ _ _ _ _ => lts_nil) (fun _ _ _ _ _ => (le_str1 rfl T.b_str (la_cons (lv 2) la_nil))) (sw_true rfl rfl rfl (by decide)))
    (lps_one (lp_ret (le_join le_str (le_fz (ll_cat (le_fz (ll_disp (la_cons le_str (la_cons (le_str1 rfl T.b_str (la_cons (le_item (hu_of hr) (lv 0) le_int) la_nil)) la_nil)))) (lv 1))))))) lps_nil)
    (lps_one (lp_ret (le_add (le_add (le_item (hu_of hr) (lv 0) le_int) le_str) (le_str1 rfl T.b_str (la_cons (le_item (hu_of hr) (lv 0) le_int) la_nil)))))), fun vs s Q E h => ?_⟩)
  obtain ⟨r, rfl, hr, h⟩ := h
  cases r with
  | own i =>
    have h1 := hr.1
    have h2 := hr.2
    unfold rowL
    simp_arith
    refine ifD (fun q => absurd q (by decide)) (fun _ => ?_)
    simp_arith
    have hl := numT_len hr
    refine ⟨by rw [TL.len_tl, TL.tl_append, tl_sp, tl_own]; show _ + (numT i).length ≤ _; simp; omega, ?_⟩
    rw [show rowT (.own i) = Str.ofString "own" ++ Str.ofString " " ++ Str.ofString (toString i) from two_join _ _] at h
    exact fin (.refl _) h
  | write i =>
    have h1 := hr.1
    have h2 := hr.2
    unfold rowL
    simp_arith
    refine ifD (fun q => absurd q (by decide)) (fun _ => ?_)
    simp_arith
    have hl := numT_len hr
    refine ⟨by rw [TL.len_tl, TL.tl_append, tl_sp, tl_write]; show _ + (numT i).length ≤ _; simp; omega, ?_⟩
    rw [show rowT (.write i) = Str.ofString "write" ++ Str.ofString " " ++ Str.ofString (toString i) from two_join _ _] at h
    exact fin (.refl _) h
  | use i n =>
    obtain ⟨⟨a1, a2⟩, ⟨b1, b2⟩, ⟨c1, c2⟩, ⟨d1, d2⟩⟩ := hr
    unfold rowL nmL
    simp_arith
    refine ifD (fun _ => ?_) (fun q => absurd rfl q)
    simp_arith
    intro Da hD
    refine lc_map1 (α := Int) (enc := LV.int) (xs := [n.hand, n.place, n.k]) hD (fun i => .str (numT i)) (fun _ _ => trivial) (by simp) ?_ ?_
    · intro j hj s' Y ex hY
      have hj2 : 0 ≤ j ∧ j < 1000000 := by
        simp only [List.mem_cons, List.not_mem_nil, or_false] at hj
        rcases hj with rfl | rfl | rfl <;> exact ⟨by assumption, by assumption⟩
      obtain ⟨j1, j2⟩ := hj2
      simp_arith
      exact hY
    simp_arith
    refine ⟨by simp, ?_⟩
    have hw := rowW_sum (r := .use i n) ⟨⟨a1, a2⟩, ⟨b1, b2⟩, ⟨c1, c2⟩, ⟨d1, d2⟩⟩
    simp_arith
    refine ⟨hw, ?_⟩
    exact fin (.refl _) h
def spRowsShown : LSp := fun vs s Q E => ∃ (rv : LV) (rows : List Row), vs = [rv] ∧ seqL rv s = some (rows.map rowL) ∧ rows.length ≤ 1000 ∧ (∀ r ∈ rows, RowOk r) ∧ Q (.str (Txt.join "\n" (rows.map rowT))) s
theorem ok_rows_shown (T : Txt K mg A D) (B : Bs K mg base A) : LFn P w K mg base 2 A.f_rows_shown D.d_rows_shown ["rows"] spRowsShown := by
  refine T.F_rows_shown.okL sc_rows_shown (fun vs s Q E ⟨_, _, h, _⟩ => by rw [h]; rfl) (fun cdv A' outer si H E hr => ⟨_, (lps_one (lp_ret (le_join le_str (le_fz (ll_lc (own := [("row", 1)]) (g := CTg.one 1) rfl sc_rows_shown.nd (li_seq (lv 0)) (blkOk_by (N := ["rows", "row"]) (sc := defScope s_rows_shown) (by decide +kernel)) (by decide) (fun _ _ _ _ _ => pg_name (i := 1) sc_rows_shown.nd rfl (Or.inl rfl)) (fun _ _ _ _ _ => lts_nil) (fun _ _ _ _ _ => (le_call (ok_row_shown T B) (hr.mono (by decide)) rfl T.m_row_shown T.k_row_shown T.q_row_shown (la_cons (lv 1) la_nil)))))))), fun vs s Q E h => ?_⟩)
  obtain ⟨rv, rows, rfl, hrv, hrl, hok, h⟩ := h
  rcases seqL_cases hrv with rfl | ⟨ra, rfl, era⟩
  all_goals
    first | (have era1 := era) | (have era1 : True := trivial)
    simp_arith [era1]
    intro Da hD
    refine lc_map1 (α := Row) (enc := rowL) hD (fun r => .str (rowT r)) (fun s' ex => by first | trivial | exact ex _ _ era1) (by omega) ?_ ?_
    · intro r hr s' Y ex hY
      simp_arith
      exact ⟨r, rfl, hok r hr, hY⟩
    have es := strsOf_fn rowT rows
    simp_arith [es]
    refine ⟨?_, ?_⟩
    · have h1 := sum_le (ws := rows.map rowT) (k := 40) fun w hw => by
        obtain ⟨r, hr, rfl⟩ := List.mem_map.mp hw
        exact rowT_len (hok r hr)
      rw [len_tl, tl_nl]
      rw [List.length_map] at h1 ⊢
      simp only [List.length_cons, List.length_nil]
      omega
    · exact fin (.refl _) h
end
end Law

namespace Law
open PySem PySem.Spec L2 L3
local macro_rules
  | `(tactic| simp_arith) => `(tactic| ((conv => whnf); repeat ((first | with_reducible refine ifTT ?_ | with_reducible refine ifFF ?_ | with_reducible refine ifnT ?_ | with_reducible refine ifnF ?_ | with_reducible refine ifTr ?_ | with_reducible refine ifFr ?_ | (with_reducible refine And.intro ?_ ?_; · (first | with_reducible rfl | with_reducible exact ⟨rfl, rfl⟩ | decide | omega | (dsimp only; decide) | (dsimp only; omega) | (unfold CDiv; omega) | (unfold CPow; decide) | (unfold CMul; omega) | (simp only [List.length_cons, List.length_nil]; omega)))); conv => whnf)))
local macro_rules
  | `(tactic| simp_arith [$ls,*]) => `(tactic| ((conv => whnf); repeat ((first | with_reducible refine ifTT ?_ | with_reducible refine ifFF ?_ | with_reducible refine ifnT ?_ | with_reducible refine ifnF ?_ | with_reducible refine ifTr ?_ | with_reducible refine ifFr ?_ | (with_reducible refine And.intro ?_ ?_; · (first | with_reducible rfl | with_reducible exact ⟨rfl, rfl⟩ | decide | omega | (dsimp only; decide) | (dsimp only; omega) | (unfold CDiv; omega) | (unfold CPow; decide) | (unfold CMul; omega) | (simp only [List.length_cons, List.length_nil]; omega) | (simp only [Option.isSome_some]; done) | (simp only [meth_ref, put_same', seqL_ref, $ls,*]; first | done | exact ⟨rfl, rfl⟩ | exact ⟨trivial, rfl⟩ | rfl))) | (simp (decide := true) only [put_same', put_put, decF, decT, Bool.not_true, Bool.not_false, putL_nil, putL_cons, if_true, if_false, seqR_ref, seqL_ref, lenL_ref, dicK_ref, dicT_ref, dat_ref, dat_non, dat_bl, dat_int, dat_str, dat_lst, dat_tup, datV_non, datV_bl, datV_int, datV_str, datV_lst, datV_tup, datVs_nil, datVs_cons, tyAt_ref, opt_some, Option.map_some, Option.bind_some, dv_ints, dv_bls, dv_nms, dv_prs, dv_nm, dt_nm, dt_pr, dv_pr, sh_int, sh_bl, sh_none, sh_nil, eqv_nil, sh_ints, sh_bls, sh_nm, sh_nms, sh_pr, sh_prs, anyI, anyN, anyP, eqv_int, eqv_bl, eqv_ints, eqv_bls, eqv_nms, eqv_prs, eqv_nm, eqv_pr, $ls,*])); conv => whnf)))

section
variable {P : Program} {w : World} {K : PySem.W.Frag} [GG K] {mg : Str → Option Value} {base : Heap} {A : Ad} {D : Fd}
def spRowOf : LSp := fun vs s Q E => ∃ t : Str, vs = [.str t] ∧ t.length ≤ 1000000 ∧ (Txt.split t " ") ≠ [] ∧ (Txt.split t " ").length ≤ 1000000 ∧ (∀ w ∈ Txt.split t " ", w.length ≤ 1000000) ∧ Q (rowOL (rowO (Txt.split t " "))) s
theorem ok_row_of (T : Txt K mg A D) (B : Bs K mg base A) : LFn P w K mg base 2 A.f_row_of D.d_row_of ["text"] spRowOf := by
  refine T.F_row_of.okL sc_row_of (fun vs s Q E ⟨_, h, _⟩ => by rw [h]; rfl) (fun cdv A' outer si H E hr => ⟨_, (lps_cons (lp_cut (lp_set (i := 1) sc_row_of.nd rfl (by first | exact Or.inl rfl | exact Or.inr rfl) (le_fz (ll_split (lv 0) le_str))))
    (lps_cons (lp_setLcF (i := 2) rfl sc_row_of.nd rfl rfl (own := [("word", 3)]) (g := CTg.one 3) (li_seq (le_fz (ll_slice (lv 1) (lo_some le_int) lo_none))) (blkOk_by (N := ["text", "words", "numbers", "word"]) (sc := defScope s_row_of) (by decide +kernel)) (by decide) (fun _ _ _ _ _ => pg_name (i := 3) sc_row_of.nd rfl (Or.inl rfl)) (fun _ _ _ _ _ => lts_nil) (fun _ _ _ _ _ => (le_call (ok_number_in T B) (hr.mono (by decide)) rfl T.m_number_in T.k_number_in T.q_number_in (la_cons (lv 3) (la_cons le_int la_nil)))) (sw_true rfl rfl rfl (by decide)))
    (lps_cons (lp_if (lt_inU le_non (lv 2) (by rfl)) (lps_one (lp_ret le_non)) lps_nil)
    (lps_cons (lp_if (LW.lt (lw_and (lt_inU (le_item (hu_of hr) (lv 1) le_int) (le_tup (la_cons le_str (la_cons le_str la_nil))) (by rfl)) (lw_and1 (lt_eq (le_len rfl T.b_len (la_cons (lv 2) la_nil)) le_int)))) (lps_one (lp_ret (le_tup (la_cons (le_item (hu_of hr) (lv 1) le_int) (la_cons (le_item (hu_of hr) (lv 2) le_int) la_nil))))) lps_nil)
    (lps_cons (lp_if (LW.lt (lw_and (lt_eq (le_item (hu_of hr) (lv 1) le_int) le_str) (lw_and1 (lt_eq (le_len rfl T.b_len (la_cons (lv 2) la_nil)) le_int)))) (lps_one (lp_ret (le_tup (la_cons le_str (la_cons (le_item (hu_of hr) (lv 2) le_int) (la_cons (le_tup (la_cons (le_item (hu_of hr) (lv 2) le_int) (la_cons (le_item (hu_of hr) (lv 2) le_int) (la_cons (le_item (hu_of hr) (lv 2) le_int) la_nil)))) la_nil)))))) lps_nil)
    (lps_one (lp_ret le_non))))))), fun vs s Q E h => ?_⟩)
  obtain ⟨t, rfl, hl, hne, hwl, hws, h⟩ := h
  obtain ⟨ws, ews⟩ : ∃ z, z = Txt.split t (Str.ofString " ") := ⟨_, rfl⟩
  have hsp : ((Str.ofString " ").length == 0) = false := by decide +kernel
  simp_arith
  refine ⟨fun σ' s' => σ' = [some (.str t), some (.lst (ws.map .str)), none, none] ∧ s' = s, ?_, ?_⟩
  · simp_arith
    refine ⟨⟨hsp, by omega⟩, ?_⟩
    simp_arith
    exact ⟨by rw [ews]; rfl, rfl⟩
  rintro σ' s' ⟨rfl, rfl⟩
  change Txt.split t (Str.ofString " ") ≠ [] at hne
  rw [← ews] at h hne hwl hws
  obtain ⟨wd, r, rfl⟩ : ∃ wd r, ws = wd :: r := by
    cases ws with
    | nil => exact absurd rfl hne
    | cons wd r => exact ⟨wd, r, rfl⟩
  clear ews hne
  simp_arith
  intro Da hD
  have ecut : cutL (LV.str wd :: r.map LV.str) (some 1) none = r.map LV.str := by
    rw [show (1 : Int) = ((1 : Nat) : Int) from rfl, cutL_from]
    rfl
  have ecut2 : cutL ((wd :: r).map LV.str) (some 1) none = r.map LV.str := ecut
  first | rw [ecut2] | rw [ecut]
  refine lc_map1 (α := Str) (enc := LV.str) (xs := r) hD (fun w => optL (numO 6 w)) (fun _ _ => trivial) (by simp only [List.length_cons] at hwl; omega) ?_ ?_
  · intro z hz s' Y ex hY
    simp_arith
    exact ⟨z, 6, rfl, by omega, by have := hws z (List.mem_cons_of_mem _ hz); omega, hY⟩
  obtain ⟨ns, ens⟩ : ∃ z, z = r.map (numO 6) := ⟨_, rfl⟩
  have ens2 : (r.map fun w => optL (numO 6 w)) = ns.map optL := by rw [ens, List.map_map]; rfl
  have hnl : ns.length = r.length := by rw [ens, List.length_map]
  have ero : rowO (wd :: r) = rowN wd ns := by rw [ens]; rfl
  rw [ero] at h
  rw [ens2]
  clear ens ens2 ero
  have hfl := flats_opt ns
  simp_arith [hfl]
  rw [inV_none]
  refine ifD (fun hn => ?_) (fun hn => ?_)
  · simp_arith
    rw [rowN_gap hn] at h
    exact fin (.refl _) h
  have ea0 : atI ((wd :: r).map LV.str) 0 = some (.str wd) := atI_nat (xs := (wd :: r).map LV.str) (j := 0) (v := .str wd) rfl
  have enl : ((ns.map optL).length : Int) = (ns.length : Nat) := by rw [List.length_map]
  have none_ : ¬ ((wd = "own" ∨ wd = "write") ∧ ns.length = 1) → ¬ (wd = "use" ∧ ns.length = 4) → Q .non s' := fun h1 h2 => by
    rw [rowN_none h1 h2] at h
    exact h
  simp_arith
  rw [ea0]
  simp_arith
  rw [inV_two]
  have rest : ¬ ((wd = "own" ∨ wd = "write") ∧ ns.length = 1) → lIf (lAnd (lB (lOp rEqS (lOp L3.rIxL (lVar 1) (lC (LV.int 0))) (lC (LV.str (Str.ofString "use"))))) (lB (lOp rEqS (lCB rLenL (lCons (lVar 2) lNil)) (lC (LV.int 4)))))
      (lRet (lTup (lCons (lC (LV.str (Str.ofString "use"))) (lCons (lOp L3.rIxL (lVar 2) (lC (LV.int 0))) (lCons (lTup (lCons (lOp L3.rIxL (lVar 2) (lC (LV.int 1))) (lCons (lOp L3.rIxL (lVar 2) (lC (LV.int 2))) (lCons (lOp L3.rIxL (lVar 2) (lC (LV.int 3))) lNil)))) lNil))))) lNext
      ((lEnds Q E).wnx (lRet (lC .non) (lEnds Q E))) [some (.str t), some (.lst ((wd :: r).map LV.str)), some (.lst (ns.map optL)), none] s' := fun h1 => by
    simp_arith
    rw [ea0]
    simp_arith
    refine ifD (fun hw => ?_) (fun hw => ?_)
    · simp_arith
      rw [List.length_map]
      refine ifD (fun h4 => ?_) (fun h4 => ?_)
      · obtain ⟨a, b, c, d, rfl⟩ : ∃ a b c d : Int, ns = [some a, some b, some c, some d] := by
          have h4 : ns.length = 4 := by omega
          rcases ns with _ | ⟨_ | a, _ | ⟨_ | b, _ | ⟨_ | c, _ | ⟨_ | d, _ | ⟨e, ns⟩⟩⟩⟩⟩ <;> simp at h4 hn
          exact ⟨a, b, c, d, rfl⟩
        simp_arith
        subst hw
        exact fin (.refl _) h
      · simp_arith
        exact fin (.refl _) (none_ h1 fun z => h4 (by rw [z.2]; rfl))
    · simp_arith
      exact fin (.refl _) (none_ h1 fun z => hw z.1)
  refine ifD (fun hw => ?_) (fun hw => ?_)
  · simp_arith
    rw [List.length_map]
    refine ifD (fun h4 => ?_) (fun h4 => ?_)
    · obtain ⟨a, rfl⟩ : ∃ a : Int, ns = [some a] := by
        have h4 : ns.length = 1 := by omega
        rcases ns with _ | ⟨_ | a, _ | ⟨e, ns⟩⟩ <;> simp at h4 hn
        exact ⟨a, rfl⟩
      simp_arith
      rw [ea0]
      simp_arith
      rcases hw with rfl | rfl
      · exact fin (.refl _) h
      · exact fin (.refl _) h
    · exact rest fun z => h4 (by rw [z.2]; rfl)
  · exact ⟨fun q => absurd q (by simp), fun _ => rest fun z => hw z.1⟩
end
end Law

namespace Law
open PySem PySem.Spec L2 L3
local macro_rules
  | `(tactic| simp_arith) => `(tactic| ((conv => whnf); repeat ((first | with_reducible refine ifTT ?_ | with_reducible refine ifFF ?_ | with_reducible refine ifnT ?_ | with_reducible refine ifnF ?_ | with_reducible refine ifTr ?_ | with_reducible refine ifFr ?_ | (with_reducible refine And.intro ?_ ?_; · (first | with_reducible rfl | with_reducible exact ⟨rfl, rfl⟩ | decide | omega | (dsimp only; decide) | (dsimp only; omega) | (unfold CDiv; omega) | (unfold CPow; decide) | (unfold CMul; omega) | (simp only [List.length_cons, List.length_nil]; omega)))); conv => whnf)))
local macro_rules
  | `(tactic| simp_arith [$ls,*]) => `(tactic| ((conv => whnf); repeat ((first | with_reducible refine ifTT ?_ | with_reducible refine ifFF ?_ | with_reducible refine ifnT ?_ | with_reducible refine ifnF ?_ | with_reducible refine ifTr ?_ | with_reducible refine ifFr ?_ | (with_reducible refine And.intro ?_ ?_; · (first | with_reducible rfl | with_reducible exact ⟨rfl, rfl⟩ | decide | omega | (dsimp only; decide) | (dsimp only; omega) | (unfold CDiv; omega) | (unfold CPow; decide) | (unfold CMul; omega) | (simp only [List.length_cons, List.length_nil]; omega) | (simp only [Option.isSome_some]; done) | (simp only [meth_ref, put_same', seqL_ref, $ls,*]; first | done | exact ⟨rfl, rfl⟩ | exact ⟨trivial, rfl⟩ | rfl))) | (simp (decide := true) only [put_same', put_put, decF, decT, Bool.not_true, Bool.not_false, putL_nil, putL_cons, if_true, if_false, seqR_ref, seqL_ref, lenL_ref, dicK_ref, dicT_ref, dat_ref, dat_non, dat_bl, dat_int, dat_str, dat_lst, dat_tup, datV_non, datV_bl, datV_int, datV_str, datV_lst, datV_tup, datVs_nil, datVs_cons, tyAt_ref, opt_some, Option.map_some, Option.bind_some, dv_ints, dv_bls, dv_nms, dv_prs, dv_nm, dt_nm, dt_pr, dv_pr, sh_int, sh_bl, sh_none, sh_nil, eqv_nil, sh_ints, sh_bls, sh_nm, sh_nms, sh_pr, sh_prs, anyI, anyN, anyP, eqv_int, eqv_bl, eqv_ints, eqv_bls, eqv_nms, eqv_prs, eqv_nm, eqv_pr, $ls,*])); conv => whnf)))

def lineO (l : Str) : Option Row := rowO (Txt.split l " ")
def LineOk (l : Str) : Prop := l.length ≤ 1000000 ∧ (Txt.split l " ") ≠ [] ∧ (Txt.split l " ").length ≤ 1000000 ∧ ∀ w ∈ Txt.split l " ", w.length ≤ 1000000
def linesO (t : Str) : List Str := if t = "" then [] else Txt.split t "\n"
theorem some_inj {α : Type} : ∀ {xs ys : List α}, xs.map some = ys.map some → xs = ys
  | [], [], _ => rfl
  | [], _ :: _, h => by simp at h
  | _ :: _, [], h => by simp at h
  | x :: xs, y :: ys, h => by
    rw [List.map_cons, List.map_cons] at h
    injection h with h1 h2
    injection h1 with h1
    rw [h1, some_inj h2]
theorem rowL_tup (r : Row) : ∃ xs, rowL r = .tup xs := by cases r <;> exact ⟨_, rfl⟩
section
variable {P : Program} {w : World} {K : PySem.W.Frag} [GG K] {mg : Str → Option Value} {base : Heap} {A : Ad} {D : Fd}
def spRead (A : Ad) : LSp := fun vs s Q E => ∃ (t : Str) (ls : List Str), vs = [.str t] ∧ linesO t = ls ∧ t.length ≤ 1000000 ∧ ls.length ≤ 10000 ∧ (∀ l ∈ ls, LineOk l) ∧
  ((∃ rows : List Row, ls.map lineO = rows.map some ∧ ∀ p, s p = none → Q (.ref p) (put s p (.lst (rows.map rowL)))) ∨ (∃ l ∈ ls, lineO l = none) ∧ E A.c_NoText s)
theorem ok_read_rows (T : Txt K mg A D) (B : Bs K mg base A) : LFn P w K mg base 3 A.f_read_rows D.d_read_rows ["text"] (spRead A) := by
  refine T.F_read_rows.okL sc_read_rows (fun vs s Q E ⟨_, _, h, _⟩ => by rw [h]; rfl) (fun cdv A' outer si H E hr => ⟨_, (lps_cons (lp_set (i := 1) sc_read_rows.nd rfl (by first | exact Or.inl rfl | exact Or.inr rfl) (le_new (ll_disp la_nil)))
    (lps_cons (lp_if (lt_ne (lv 0) le_str) (lps_one (lp_for rfl (li_seq (le_fz (ll_split (lv 0) le_str))) (lg_name (i := 2) sc_read_rows.nd rfl (by first | exact Or.inl rfl | exact Or.inr rfl)) (lps_cons (lp_set (i := 3) sc_read_rows.nd rfl (by first | exact Or.inl rfl | exact Or.inr rfl) (le_call (ok_row_of T B) (hr.mono (by decide)) rfl T.m_row_of T.k_row_of T.q_row_of (la_cons (lv 2) la_nil)))
    (lps_cons (lp_if (lt_isN (lv 3) le_non) (lps_one (lp_raise T.x_NoText rfl rfl)) lps_nil)
    (lps_one (lp_expr (le_append (lv 1) (la_cons (lv 3) la_nil)))))))) lps_nil)
    (lps_one (lp_ret (lv 1))))), fun vs s Q E h => ?_⟩)
  obtain ⟨t, ls, rfl, els, hl, hll, hok, h⟩ := h
  have hsp : ((Str.ofString "\n").length == 0) = false := by decide +kernel
  have ends : ∀ rws : List Row, ls.map lineO = rws.map some → ∀ p, s p = none → Q (.ref p) (put s p (.lst (rws.map rowL))) := fun rws hq p hp => by
    rcases h with ⟨rows, h1, h⟩ | ⟨⟨l, h1, h2⟩, _⟩
    · have e : rows = rws := by
        have := h1.symm.trans hq
        exact some_inj this
      subst e
      exact h p hp
    · exfalso
      have h3 : lineO l ∈ ls.map lineO := List.mem_map_of_mem h1
      rw [hq, h2] at h3
      obtain ⟨z, _, hz⟩ := List.mem_map.mp h3
      cases hz
  simp_arith
  intro fo hfo
  simp_arith
  unfold linesO at els
  refine ⟨fun h0 => ?_, fun h0 => ?_⟩
  · have h0 : ¬ t = Str.ofString "" := by simpa using h0
    rw [if_neg h0] at els
    simp_arith
    refine ⟨⟨hsp, by omega⟩, ?_⟩
    rw [show Txt.split t (Str.ofString "\n") = ls from els]
    refine lLoop_map LV.str (fun q r σ s' => ∃ v2 v3 rws, σ = [some (.str t), some (.ref fo), v2, v3] ∧ q.map lineO = rws.map some ∧ s' = put s fo (.lst (rws.map rowL))) ⟨_, _, [], rfl, rfl, rfl⟩ (fun _ _ _ _ _ => trivial) ?_ ?_
    · rintro q d r σ s1 N eq ⟨v2, v3, rws, rfl, hq, rfl⟩ hN
      have hd := hok d (by rw [eq]; simp)
      have hrl : (rws.map rowL).length < 16777216 := by
        have h1 := congrArg List.length hq
        have h2 := congrArg List.length eq
        simp only [List.length_map, List.length_append, List.length_cons] at h1 h2 ⊢
        omega
      simp_arith
      refine ⟨d, rfl, hd.1, hd.2.1, hd.2.2.1, hd.2.2.2, ?_⟩
      cases e : rowO (Txt.split d " ") with
      | none =>
        unfold rowOL
        simp_arith
        rcases h with ⟨rows, h1, _⟩ | ⟨_, h⟩
        · exfalso
          have h2 : lineO d ∈ ls.map lineO := List.mem_map_of_mem (by rw [eq]; simp)
          rw [h1, show lineO d = none from e] at h2
          obtain ⟨z, _, hz⟩ := List.mem_map.mp h2
          cases hz
        · exact ⟨_, sub_put hfo, h⟩
      | some row =>
        unfold rowOL
        dsimp only
        obtain ⟨xs, ex⟩ := rowL_tup row
        rw [ex]
        simp_arith [put_same]
        refine hN _ _ ⟨_, _, rws ++ [row], rfl, by rw [List.map_append, List.map_append, hq]; simp [lineO, e], ?_⟩
        rw [List.map_append, ← ex]
        rfl
    · rintro σ s1 ⟨v2, v3, rws, rfl, hq, rfl⟩
      simp_arith
      exact fin (.refl _) (ends rws hq fo hfo)
  · have h0 : t = Str.ofString "" := by simpa using h0
    rw [if_pos h0] at els
    subst els
    simp_arith
    exact fin (.refl _) (ends [] rfl fo hfo)
end
end Law

namespace Law
open PySem PySem.Spec L2 L3
local macro_rules
  | `(tactic| simp_arith) => `(tactic| ((conv => whnf); repeat ((first | with_reducible refine ifTT ?_ | with_reducible refine ifFF ?_ | with_reducible refine ifnT ?_ | with_reducible refine ifnF ?_ | with_reducible refine ifTr ?_ | with_reducible refine ifFr ?_ | (with_reducible refine And.intro ?_ ?_; · (first | with_reducible rfl | with_reducible exact ⟨rfl, rfl⟩ | decide | omega | (dsimp only; decide) | (dsimp only; omega) | (unfold CDiv; omega) | (unfold CPow; decide) | (unfold CMul; omega) | (simp only [List.length_cons, List.length_nil]; omega)))); conv => whnf)))
local macro_rules
  | `(tactic| simp_arith [$ls,*]) => `(tactic| ((conv => whnf); repeat ((first | with_reducible refine ifTT ?_ | with_reducible refine ifFF ?_ | with_reducible refine ifnT ?_ | with_reducible refine ifnF ?_ | with_reducible refine ifTr ?_ | with_reducible refine ifFr ?_ | (with_reducible refine And.intro ?_ ?_; · (first | with_reducible rfl | with_reducible exact ⟨rfl, rfl⟩ | decide | omega | (dsimp only; decide) | (dsimp only; omega) | (unfold CDiv; omega) | (unfold CPow; decide) | (unfold CMul; omega) | (simp only [List.length_cons, List.length_nil]; omega) | (simp only [Option.isSome_some]; done) | (simp only [meth_ref, put_same', seqL_ref, $ls,*]; first | done | exact ⟨rfl, rfl⟩ | exact ⟨trivial, rfl⟩ | rfl))) | (simp (decide := true) only [put_same', put_put, decF, decT, Bool.not_true, Bool.not_false, putL_nil, putL_cons, if_true, if_false, seqR_ref, seqL_ref, lenL_ref, dicK_ref, dicT_ref, dat_ref, dat_non, dat_bl, dat_int, dat_str, dat_lst, dat_tup, datV_non, datV_bl, datV_int, datV_str, datV_lst, datV_tup, datVs_nil, datVs_cons, tyAt_ref, opt_some, Option.map_some, Option.bind_some, dv_ints, dv_bls, dv_nms, dv_prs, dv_nm, dt_nm, dt_pr, dv_pr, sh_int, sh_bl, sh_none, sh_nil, eqv_nil, sh_ints, sh_bls, sh_nm, sh_nms, sh_pr, sh_prs, anyI, anyN, anyP, eqv_int, eqv_bl, eqv_ints, eqv_bls, eqv_nms, eqv_prs, eqv_nm, eqv_pr, $ls,*])); conv => whnf)))

theorem rowO_none {w : Str} {r : List Str} (h1 : ¬ ((w = "own" ∨ w = "write") ∧ r.length = 1)) (h2 : ¬ (w = "use" ∧ r.length = 4)) : rowO (w :: r) = none := rowN_none (by rw [List.length_map]; exact h1) (by rw [List.length_map]; exact h2)
theorem rowO_gap {w z : Str} {r : List Str} (hz : z ∈ r) (h : numO 6 z = none) : rowO (w :: r) = none := rowN_gap (by rw [← h]; exact List.mem_map_of_mem hz)
/-- a word: no space, no line's end, short -/
def WordOk (w : Str) : Prop := (32 ∉ TL.tl w ∧ 10 ∉ TL.tl w) ∧ w.length ≤ 10
instance (w : Str) : Decidable (WordOk w) := inferInstanceAs (Decidable ((_ ∧ _) ∧ _))
def BadT (b : Str) : Prop := lineO b = none ∧ LineOk b ∧ 10 ∉ TL.tl b ∧ b.length ≤ 1000
theorem joinL_len {ps : List (List Nat)} {k : Nat} (h : ∀ p ∈ ps, p.length ≤ k) : (TL.joinL [32] ps).length ≤ (k + 1) * ps.length := by
  induction ps with
  | nil => simp [TL.joinL]
  | cons p ps ih =>
    have h3 := h p List.mem_cons_self
    have h4 := ih fun z hz => h z (List.mem_cons_of_mem _ hz)
    cases ps with
    | nil => simp [TL.joinL]; omega
    | cons q ps =>
      have e : TL.joinL [32] (p :: q :: ps) = p ++ ([32] ++ TL.joinL [32] (q :: ps)) := by simp [TL.joinL]
      rw [e, List.length_cons (a := p), Nat.mul_succ]
      simp only [List.length_append, List.length_cons, List.length_nil] at h4 ⊢
      omega
theorem join_ok {ws : List Str} (hne : ws ≠ []) (hw : ∀ w ∈ ws, WordOk w) (hl : ws.length ≤ 50) : Txt.split (Txt.join " " ws) (Str.ofString " ") = ws ∧ 10 ∉ TL.tl (Txt.join " " ws) ∧ (Txt.join " " ws).length ≤ 1000 := by
  refine ⟨TL.split_join tl_sp (by decide +kernel) hne fun w h => (hw w h).1.1, fun hc => ?_, ?_⟩
  · rw [join_tl, tl_sp] at hc
    rcases joinL_mem _ _ _ hc with hc | ⟨p, hp, hc⟩
    · simp at hc
    · obtain ⟨w, h, rfl⟩ := List.mem_map.mp hp
      exact (hw w h).1.2 hc
  · rw [len_tl, join_tl, tl_sp]
    have := joinL_len (ps := ws.map TL.tl) (k := 10) fun p hp => by
      obtain ⟨w, h, rfl⟩ := List.mem_map.mp hp
      rw [← len_tl]
      exact (hw w h).2
    rw [List.length_map] at this
    omega
theorem bad_join {ws : List Str} (hne : ws ≠ []) (hw : ∀ w ∈ ws, WordOk w) (hl : ws.length ≤ 50) (h : rowO ws = none) : BadT (Txt.join " " ws) := by
  obtain ⟨h1, h2, h3⟩ := join_ok hne hw hl
  refine ⟨by unfold lineO; rw [h1]; exact h, ⟨by omega, by rw [h1]; exact hne, by rw [h1]; omega, fun w hw2 => ?_⟩, h2, h3⟩
  rw [h1] at hw2
  have := (hw w hw2).2
  omega
theorem bad_eq {b : Str} {ws : List Str} (e : TL.tl b = TL.joinL [32] (ws.map TL.tl)) (hne : ws ≠ []) (hw : ∀ w ∈ ws, WordOk w) (hl : ws.length ≤ 50) (h : rowO ws = none) : BadT b := by
  have : b = Txt.join " " ws := TL.ext_tl (by rw [join_tl, tl_sp]; exact e)
  rw [this]
  exact bad_join hne hw hl h
theorem rowW_word {r : Row} (h : RowOk r) : ∀ w ∈ rowW r, WordOk w := fun w hw => ⟨(rowW_free h hw).1, by have := (rowW_free h hw).2; omega⟩
theorem rowW_cons (r : Row) : ∃ w n ns, rowW r = w :: n :: ns ∧ (w = "own" ∨ w = "use" ∨ w = "write") ∧ ns.length ≤ 3 := by
  cases r with
  | own i => exact ⟨_, _, _, rfl, .inl rfl, by simp⟩
  | write i => exact ⟨_, _, _, rfl, .inr (.inr rfl), by simp⟩
  | use i n => exact ⟨_, _, _, rfl, .inr (.inl rfl), by simp⟩
theorem good_line {r : Row} (h : RowOk r) : lineO (rowT r) = some r ∧ LineOk (rowT r) := by
  have e := rowT_split h
  have e' : Txt.split (rowT r) " " = rowW r := e
  have hl := rowT_len h
  refine ⟨?_, by omega, by rw [e']; cases r <;> simp [rowW], by rw [e']; have := rowW_len r; omega, fun w hw => ?_⟩
  · unfold lineO
    rw [e']
    cases r with
    | own i => simp only [rowW, rowO, List.map_cons, List.map_nil, numO_num h, rowN]; rfl
    | write i => simp only [rowW, rowO, List.map_cons, List.map_nil, numO_num h, rowN]; rfl
    | use i n => simp only [rowW, rowO, List.map_cons, List.map_nil, numO_num h.1, numO_num h.2.1, numO_num h.2.2.1, numO_num h.2.2.2, rowN]; rfl
  · rw [e'] at hw
    have := (rowW_free h hw).2
    omega
end Law

namespace Law
open PySem PySem.Spec L2 L3
local macro_rules
  | `(tactic| simp_arith) => `(tactic| ((conv => whnf); repeat ((first | with_reducible refine ifTT ?_ | with_reducible refine ifFF ?_ | with_reducible refine ifnT ?_ | with_reducible refine ifnF ?_ | with_reducible refine ifTr ?_ | with_reducible refine ifFr ?_ | (with_reducible refine And.intro ?_ ?_; · (first | with_reducible rfl | with_reducible exact ⟨rfl, rfl⟩ | decide | omega | (dsimp only; decide) | (dsimp only; omega) | (unfold CDiv; omega) | (unfold CPow; decide) | (unfold CMul; omega) | (simp only [List.length_cons, List.length_nil]; omega)))); conv => whnf)))
local macro_rules
  | `(tactic| simp_arith [$ls,*]) => `(tactic| ((conv => whnf); repeat ((first | with_reducible refine ifTT ?_ | with_reducible refine ifFF ?_ | with_reducible refine ifnT ?_ | with_reducible refine ifnF ?_ | with_reducible refine ifTr ?_ | with_reducible refine ifFr ?_ | (with_reducible refine And.intro ?_ ?_; · (first | with_reducible rfl | with_reducible exact ⟨rfl, rfl⟩ | decide | omega | (dsimp only; decide) | (dsimp only; omega) | (unfold CDiv; omega) | (unfold CPow; decide) | (unfold CMul; omega) | (simp only [List.length_cons, List.length_nil]; omega) | (simp only [Option.isSome_some]; done) | (simp only [meth_ref, put_same', seqL_ref, $ls,*]; first | done | exact ⟨rfl, rfl⟩ | exact ⟨trivial, rfl⟩ | rfl))) | (simp (decide := true) only [put_same', put_put, decF, decT, Bool.not_true, Bool.not_false, putL_nil, putL_cons, if_true, if_false, seqR_ref, seqL_ref, lenL_ref, dicK_ref, dicT_ref, dat_ref, dat_non, dat_bl, dat_int, dat_str, dat_lst, dat_tup, datV_non, datV_bl, datV_int, datV_str, datV_lst, datV_tup, datVs_nil, datVs_cons, tyAt_ref, opt_some, Option.map_some, Option.bind_some, dv_ints, dv_bls, dv_nms, dv_prs, dv_nm, dt_nm, dt_pr, dv_pr, sh_int, sh_bl, sh_none, sh_nil, eqv_nil, sh_ints, sh_bls, sh_nm, sh_nms, sh_pr, sh_prs, anyI, anyN, anyP, eqv_int, eqv_bl, eqv_ints, eqv_bls, eqv_nms, eqv_prs, eqv_nm, eqv_pr, $ls,*])); conv => whnf)))

theorem wk {w : Str} (h : WordOk w) {ws : List Str} (hw : ∀ z ∈ ws, WordOk z) : ∀ z ∈ w :: ws, WordOk z := fun z hz => by
  rcases List.mem_cons.mp hz with rfl | hz
  · exact h
  · exact hw z hz
theorem wk_app {a b : List Str} (ha : ∀ z ∈ a, WordOk z) (hb : ∀ z ∈ b, WordOk z) : ∀ z ∈ a ++ b, WordOk z := fun z hz => (List.mem_append.mp hz).elim (ha z) (hb z)
theorem wk_one {a : Str} (ha : WordOk a) : ∀ z ∈ [a], WordOk z := fun z hz => by rw [List.mem_singleton.mp hz]; exact ha
theorem len_rowW (r : Row) : (rowW r).length = 2 ∨ (rowW r).length = 5 := by cases r <;> simp [rowW]
theorem nOU' : ¬ ("own" : Str) = "use" := by decide +kernel
theorem nWU' : ¬ ("write" : Str) = "use" := by decide +kernel
theorem nUO' : ¬ (("use" : Str) = "own" ∨ ("use" : Str) = "write") := by decide +kernel
theorem bad0 {r : Row} (h : RowOk r) : BadT (Txt.join " " (rowW r ++ [Str.ofString "0"])) := by
  refine bad_join (by simp) (wk_app (rowW_word h) (wk_one (a := "0") (by decide +kernel))) (by have := rowW_len r; simp; omega) ?_
  cases r with
  | own i => exact rowO_none (w := "own") (r := [numT i, "0"]) (by simp) (fun z => nOU' z.1)
  | write i => exact rowO_none (w := "write") (r := [numT i, "0"]) (by simp) (fun z => nWU' z.1)
  | use i n => exact rowO_none (w := "use") (r := [numT i, numT n.hand, numT n.place, numT n.k, "0"]) (fun z => nUO' z.1) (by simp)
theorem bad1 {r : Row} (h : RowOk r) : BadT (Txt.join " " (rowW r).dropLast) := by
  refine bad_join (by cases r <;> simp [rowW]) (fun z hz => rowW_word h z (List.dropLast_subset _ hz)) (by have := rowW_len r; simp; omega) ?_
  cases r with
  | own i => exact rowO_none (w := "own") (r := []) (by simp) (fun z => nOU' z.1)
  | write i => exact rowO_none (w := "write") (r := []) (by simp) (fun z => nWU' z.1)
  | use i n => exact rowO_none (w := "use") (r := [numT i, numT n.hand, numT n.place]) (fun z => nUO' z.1) (by simp)
theorem tl_nilS : TL.tl (Str.ofString "") = [] := by decide +kernel
theorem wkE : WordOk (Str.ofString "") := by decide +kernel
theorem tl_rowT (r : Row) : TL.tl (rowT r) = TL.joinL [32] ((rowW r).map TL.tl) := by unfold rowT; rw [join_tl, tl_sp]
theorem joinL_end : ∀ {ps : List (List Nat)}, ps ≠ [] → TL.joinL [32] (ps ++ [[]]) = TL.joinL [32] ps ++ [32]
  | [], h => absurd rfl h
  | [p], _ => by simp [TL.joinL]
  | p :: q :: ps, _ => by
    have e : ∀ l, TL.joinL [32] (p :: q :: l) = p ++ ([32] ++ TL.joinL [32] (q :: l)) := fun l => by simp [TL.joinL]
    have ih := joinL_end (ps := q :: ps) (by simp)
    rw [List.cons_append] at ih
    rw [List.cons_append, List.cons_append, e, e, ih]
    simp
theorem joinL_cons (p : List Nat) {ps : List (List Nat)} (h : ps ≠ []) : TL.joinL [32] (p :: ps) = p ++ ([32] ++ TL.joinL [32] ps) := by
  cases ps with
  | nil => exact absurd rfl h
  | cons q ps => simp [TL.joinL]
theorem numO_E : numO 6 (Str.ofString "") = none := by decide +kernel
theorem bad2 {r : Row} (h : RowOk r) : BadT (rowT r ++ Str.ofString " ") := by
  obtain ⟨w, n, ns, e, _⟩ := rowW_cons r
  refine bad_eq (ws := rowW r ++ [Str.ofString ""]) ?_ (by simp) (wk_app (rowW_word h) (wk_one wkE)) (by have := rowW_len r; simp; omega) ?_
  · rw [TL.tl_append, tl_rowT, tl_sp, List.map_append, List.map_cons, List.map_nil, tl_nilS, joinL_end (by rw [e]; simp)]
  · rw [e]
    exact rowO_gap (z := Str.ofString "") (by simp) numO_E
theorem bad3 {r : Row} (h : RowOk r) : BadT (Str.ofString " " ++ rowT r) := by
  obtain ⟨w, n, ns, e, hw, _⟩ := rowW_cons r
  refine bad_eq (ws := Str.ofString "" :: rowW r) ?_ (by simp) (wk wkE (rowW_word h)) (by have := rowW_len r; simp; omega) ?_
  · rw [TL.tl_append, tl_rowT, tl_sp, List.map_cons, tl_nilS, joinL_cons _ (by rw [e]; simp)]
    rfl
  · rw [e]
    refine rowO_gap (z := w) (by simp) ?_
    rcases hw with rfl | rfl | rfl <;> decide +kernel
def isBad4 (x : Str) : Prop := WordOk x ∧ ¬ (x = "own" ∨ x = "write") ∧ ¬ x = "use"
theorem bad4 {r : Row} (h : RowOk r) {x : Str} (hx : isBad4 x) : BadT (x ++ Str.ofString " " ++ Txt.join " " ((rowW r).drop 1)) := by
  obtain ⟨w, n, ns, e, hw, _⟩ := rowW_cons r
  have hr := rowW_word h
  rw [e] at hr ⊢
  have hd : (w :: n :: ns).drop 1 = n :: ns := rfl
  rw [hd]
  have hl := rowW_len r
  rw [e] at hl
  refine bad_eq (ws := x :: n :: ns) ?_ (by simp) (wk hx.1 fun z hz => hr z (List.mem_cons_of_mem _ hz)) (by simp at hl ⊢; omega) ?_
  · rw [TL.tl_append, TL.tl_append, tl_sp, join_tl, tl_sp]
    show _ = TL.joinL [32] (TL.tl x :: (n :: ns).map TL.tl)
    rw [joinL_cons (TL.tl x) (ps := (n :: ns).map TL.tl) (by simp), List.append_assoc]
  · exact rowO_none (fun z => hx.2.1 z.1) fun z => hx.2.2 z.1
open Builtin Builtin.Str in
theorem rep1_app {y z : Str} {c : Nat} (ey : TL.tl y = [c]) {a b : Str} (h : c ∉ TL.tl a) : rep1 (a ++ y ++ b) y z = a ++ z ++ b := by
  have hp := TL.partition_app ey (b := b) h
  have ho := StrLaws.occ_length_le (a ++ y ++ b) y 0 (a ++ y ++ b).length 1
  unfold Txt.partition at hp
  unfold rep1
  cases e : occurrences (a ++ y ++ b) y 0 (a ++ y ++ b).length 1 with
  | nil =>
    exfalso
    rw [e] at hp
    have h1 : y = Str.empty := (congrArg (fun q => q.2.1) hp).symm
    rw [h1] at ey
    cases ey
  | cons i r =>
    rw [e] at ho
    have hr : r = [] := by
      cases r with
      | nil => rfl
      | cons j r => simp at ho
    subst hr
    rw [e] at hp
    have h1 : strSub (a ++ y ++ b) 0 i = a := congrArg (fun q => q.1) hp
    have h2 : strSub (a ++ y ++ b) (i + y.length) (a ++ y ++ b).length = b := congrArg (fun q => q.2.2) hp
    show glued z [strSub (a ++ y ++ b) 0 i, strSub (a ++ y ++ b) (i + y.length) (a ++ y ++ b).length] = _
    rw [h1, h2]
    rfl
theorem tl_sp2 : TL.tl (Str.ofString "  ") = [32, 32] := by decide +kernel
theorem bad5 {r : Row} (h : RowOk r) : BadT (rep1 (rowT r) (Str.ofString " ") (Str.ofString "  ")) := by
  obtain ⟨w, n, ns, e, hw, _⟩ := rowW_cons r
  have hr := rowW_word h
  have hl := rowW_len r
  rw [e] at hr hl
  have er : rowT r = w ++ Str.ofString " " ++ Txt.join " " (n :: ns) := by
    refine TL.ext_tl ?_
    rw [tl_rowT, e, List.map_cons, joinL_cons (TL.tl w) (ps := (n :: ns).map TL.tl) (by simp), TL.tl_append, TL.tl_append, tl_sp, join_tl, tl_sp, List.append_assoc]
  rw [er, rep1_app tl_sp (hr w (by simp)).1.1]
  refine bad_eq (ws := w :: Str.ofString "" :: n :: ns) ?_ (by simp) (fun z hz => ?_) (by simp at hl ⊢; omega) ?_
  · rw [TL.tl_append, TL.tl_append, tl_sp2, join_tl, tl_sp]
    show _ = TL.joinL [32] (TL.tl w :: (TL.tl (Str.ofString "") :: (n :: ns).map TL.tl))
    rw [joinL_cons (TL.tl w) (ps := TL.tl (Str.ofString "") :: (n :: ns).map TL.tl) (by simp), joinL_cons (TL.tl (Str.ofString "")) (ps := (n :: ns).map TL.tl) (by simp), tl_nilS]
    simp
  · rcases List.mem_cons.mp hz with rfl | hz
    · exact hr _ (by simp)
    · rcases List.mem_cons.mp hz with rfl | hz
      · exact wkE
      · exact hr z (List.mem_cons_of_mem _ hz)
  · exact rowO_gap (z := Str.ofString "") (by simp) numO_E
def isBad6 (x : Str) : Prop := x ∈ (["", "own", "use", "write", "own 1 2", "use 1 2 3", "write 1 2 3 4"] : List Str)
theorem bad6 {x : Str} (hx : isBad6 x) : BadT x := by
  have one : ∀ ws : List Str, TL.tl x = TL.joinL [32] (ws.map TL.tl) → ws ≠ [] → (∀ w ∈ ws, WordOk w) → ws.length ≤ 50 → rowO ws = none → BadT x := fun ws e h1 h2 h3 h4 => bad_eq e h1 h2 h3 h4
  unfold isBad6 at hx
  simp only [List.mem_cons, List.not_mem_nil, or_false] at hx
  rcases hx with rfl | rfl | rfl | rfl | rfl | rfl | rfl
  · exact one [""] (by decide +kernel) (by simp) (by decide +kernel) (by decide) (by decide +kernel)
  · exact one ["own"] (by decide +kernel) (by simp) (by decide +kernel) (by decide) (by decide +kernel)
  · exact one ["use"] (by decide +kernel) (by simp) (by decide +kernel) (by decide) (by decide +kernel)
  · exact one ["write"] (by decide +kernel) (by simp) (by decide +kernel) (by decide) (by decide +kernel)
  · exact one ["own", "1", "2"] (by decide +kernel) (by simp) (by decide +kernel) (by decide) (by decide +kernel)
  · exact one ["use", "1", "2", "3"] (by decide +kernel) (by simp) (by decide +kernel) (by decide) (by decide +kernel)
  · exact one ["write", "1", "2", "3", "4"] (by decide +kernel) (by simp) (by decide +kernel) (by decide) (by decide +kernel)
def isBad7 (x : Str) : Prop := WordOk x ∧ numO 6 x = none
theorem bad7 {r : Row} (h : RowOk r) {x : Str} (hx : isBad7 x) {k : Nat} (hk : 1 ≤ k) (hk2 : k < (rowW r).length) : BadT (Txt.join " " ((rowW r).take k ++ [x] ++ (rowW r).drop (k + 1))) := by
  obtain ⟨w, n, ns, e, hw, _⟩ := rowW_cons r
  have hr := rowW_word h
  have hl := rowW_len r
  refine bad_join (by simp) (wk_app (wk_app (fun z hz => hr z (List.mem_of_mem_take hz)) (wk_one hx.1)) fun z hz => hr z (List.mem_of_mem_drop hz)) ?_ ?_
  · simp only [List.length_append, List.length_take, List.length_drop, List.length_cons, List.length_nil]; omega
  · rw [e]
    obtain ⟨j, rfl⟩ : ∃ j, k = j + 1 := ⟨k - 1, by omega⟩
    rw [List.take_succ_cons, List.cons_append, List.cons_append]
    exact rowO_gap (z := x) (by simp) hx.2
theorem bad7_at (z : Int) : ∃ x : Str, isBad7 x ∧ atI [LV.str "01", LV.str "", LV.str "-1", LV.str "+1", LV.str "1000000", LV.str "1_0", LV.str "x", LV.str "1.0", LV.str "00"] (z % 9) = some (.str x) := by
  have h9 : z % 9 = 0 ∨ z % 9 = 1 ∨ z % 9 = 2 ∨ z % 9 = 3 ∨ z % 9 = 4 ∨ z % 9 = 5 ∨ z % 9 = 6 ∨ z % 9 = 7 ∨ z % 9 = 8 := by omega
  rcases h9 with e | e | e | e | e | e | e | e | e <;> rw [e]
  · exact ⟨"01", ⟨by decide +kernel, by decide +kernel⟩, rfl⟩
  · exact ⟨"", ⟨by decide +kernel, by decide +kernel⟩, rfl⟩
  · exact ⟨"-1", ⟨by decide +kernel, by decide +kernel⟩, rfl⟩
  · exact ⟨"+1", ⟨by decide +kernel, by decide +kernel⟩, rfl⟩
  · exact ⟨"1000000", ⟨by decide +kernel, by decide +kernel⟩, rfl⟩
  · exact ⟨"1_0", ⟨by decide +kernel, by decide +kernel⟩, rfl⟩
  · exact ⟨"x", ⟨by decide +kernel, by decide +kernel⟩, rfl⟩
  · exact ⟨"1.0", ⟨by decide +kernel, by decide +kernel⟩, rfl⟩
  · exact ⟨"00", ⟨by decide +kernel, by decide +kernel⟩, rfl⟩
theorem bad4_at (z : Int) : ∃ x : Str, isBad4 x ∧ atI [LV.str "Own", LV.str "uses", LV.str "", LV.str "writes", LV.str "own,"] (z % 5) = some (.str x) := by
  have h9 : z % 5 = 0 ∨ z % 5 = 1 ∨ z % 5 = 2 ∨ z % 5 = 3 ∨ z % 5 = 4 := by omega
  rcases h9 with e | e | e | e | e <;> rw [e]
  · exact ⟨"Own", ⟨by decide +kernel, by decide +kernel, by decide +kernel⟩, rfl⟩
  · exact ⟨"uses", ⟨by decide +kernel, by decide +kernel, by decide +kernel⟩, rfl⟩
  · exact ⟨"", ⟨by decide +kernel, by decide +kernel, by decide +kernel⟩, rfl⟩
  · exact ⟨"writes", ⟨by decide +kernel, by decide +kernel, by decide +kernel⟩, rfl⟩
  · exact ⟨"own,", ⟨by decide +kernel, by decide +kernel, by decide +kernel⟩, rfl⟩
theorem bad6_at (z : Int) : ∃ x : Str, isBad6 x ∧ atI [LV.str "", LV.str "own", LV.str "use", LV.str "write", LV.str "own 1 2", LV.str "use 1 2 3", LV.str "write 1 2 3 4"] (z % 7) = some (.str x) := by
  have h9 : z % 7 = 0 ∨ z % 7 = 1 ∨ z % 7 = 2 ∨ z % 7 = 3 ∨ z % 7 = 4 ∨ z % 7 = 5 ∨ z % 7 = 6 := by omega
  rcases h9 with e | e | e | e | e | e | e <;> rw [e]
  · exact ⟨"", by simp [isBad6], rfl⟩
  · exact ⟨"own", by simp [isBad6], rfl⟩
  · exact ⟨"use", by simp [isBad6], rfl⟩
  · exact ⟨"write", by simp [isBad6], rfl⟩
  · exact ⟨"own 1 2", by simp [isBad6], rfl⟩
  · exact ⟨"use 1 2 3", by simp [isBad6], rfl⟩
  · exact ⟨"write 1 2 3 4", by simp [isBad6], rfl⟩
theorem cut_last (r : Row) : cutL ((rowW r).map LV.str) none (some (-1)) = ((rowW r).dropLast).map LV.str := by cases r <;> rfl
end Law

namespace Law
open PySem PySem.Spec L2 L3
local macro_rules
  | `(tactic| simp_arith) => `(tactic| ((conv => whnf); repeat ((first | with_reducible refine ifTT ?_ | with_reducible refine ifFF ?_ | with_reducible refine ifnT ?_ | with_reducible refine ifnF ?_ | with_reducible refine ifTr ?_ | with_reducible refine ifFr ?_ | (with_reducible refine And.intro ?_ ?_; · (first | with_reducible rfl | with_reducible exact ⟨rfl, rfl⟩ | decide | omega | (dsimp only; decide) | (dsimp only; omega) | (unfold CDiv; omega) | (unfold CPow; decide) | (unfold CMul; omega) | (simp only [List.length_cons, List.length_nil]; omega)))); conv => whnf)))
local macro_rules
  | `(tactic| simp_arith [$ls,*]) => `(tactic| ((conv => whnf); repeat ((first | with_reducible refine ifTT ?_ | with_reducible refine ifFF ?_ | with_reducible refine ifnT ?_ | with_reducible refine ifnF ?_ | with_reducible refine ifTr ?_ | with_reducible refine ifFr ?_ | (with_reducible refine And.intro ?_ ?_; · (first | with_reducible rfl | with_reducible exact ⟨rfl, rfl⟩ | decide | omega | (dsimp only; decide) | (dsimp only; omega) | (unfold CDiv; omega) | (unfold CPow; decide) | (unfold CMul; omega) | (simp only [List.length_cons, List.length_nil]; omega) | (simp only [Option.isSome_some]; done) | (simp only [meth_ref, put_same', seqL_ref, $ls,*]; first | done | exact ⟨rfl, rfl⟩ | exact ⟨trivial, rfl⟩ | rfl))) | (simp (decide := true) only [put_same', put_put, decF, decT, Bool.not_true, Bool.not_false, putL_nil, putL_cons, if_true, if_false, seqR_ref, seqL_ref, lenL_ref, dicK_ref, dicT_ref, dat_ref, dat_non, dat_bl, dat_int, dat_str, dat_lst, dat_tup, datV_non, datV_bl, datV_int, datV_str, datV_lst, datV_tup, datVs_nil, datVs_cons, tyAt_ref, opt_some, Option.map_some, Option.bind_some, dv_ints, dv_bls, dv_nms, dv_prs, dv_nm, dt_nm, dt_pr, dv_pr, sh_int, sh_bl, sh_none, sh_nil, eqv_nil, sh_ints, sh_bls, sh_nm, sh_nms, sh_pr, sh_prs, anyI, anyN, anyP, eqv_int, eqv_bl, eqv_ints, eqv_bls, eqv_nms, eqv_prs, eqv_nm, eqv_pr, $ls,*])); conv => whnf)))

section
variable {P : Program} {w : World} {K : PySem.W.Frag} [GG K] {mg : Str → Option Value} {base : Heap} {A : Ad} {D : Fd}
def cellAt (ns : List Int) (k : Nat) : Int := ns.getD k 0
def spCell : LSp := fun vs s Q E => ∃ (ns : List Int) (k : Int), vs = [.scr ns, .int k] ∧ 0 ≤ k ∧ k < 64 ∧ ns.length ≤ 63 ∧ ∀ c, c = cellAt ns k.toNat → Q (.int c) s
theorem ok_law_cell_at (T : Txt K mg A D) (B : Bs K mg base A) : LFn P w K mg base 1 A.f_law_cell_at D.d_law_cell_at ["_law_script", "_law_k"] spCell := by
  refine T.F_law_cell_at.okL sc_law_cell_at (fun vs s Q E ⟨_, _, h, _⟩ => by rw [h]; rfl) (fun cdv A' outer si H E hr => ⟨_, (lps_cons (lp_if (lt_lt (lv 1) (le_len rfl T.b_len (la_cons (lv 0) la_nil))) (lps_one (lp_ret (le_item (hu_of hr) (lv 0) (lv 1)))) lps_nil)
    (lps_one (lp_ret le_int))), fun vs s Q E h => ?_⟩)
  obtain ⟨ns, k, rfl, h0, h1, hns, h⟩ := h
  obtain ⟨j, rfl⟩ := Int.eq_ofNat_of_zero_le h0
  simp_arith
  refine ifD (fun hk => ?_) (fun hk => ?_)
  · simp_arith
    rw [atI_nat (v := ns[j]'(by omega)) (List.getElem?_eq_getElem _)]
    simp_arith
    exact fin (.refl _) (h _ (by simp [cellAt, List.getD]; rw [List.getElem?_eq_getElem (by omega)]; rfl))
  · simp_arith
    exact fin (.refl _) (h _ (by simp [cellAt, List.getD]; rw [List.getElem?_eq_none (by omega)]; rfl))
end

section
variable {P : Program} {w : World} {K : PySem.W.Frag} [GG K] {mg : Str → Option Value} {base : Heap} {A : Ad} {D : Fd}
def mix1 (n : Int) : Int := n * (n / 1009 + 69621) % 2147483647
def mix2 (n : Int) : Int := n * (n / 1013 + 40692) % 2147483647
def mixed (c : Int) (k : Nat) : Int := Builtin.bitXor (mix2 (mix1 ((Builtin.bitAnd c 2147483647 + 7919 * (k : Int) + 1) * 48271 % 2147483647))) (Builtin.bitAnd (c / 2 ^ ((31 : Int) * k + 31).toNat) 2147483647)
def spMix : LSp := fun vs s Q E => ∃ (c : Int) (k : Nat), vs = [.int c, .int k] ∧ Q (.int (mixed c k)) s
theorem ok_law_mixed (T : Txt K mg A D) (B : Bs K mg base A) : LFn P w K mg base 1 A.f_law_mixed D.d_law_mixed ["_law_cell", "_law_k"] spMix := by
  refine T.F_law_mixed.okL sc_law_mixed (fun vs s Q E ⟨_, _, h, _⟩ => by rw [h]; rfl) (fun cdv A' outer si H E hr => ⟨_, (lps_cons (lp_set (i := 2) sc_law_mixed.nd rfl (by first | exact Or.inl rfl | exact Or.inr rfl) (le_mod (le_mul (le_add (le_add (le_band (lv 0) le_int) (le_mul le_int (lv 1))) le_int) le_int) le_int))
    (lps_cons (lp_set (i := 2) sc_law_mixed.nd rfl (by first | exact Or.inl rfl | exact Or.inr rfl) (le_mod (le_mul (lv 2) (le_add (le_div (lv 2) le_int) le_int)) le_int))
    (lps_cons (lp_set (i := 2) sc_law_mixed.nd rfl (by first | exact Or.inl rfl | exact Or.inr rfl) (le_mod (le_mul (lv 2) (le_add (le_div (lv 2) le_int) le_int)) le_int))
    (lps_one (lp_ret (le_bxor (lv 2) (le_band (le_shr (lv 0) (le_add (le_mul le_int (lv 1)) le_int)) le_int))))))), fun vs s Q E h => ?_⟩)
  obtain ⟨c, k, rfl, h⟩ := h
  simp_arith
  exact fin (.refl _) h

def numAt (n : Int) : Int := ([n % 10, n % 1000, n % 10 ^ Int.toNat 6] : List Int).getD (n / 10 ^ Int.toNat 6 % 3).toNat 0
theorem numAt_ok (n : Int) : NumOk (numAt n) := by
  have e6 : (10 : Int) ^ Int.toNat 6 = 1000000 := by decide
  unfold numAt NumOk
  rw [e6]
  have h3 : (n / 1000000 % 3).toNat = 0 ∨ (n / 1000000 % 3).toNat = 1 ∨ (n / 1000000 % 3).toNat = 2 := by omega
  rcases h3 with e | e | e <;> rw [e] <;> simp only [List.getD_cons_zero, List.getD_cons_succ] <;> omega
def spNum : LSp := fun vs s Q E => ∃ n : Int, vs = [.int n] ∧ Q (.int (numAt n)) s
theorem ok_law_number (T : Txt K mg A D) (B : Bs K mg base A) : LFn P w K mg base 1 A.f_law_number D.d_law_number ["_law_number_here"] spNum := by
  refine T.F_law_number.okL sc_law_number (fun vs s Q E ⟨_, h, _⟩ => by rw [h]; rfl) (fun cdv A' outer si H E hr => ⟨_, (lps_one (lp_ret (le_item (hu_of hr) (le_fz (ll_disp (la_cons (le_mod (lv 0) le_int) (la_cons (le_mod (lv 0) le_int) (la_cons (le_mod (lv 0) (le_pow le_int le_int)) la_nil))))) (le_mod (le_div (lv 0) (le_pow le_int le_int)) le_int)))), fun vs s Q E h => ?_⟩)
  obtain ⟨n, rfl, h⟩ := h
  unfold numAt at h
  simp_arith
  refine ⟨by unfold CDiv; decide, ?_⟩
  simp_arith
  have h3 : n / 10 ^ Int.toNat 6 % 3 = 0 ∨ n / 10 ^ Int.toNat 6 % 3 = 1 ∨ n / 10 ^ Int.toNat 6 % 3 = 2 := by omega
  rcases h3 with e | e | e <;> rw [e] at h ⊢
  all_goals
    simp_arith
    exact fin (.refl _) h
def rowAt (c : Int) (k : Nat) : Row := if mixed c (5 * k) % 4 < 2 then (if mixed c (5 * k) % 4 = 0 then .own (numAt (mixed c (5 * k + 1))) else .write (numAt (mixed c (5 * k + 1))))
  else .use (numAt (mixed c (5 * k + 1))) ⟨numAt (mixed c (5 * k + 2 + 0)), numAt (mixed c (5 * k + 2 + 1)), numAt (mixed c (5 * k + 2 + 2))⟩
theorem rowAt_ok (c : Int) (k : Nat) : RowOk (rowAt c k) := by
  unfold rowAt
  split
  · split <;> exact numAt_ok _
  · exact ⟨numAt_ok _, numAt_ok _, numAt_ok _, numAt_ok _⟩
def spRow : LSp := fun vs s Q E => ∃ (c : Int) (k : Nat), vs = [.int c, .int k] ∧ k < 1000 ∧ Q (rowL (rowAt c k)) s
theorem ok_law_row (T : Txt K mg A D) (B : Bs K mg base A) : LFn P w K mg base 2 A.f_law_row D.d_law_row ["_law_cell", "_law_k"] spRow := by
  refine T.F_law_row.okL sc_law_row (fun vs s Q E ⟨_, _, h, _⟩ => by rw [h]; rfl) (fun cdv A' outer si H E hr => ⟨_, (lps_cons (lp_set (i := 2) sc_law_row.nd rfl (by first | exact Or.inl rfl | exact Or.inr rfl) (le_call (ok_law_mixed T B) (hr.mono (by decide)) rfl T.m_law_mixed T.k_law_mixed T.q_law_mixed (la_cons (lv 0) (la_cons (le_mul le_int (lv 1)) la_nil))))
    (lps_cons (lp_set (i := 3) sc_law_row.nd rfl (by first | exact Or.inl rfl | exact Or.inr rfl) (le_call (ok_law_number T B) (hr.mono (by decide)) rfl T.m_law_number T.k_law_number T.q_law_number (la_cons (le_call (ok_law_mixed T B) (hr.mono (by decide)) rfl T.m_law_mixed T.k_law_mixed T.q_law_mixed (la_cons (lv 0) (la_cons (le_add (le_mul le_int (lv 1)) le_int) la_nil))) la_nil)))
    (lps_cons (lp_if (lt_lt (le_mod (lv 2) le_int) le_int) (lps_one (lp_ret (le_tup (la_cons (le_item (hu_of hr) (le_fz (ll_disp (la_cons le_str (la_cons le_str la_nil)))) (le_mod (lv 2) le_int)) (la_cons (lv 3) la_nil))))) lps_nil)
    (lps_one (lp_ret (le_tup (la_cons le_str (la_cons (lv 3) (la_cons (le_tupOf rfl T.b_tuple (le_fz (ll_lc (own := [("_law_j", 4)]) (g := CTg.one 4) rfl sc_law_row.nd (li_range1 rfl T.b_range (la_cons le_int la_nil)) (blkOk_by (N := ["_law_cell", "_law_k", "_law_number_here", "_law_hand", "_law_j"]) (sc := defScope s_law_row) (by decide +kernel)) (by decide) (fun _ _ _ _ _ => pg_name (i := 4) sc_law_row.nd rfl (Or.inl rfl)) (fun _ _ _ _ _ => lts_nil) (fun _ _ _ _ _ => (le_call (ok_law_number T B) (hr.mono (by decide)) rfl T.m_law_number T.k_law_number T.q_law_number (la_cons (le_call (ok_law_mixed T B) (hr.mono (by decide)) rfl T.m_law_mixed T.k_law_mixed T.q_law_mixed (la_cons (lv 0) (la_cons (le_add (le_add (le_mul le_int (lv 1)) le_int) (lv 4)) la_nil))) la_nil)))))) la_nil))))))))), fun vs s Q E h => ?_⟩)
  obtain ⟨c, k, rfl, hk, h⟩ := h
  simp_arith
  refine ⟨c, 5 * k, rfl, ?_⟩
  simp_arith
  refine ⟨c, 5 * k + 1, rfl, ?_⟩
  simp_arith
  refine ⟨_, rfl, ?_⟩
  simp_arith
  unfold rowAt at h
  refine ifD (fun h2 => ?_) (fun h2 => ?_)
  · rw [if_pos h2] at h
    have h01 : mixed c (5 * k) % 4 = 0 ∨ mixed c (5 * k) % 4 = 1 := by omega
    rcases h01 with e | e
    · rw [if_pos e] at h
      simp_arith
      rw [e]
      simp_arith
      exact fin (.refl _) h
    · rw [if_neg (by omega)] at h
      simp_arith
      rw [e]
      simp_arith
      exact fin (.refl _) h
  · rw [if_neg h2] at h
    simp_arith
    intro Da hD
    refine lc_map1 (α := Nat) (enc := fun i : Nat => LV.int (0 + (i : Nat))) hD (fun j => LV.int (numAt (mixed c (5 * k + 2 + j)))) (fun _ _ => trivial) (by rw [List.length_range]; omega) ?_ ?_
    · intro j hj s' Y ex hY
      simp_arith
      refine ⟨c, 5 * k + 2 + j, by rw [show (5 * (k : Int) + 2 + (0 + (j : Nat))) = ((5 * k + 2 + j : Nat) : Int) by omega], ?_⟩
      simp_arith
      exact ⟨_, rfl, hY⟩
    simp_arith
    exact fin (.refl _) h
def spText : LSp := fun vs s Q E => ∃ r : Row, vs = [rowL r] ∧ RowOk r ∧ Q (.str (rowT r)) s
theorem ok_law_text (T : Txt K mg A D) (B : Bs K mg base A) : LFn P w K mg base 1 A.f_law_text D.d_law_text ["_law_row_here"] spText := by
  refine T.F_law_text.okL sc_law_text (fun vs s Q E ⟨_, h, _⟩ => by rw [h]; rfl) (fun cdv A' outer si H E hr => ⟨_, (lps_cons (lp_set (i := 1) sc_law_text.nd rfl (by first | exact Or.inl rfl | exact Or.inr rfl) (le_fz (ll_disp (la_cons (le_item (hu_of hr) (lv 0) le_int) (la_cons (le_str1 rfl T.b_str (la_cons (le_item (hu_of hr) (lv 0) le_int) la_nil)) la_nil)))))
    (lps_cons (lp_if (lt_eq (le_item (hu_of hr) (lv 0) le_int) le_str) (lps_one (lp_set (i := 1) sc_law_text.nd rfl (by first | exact Or.inl rfl | exact Or.inr rfl) (le_fz (ll_cat (lv 1) (le_fz (ll_lc (own := [("_law_part", 2)]) (g := CTg.one 2) rfl sc_law_text.nd (li_tup (le_item (hu_of hr) (lv 0) le_int)) (blkOk_by (N := ["_law_row_here", "_law_words", "_law_part"]) (sc := defScope s_law_text) (by decide +kernel)) (by decide) (fun _ _ _ _ _ => pg_name (i := 2) sc_law_text.nd rfl (Or.inl rfl)) (fun _ _ _ _ _ => lts_nil) (fun _ _ _ _ _ => (le_str1 rfl T.b_str (la_cons (lv 2) la_nil))))))))) lps_nil)
    (lps_one (lp_ret (le_join le_str (lv 1)))))), fun vs s Q E h => ?_⟩)
  obtain ⟨r, rfl, hr, h⟩ := h
  have hw := rowW_sum hr
  cases r with
  | own i =>
    have h1 := hr.1
    have h2 := hr.2
    unfold rowL
    simp_arith
    refine ifD (fun q => absurd q (by decide)) (fun _ => ?_)
    simp_arith
    refine ⟨hw, ?_⟩
    exact fin (.refl _) h
  | write i =>
    have h1 := hr.1
    have h2 := hr.2
    unfold rowL
    simp_arith
    refine ifD (fun q => absurd q (by decide)) (fun _ => ?_)
    simp_arith
    refine ⟨hw, ?_⟩
    exact fin (.refl _) h
  | use i n =>
    obtain ⟨⟨a1, a2⟩, ⟨b1, b2⟩, ⟨c1, c2⟩, ⟨d1, d2⟩⟩ := hr
    unfold rowL nmL
    simp_arith
    refine ifD (fun _ => ?_) (fun q => absurd rfl q)
    simp_arith
    intro Da hD
    refine lc_map1 (α := Int) (enc := LV.int) (xs := [n.hand, n.place, n.k]) hD (fun i => .str (numT i)) (fun _ _ => trivial) (by simp) ?_ ?_
    · intro j hj s' Y ex hY
      have hj2 : 0 ≤ j ∧ j < 1000000 := by
        simp only [List.mem_cons, List.not_mem_nil, or_false] at hj
        rcases hj with rfl | rfl | rfl <;> exact ⟨by assumption, by assumption⟩
      obtain ⟨j1, j2⟩ := hj2
      simp_arith
      exact hY
    simp_arith
    refine ⟨by simp, ?_⟩
    simp_arith
    refine ⟨hw, ?_⟩
    exact fin (.refl _) h
end
end Law

namespace Law
open PySem PySem.Spec L2 L3
local macro_rules
  | `(tactic| simp_arith) => `(tactic| ((conv => whnf); repeat ((first | with_reducible refine ifTT ?_ | with_reducible refine ifFF ?_ | with_reducible refine ifnT ?_ | with_reducible refine ifnF ?_ | with_reducible refine ifTr ?_ | with_reducible refine ifFr ?_ | (with_reducible refine And.intro ?_ ?_; · (first | with_reducible rfl | with_reducible exact ⟨rfl, rfl⟩ | decide | omega | (dsimp only; decide) | (dsimp only; omega) | (unfold CDiv; omega) | (unfold CPow; decide) | (unfold CMul; omega) | (simp only [List.length_cons, List.length_nil]; omega)))); conv => whnf)))
local macro_rules
  | `(tactic| simp_arith [$ls,*]) => `(tactic| ((conv => whnf); repeat ((first | with_reducible refine ifTT ?_ | with_reducible refine ifFF ?_ | with_reducible refine ifnT ?_ | with_reducible refine ifnF ?_ | with_reducible refine ifTr ?_ | with_reducible refine ifFr ?_ | (with_reducible refine And.intro ?_ ?_; · (first | with_reducible rfl | with_reducible exact ⟨rfl, rfl⟩ | decide | omega | (dsimp only; decide) | (dsimp only; omega) | (unfold CDiv; omega) | (unfold CPow; decide) | (unfold CMul; omega) | (simp only [List.length_cons, List.length_nil]; omega) | (simp only [Option.isSome_some]; done) | (simp only [meth_ref, put_same', seqL_ref, $ls,*]; first | done | exact ⟨rfl, rfl⟩ | exact ⟨trivial, rfl⟩ | rfl))) | (simp (decide := true) only [put_same', put_put, decF, decT, Bool.not_true, Bool.not_false, putL_nil, putL_cons, if_true, if_false, seqR_ref, seqL_ref, lenL_ref, dicK_ref, dicT_ref, dat_ref, dat_non, dat_bl, dat_int, dat_str, dat_lst, dat_tup, datV_non, datV_bl, datV_int, datV_str, datV_lst, datV_tup, datVs_nil, datVs_cons, tyAt_ref, opt_some, Option.map_some, Option.bind_some, dv_ints, dv_bls, dv_nms, dv_prs, dv_nm, dt_nm, dt_pr, dv_pr, sh_int, sh_bl, sh_none, sh_nil, eqv_nil, sh_ints, sh_bls, sh_nm, sh_nms, sh_pr, sh_prs, anyI, anyN, anyP, eqv_int, eqv_bl, eqv_ints, eqv_bls, eqv_nms, eqv_prs, eqv_nm, eqv_pr, $ls,*])); conv => whnf)))

theorem words_sum {ws : List Str} (hw : ∀ w ∈ ws, WordOk w) (hl : ws.length ≤ 50) : (ws.map (·.length)).sum + ws.length * (Str.ofString " ").length ≤ 16777216 := by
  have h1 := sum_le (ws := ws) (k := 10) fun w h => (hw w h).2
  rw [len_tl, tl_sp]
  simp only [List.length_cons, List.length_nil]
  omega
section
variable {P : Program} {w : World} {K : PySem.W.Frag} [GG K] {mg : Str → Option Value} {base : Heap} {A : Ad} {D : Fd}
def spBad : LSp := fun vs s Q E => ∃ (r : Row) (n : Int), vs = [rowL r, .int n] ∧ RowOk r ∧ ∀ b, BadT b → Q (.str b) s
theorem ok_law_bad (T : Txt K mg A D) (B : Bs K mg base A) : LFn P w K mg base 2 A.f_law_bad D.d_law_bad ["_law_row_here", "_law_number_here"] spBad := by
  refine T.F_law_bad.okL sc_law_bad (fun vs s Q E ⟨_, _, h, _⟩ => by rw [h]; rfl) (fun cdv A' outer si H E hr => ⟨_, (lpso_cons (lpo_set (i := 2) sc_law_bad.nd rfl (by first | exact Or.inl rfl | exact Or.inr rfl) (leo_split (le_call (ok_law_text T B) (hr.mono (by decide)) rfl T.m_law_text T.k_law_text T.q_law_text (la_cons (lv 0) la_nil))))
    (lpst_cons (lpt_of (lp_set (i := 3) sc_law_bad.nd rfl (by first | exact Or.inl rfl | exact Or.inr rfl) (le_item (hu_of hr) (le_fz (ll_disp (la_cons le_str (la_cons le_str (la_cons le_str (la_cons le_str (la_cons le_str (la_cons le_str (la_cons le_str (la_cons le_str (la_cons le_str la_nil))))))))))) (le_mod (le_div (lv 1) le_int) le_int))))
    (lpst_cons (lpt_of (lp_set (i := 4) sc_law_bad.nd rfl (by first | exact Or.inl rfl | exact Or.inr rfl) (le_add le_int (le_mod (le_div (le_div (lv 1) le_int) le_int) (le_sub (le_len rfl T.b_len (la_cons (lv 2) la_nil)) le_int)))))
    (lpst_cons (lpt_of (lp_set (i := 5) sc_law_bad.nd rfl (by first | exact Or.inl rfl | exact Or.inr rfl) (le_mod (lv 1) le_int)))
    (lpst_cons (lpt_of (lp_if (lt_eq (lv 5) le_int) (lps_one (lp_ret (le_join le_str (le_fz (ll_cat (lv 2) (le_fz (ll_disp (la_cons le_str la_nil)))))))) lps_nil))
    (lpst_cons (lpt_of (lp_if (lt_eq (lv 5) le_int) (lps_one (lp_ret (le_join le_str (le_fz (ll_slice (lv 2) lo_none (lo_some (le_neg le_int))))))) lps_nil))
    (lpst_cons (lpt_of (lp_if (lt_eq (lv 5) le_int) (lps_one (lp_ret (le_add (le_call (ok_law_text T B) (hr.mono (by decide)) rfl T.m_law_text T.k_law_text T.q_law_text (la_cons (lv 0) la_nil)) le_str))) lps_nil))
    (lpst_cons (lpt_of (lp_if (lt_eq (lv 5) le_int) (lps_one (lp_ret (le_add le_str (le_call (ok_law_text T B) (hr.mono (by decide)) rfl T.m_law_text T.k_law_text T.q_law_text (la_cons (lv 0) la_nil))))) lps_nil))
    (lpst_cons (lpt_of (lp_if (lt_eq (lv 5) le_int) (lps_one (lp_ret (le_add (le_add (le_item (hu_of hr) (le_fz (ll_disp (la_cons le_str (la_cons le_str (la_cons le_str (la_cons le_str (la_cons le_str la_nil))))))) (le_mod (le_div (lv 1) le_int) le_int)) le_str) (le_join le_str (le_fz (ll_slice (lv 2) (lo_some le_int) lo_none)))))) lps_nil))
    (lpst_cons (lpt_if (lt_eq (lv 5) le_int) (lpst_one (lpt_ret (let_rep1 (le_call (ok_law_text T B) (hr.mono (by decide)) rfl T.m_law_text T.k_law_text T.q_law_text (la_cons (lv 0) la_nil))))) (lpst_of lps_nil))
    (lpst_cons (lpt_of (lp_if (lt_eq (lv 5) le_int) (lps_one (lp_ret (le_item (hu_of hr) (le_fz (ll_disp (la_cons le_str (la_cons le_str (la_cons le_str (la_cons le_str (la_cons le_str (la_cons le_str (la_cons le_str la_nil))))))))) (le_mod (le_div (lv 1) le_int) le_int)))) lps_nil))
    (lpst_one (lpt_of (lp_ret (le_join le_str (le_fz (ll_cat (le_fz (ll_cat (le_fz (ll_slice (lv 2) lo_none (lo_some (lv 4)))) (le_fz (ll_disp (la_cons (lv 3) la_nil))))) (le_fz (ll_slice (lv 2) (lo_some (le_add (lv 4) le_int)) lo_none))))))))))))))))))), fun vs s Q E h => ?_⟩)
  obtain ⟨r, n, rfl, hr, h⟩ := h
  have hsp : ((Str.ofString " ").length == 0) = false := by decide +kernel
  have htl := rowT_len hr
  have hwk := rowW_word hr
  have hwl := rowW_len r
  have hw2 := len_rowW r
  simp_arith
  refine ⟨r, rfl, hr, ?_⟩
  simp_arith
  refine ⟨⟨hsp, by omega⟩, ?_⟩
  rw [rowT_split hr]
  simp_arith
  obtain ⟨x, hx, ex⟩ := bad7_at (n / 16)
  rw [ex]
  simp_arith
  have hz : 0 < (((rowW r).map LV.str).length : Int) - 1 := by rw [List.length_map]; omega
  refine ⟨hz, ?_⟩
  simp_arith
  rw [List.length_map] at hz ⊢
  obtain ⟨k, ek⟩ : ∃ k : Nat, 1 + n / 16 / 9 % (((rowW r).length : Int) - 1) = (k : Int) := ⟨(1 + n / 16 / 9 % (((rowW r).length : Int) - 1)).toNat, by rw [Int.toNat_of_nonneg]; have := Int.emod_nonneg (n / 16 / 9) (show ((rowW r).length : Int) - 1 ≠ 0 by omega); omega⟩
  have hk : 1 ≤ k ∧ k < (rowW r).length := by
    have h1 := Int.emod_nonneg (n / 16 / 9) (show ((rowW r).length : Int) - 1 ≠ 0 by omega)
    have h2 := Int.emod_lt_of_pos (n / 16 / 9) hz
    omega
  dsimp only
  rw [ek]
  clear ek
  obtain ⟨ws, ews⟩ : ∃ z, z = rowW r := ⟨_, rfl⟩
  refine ifD (fun hc => ?_) (fun hc => ?_)
  · simp_arith
    refine ⟨by rw [List.length_map]; simp; omega, ?_⟩
    have e0 : (rowW r).map LV.str ++ [LV.str (Str.ofString "0")] = (rowW r ++ [Str.ofString "0"]).map LV.str := by simp
    rw [e0]
    simp_arith [strsOf_map]
    refine ⟨words_sum (wk_app hwk (wk_one (by decide +kernel))) (by simp; omega), ?_⟩
    exact fin (.refl _) (h _ (bad0 hr))
  simp_arith
  refine ifD (fun hc => ?_) (fun hc => ?_)
  · simp_arith
    rw [cut_last]
    simp_arith [strsOf_map]
    refine ⟨words_sum (fun z hz => hwk z (List.dropLast_subset _ hz)) (by simp; omega), ?_⟩
    exact fin (.refl _) (h _ (bad1 hr))
  simp_arith
  refine ifD (fun hc => ?_) (fun hc => ?_)
  · simp_arith
    refine ⟨r, rfl, hr, ?_⟩
    simp_arith
    refine ⟨by rw [len_tl (Str.ofString " "), tl_sp]; simp; omega, ?_⟩
    exact fin (.refl _) (h _ (bad2 hr))
  simp_arith
  refine ifD (fun hc => ?_) (fun hc => ?_)
  · simp_arith
    refine ⟨r, rfl, hr, ?_⟩
    simp_arith
    refine ⟨by rw [len_tl (Str.ofString " "), tl_sp]; simp; omega, ?_⟩
    exact fin (.refl _) (h _ (bad3 hr))
  simp_arith
  have ecut : ∀ j : Nat, cutL ((rowW r).map LV.str) (some (j : Int)) none = ((rowW r).drop j).map LV.str := fun j => by rw [cutL_from, List.map_drop]
  have ecut2 : ∀ j : Nat, cutL ((rowW r).map LV.str) none (some (j : Int)) = ((rowW r).take j).map LV.str := fun j => by rw [cutL_to, List.map_take]
  have ecut1 : cutL ((rowW r).map LV.str) (some 1) none = ((rowW r).drop 1).map LV.str := ecut 1
  refine ifD (fun hc => ?_) (fun hc => ?_)
  · obtain ⟨x4, hx4, ex4⟩ := bad4_at (n / 16)
    have hx4l := hx4.1.2
    simp_arith
    rw [ex4]
    simp_arith
    have hs1 : (Str.ofString " ").length = 1 := by rw [len_tl, tl_sp]; rfl
    refine ⟨by rw [hs1]; omega, ?_⟩
    simp_arith
    rw [ecut1]
    have hdw : ∀ z ∈ (rowW r).drop 1, WordOk z := fun z hz => hwk z (List.mem_of_mem_drop hz)
    simp_arith [strsOf_map]
    refine ⟨words_sum hdw (by simp; omega), ?_⟩
    simp_arith
    have hjl : (Txt.join (Str.ofString " ") ((rowW r).drop 1)).length ≤ 1000 := (join_ok (ws := (rowW r).drop 1) (by obtain ⟨w0, n0, ns0, e0, _⟩ := rowW_cons r; rw [e0]; simp) hdw (by simp; omega)).2.2
    refine ⟨by rw [len_tl (x4 ++ Str.ofString " "), TL.tl_append, tl_sp, List.length_append, ← len_tl]; simp only [List.length_cons, List.length_nil]; omega, ?_⟩
    exact fin (.refl _) (h _ (bad4 hr hx4))
  simp_arith
  refine ifD (fun hc => ?_) (fun hc => ?_)
  · simp_arith
    refine ⟨r, rfl, hr, ?_⟩
    simp_arith
    refine ⟨⟨hsp, by decide +kernel, by rw [len_tl (Str.ofString "  "), tl_sp2]; simp; omega⟩, ?_⟩
    exact fin (.refl _) (h _ (bad5 hr))
  simp_arith
  refine ifD (fun hc => ?_) (fun hc => ?_)
  · obtain ⟨x6, hx6, ex6⟩ := bad6_at (n / 16)
    simp_arith
    rw [ex6]
    exact fin (.refl _) (h _ (bad6 hx6))
  simp_arith
  rw [ecut2]
  simp_arith
  refine ⟨by rw [List.length_map, List.length_take]; simp only [List.length_cons, List.length_nil]; omega, ?_⟩
  simp_arith
  rw [show ((k : Int) + 1) = ((k + 1 : Nat) : Int) by omega, ecut]
  simp_arith
  have e0 : ((rowW r).take k).map LV.str ++ [LV.str x] ++ ((rowW r).drop (k + 1)).map LV.str = ((rowW r).take k ++ [x] ++ (rowW r).drop (k + 1)).map LV.str := by simp
  refine ⟨by rw [← List.length_append, e0, List.length_map]; simp only [List.length_append, List.length_take, List.length_drop, List.length_cons, List.length_nil]; omega, ?_⟩
  rw [e0]
  simp_arith [strsOf_map]
  refine ⟨words_sum (wk_app (wk_app (fun z hz => hwk z (List.mem_of_mem_take hz)) (wk_one hx.1)) fun z hz => hwk z (List.mem_of_mem_drop hz)) (by simp only [List.length_append, List.length_take, List.length_drop, List.length_cons, List.length_nil]; omega), ?_⟩
  exact fin (.refl _) (h _ (bad7 hr hx hk.1 hk.2))
end
end Law

namespace Law
open PySem PySem.Spec L2 L3
local macro_rules
  | `(tactic| simp_arith) => `(tactic| ((conv => whnf); repeat ((first | with_reducible refine ifTT ?_ | with_reducible refine ifFF ?_ | with_reducible refine ifnT ?_ | with_reducible refine ifnF ?_ | with_reducible refine ifTr ?_ | with_reducible refine ifFr ?_ | (with_reducible refine And.intro ?_ ?_; · (first | with_reducible rfl | with_reducible exact ⟨rfl, rfl⟩ | decide | omega | (dsimp only; decide) | (dsimp only; omega) | (unfold CDiv; omega) | (unfold CPow; decide) | (unfold CMul; omega) | (simp only [List.length_cons, List.length_nil]; omega)))); conv => whnf)))
local macro_rules
  | `(tactic| simp_arith [$ls,*]) => `(tactic| ((conv => whnf); repeat ((first | with_reducible refine ifTT ?_ | with_reducible refine ifFF ?_ | with_reducible refine ifnT ?_ | with_reducible refine ifnF ?_ | with_reducible refine ifTr ?_ | with_reducible refine ifFr ?_ | (with_reducible refine And.intro ?_ ?_; · (first | with_reducible rfl | with_reducible exact ⟨rfl, rfl⟩ | decide | omega | (dsimp only; decide) | (dsimp only; omega) | (unfold CDiv; omega) | (unfold CPow; decide) | (unfold CMul; omega) | (simp only [List.length_cons, List.length_nil]; omega) | (simp only [Option.isSome_some]; done) | (simp only [meth_ref, put_same', seqL_ref, $ls,*]; first | done | exact ⟨rfl, rfl⟩ | exact ⟨trivial, rfl⟩ | rfl))) | (simp (decide := true) only [put_same', put_put, decF, decT, Bool.not_true, Bool.not_false, putL_nil, putL_cons, if_true, if_false, seqR_ref, seqL_ref, lenL_ref, dicK_ref, dicT_ref, dat_ref, dat_non, dat_bl, dat_int, dat_str, dat_lst, dat_tup, datV_non, datV_bl, datV_int, datV_str, datV_lst, datV_tup, datVs_nil, datVs_cons, tyAt_ref, opt_some, Option.map_some, Option.bind_some, dv_ints, dv_bls, dv_nms, dv_prs, dv_nm, dt_nm, dt_pr, dv_pr, sh_int, sh_bl, sh_none, sh_nil, eqv_nil, sh_ints, sh_bls, sh_nm, sh_nms, sh_pr, sh_prs, anyI, anyN, anyP, eqv_int, eqv_bl, eqv_ints, eqv_bls, eqv_nms, eqv_prs, eqv_nm, eqv_pr, $ls,*])); conv => whnf)))

section
variable {P : Program} {w : World} {K : PySem.W.Frag} [GG K] {mg : Str → Option Value} {base : Heap} {A : Ad} {D : Fd}
def spRefused (A : Ad) : LSp := fun vs s Q E => ∃ (t : Str) (ls : List Str), vs = [.str t] ∧ linesO t = ls ∧ t.length ≤ 1000000 ∧ ls.length ≤ 10000 ∧ (∀ l ∈ ls, LineOk l) ∧ (∃ l ∈ ls, lineO l = none) ∧ Q (.bl true) s
theorem ok_law_refused (T : Txt K mg A D) (B : Bs K mg base A) : LFn P w K mg base 4 A.f_law_refused D.d_law_refused ["_law_text_here"] (spRefused A) := by
  refine T.F_law_refused.okL sc_law_refused (fun vs s Q E ⟨_, _, h, _⟩ => by rw [h]; rfl) (fun cdv A' outer si H E hr => ⟨_, (lps_cons (lp_try_as (i := 1) rfl rfl sc_law_refused.nd rfl rfl ⟨rfl, by decide, .inl T.x_WeaveError.gP⟩ (fun pn xe => (lps_one (lp_expr (le_call (ok_read_rows T B) (hr.mono (by decide)) rfl T.m_read_rows T.k_read_rows T.q_read_rows (la_cons (lv 0) la_nil))))) (fun a_ oe C_ pn hz hv => (lps_cons (lp_set (i := 2) sc_law_refused.nd rfl (by first | exact Or.inl rfl | exact Or.inr rfl) (le_or (le_isE hz hv rfl T.b_isinstance (la_cons (lv 1) (la_cons (le_glob rfl T.x_NoHand.gP) la_nil))) (le_or (le_isE hz hv rfl T.b_isinstance (la_cons (lv 1) (la_cons (le_glob rfl T.x_NoLetter.gP) la_nil))) (le_or (le_isE hz hv rfl T.b_isinstance (la_cons (lv 1) (la_cons (le_glob rfl T.x_NoPoint.gP) la_nil))) (le_one (le_isE hz hv rfl T.b_isinstance (la_cons (lv 1) (la_cons (le_glob rfl T.x_NoRow.gP) la_nil))))))))
    (lps_one (lp_ret (le_and (le_isE hz hv rfl T.b_isinstance (la_cons (lv 1) (la_cons (le_glob rfl T.x_NoText.gP) la_nil))) (le_and (le_isE hz hv rfl T.b_isinstance (la_cons (lv 1) (la_cons (le_bty (n := "ValueError") rfl T.b_ValueError (by decide +kernel)) la_nil))) (le_one (le_not (lv 2))))))))))
    (lps_one (lp_ret le_bl))), fun vs s Q E h => ?_⟩)
  obtain ⟨t, ls, rfl, h1, h2, h3, h4, h5, h⟩ := h
  simp_arith
  refine ⟨t, ls, rfl, h1, h2, h3, h4, .inr ⟨h5, ?_⟩⟩
  simp_arith
  refine ⟨true, T.xm_NoText_WeaveError, fun _ ea => ?_, fun q => by cases q⟩
  simp_arith
  refine ⟨T.e_NoText, ?_⟩
  simp_arith
  refine ⟨false, T.kt_NoText_NoHand, ?_⟩
  simp_arith
  refine ⟨T.e_NoText, ?_⟩
  simp_arith
  refine ⟨false, T.kt_NoText_NoLetter, ?_⟩
  simp_arith
  refine ⟨T.e_NoText, ?_⟩
  simp_arith
  refine ⟨false, T.kt_NoText_NoPoint, ?_⟩
  simp_arith
  refine ⟨T.e_NoText, ?_⟩
  simp_arith
  refine ⟨false, T.kt_NoText_NoRow, ?_⟩
  simp_arith
  refine ⟨T.e_NoText, ?_⟩
  simp_arith
  refine ⟨true, T.kt_NoText_NoText, ?_⟩
  simp_arith
  refine ⟨T.e_NoText, ?_⟩
  simp_arith
  refine ⟨true, T.kt_NoText_ValueError, ?_⟩
  simp_arith
  exact fin (.refl _) h
def spSame : LSp := fun vs s Q E => ∃ (fo : Addr) (rows : List Row), vs = [.ref fo, .lst (rows.map rowL)] ∧ s fo = some (.lst (rows.map rowL)) ∧ rows.length ≤ 1000 ∧ Q (.bl true) s
theorem ok_law_same (T : Txt K mg A D) (B : Bs K mg base A) : LFn P w K mg base 1 A.f_law_same D.d_law_same ["_law_found", "_law_rows"] spSame := by
  refine T.F_law_same.okL sc_law_same (fun vs s Q E ⟨_, _, h, _⟩ => by rw [h]; rfl) (fun cdv A' outer si H E hr => ⟨_, (lps_cons (lp_if (LW.lt (lw_or (lt_not (lt_val (le_isi rfl T.b_isinstance (la_cons (lv 0) (la_cons (le_bty (n := "list") rfl T.b_list (by decide +kernel)) la_nil))))) (lw_or1 (lt_neV hr.units (lv 0) (lv 1))))) (lps_one (lp_ret le_bl)) lps_nil)
    (lps_cons (lp_for rfl (li_seq (lv 0)) (lg_name (i := 2) sc_law_same.nd rfl (by first | exact Or.inl rfl | exact Or.inr rfl)) (lps_cons (lp_if (LW.lt (lw_or (lt_not (lt_val (le_isi rfl T.b_isinstance (la_cons (lv 2) (la_cons (le_bty (n := "tuple") rfl T.b_tuple (by decide +kernel)) la_nil))))) (lw_or1 (lt_val (le_isi rfl T.b_isinstance (la_cons (le_item (hu_of hr) (lv 2) le_int) (la_cons (le_bty (n := "bool") rfl T.b_bool (by decide +kernel)) la_nil))))))) (lps_one (lp_ret le_bl)) lps_nil)
    (lps_cons (lp_if (LW.lt (lw_and (lt_eq (le_item (hu_of hr) (lv 2) le_int) le_str) (lw_and1 (lt_not (lt_val (le_isi rfl T.b_isinstance (la_cons (le_item (hu_of hr) (lv 2) le_int) (la_cons (le_bty (n := "tuple") rfl T.b_tuple (by decide +kernel)) la_nil)))))))) (lps_one (lp_ret le_bl)) lps_nil)
    (lps_one (lp_if (LW.lt (lw_and (lt_eq (le_item (hu_of hr) (lv 2) le_int) le_str) (lw_and1 (lt_val (le_any rfl rfl T.b_any (la_cons (le_fz (ll_lc (own := [("_law_part", 3)]) (g := CTg.one 3) rfl sc_law_same.nd (li_tup (le_item (hu_of hr) (lv 2) le_int)) (blkOk_by (N := ["_law_found", "_law_rows", "_law_row_here", "_law_part"]) (sc := defScope s_law_same) (by decide +kernel)) (by decide) (fun _ _ _ _ _ => pg_name (i := 3) sc_law_same.nd rfl (Or.inl rfl)) (fun _ _ _ _ _ => lts_nil) (fun _ _ _ _ _ => (le_isiB (K := K) rfl rfl T.b_isinstance (la_cons (lv 3) (la_cons (le_bty (n := "bool") rfl T.b_bool (by decide +kernel)) la_nil)))))) la_nil)))))) (lps_one (lp_ret le_bl)) lps_nil)))))
    (lps_one (lp_ret le_bl)))), fun vs s Q E h => ?_⟩)
  obtain ⟨fo, rows, rfl, hfo, hrl, h⟩ := h
  simp_arith [hfo]
  refine ⟨(fun C q => by cases q), true, T.kt_list_list, ?_⟩
  have hd : dat s (.lst (rows.map rowL)) = some (Cod.den rows) := den_enc (α := List Row) s _
  have hs : SeqAt.shaped (Cod.den rows) = true := shaped_cod (α := List Row) (by decide) _
  have hdv : datVs (rows.map rowL) = some (rows.map Cod.den) := datVs_enc (α := Row) rows
  have hev : PyData.eqv (.list (rows.map Cod.den)) (Cod.den rows) = true := (Cod.eqv rows rows).mpr rfl
  have hrl2 : (rows.map rowL).length < 16777216 := by rw [List.length_map]; omega
  simp_arith [hd, hfo, hdv]
  refine ⟨⟨hs, hs⟩, ?_⟩
  rw [hev]
  simp_arith [hfo]
  refine lLoop_map rowL (fun q r σ s' => ∃ v2 v3, σ = [some (.ref fo), some (.lst (rows.map rowL)), v2, v3] ∧ s' = s) ⟨_, _, rfl, rfl⟩ (fun q r σ s' ⟨_, _, _, e⟩ => by rw [e]; exact hfo) ?_ ?_
  · rintro q row r σ s1 N eq ⟨v2, v3, rfl, rfl⟩ hN
    cases row with
    | own i =>
      unfold rowL
      simp_arith
      refine ⟨(fun C q => by cases q), true, T.kt_tuple_tuple, ?_⟩
      simp_arith
      refine ⟨(fun C q => by cases q), false, T.kt_int_bool, ?_⟩
      simp_arith
      refine ifD (fun q => absurd q (by decide)) (fun _ => ?_)
      simp_arith
      refine ifD (fun q => absurd q (by decide)) (fun _ => ?_)
      simp_arith
      exact hN _ _ ⟨_, _, rfl, rfl⟩
    | write i =>
      unfold rowL
      simp_arith
      refine ⟨(fun C q => by cases q), true, T.kt_tuple_tuple, ?_⟩
      simp_arith
      refine ⟨(fun C q => by cases q), false, T.kt_int_bool, ?_⟩
      simp_arith
      refine ifD (fun q => absurd q (by decide)) (fun _ => ?_)
      simp_arith
      refine ifD (fun q => absurd q (by decide)) (fun _ => ?_)
      simp_arith
      exact hN _ _ ⟨_, _, rfl, rfl⟩
    | use i n =>
      unfold rowL nmL
      simp_arith
      refine ⟨(fun C q => by cases q), true, T.kt_tuple_tuple, ?_⟩
      simp_arith
      refine ⟨(fun C q => by cases q), false, T.kt_int_bool, ?_⟩
      simp_arith
      refine ifD (fun _ => ?_) (fun q => absurd rfl q)
      simp_arith
      refine ⟨(fun C q => by cases q), true, T.kt_tuple_tuple, ?_⟩
      simp_arith
      refine ifD (fun _ => ?_) (fun q => absurd rfl q)
      simp_arith
      intro Da hD
      refine lc_map1 (α := Int) (enc := LV.int) (xs := [n.hand, n.place, n.k]) hD (fun _ => LV.bl false) (fun _ _ => trivial) (by simp) ?_ ?_
      · intro j hj s' Y ex hY
        simp_arith
        refine ⟨(fun C q => by cases q), false, T.kt_int_bool, ?_⟩
        exact hY
      simp_arith
      refine ⟨fun q => absurd q (by decide), fun _ => ?_⟩
      exact hN _ _ ⟨_, _, rfl, rfl⟩
  · rintro σ s1 ⟨v2, v3, rfl, rfl⟩
    simp_arith
    exact fin (.refl _) h
end
end Law

namespace Law
open PySem PySem.Spec L2 L3
local macro_rules
  | `(tactic| simp_arith) => `(tactic| ((conv => whnf); repeat ((first | with_reducible refine ifTT ?_ | with_reducible refine ifFF ?_ | with_reducible refine ifnT ?_ | with_reducible refine ifnF ?_ | with_reducible refine ifTr ?_ | with_reducible refine ifFr ?_ | (with_reducible refine And.intro ?_ ?_; · (first | with_reducible rfl | with_reducible exact ⟨rfl, rfl⟩ | decide | omega | (dsimp only; decide) | (dsimp only; omega) | (unfold CDiv; omega) | (unfold CPow; decide) | (unfold CMul; omega) | (simp only [List.length_cons, List.length_nil]; omega)))); conv => whnf)))
local macro_rules
  | `(tactic| simp_arith [$ls,*]) => `(tactic| ((conv => whnf); repeat ((first | with_reducible refine ifTT ?_ | with_reducible refine ifFF ?_ | with_reducible refine ifnT ?_ | with_reducible refine ifnF ?_ | with_reducible refine ifTr ?_ | with_reducible refine ifFr ?_ | (with_reducible refine And.intro ?_ ?_; · (first | with_reducible rfl | with_reducible exact ⟨rfl, rfl⟩ | decide | omega | (dsimp only; decide) | (dsimp only; omega) | (unfold CDiv; omega) | (unfold CPow; decide) | (unfold CMul; omega) | (simp only [List.length_cons, List.length_nil]; omega) | (simp only [Option.isSome_some]; done) | (simp only [meth_ref, put_same', seqL_ref, $ls,*]; first | done | exact ⟨rfl, rfl⟩ | exact ⟨trivial, rfl⟩ | rfl))) | (simp (decide := true) only [put_same', put_put, decF, decT, Bool.not_true, Bool.not_false, putL_nil, putL_cons, if_true, if_false, seqR_ref, seqL_ref, lenL_ref, dicK_ref, dicT_ref, dat_ref, dat_non, dat_bl, dat_int, dat_str, dat_lst, dat_tup, datV_non, datV_bl, datV_int, datV_str, datV_lst, datV_tup, datVs_nil, datVs_cons, tyAt_ref, opt_some, Option.map_some, Option.bind_some, dv_ints, dv_bls, dv_nms, dv_prs, dv_nm, dt_nm, dt_pr, dv_pr, sh_int, sh_bl, sh_none, sh_nil, eqv_nil, sh_ints, sh_bls, sh_nm, sh_nms, sh_pr, sh_prs, anyI, anyN, anyP, eqv_int, eqv_bl, eqv_ints, eqv_bls, eqv_nms, eqv_prs, eqv_nm, eqv_pr, $ls,*])); conv => whnf)))

def LOk (l : Str) : Prop := LineOk l ∧ 10 ∉ TL.tl l ∧ l.length ≤ 1000
theorem BadT.lok {b : Str} (h : BadT b) : LOk b := ⟨h.2.1, h.2.2.1, h.2.2.2⟩
theorem badE : BadT (Str.ofString "") := bad6 (by simp [isBad6])
theorem good_lok {r : Row} (h : RowOk r) : LOk (rowT r) := ⟨(good_line h).2, rowT_free h, by have := rowT_len h; omega⟩
theorem own3_lok : LOk (Str.ofString "own 3") := by
  have e : Str.ofString "own 3" = Txt.join " " ["own", "3"] := TL.ext_tl (by rw [join_tl]; decide +kernel)
  have hw : ∀ w ∈ (["own", "3"] : List Str), WordOk w := by decide +kernel
  obtain ⟨h1, h2, h3⟩ := join_ok (ws := ["own", "3"]) (by simp) hw (by simp)
  rw [e]
  refine ⟨⟨by omega, by rw [h1]; simp, by rw [h1]; simp, fun w h => ?_⟩, h2, h3⟩
  rw [h1] at h
  have := (hw w h).2
  omega
theorem write0_lok : LOk (Str.ofString "write 0") := by
  have e : Str.ofString "write 0" = Txt.join " " ["write", "0"] := TL.ext_tl (by rw [join_tl]; decide +kernel)
  have hw : ∀ w ∈ (["write", "0"] : List Str), WordOk w := by decide +kernel
  obtain ⟨h1, h2, h3⟩ := join_ok (ws := ["write", "0"]) (by simp) hw (by simp)
  rw [e]
  refine ⟨⟨by omega, by rw [h1]; simp, by rw [h1]; simp, fun w h => ?_⟩, h2, h3⟩
  rw [h1] at h
  have := (hw w h).2
  omega
theorem lok_sum {ls : List Str} (h : ∀ l ∈ ls, LOk l) (hl : ls.length ≤ 100) : (ls.map (·.length)).sum + ls.length * (Str.ofString "\n").length ≤ 16777216 := by
  have h1 := sum_le (ws := ls) (k := 1000) fun w hw => (h w hw).2.2
  rw [len_tl, tl_nl]
  simp only [List.length_cons, List.length_nil]
  omega
theorem joinN_len {ps : List (List Nat)} {k : Nat} (h : ∀ p ∈ ps, p.length ≤ k) : (TL.joinL [10] ps).length ≤ (k + 1) * ps.length := by
  induction ps with
  | nil => simp [TL.joinL]
  | cons p ps ih =>
    have h3 := h p List.mem_cons_self
    have h4 := ih fun z hz => h z (List.mem_cons_of_mem _ hz)
    cases ps with
    | nil => simp [TL.joinL]; omega
    | cons q ps =>
      have e : TL.joinL [10] (p :: q :: ps) = p ++ ([10] ++ TL.joinL [10] (q :: ps)) := by simp [TL.joinL]
      rw [e, List.length_cons (a := p), Nat.mul_succ]
      simp only [List.length_append, List.length_cons, List.length_nil] at h4 ⊢
      omega
theorem lines_ok {ls : List Str} (hne : ls ≠ []) (h0 : Txt.join "\n" ls ≠ Str.ofString "") (hl : ls.length ≤ 100) (hok : ∀ l ∈ ls, LOk l) : linesO (Txt.join "\n" ls) = ls ∧ (Txt.join "\n" ls).length ≤ 1000000 := by
  constructor
  · unfold linesO
    rw [if_neg h0]
    exact TL.split_join tl_nl (by decide +kernel) hne fun p hp => (hok p hp).2.1
  · rw [len_tl, join_tl, tl_nl]
    have := joinN_len (ps := ls.map TL.tl) (k := 1000) fun p hp => by
      obtain ⟨l, hl, rfl⟩ := List.mem_map.mp hp
      rw [← len_tl]
      exact (hok l hl).2.2
    rw [List.length_map] at this
    omega
theorem ref_join {ls : List Str} (h2 : 2 ≤ ls.length) (hl : ls.length ≤ 100) (hok : ∀ l ∈ ls, LOk l) : linesO (Txt.join "\n" ls) = ls ∧ (Txt.join "\n" ls).length ≤ 1000000 := by
  obtain ⟨a, b, r, rfl⟩ : ∃ a b r, ls = a :: b :: r := by
    rcases ls with _ | ⟨a, _ | ⟨b, r⟩⟩
    · simp at h2
    · simp at h2
    · exact ⟨a, b, r, rfl⟩
  refine lines_ok (by simp) (fun e => ?_) hl hok
  have := congrArg TL.tl e
  rw [join_tl, tl_nl, tl_nilS] at this
  simp [TL.joinL] at this
theorem joinN_end : ∀ {ps : List (List Nat)}, ps ≠ [] → TL.joinL [10] (ps ++ [[]]) = TL.joinL [10] ps ++ [10]
  | [], h => absurd rfl h
  | [p], _ => by simp [TL.joinL]
  | p :: q :: ps, _ => by
    have e : ∀ l, TL.joinL [10] (p :: q :: l) = p ++ ([10] ++ TL.joinL [10] (q :: l)) := fun l => by simp [TL.joinL]
    have ih := joinN_end (ps := q :: ps) (by simp)
    rw [List.cons_append] at ih
    rw [List.cons_append, List.cons_append, e, e, ih]
    simp
theorem join_nl {ls : List Str} (h : ls ≠ []) : Txt.join "\n" ls ++ Str.ofString "\n" = Txt.join "\n" (ls ++ [Str.ofString ""]) := by
  refine TL.ext_tl ?_
  rw [TL.tl_append, join_tl, join_tl, tl_nl, List.map_append, List.map_cons, List.map_nil, tl_nilS, joinN_end (by simpa using h)]
theorem nl_join {ls : List Str} (h : ls ≠ []) : Str.ofString "\n" ++ Txt.join "\n" ls = Txt.join "\n" (Str.ofString "" :: ls) := by
  refine TL.ext_tl ?_
  rw [TL.tl_append, join_tl, join_tl, tl_nl, List.map_cons, tl_nilS]
  cases ls with
  | nil => exact absurd rfl h
  | cons a r => simp [TL.joinL]
/-- the rows' text -/
theorem text_lines {rows : List Row} (hok : ∀ r ∈ rows, RowOk r) (hl : rows.length ≤ 90) : linesO (Txt.join "\n" (rows.map rowT)) = rows.map rowT ∧ (Txt.join "\n" (rows.map rowT)).length ≤ 1000000 := by
  cases rows with
  | nil => exact ⟨by decide +kernel, by decide +kernel⟩
  | cons r rs =>
    refine lines_ok (by simp) (fun e => ?_) (by simp at hl ⊢; omega) fun l h => ?_
    · have := congrArg TL.tl e
      rw [join_tl, tl_nl, tl_nilS] at this
      have h1 : TL.tl (rowT r) ≠ [] := fun z => by
        rw [tl_rowT] at z
        obtain ⟨w, n, ns, e, _⟩ := rowW_cons r
        rw [e, List.map_cons, joinL_cons (TL.tl w) (ps := (n :: ns).map TL.tl) (by simp)] at z
        simp at z
      cases rs with
      | nil => exact h1 this
      | cons q rs => simp [TL.joinL] at this
    · obtain ⟨r, hr, rfl⟩ := List.mem_map.mp h
      exact good_lok (hok r hr)
theorem text_ne {rows : List Row} : ∃ ls : List Str, ls ≠ [] ∧ Txt.join "\n" (rows.map rowT) = Txt.join "\n" ls ∧ ls.length ≤ rows.length + 1 ∧ ∀ l ∈ ls, l = Str.ofString "" ∨ ∃ r ∈ rows, l = rowT r := by
  cases rows with
  | nil => exact ⟨[Str.ofString ""], by simp, by decide +kernel, by simp, fun l h => .inl (List.mem_singleton.mp h)⟩
  | cons r rs => exact ⟨(r :: rs).map rowT, by simp, rfl, by simp, fun l h => by
      obtain ⟨q, hq, rfl⟩ := List.mem_map.mp h
      exact .inr ⟨q, hq, rfl⟩⟩
end Law

namespace Law
open PySem PySem.Spec L2 L3
local macro_rules
  | `(tactic| simp_arith) => `(tactic| ((conv => whnf); repeat ((first | with_reducible refine ifTT ?_ | with_reducible refine ifFF ?_ | with_reducible refine ifnT ?_ | with_reducible refine ifnF ?_ | with_reducible refine ifTr ?_ | with_reducible refine ifFr ?_ | (with_reducible refine And.intro ?_ ?_; · (first | with_reducible rfl | with_reducible exact ⟨rfl, rfl⟩ | decide | omega | (dsimp only; decide) | (dsimp only; omega) | (unfold CDiv; omega) | (unfold CPow; decide) | (unfold CMul; omega) | (simp only [List.length_cons, List.length_nil]; omega)))); conv => whnf)))
local macro_rules
  | `(tactic| simp_arith [$ls,*]) => `(tactic| ((conv => whnf); repeat ((first | with_reducible refine ifTT ?_ | with_reducible refine ifFF ?_ | with_reducible refine ifnT ?_ | with_reducible refine ifnF ?_ | with_reducible refine ifTr ?_ | with_reducible refine ifFr ?_ | (with_reducible refine And.intro ?_ ?_; · (first | with_reducible rfl | with_reducible exact ⟨rfl, rfl⟩ | decide | omega | (dsimp only; decide) | (dsimp only; omega) | (unfold CDiv; omega) | (unfold CPow; decide) | (unfold CMul; omega) | (simp only [List.length_cons, List.length_nil]; omega) | (simp only [Option.isSome_some]; done) | (simp only [meth_ref, put_same', seqL_ref, $ls,*]; first | done | exact ⟨rfl, rfl⟩ | exact ⟨trivial, rfl⟩ | rfl))) | (simp (decide := true) only [put_same', put_put, decF, decT, Bool.not_true, Bool.not_false, putL_nil, putL_cons, if_true, if_false, seqR_ref, seqL_ref, lenL_ref, dicK_ref, dicT_ref, dat_ref, dat_non, dat_bl, dat_int, dat_str, dat_lst, dat_tup, datV_non, datV_bl, datV_int, datV_str, datV_lst, datV_tup, datVs_nil, datVs_cons, tyAt_ref, opt_some, Option.map_some, Option.bind_some, dv_ints, dv_bls, dv_nms, dv_prs, dv_nm, dt_nm, dt_pr, dv_pr, sh_int, sh_bl, sh_none, sh_nil, eqv_nil, sh_ints, sh_bls, sh_nm, sh_nms, sh_pr, sh_prs, anyI, anyN, anyP, eqv_int, eqv_bl, eqv_ints, eqv_bls, eqv_nms, eqv_prs, eqv_nm, eqv_pr, $ls,*])); conv => whnf)))

section
variable {P : Program} {w : World} {K : PySem.W.Frag} [GG K] {mg : Str → Option Value} {base : Heap} {A : Ad} {D : Fd}
theorem ok_law (T : Txt K mg A D) (B : Bs K mg base A) : LFn P w K mg base 5 A.f_law D.d_law ["_law_script"] (spTop A) := by
  refine T.F_law.okL sc_law (fun vs s Q E ⟨_, _, h, _⟩ => by rw [h]; rfl) (fun cdv A' outer si H E hr => ⟨_, (lps_cons (lp_set (i := 1) sc_law.nd rfl (by first | exact Or.inl rfl | exact Or.inr rfl) (le_mod (le_call (ok_law_mixed T B) (hr.mono (by decide)) rfl T.m_law_mixed T.k_law_mixed T.q_law_mixed (la_cons (le_call (ok_law_cell_at T B) (hr.mono (by decide)) rfl T.m_law_cell_at T.k_law_cell_at T.q_law_cell_at (la_cons (lv 0) (la_cons le_int la_nil))) (la_cons le_int la_nil))) le_int))
    (lps_cons (lp_setLcF (i := 2) rfl sc_law.nd rfl rfl (own := [("_law_k", 3)]) (g := CTg.one 3) (li_range1 rfl T.b_range (la_cons (lv 1) la_nil)) (blkOk_by (N := ["_law_script", "_law_many", "_law_rows", "_law_k", "_law_text_here", "_law_row_here", "_law_handed", "_law_found", "_law_number_here", "_law_at", "_law_bad_here", "_law_texts", "_law_behind"]) (sc := defScope s_law) (by decide +kernel)) (by decide) (fun _ _ _ _ _ => pg_name (i := 3) sc_law.nd rfl (Or.inl rfl)) (fun _ _ _ _ _ => lts_nil) (fun _ _ _ _ _ => (le_call (ok_law_row T B) (hr.mono (by decide)) rfl T.m_law_row T.k_law_row T.q_law_row (la_cons (le_call (ok_law_cell_at T B) (hr.mono (by decide)) rfl T.m_law_cell_at T.k_law_cell_at T.q_law_cell_at (la_cons (lv 0) (la_cons le_int la_nil))) (la_cons (lv 3) la_nil)))) (sw_true rfl rfl rfl (by decide)))
    (lps_cons (lp_set (i := 4) sc_law.nd rfl (by first | exact Or.inl rfl | exact Or.inr rfl) (le_join le_str (le_fz (ll_lc (own := [("_law_row_here", 5)]) (g := CTg.one 5) rfl sc_law.nd (li_seq (lv 2)) (blkOk_by (N := ["_law_script", "_law_many", "_law_rows", "_law_k", "_law_text_here", "_law_row_here", "_law_handed", "_law_found", "_law_number_here", "_law_at", "_law_bad_here", "_law_texts", "_law_behind"]) (sc := defScope s_law) (by decide +kernel)) (by decide) (fun _ _ _ _ _ => pg_name (i := 5) sc_law.nd rfl (Or.inl rfl)) (fun _ _ _ _ _ => lts_nil) (fun _ _ _ _ _ => (le_call (ok_law_text T B) (hr.mono (by decide)) rfl T.m_law_text T.k_law_text T.q_law_text (la_cons (lv 5) la_nil)))))))
    (lps_cons (lp_set (i := 6) sc_law.nd rfl (by first | exact Or.inl rfl | exact Or.inr rfl) (le_fz (ll_list rfl T.b_list (la_cons (lv 2) la_nil))))
    (lps_cons (lp_if (LW.lt (lw_or (lt_ne (le_call (ok_rows_shown T B) (hr.mono (by decide)) rfl T.m_rows_shown T.k_rows_shown T.q_rows_shown (la_cons (lv 6) la_nil)) (lv 4)) (lw_or1 (lt_neV hr.units (lv 6) (lv 2))))) (lps_one (lp_ret le_bl)) lps_nil)
    (lps_cons (lp_set (i := 7) sc_law.nd rfl (by first | exact Or.inl rfl | exact Or.inr rfl) (le_call (ok_read_rows T B) (hr.mono (by decide)) rfl T.m_read_rows T.k_read_rows T.q_read_rows (la_cons (lv 4) la_nil)))
    (lps_cons (lp_if (lt_not (lt_val (le_call (ok_law_same T B) (hr.mono (by decide)) rfl T.m_law_same T.k_law_same T.q_law_same (la_cons (lv 7) (la_cons (lv 2) la_nil))))) (lps_one (lp_ret le_bl)) lps_nil)
    (lps_cons (lp_expr (le_append (lv 7) (la_cons (le_tup (la_cons le_str (la_cons le_int la_nil))) la_nil)))
    (lps_cons (lp_if (LW.lt (lw_or (lt_not (lt_val (le_call (ok_law_same T B) (hr.mono (by decide)) rfl T.m_law_same T.k_law_same T.q_law_same (la_cons (le_call (ok_read_rows T B) (hr.mono (by decide)) rfl T.m_read_rows T.k_read_rows T.q_read_rows (la_cons (lv 4) la_nil)) (la_cons (lv 2) la_nil))))) (lw_or (lt_ne (le_call (ok_rows_shown T B) (hr.mono (by decide)) rfl T.m_rows_shown T.k_rows_shown T.q_rows_shown (la_cons (le_fz (ll_disp la_nil)) la_nil)) le_str) (lw_or1 (lt_neV hr.units (le_call (ok_read_rows T B) (hr.mono (by decide)) rfl T.m_read_rows T.k_read_rows T.q_read_rows (la_cons le_str la_nil)) (le_fz (ll_disp la_nil))))))) (lps_one (lp_ret le_bl)) lps_nil)
    (lps_cons (lp_set (i := 8) sc_law.nd rfl (by first | exact Or.inl rfl | exact Or.inr rfl) (le_call (ok_law_mixed T B) (hr.mono (by decide)) rfl T.m_law_mixed T.k_law_mixed T.q_law_mixed (la_cons (le_call (ok_law_cell_at T B) (hr.mono (by decide)) rfl T.m_law_cell_at T.k_law_cell_at T.q_law_cell_at (la_cons (lv 0) (la_cons le_int la_nil))) (la_cons le_int la_nil))))
    (lps_cons (lp_set (i := 9) sc_law.nd rfl (by first | exact Or.inl rfl | exact Or.inr rfl) (le_mod (le_call (ok_law_mixed T B) (hr.mono (by decide)) rfl T.m_law_mixed T.k_law_mixed T.q_law_mixed (la_cons (le_call (ok_law_cell_at T B) (hr.mono (by decide)) rfl T.m_law_cell_at T.k_law_cell_at T.q_law_cell_at (la_cons (lv 0) (la_cons le_int la_nil))) (la_cons le_int la_nil))) (le_add (lv 1) le_int)))
    (lps_cons (lp_set (i := 10) sc_law.nd rfl (by first | exact Or.inl rfl | exact Or.inr rfl) (le_call (ok_law_bad T B) (hr.mono (by decide)) rfl T.m_law_bad T.k_law_bad T.q_law_bad (la_cons (le_item (hu_of hr) (le_fz (ll_cat (lv 2) (le_fz (ll_disp (la_cons (le_tup (la_cons le_str (la_cons le_int la_nil))) la_nil))))) (lv 9)) (la_cons (lv 8) la_nil))))
    (lps_cons (lp_setLcF (i := 11) rfl sc_law.nd rfl rfl (own := [("_law_row_here", 5)]) (g := CTg.one 5) (li_seq (lv 2)) (blkOk_by (N := ["_law_script", "_law_many", "_law_rows", "_law_k", "_law_text_here", "_law_row_here", "_law_handed", "_law_found", "_law_number_here", "_law_at", "_law_bad_here", "_law_texts", "_law_behind"]) (sc := defScope s_law) (by decide +kernel)) (by decide) (fun _ _ _ _ _ => pg_name (i := 5) sc_law.nd rfl (Or.inl rfl)) (fun _ _ _ _ _ => lts_nil) (fun _ _ _ _ _ => (le_call (ok_law_text T B) (hr.mono (by decide)) rfl T.m_law_text T.k_law_text T.q_law_text (la_cons (lv 5) la_nil))) (sw_true rfl rfl rfl (by decide)))
    (lps_cons (lp_cut (lp_if (lt_eq (lv 1) le_int) (lps_one (lp_set (i := 11) sc_law.nd rfl (by first | exact Or.inl rfl | exact Or.inr rfl) (le_fz (ll_disp (la_cons le_str la_nil))))) lps_nil))
    (lps_cons (lp_if (LW.lt (lw_or (lt_not (lt_val (le_call (ok_law_refused T B) (hr.mono (by decide)) rfl T.m_law_refused T.k_law_refused T.q_law_refused (la_cons (le_add (lv 4) le_str) la_nil)))) (lw_or1 (lt_not (lt_val (le_call (ok_law_refused T B) (hr.mono (by decide)) rfl T.m_law_refused T.k_law_refused T.q_law_refused (la_cons (le_add le_str (lv 4)) la_nil))))))) (lps_one (lp_ret le_bl)) lps_nil)
    (lps_cons (lp_set (i := 12) sc_law.nd rfl (by first | exact Or.inl rfl | exact Or.inr rfl) (le_item (hu_of hr) (le_fz (ll_disp (la_cons (le_fz (ll_disp (la_cons le_str la_nil))) (la_cons (le_fz (ll_disp la_nil)) la_nil)))) (le_mod (le_div (lv 8) le_int) le_int)))
    (lps_one (lp_ret (le_and (le_call (ok_law_refused T B) (hr.mono (by decide)) rfl T.m_law_refused T.k_law_refused T.q_law_refused (la_cons (le_join le_str (le_fz (ll_cat (le_fz (ll_cat (le_fz (ll_cat (le_fz (ll_slice (lv 11) lo_none (lo_some (lv 9)))) (le_fz (ll_disp (la_cons (lv 10) la_nil))))) (le_fz (ll_slice (lv 11) (lo_some (lv 9)) lo_none)))) (lv 12)))) la_nil)) (le_one (le_call (ok_law_refused T B) (hr.mono (by decide)) rfl T.m_law_refused T.k_law_refused T.q_law_refused (la_cons (le_join le_str (le_fz (ll_cat (lv 11) (le_fz (ll_disp (la_cons (lv 10) la_nil)))))) la_nil)))))))))))))))))))))), fun vs s Q E h => ?_⟩)
  obtain ⟨ns, hns, rfl, hT, h⟩ := h
  clear hT
  simp_arith
  refine ⟨ns, 0, rfl, by omega, by omega, hns, fun c0 _ => ?_⟩
  simp_arith
  refine ⟨c0, 0, rfl, ?_⟩
  simp_arith
  obtain ⟨N, hN⟩ : ∃ N : Nat, mixed c0 0 % 31 = (N : Int) := ⟨(mixed c0 0 % 31).toNat, by omega⟩
  have hN2 : N ≤ 30 := by omega
  rw [hN]
  intro Da hD
  refine lc_map1 (α := Nat) (enc := fun i : Nat => LV.int (0 + (i : Nat))) hD (fun k => rowL (rowAt (cellAt ns 1) k)) (fun _ _ => trivial) (by rw [List.length_range]; omega) ?_ ?_
  · intro k hk s2 Y ex hY
    rw [List.mem_range] at hk
    simp_arith
    refine ⟨ns, 1, rfl, by omega, by omega, hns, fun c1 hc1 => ?_⟩
    simp_arith
    refine ⟨c1, k, by rw [Int.zero_add], by omega, ?_⟩
    subst hc1
    exact hY
  obtain ⟨rows, erows⟩ : ∃ z : List Row, z = (List.range ((N : Int) - 0).toNat).map fun k => rowAt (cellAt ns 1) k := ⟨_, rfl⟩
  have er : ((List.range ((N : Int) - 0).toNat).map fun k => rowL (rowAt (cellAt ns 1) k)) = rows.map rowL := by rw [erows, List.map_map]; rfl
  have hrl : rows.length = N := by rw [erows]; simp
  have hok : ∀ r ∈ rows, RowOk r := fun r hr => by
    rw [erows] at hr
    obtain ⟨k, _, rfl⟩ := List.mem_map.mp hr
    exact rowAt_ok _ _
  rw [er]
  clear er erows
  simp_arith
  intro Db hDb
  refine lc_map1 (α := Row) (enc := rowL) hDb (fun r => .str (rowT r)) (fun _ _ => trivial) (by omega) ?_ ?_
  · intro r hr s2 Y ex hY
    simp_arith
    exact ⟨r, rfl, hok r hr, hY⟩
  have es := strsOf_fn rowT rows
  have hsum : ((rows.map rowT).map (·.length)).sum + (rows.map rowT).length * (Str.ofString "\n").length ≤ 16777216 := by
    have h1 := sum_le (ws := rows.map rowT) (k := 40) fun w hw => by
      obtain ⟨r, hr, rfl⟩ := List.mem_map.mp hw
      exact rowT_len (hok r hr)
    rw [len_tl, tl_nl]
    rw [List.length_map] at h1 ⊢
    simp only [List.length_cons, List.length_nil]
    omega
  have htx := text_lines hok (by omega)
  obtain ⟨lt, hlt1, hlt2, hlt3, hlt4⟩ := text_ne (rows := rows)
  have hltk : ∀ l ∈ lt, LOk l := fun l hl => by
    rcases hlt4 l hl with e | ⟨r, hr, e⟩
    · rw [e]; exact badE.lok
    · rw [e]; exact good_lok (hok r hr)
  have hlk : ∀ l ∈ rows.map rowT, LineOk l := fun l hl => by
    obtain ⟨r, hr, rfl⟩ := List.mem_map.mp hl
    exact (good_line (hok r hr)).2
  have hlo : (rows.map rowT).map lineO = rows.map some := by
    rw [List.map_map]
    exact List.map_congr_left fun r hr => (good_line (hok r hr)).1
  simp_arith [es]
  refine ⟨_, rows, rfl, rfl, by omega, hok, ?_⟩
  obtain ⟨t, et⟩ : ∃ z, z = Txt.join (Str.ofString "\n") (rows.map rowT) := ⟨_, rfl⟩
  rw [← et]
  change linesO (Txt.join (Str.ofString "\n") (rows.map rowT)) = _ ∧ (Txt.join (Str.ofString "\n") (rows.map rowT)).length ≤ _ at htx
  change Txt.join (Str.ofString "\n") (rows.map rowT) = _ at hlt2
  rw [← et] at htx hlt2
  have hd : ∀ s : LS, dat s (.lst (rows.map rowL)) = some (Cod.den rows) := fun s => den_enc (α := List Row) s _
  have hs : SeqAt.shaped (Cod.den rows) = true := shaped_cod (α := List Row) (by decide) _
  have hlen : (rows.map rowT).length ≤ 10000 := by rw [List.length_map]; omega
  simp_arith
  refine ⟨fun q => absurd q (by simp), fun _ => ?_⟩
  have hd0 := hd s
  simp_arith [hd0]
  refine ⟨⟨hs, hs⟩, ?_⟩
  rw [eqv_cod]
  refine ⟨fun q => absurd q (by simp), fun _ => ?_⟩
  simp_arith
  refine ⟨t, rows.map rowT, rfl, htx.1, htx.2, hlen, hlk, .inl ⟨rows, hlo, fun fo hfo => ?_⟩⟩
  simp_arith
  refine ⟨fo, rows, rfl, put_same, by omega, ?_⟩
  have hap : (rows.map rowL).length < 16777216 := by rw [List.length_map]; omega
  simp_arith [put_same]
  obtain ⟨s1, es1⟩ : ∃ z, z = put s fo (.lst (rows.map rowL ++ [.tup [.str (Str.ofString "own"), .int 1]])) := ⟨_, rfl⟩
  have sb1 : Sub s s1 := by rw [es1]; exact sub_put hfo
  rw [← es1]
  clear es1
  refine ⟨t, rows.map rowT, rfl, htx.1, htx.2, hlen, hlk, .inl ⟨rows, hlo, fun f2 hf2 => ?_⟩⟩
  simp_arith
  refine ⟨f2, rows, rfl, put_same, by omega, ?_⟩
  simp_arith
  have sb2 : Sub s (put s1 f2 (.lst (rows.map rowL))) := sb1.trans (sub_put hf2)
  generalize put s1 f2 (.lst (rows.map rowL)) = s2 at sb2 ⊢
  refine ⟨_, [], rfl, rfl, by simp, by simp, ?_⟩
  simp_arith
  refine ⟨fun q => absurd q (by decide +kernel), fun _ => ?_⟩
  simp_arith
  refine ⟨Str.ofString "", [], rfl, by decide +kernel, by decide +kernel, by simp, by simp, .inl ⟨[], rfl, fun f3 hf3 => ?_⟩⟩
  simp_arith [put_same]
  have sb3 : Sub s (put s2 f3 (.lst (([] : List Row).map rowL))) := sb2.trans (sub_put hf3)
  have p3 : put s2 f3 (.lst (([] : List Row).map rowL)) f3 = some (.lst []) := put_same
  generalize put s2 f3 (.lst (([] : List Row).map rowL)) = s3 at sb3 p3 ⊢
  simp_arith [p3]
  refine ⟨ns, 2, rfl, by omega, by omega, hns, fun c2 _ => ?_⟩
  simp_arith
  refine ⟨c2, 0, rfl, ?_⟩
  simp_arith
  refine ⟨ns, 2, rfl, by omega, by omega, hns, fun c2b _ => ?_⟩
  simp_arith
  refine ⟨c2b, 1, rfl, ?_⟩
  simp_arith
  have hz : 0 < mixed c0 0 % 31 + 1 := by omega
  have hj0 : 0 ≤ mixed c2b 1 % (mixed c0 0 % 31 + 1) := Int.emod_nonneg _ (by omega)
  have hj1 := Int.emod_lt_of_pos (mixed c2b 1) hz
  obtain ⟨k, ek⟩ : ∃ k : Nat, mixed c2b 1 % (mixed c0 0 % 31 + 1) = (k : Int) := ⟨(mixed c2b 1 % (mixed c0 0 % 31 + 1)).toNat, by omega⟩
  have hk : k ≤ N := by omega
  dsimp only
  rw [ek]
  clear hj0 hj1 ek hz
  have e0 : rows.map rowL ++ [LV.tup [.str (Str.ofString "own"), .int 0]] = (rows ++ [Row.own 0]).map rowL := by rw [List.map_append]; rfl
  rw [e0]
  obtain ⟨row, erow⟩ : ∃ row, (rows ++ [Row.own 0])[k]? = some row := ⟨_, List.getElem?_eq_getElem (by simp; omega)⟩
  have hrow : RowOk row := by
    rcases List.mem_append.mp (List.mem_of_getElem? erow) with hm | hm
    · exact hok _ hm
    · rw [List.mem_singleton.mp hm]; exact ⟨by decide, by decide⟩
  have erow2 : ((rows ++ [Row.own 0]).map rowL)[k]? = some (rowL row) := by rw [List.getElem?_map, erow]; rfl
  rw [atI_nat erow2]
  simp_arith
  refine ⟨row, _, rfl, hrow, fun b hb => ?_⟩
  have hblk := hb.lok
  simp_arith
  intro Dc hDc
  refine lc_map1 (α := Row) (enc := rowL) hDc (fun r => .str (rowT r)) (fun _ _ => trivial) (by omega) ?_ ?_
  · intro r hr s2 Y ex hY
    simp_arith
    exact ⟨r, rfl, hok r hr, hY⟩
  rw [show (rows.map fun r => LV.str (rowT r)) = (rows.map rowT).map LV.str by rw [List.map_map]; rfl]
  simp_arith
  have htxk : ∀ l ∈ rows.map rowT, LOk l := fun l hl => by
    obtain ⟨r, hr, rfl⟩ := List.mem_map.mp hl
    exact good_lok (hok r hr)
  refine ⟨fun σ' s' => ∃ v3 v5 v6 v7, ∃ tx : List Str, σ' = [some (.scr ns), some (.int (mixed c0 0 % 31)), some (.lst (rows.map rowL)), v3, some (.str t), v5, v6, v7, some (.int (mixed c2 0)), some (.int (k : Nat)), some (.str b), some (.lst (tx.map .str)), none] ∧ s' = s3 ∧ tx ≠ [] ∧ tx.length ≤ 31 ∧ (∀ l ∈ tx, LOk l) ∧ k ≤ tx.length, ?_, ?_⟩
  · simp_arith
    refine ifD (fun hc => ?_) (fun hc => ?_)
    · simp_arith
      refine ⟨_, _, _, _, [Str.ofString "own 3"], rfl, rfl, by simp, by simp, fun l hl => ?_, by simp; omega⟩
      rw [List.mem_singleton.mp hl]
      exact own3_lok
    · simp_arith
      refine ⟨_, _, _, _, rows.map rowT, rfl, rfl, fun z => ?_, by rw [List.length_map]; omega, htxk, by rw [List.length_map]; omega⟩
      have := congrArg List.length z
      rw [List.length_map, List.length_nil] at this
      omega
  rintro σ' s' ⟨v3, v5, v6, v7, tx, rfl, rfl, htn, htl, hto, hkt⟩
  have hnl1 : (Str.ofString "\n").length = 1 := by rw [len_tl, tl_nl]; rfl
  have htlen := htx.2
  simp_arith
  have e1 : t ++ Str.ofString "\n" = Txt.join "\n" (lt ++ [Str.ofString ""]) := by rw [hlt2]; exact join_nl hlt1
  have e2 : Str.ofString "\n" ++ t = Txt.join "\n" (Str.ofString "" :: lt) := by rw [hlt2]; exact nl_join hlt1
  have hlt0 : 1 ≤ lt.length := by
    cases lt with
    | nil => exact absurd rfl hlt1
    | cons a r => simp
  have one : ∀ {ls : List Str}, 2 ≤ ls.length → ls.length ≤ 100 → (∀ l ∈ ls, LOk l) → (∃ l ∈ ls, lineO l = none) → linesO (Txt.join "\n" ls) = ls ∧ (Txt.join "\n" ls).length ≤ 1000000 ∧ ls.length ≤ 10000 ∧ (∀ l ∈ ls, LineOk l) ∧ ∃ l ∈ ls, lineO l = none := fun {ls} h2 hl hk hb => by
    obtain ⟨q1, q2⟩ := ref_join h2 hl hk
    exact ⟨q1, q2, by omega, fun l h => (hk l h).1, hb⟩
  have lk_app : ∀ {a b : List Str}, (∀ l ∈ a, LOk l) → (∀ l ∈ b, LOk l) → ∀ l ∈ a ++ b, LOk l := fun ha hb l hl => (List.mem_append.mp hl).elim (ha l) (hb l)
  have lk_one : ∀ {a : Str}, LOk a → ∀ l ∈ [a], LOk l := fun ha l hl => by rw [List.mem_singleton.mp hl]; exact ha
  rw [e1]
  obtain ⟨a1, a2, a3, a4, a5⟩ := one (ls := lt ++ [Str.ofString ""]) (by simp; omega) (by simp; omega) (lk_app hltk (lk_one badE.lok)) ⟨_, by simp, badE.1⟩
  refine ⟨_, _, rfl, a1, a2, a3, a4, a5, ?_⟩
  clear a1 a2 a3 a4 a5
  simp_arith
  rw [e2]
  obtain ⟨a1, a2, a3, a4, a5⟩ := one (ls := Str.ofString "" :: lt) (by simp; omega) (by simp; omega) (lk_app (a := [Str.ofString ""]) (lk_one badE.lok) hltk) ⟨_, by simp, badE.1⟩
  refine ⟨_, _, rfl, a1, a2, a3, a4, a5, ?_⟩
  clear a1 a2 a3 a4 a5
  simp_arith
  obtain ⟨bh, hbh, hbl, ebh⟩ : ∃ bh : List Str, (∀ l ∈ bh, LOk l) ∧ bh.length ≤ 1 ∧ atI [LV.lst [LV.str (Str.ofString "write 0")], LV.lst []] (mixed c2 0 / 8 % 2) = some (.lst (bh.map .str)) := by
    have h2 : mixed c2 0 / 8 % 2 = 0 ∨ mixed c2 0 / 8 % 2 = 1 := by omega
    rcases h2 with e | e <;> rw [e]
    · exact ⟨[Str.ofString "write 0"], lk_one write0_lok, by simp, rfl⟩
    · exact ⟨[], by simp, by simp, rfl⟩
  rw [ebh]
  simp_arith
  rw [cutL_to, ← List.map_take]
  simp_arith
  have hbk : ∀ l ∈ [b], LOk l := lk_one hblk
  have hx : ∀ l ∈ tx.take k ++ [b] ++ tx.drop k ++ bh, LOk l := lk_app (lk_app (lk_app (fun l hl => hto l (List.mem_of_mem_take hl)) hbk) fun l hl => hto l (List.mem_of_mem_drop hl)) hbh
  have hxl : (tx.take k ++ [b] ++ tx.drop k ++ bh).length = tx.length + 1 + bh.length := by
    simp only [List.length_append, List.length_take, List.length_drop, List.length_cons, List.length_nil]
    omega
  have hy : ∀ l ∈ tx ++ [b], LOk l := lk_app hto hbk
  have htx1 : 1 ≤ tx.length := by
    cases tx with
    | nil => exact absurd rfl htn
    | cons a r => simp
  refine ⟨by simp only [List.length_map, List.length_take, List.length_cons, List.length_nil]; omega, ?_⟩
  simp_arith
  rw [cutL_from, ← List.map_drop]
  simp_arith
  refine ⟨by simp only [List.length_append, List.length_map, List.length_take, List.length_drop, List.length_cons, List.length_nil]; omega, ?_⟩
  simp_arith
  refine ⟨by simp only [List.length_append, List.length_map, List.length_take, List.length_drop, List.length_cons, List.length_nil]; omega, ?_⟩
  have ex1 : (tx.take k).map LV.str ++ [LV.str b] ++ (tx.drop k).map LV.str ++ bh.map LV.str = (tx.take k ++ [b] ++ tx.drop k ++ bh).map LV.str := by simp
  rw [ex1]
  simp_arith [strsOf_map]
  refine ⟨lok_sum hx (by omega), ?_⟩
  obtain ⟨a1, a2, a3, a4, a5⟩ := one (ls := tx.take k ++ [b] ++ tx.drop k ++ bh) (by omega) (by omega) hx ⟨b, by simp, hb.1⟩
  refine ⟨_, _, rfl, a1, a2, a3, a4, a5, ?_⟩
  clear a1 a2 a3 a4 a5
  simp_arith
  refine ⟨by simp only [List.length_map, List.length_cons, List.length_nil]; omega, ?_⟩
  have ex2 : tx.map LV.str ++ [LV.str b] = (tx ++ [b]).map LV.str := by simp
  rw [ex2]
  simp_arith [strsOf_map]
  refine ⟨lok_sum hy (by simp; omega), ?_⟩
  obtain ⟨a1, a2, a3, a4, a5⟩ := one (ls := tx ++ [b]) (by simp; omega) (by simp; omega) hy ⟨b, by simp, hb.1⟩
  refine ⟨_, _, rfl, a1, a2, a3, a4, a5, ?_⟩
  simp_arith
  exact fin sb3 h
end
end Law

namespace Law
open PySem PySem.Spec L2 L3
local macro_rules
  | `(tactic| simp_arith) => `(tactic| ((conv => whnf); repeat ((first | with_reducible refine ifTT ?_ | with_reducible refine ifFF ?_ | with_reducible refine ifnT ?_ | with_reducible refine ifnF ?_ | with_reducible refine ifTr ?_ | with_reducible refine ifFr ?_ | (with_reducible refine And.intro ?_ ?_; · (first | with_reducible rfl | with_reducible exact ⟨rfl, rfl⟩ | decide | omega | (dsimp only; decide) | (dsimp only; omega) | (unfold CDiv; omega) | (unfold CPow; decide) | (unfold CMul; omega) | (simp only [List.length_cons, List.length_nil]; omega)))); conv => whnf)))
local macro_rules
  | `(tactic| simp_arith [$ls,*]) => `(tactic| ((conv => whnf); repeat ((first | with_reducible refine ifTT ?_ | with_reducible refine ifFF ?_ | with_reducible refine ifnT ?_ | with_reducible refine ifnF ?_ | with_reducible refine ifTr ?_ | with_reducible refine ifFr ?_ | (with_reducible refine And.intro ?_ ?_; · (first | with_reducible rfl | with_reducible exact ⟨rfl, rfl⟩ | decide | omega | (dsimp only; decide) | (dsimp only; omega) | (unfold CDiv; omega) | (unfold CPow; decide) | (unfold CMul; omega) | (simp only [List.length_cons, List.length_nil]; omega) | (simp only [Option.isSome_some]; done) | (simp only [meth_ref, put_same', seqL_ref, $ls,*]; first | done | exact ⟨rfl, rfl⟩ | exact ⟨trivial, rfl⟩ | rfl))) | (simp (decide := true) only [put_same', put_put, decF, decT, Bool.not_true, Bool.not_false, putL_nil, putL_cons, if_true, if_false, seqR_ref, seqL_ref, lenL_ref, dicK_ref, dicT_ref, dat_ref, dat_non, dat_bl, dat_int, dat_str, dat_lst, dat_tup, datV_non, datV_bl, datV_int, datV_str, datV_lst, datV_tup, datVs_nil, datVs_cons, tyAt_ref, opt_some, Option.map_some, Option.bind_some, dv_ints, dv_bls, dv_nms, dv_prs, dv_nm, dt_nm, dt_pr, dv_pr, sh_int, sh_bl, sh_none, sh_nil, eqv_nil, sh_ints, sh_bls, sh_nm, sh_nms, sh_pr, sh_prs, anyI, anyN, anyP, eqv_int, eqv_bl, eqv_ints, eqv_bls, eqv_nms, eqv_prs, eqv_nm, eqv_pr, $ls,*])); conv => whnf)))

theorem all_mk {P : Program} {w : World} {K : PySem.W.Frag} {h : Heap} {mg : Str → Option Value} {fa : Addr} (X : K.In h) (G : h.Ns mainGlobals mg) (hfa : mg "law" = some (.ref fa))
    {c_WeaveError c_NoPoint c_NoHand c_NoLetter c_NoText c_NoRow f_number_in f_row_shown f_rows_shown f_row_of f_read_rows f_law_cell_at f_law_mixed f_law_number f_law_row f_law_text f_law_bad f_law_refused f_law_same f_law : Addr}
    {oV_number_in kV_number_in dV_number_in pV_number_in cV_number_in tV_number_in : Value}
    {oA_number_in aA_number_in : Option Addr}
    {sl_number_in : Array (Option Value)}
    {oV_row_shown kV_row_shown dV_row_shown pV_row_shown cV_row_shown tV_row_shown : Value}
    {oA_row_shown aA_row_shown : Option Addr}
    {sl_row_shown : Array (Option Value)}
    {oV_rows_shown kV_rows_shown dV_rows_shown pV_rows_shown cV_rows_shown tV_rows_shown : Value}
    {oA_rows_shown aA_rows_shown : Option Addr}
    {sl_rows_shown : Array (Option Value)}
    {oV_row_of kV_row_of dV_row_of pV_row_of cV_row_of tV_row_of : Value}
    {oA_row_of aA_row_of : Option Addr}
    {sl_row_of : Array (Option Value)}
    {oV_read_rows kV_read_rows dV_read_rows pV_read_rows cV_read_rows tV_read_rows : Value}
    {oA_read_rows aA_read_rows : Option Addr}
    {sl_read_rows : Array (Option Value)}
    {oV_law_cell_at kV_law_cell_at dV_law_cell_at pV_law_cell_at cV_law_cell_at tV_law_cell_at : Value}
    {oA_law_cell_at aA_law_cell_at : Option Addr}
    {sl_law_cell_at : Array (Option Value)}
    {oV_law_mixed kV_law_mixed dV_law_mixed pV_law_mixed cV_law_mixed tV_law_mixed : Value}
    {oA_law_mixed aA_law_mixed : Option Addr}
    {sl_law_mixed : Array (Option Value)}
    {oV_law_number kV_law_number dV_law_number pV_law_number cV_law_number tV_law_number : Value}
    {oA_law_number aA_law_number : Option Addr}
    {sl_law_number : Array (Option Value)}
    {oV_law_row kV_law_row dV_law_row pV_law_row cV_law_row tV_law_row : Value}
    {oA_law_row aA_law_row : Option Addr}
    {sl_law_row : Array (Option Value)}
    {oV_law_text kV_law_text dV_law_text pV_law_text cV_law_text tV_law_text : Value}
    {oA_law_text aA_law_text : Option Addr}
    {sl_law_text : Array (Option Value)}
    {oV_law_bad kV_law_bad dV_law_bad pV_law_bad cV_law_bad tV_law_bad : Value}
    {oA_law_bad aA_law_bad : Option Addr}
    {sl_law_bad : Array (Option Value)}
    {oV_law_refused kV_law_refused dV_law_refused pV_law_refused cV_law_refused tV_law_refused : Value}
    {oA_law_refused aA_law_refused : Option Addr}
    {sl_law_refused : Array (Option Value)}
    {oV_law_same kV_law_same dV_law_same pV_law_same cV_law_same tV_law_same : Value}
    {oA_law_same aA_law_same : Option Addr}
    {sl_law_same : Array (Option Value)}
    {oV_law kV_law dV_law pV_law cV_law tV_law : Value}
    {oA_law aA_law : Option Addr}
    {sl_law : Array (Option Value)}
    {tk_FIGURES : Tok}
    (a_WeaveError : PySem.W.nsIn K mainGlobals "WeaveError" = some (some (.ref c_WeaveError)))
    (a_NoPoint : PySem.W.nsIn K mainGlobals "NoPoint" = some (some (.ref c_NoPoint)))
    (a_NoHand : PySem.W.nsIn K mainGlobals "NoHand" = some (some (.ref c_NoHand)))
    (a_NoLetter : PySem.W.nsIn K mainGlobals "NoLetter" = some (some (.ref c_NoLetter)))
    (a_NoText : PySem.W.nsIn K mainGlobals "NoText" = some (some (.ref c_NoText)))
    (a_NoRow : PySem.W.nsIn K mainGlobals "NoRow" = some (some (.ref c_NoRow)))
    (a_law : PySem.W.nsIn K mainGlobals "law" = some (some (.ref f_law)))
    (a_law_same : PySem.W.nsIn K mainGlobals "_law_same" = some (some (.ref f_law_same)))
    (a_law_refused : PySem.W.nsIn K mainGlobals "_law_refused" = some (some (.ref f_law_refused)))
    (a_law_bad : PySem.W.nsIn K mainGlobals "_law_bad" = some (some (.ref f_law_bad)))
    (a_law_text : PySem.W.nsIn K mainGlobals "_law_text" = some (some (.ref f_law_text)))
    (a_law_row : PySem.W.nsIn K mainGlobals "_law_row" = some (some (.ref f_law_row)))
    (a_law_number : PySem.W.nsIn K mainGlobals "_law_number" = some (some (.ref f_law_number)))
    (a_law_mixed : PySem.W.nsIn K mainGlobals "_law_mixed" = some (some (.ref f_law_mixed)))
    (a_law_cell_at : PySem.W.nsIn K mainGlobals "_law_cell_at" = some (some (.ref f_law_cell_at)))
    (a_read_rows : PySem.W.nsIn K mainGlobals "read_rows" = some (some (.ref f_read_rows)))
    (a_row_of : PySem.W.nsIn K mainGlobals "row_of" = some (some (.ref f_row_of)))
    (a_rows_shown : PySem.W.nsIn K mainGlobals "rows_shown" = some (some (.ref f_rows_shown)))
    (a_row_shown : PySem.W.nsIn K mainGlobals "row_shown" = some (some (.ref f_row_shown)))
    (a_number_in : PySem.W.nsIn K mainGlobals "number_in" = some (some (.ref f_number_in)))
    (l_number_in : K.lookup f_number_in = some ⟨oV_number_in, oA_number_in, .func (PySem.W.fnOf "number_in" "number_in" (defArgs s_number_in) (defBody s_number_in) (defScope s_number_in) .none kV_number_in dV_number_in pV_number_in aA_number_in cV_number_in tV_number_in), sl_number_in⟩)
    (c_number_in : PySem.W.codeIn K cV_number_in "number_in" = true)
    (k_number_in : PySem.W.keepIn K (.ref f_number_in) = true)
    (l_row_shown : K.lookup f_row_shown = some ⟨oV_row_shown, oA_row_shown, .func (PySem.W.fnOf "row_shown" "row_shown" (defArgs s_row_shown) (defBody s_row_shown) (defScope s_row_shown) .none kV_row_shown dV_row_shown pV_row_shown aA_row_shown cV_row_shown tV_row_shown), sl_row_shown⟩)
    (c_row_shown : PySem.W.codeIn K cV_row_shown "row_shown" = true)
    (k_row_shown : PySem.W.keepIn K (.ref f_row_shown) = true)
    (l_rows_shown : K.lookup f_rows_shown = some ⟨oV_rows_shown, oA_rows_shown, .func (PySem.W.fnOf "rows_shown" "rows_shown" (defArgs s_rows_shown) (defBody s_rows_shown) (defScope s_rows_shown) .none kV_rows_shown dV_rows_shown pV_rows_shown aA_rows_shown cV_rows_shown tV_rows_shown), sl_rows_shown⟩)
    (c_rows_shown : PySem.W.codeIn K cV_rows_shown "rows_shown" = true)
    (k_rows_shown : PySem.W.keepIn K (.ref f_rows_shown) = true)
    (l_row_of : K.lookup f_row_of = some ⟨oV_row_of, oA_row_of, .func (PySem.W.fnOf "row_of" "row_of" (defArgs s_row_of) (defBody s_row_of) (defScope s_row_of) .none kV_row_of dV_row_of pV_row_of aA_row_of cV_row_of tV_row_of), sl_row_of⟩)
    (c_row_of : PySem.W.codeIn K cV_row_of "row_of" = true)
    (k_row_of : PySem.W.keepIn K (.ref f_row_of) = true)
    (l_read_rows : K.lookup f_read_rows = some ⟨oV_read_rows, oA_read_rows, .func (PySem.W.fnOf "read_rows" "read_rows" (defArgs s_read_rows) (defBody s_read_rows) (defScope s_read_rows) .none kV_read_rows dV_read_rows pV_read_rows aA_read_rows cV_read_rows tV_read_rows), sl_read_rows⟩)
    (c_read_rows : PySem.W.codeIn K cV_read_rows "read_rows" = true)
    (k_read_rows : PySem.W.keepIn K (.ref f_read_rows) = true)
    (l_law_cell_at : K.lookup f_law_cell_at = some ⟨oV_law_cell_at, oA_law_cell_at, .func (PySem.W.fnOf "_law_cell_at" "_law_cell_at" (defArgs s_law_cell_at) (defBody s_law_cell_at) (defScope s_law_cell_at) .none kV_law_cell_at dV_law_cell_at pV_law_cell_at aA_law_cell_at cV_law_cell_at tV_law_cell_at), sl_law_cell_at⟩)
    (c_law_cell_at : PySem.W.codeIn K cV_law_cell_at "_law_cell_at" = true)
    (k_law_cell_at : PySem.W.keepIn K (.ref f_law_cell_at) = true)
    (l_law_mixed : K.lookup f_law_mixed = some ⟨oV_law_mixed, oA_law_mixed, .func (PySem.W.fnOf "_law_mixed" "_law_mixed" (defArgs s_law_mixed) (defBody s_law_mixed) (defScope s_law_mixed) .none kV_law_mixed dV_law_mixed pV_law_mixed aA_law_mixed cV_law_mixed tV_law_mixed), sl_law_mixed⟩)
    (c_law_mixed : PySem.W.codeIn K cV_law_mixed "_law_mixed" = true)
    (k_law_mixed : PySem.W.keepIn K (.ref f_law_mixed) = true)
    (l_law_number : K.lookup f_law_number = some ⟨oV_law_number, oA_law_number, .func (PySem.W.fnOf "_law_number" "_law_number" (defArgs s_law_number) (defBody s_law_number) (defScope s_law_number) .none kV_law_number dV_law_number pV_law_number aA_law_number cV_law_number tV_law_number), sl_law_number⟩)
    (c_law_number : PySem.W.codeIn K cV_law_number "_law_number" = true)
    (k_law_number : PySem.W.keepIn K (.ref f_law_number) = true)
    (l_law_row : K.lookup f_law_row = some ⟨oV_law_row, oA_law_row, .func (PySem.W.fnOf "_law_row" "_law_row" (defArgs s_law_row) (defBody s_law_row) (defScope s_law_row) .none kV_law_row dV_law_row pV_law_row aA_law_row cV_law_row tV_law_row), sl_law_row⟩)
    (c_law_row : PySem.W.codeIn K cV_law_row "_law_row" = true)
    (k_law_row : PySem.W.keepIn K (.ref f_law_row) = true)
    (l_law_text : K.lookup f_law_text = some ⟨oV_law_text, oA_law_text, .func (PySem.W.fnOf "_law_text" "_law_text" (defArgs s_law_text) (defBody s_law_text) (defScope s_law_text) .none kV_law_text dV_law_text pV_law_text aA_law_text cV_law_text tV_law_text), sl_law_text⟩)
    (c_law_text : PySem.W.codeIn K cV_law_text "_law_text" = true)
    (k_law_text : PySem.W.keepIn K (.ref f_law_text) = true)
    (l_law_bad : K.lookup f_law_bad = some ⟨oV_law_bad, oA_law_bad, .func (PySem.W.fnOf "_law_bad" "_law_bad" (defArgs s_law_bad) (defBody s_law_bad) (defScope s_law_bad) .none kV_law_bad dV_law_bad pV_law_bad aA_law_bad cV_law_bad tV_law_bad), sl_law_bad⟩)
    (c_law_bad : PySem.W.codeIn K cV_law_bad "_law_bad" = true)
    (k_law_bad : PySem.W.keepIn K (.ref f_law_bad) = true)
    (l_law_refused : K.lookup f_law_refused = some ⟨oV_law_refused, oA_law_refused, .func (PySem.W.fnOf "_law_refused" "_law_refused" (defArgs s_law_refused) (defBody s_law_refused) (defScope s_law_refused) .none kV_law_refused dV_law_refused pV_law_refused aA_law_refused cV_law_refused tV_law_refused), sl_law_refused⟩)
    (c_law_refused : PySem.W.codeIn K cV_law_refused "_law_refused" = true)
    (k_law_refused : PySem.W.keepIn K (.ref f_law_refused) = true)
    (l_law_same : K.lookup f_law_same = some ⟨oV_law_same, oA_law_same, .func (PySem.W.fnOf "_law_same" "_law_same" (defArgs s_law_same) (defBody s_law_same) (defScope s_law_same) .none kV_law_same dV_law_same pV_law_same aA_law_same cV_law_same tV_law_same), sl_law_same⟩)
    (c_law_same : PySem.W.codeIn K cV_law_same "_law_same" = true)
    (k_law_same : PySem.W.keepIn K (.ref f_law_same) = true)
    (l_law : K.lookup f_law = some ⟨oV_law, oA_law, .func (PySem.W.fnOf "law" "law" (defArgs s_law) (defBody s_law) (defScope s_law) .none kV_law dV_law pV_law aA_law cV_law tV_law), sl_law⟩)
    (c_law : PySem.W.codeIn K cV_law "law" = true)
    (k_law : PySem.W.keepIn K (.ref f_law) = true)
    (gs : PySem.W.specialIn K (.builtin "object.__class__") "__get__" = some (some (.builtin "getset_descriptor.__get__")))
    (tk : PySem.W.takesIn K (.builtin "object.__class__") = some true)
    (g_FIGURES : PySem.W.nsIn K mainGlobals "FIGURES" = some (some (.str "0123456789" tk_FIGURES)))
    (b_ValueError : PySem.W.nsIn K mainGlobals "ValueError" = some none)
    (b_any : PySem.W.nsIn K mainGlobals "any" = some none)
    (b_bool : PySem.W.nsIn K mainGlobals "bool" = some none)
    (b_int : PySem.W.nsIn K mainGlobals "int" = some none)
    (b_isinstance : PySem.W.nsIn K mainGlobals "isinstance" = some none)
    (b_len : PySem.W.nsIn K mainGlobals "len" = some none)
    (b_list : PySem.W.nsIn K mainGlobals "list" = some none)
    (b_range : PySem.W.nsIn K mainGlobals "range" = some none)
    (b_str : PySem.W.nsIn K mainGlobals "str" = some none)
    (b_tuple : PySem.W.nsIn K mainGlobals "tuple" = some none)
    (xP_WeaveError : PySem.W.excIn K c_WeaveError [.type "ValueError", .type "Exception", .type "BaseException", .type "object"] "ValueError.__new__" = true)
    (kP_WeaveError : PySem.W.keepIn K (.ref c_WeaveError) = true)
    (bP_WeaveError : PySem.W.subIn K (.ref c_WeaveError) (.type "BaseException") = some true)
    (tP_WeaveError : PySem.W.typeIn K (.ref c_WeaveError) = some (.type "type"))
    (dP_WeaveError : PySem.W.hasDictIn K c_WeaveError = true)
    (hg_WeaveError : PySem.W.findIn K (.ref c_WeaveError) "__getattribute__" = some (some (.builtin "BaseException.__getattribute__")))
    (hk_WeaveError : PySem.W.findIn K (.ref c_WeaveError) "__getattr__" = some none)
    (he_WeaveError : PySem.W.findIn K (.ref c_WeaveError) "__class__" = some (some (.builtin "object.__class__")))
    (hm_WeaveError : PySem.W.mroIn K c_WeaveError (.type "object") = some true)
    (xP_NoPoint : PySem.W.excIn K c_NoPoint [.type "ValueError", .type "Exception", .type "BaseException", .type "object"] "ValueError.__new__" = true)
    (kP_NoPoint : PySem.W.keepIn K (.ref c_NoPoint) = true)
    (bP_NoPoint : PySem.W.subIn K (.ref c_NoPoint) (.type "BaseException") = some true)
    (tP_NoPoint : PySem.W.typeIn K (.ref c_NoPoint) = some (.type "type"))
    (dP_NoPoint : PySem.W.hasDictIn K c_NoPoint = true)
    (hg_NoPoint : PySem.W.findIn K (.ref c_NoPoint) "__getattribute__" = some (some (.builtin "BaseException.__getattribute__")))
    (hk_NoPoint : PySem.W.findIn K (.ref c_NoPoint) "__getattr__" = some none)
    (he_NoPoint : PySem.W.findIn K (.ref c_NoPoint) "__class__" = some (some (.builtin "object.__class__")))
    (hm_NoPoint : PySem.W.mroIn K c_NoPoint (.type "object") = some true)
    (xP_NoHand : PySem.W.excIn K c_NoHand [.type "ValueError", .type "Exception", .type "BaseException", .type "object"] "ValueError.__new__" = true)
    (kP_NoHand : PySem.W.keepIn K (.ref c_NoHand) = true)
    (bP_NoHand : PySem.W.subIn K (.ref c_NoHand) (.type "BaseException") = some true)
    (tP_NoHand : PySem.W.typeIn K (.ref c_NoHand) = some (.type "type"))
    (dP_NoHand : PySem.W.hasDictIn K c_NoHand = true)
    (hg_NoHand : PySem.W.findIn K (.ref c_NoHand) "__getattribute__" = some (some (.builtin "BaseException.__getattribute__")))
    (hk_NoHand : PySem.W.findIn K (.ref c_NoHand) "__getattr__" = some none)
    (he_NoHand : PySem.W.findIn K (.ref c_NoHand) "__class__" = some (some (.builtin "object.__class__")))
    (hm_NoHand : PySem.W.mroIn K c_NoHand (.type "object") = some true)
    (xP_NoLetter : PySem.W.excIn K c_NoLetter [.type "ValueError", .type "Exception", .type "BaseException", .type "object"] "ValueError.__new__" = true)
    (kP_NoLetter : PySem.W.keepIn K (.ref c_NoLetter) = true)
    (bP_NoLetter : PySem.W.subIn K (.ref c_NoLetter) (.type "BaseException") = some true)
    (tP_NoLetter : PySem.W.typeIn K (.ref c_NoLetter) = some (.type "type"))
    (dP_NoLetter : PySem.W.hasDictIn K c_NoLetter = true)
    (hg_NoLetter : PySem.W.findIn K (.ref c_NoLetter) "__getattribute__" = some (some (.builtin "BaseException.__getattribute__")))
    (hk_NoLetter : PySem.W.findIn K (.ref c_NoLetter) "__getattr__" = some none)
    (he_NoLetter : PySem.W.findIn K (.ref c_NoLetter) "__class__" = some (some (.builtin "object.__class__")))
    (hm_NoLetter : PySem.W.mroIn K c_NoLetter (.type "object") = some true)
    (xP_NoText : PySem.W.excIn K c_NoText [.type "ValueError", .type "Exception", .type "BaseException", .type "object"] "ValueError.__new__" = true)
    (kP_NoText : PySem.W.keepIn K (.ref c_NoText) = true)
    (bP_NoText : PySem.W.subIn K (.ref c_NoText) (.type "BaseException") = some true)
    (tP_NoText : PySem.W.typeIn K (.ref c_NoText) = some (.type "type"))
    (dP_NoText : PySem.W.hasDictIn K c_NoText = true)
    (hg_NoText : PySem.W.findIn K (.ref c_NoText) "__getattribute__" = some (some (.builtin "BaseException.__getattribute__")))
    (hk_NoText : PySem.W.findIn K (.ref c_NoText) "__getattr__" = some none)
    (he_NoText : PySem.W.findIn K (.ref c_NoText) "__class__" = some (some (.builtin "object.__class__")))
    (hm_NoText : PySem.W.mroIn K c_NoText (.type "object") = some true)
    (xP_NoRow : PySem.W.excIn K c_NoRow [.type "ValueError", .type "Exception", .type "BaseException", .type "object"] "ValueError.__new__" = true)
    (kP_NoRow : PySem.W.keepIn K (.ref c_NoRow) = true)
    (bP_NoRow : PySem.W.subIn K (.ref c_NoRow) (.type "BaseException") = some true)
    (tP_NoRow : PySem.W.typeIn K (.ref c_NoRow) = some (.type "type"))
    (dP_NoRow : PySem.W.hasDictIn K c_NoRow = true)
    (hg_NoRow : PySem.W.findIn K (.ref c_NoRow) "__getattribute__" = some (some (.builtin "BaseException.__getattribute__")))
    (hk_NoRow : PySem.W.findIn K (.ref c_NoRow) "__getattr__" = some none)
    (he_NoRow : PySem.W.findIn K (.ref c_NoRow) "__class__" = some (some (.builtin "object.__class__")))
    (hm_NoRow : PySem.W.mroIn K c_NoRow (.type "object") = some true)
    (xm_NoText_WeaveError : PySem.W.subIn K (.ref c_NoText) (.ref c_WeaveError) = some true)
    (ks_NoText_NoHand : PySem.W.subIn K (.ref c_NoText) (.ref c_NoHand) = some false)
    (k0_NoHand : PySem.W.subIn K (.ref c_NoHand) (.ref c_NoHand) = some true)
    (ks_NoText_NoLetter : PySem.W.subIn K (.ref c_NoText) (.ref c_NoLetter) = some false)
    (k0_NoLetter : PySem.W.subIn K (.ref c_NoLetter) (.ref c_NoLetter) = some true)
    (ks_NoText_NoPoint : PySem.W.subIn K (.ref c_NoText) (.ref c_NoPoint) = some false)
    (k0_NoPoint : PySem.W.subIn K (.ref c_NoPoint) (.ref c_NoPoint) = some true)
    (ks_NoText_NoRow : PySem.W.subIn K (.ref c_NoText) (.ref c_NoRow) = some false)
    (k0_NoRow : PySem.W.subIn K (.ref c_NoRow) (.ref c_NoRow) = some true)
    (ks_NoText_NoText : PySem.W.subIn K (.ref c_NoText) (.ref c_NoText) = some true)
    (k0_NoText : PySem.W.subIn K (.ref c_NoText) (.ref c_NoText) = some true)
    (ks_NoText_ValueError : PySem.W.subIn K (.ref c_NoText) (.type "ValueError") = some true)
    : ∃ (fd : FuncData) (ts : List (Addr × Addr × Str)), (ts.map (·.2.1)).Nodup ∧ (∀ p ∈ ts, h.get? p.2.1 = some { cls := .none, data := .fields #[] } ∧ K.lookup p.2.1 = none ∧ PySem.W.codeHdIn K p.1 p.2.1 = true) ∧ (∀ (s : Shared) (v : Value), BindsTo s fd ⟨[v], []⟩ [("_law_script", v)]) ∧
      ∀ base : Heap, K.In base → base.Ns mainGlobals mg → (∀ p ∈ ts, LamX.TabB base mg p.1 p.2.1) → @LFn P w K (noGG K) mg base 5 fa fd ["_law_script"] (spLaw (ts.map (·.2))) := by
  obtain rfl : f_law = fa := by have e := hfa.symm.trans (PySem.W.mg_of X G a_law); exact (Value.ref.inj (Option.some.inj e)).symm
  have T : Txt K mg ⟨c_WeaveError, c_NoPoint, c_NoHand, c_NoLetter, c_NoText, c_NoRow, f_number_in, f_row_shown, f_rows_shown, f_row_of, f_read_rows, f_law_cell_at, f_law_mixed, f_law_number, f_law_row, f_law_text, f_law_bad, f_law_refused, f_law_same, f_law⟩ ⟨PySem.W.fnOf "number_in" "number_in" (defArgs s_number_in) (defBody s_number_in) (defScope s_number_in) .none kV_number_in dV_number_in pV_number_in aA_number_in cV_number_in tV_number_in,
      PySem.W.fnOf "row_shown" "row_shown" (defArgs s_row_shown) (defBody s_row_shown) (defScope s_row_shown) .none kV_row_shown dV_row_shown pV_row_shown aA_row_shown cV_row_shown tV_row_shown,
      PySem.W.fnOf "rows_shown" "rows_shown" (defArgs s_rows_shown) (defBody s_rows_shown) (defScope s_rows_shown) .none kV_rows_shown dV_rows_shown pV_rows_shown aA_rows_shown cV_rows_shown tV_rows_shown,
      PySem.W.fnOf "row_of" "row_of" (defArgs s_row_of) (defBody s_row_of) (defScope s_row_of) .none kV_row_of dV_row_of pV_row_of aA_row_of cV_row_of tV_row_of,
      PySem.W.fnOf "read_rows" "read_rows" (defArgs s_read_rows) (defBody s_read_rows) (defScope s_read_rows) .none kV_read_rows dV_read_rows pV_read_rows aA_read_rows cV_read_rows tV_read_rows,
      PySem.W.fnOf "_law_cell_at" "_law_cell_at" (defArgs s_law_cell_at) (defBody s_law_cell_at) (defScope s_law_cell_at) .none kV_law_cell_at dV_law_cell_at pV_law_cell_at aA_law_cell_at cV_law_cell_at tV_law_cell_at,
      PySem.W.fnOf "_law_mixed" "_law_mixed" (defArgs s_law_mixed) (defBody s_law_mixed) (defScope s_law_mixed) .none kV_law_mixed dV_law_mixed pV_law_mixed aA_law_mixed cV_law_mixed tV_law_mixed,
      PySem.W.fnOf "_law_number" "_law_number" (defArgs s_law_number) (defBody s_law_number) (defScope s_law_number) .none kV_law_number dV_law_number pV_law_number aA_law_number cV_law_number tV_law_number,
      PySem.W.fnOf "_law_row" "_law_row" (defArgs s_law_row) (defBody s_law_row) (defScope s_law_row) .none kV_law_row dV_law_row pV_law_row aA_law_row cV_law_row tV_law_row,
      PySem.W.fnOf "_law_text" "_law_text" (defArgs s_law_text) (defBody s_law_text) (defScope s_law_text) .none kV_law_text dV_law_text pV_law_text aA_law_text cV_law_text tV_law_text,
      PySem.W.fnOf "_law_bad" "_law_bad" (defArgs s_law_bad) (defBody s_law_bad) (defScope s_law_bad) .none kV_law_bad dV_law_bad pV_law_bad aA_law_bad cV_law_bad tV_law_bad,
      PySem.W.fnOf "_law_refused" "_law_refused" (defArgs s_law_refused) (defBody s_law_refused) (defScope s_law_refused) .none kV_law_refused dV_law_refused pV_law_refused aA_law_refused cV_law_refused tV_law_refused,
      PySem.W.fnOf "_law_same" "_law_same" (defArgs s_law_same) (defBody s_law_same) (defScope s_law_same) .none kV_law_same dV_law_same pV_law_same aA_law_same cV_law_same tV_law_same,
      PySem.W.fnOf "law" "law" (defArgs s_law) (defBody s_law) (defScope s_law) .none kV_law dV_law pV_law aA_law cV_law tV_law⟩ :=
    { F_number_in := fun_mk (st := s_number_in) l_number_in c_number_in k_number_in,
      q_number_in := (fun_mk (st := s_number_in) l_number_in c_number_in k_number_in).binds (ps := ["word", "most"]) fun _ _ _ _ _ _ us hl => match us, hl with | [_, _], _ => rfl,
      m_number_in := PySem.W.mg_of X G a_number_in,
      k_number_in := k_number_in,
      F_row_shown := fun_mk (st := s_row_shown) l_row_shown c_row_shown k_row_shown,
      q_row_shown := (fun_mk (st := s_row_shown) l_row_shown c_row_shown k_row_shown).binds (ps := ["row"]) fun _ _ _ _ _ _ us hl => match us, hl with | [_], _ => rfl,
      m_row_shown := PySem.W.mg_of X G a_row_shown,
      k_row_shown := k_row_shown,
      F_rows_shown := fun_mk (st := s_rows_shown) l_rows_shown c_rows_shown k_rows_shown,
      q_rows_shown := (fun_mk (st := s_rows_shown) l_rows_shown c_rows_shown k_rows_shown).binds (ps := ["rows"]) fun _ _ _ _ _ _ us hl => match us, hl with | [_], _ => rfl,
      m_rows_shown := PySem.W.mg_of X G a_rows_shown,
      k_rows_shown := k_rows_shown,
      F_row_of := fun_mk (st := s_row_of) l_row_of c_row_of k_row_of,
      q_row_of := (fun_mk (st := s_row_of) l_row_of c_row_of k_row_of).binds (ps := ["text"]) fun _ _ _ _ _ _ us hl => match us, hl with | [_], _ => rfl,
      m_row_of := PySem.W.mg_of X G a_row_of,
      k_row_of := k_row_of,
      F_read_rows := fun_mk (st := s_read_rows) l_read_rows c_read_rows k_read_rows,
      q_read_rows := (fun_mk (st := s_read_rows) l_read_rows c_read_rows k_read_rows).binds (ps := ["text"]) fun _ _ _ _ _ _ us hl => match us, hl with | [_], _ => rfl,
      m_read_rows := PySem.W.mg_of X G a_read_rows,
      k_read_rows := k_read_rows,
      F_law_cell_at := fun_mk (st := s_law_cell_at) l_law_cell_at c_law_cell_at k_law_cell_at,
      q_law_cell_at := (fun_mk (st := s_law_cell_at) l_law_cell_at c_law_cell_at k_law_cell_at).binds (ps := ["_law_script", "_law_k"]) fun _ _ _ _ _ _ us hl => match us, hl with | [_, _], _ => rfl,
      m_law_cell_at := PySem.W.mg_of X G a_law_cell_at,
      k_law_cell_at := k_law_cell_at,
      F_law_mixed := fun_mk (st := s_law_mixed) l_law_mixed c_law_mixed k_law_mixed,
      q_law_mixed := (fun_mk (st := s_law_mixed) l_law_mixed c_law_mixed k_law_mixed).binds (ps := ["_law_cell", "_law_k"]) fun _ _ _ _ _ _ us hl => match us, hl with | [_, _], _ => rfl,
      m_law_mixed := PySem.W.mg_of X G a_law_mixed,
      k_law_mixed := k_law_mixed,
      F_law_number := fun_mk (st := s_law_number) l_law_number c_law_number k_law_number,
      q_law_number := (fun_mk (st := s_law_number) l_law_number c_law_number k_law_number).binds (ps := ["_law_number_here"]) fun _ _ _ _ _ _ us hl => match us, hl with | [_], _ => rfl,
      m_law_number := PySem.W.mg_of X G a_law_number,
      k_law_number := k_law_number,
      F_law_row := fun_mk (st := s_law_row) l_law_row c_law_row k_law_row,
      q_law_row := (fun_mk (st := s_law_row) l_law_row c_law_row k_law_row).binds (ps := ["_law_cell", "_law_k"]) fun _ _ _ _ _ _ us hl => match us, hl with | [_, _], _ => rfl,
      m_law_row := PySem.W.mg_of X G a_law_row,
      k_law_row := k_law_row,
      F_law_text := fun_mk (st := s_law_text) l_law_text c_law_text k_law_text,
      q_law_text := (fun_mk (st := s_law_text) l_law_text c_law_text k_law_text).binds (ps := ["_law_row_here"]) fun _ _ _ _ _ _ us hl => match us, hl with | [_], _ => rfl,
      m_law_text := PySem.W.mg_of X G a_law_text,
      k_law_text := k_law_text,
      F_law_bad := fun_mk (st := s_law_bad) l_law_bad c_law_bad k_law_bad,
      q_law_bad := (fun_mk (st := s_law_bad) l_law_bad c_law_bad k_law_bad).binds (ps := ["_law_row_here", "_law_number_here"]) fun _ _ _ _ _ _ us hl => match us, hl with | [_, _], _ => rfl,
      m_law_bad := PySem.W.mg_of X G a_law_bad,
      k_law_bad := k_law_bad,
      F_law_refused := fun_mk (st := s_law_refused) l_law_refused c_law_refused k_law_refused,
      q_law_refused := (fun_mk (st := s_law_refused) l_law_refused c_law_refused k_law_refused).binds (ps := ["_law_text_here"]) fun _ _ _ _ _ _ us hl => match us, hl with | [_], _ => rfl,
      m_law_refused := PySem.W.mg_of X G a_law_refused,
      k_law_refused := k_law_refused,
      F_law_same := fun_mk (st := s_law_same) l_law_same c_law_same k_law_same,
      q_law_same := (fun_mk (st := s_law_same) l_law_same c_law_same k_law_same).binds (ps := ["_law_found", "_law_rows"]) fun _ _ _ _ _ _ us hl => match us, hl with | [_, _], _ => rfl,
      m_law_same := PySem.W.mg_of X G a_law_same,
      k_law_same := k_law_same,
      F_law := fun_mk (st := s_law) l_law c_law k_law,
      q_law := (fun_mk (st := s_law) l_law c_law k_law).binds (ps := ["_law_script"]) fun _ _ _ _ _ _ us hl => match us, hl with | [_], _ => rfl,
      m_law := PySem.W.mg_of X G a_law,
      k_law := k_law,
      g_FIGURES := ⟨_, PySem.W.mg_of X G g_FIGURES⟩,
      b_ValueError := PySem.W.mg_none_of X G b_ValueError,
      b_any := PySem.W.mg_none_of X G b_any,
      b_bool := PySem.W.mg_none_of X G b_bool,
      b_int := PySem.W.mg_none_of X G b_int,
      b_isinstance := PySem.W.mg_none_of X G b_isinstance,
      b_len := PySem.W.mg_none_of X G b_len,
      b_list := PySem.W.mg_none_of X G b_list,
      b_range := PySem.W.mg_none_of X G b_range,
      b_str := PySem.W.mg_none_of X G b_str,
      b_tuple := PySem.W.mg_none_of X G b_tuple,
      x_WeaveError := ⟨xP_WeaveError, PySem.W.mg_of X G a_WeaveError, kP_WeaveError, bP_WeaveError, tP_WeaveError⟩,
      e_WeaveError := ⟨hg_WeaveError, hk_WeaveError, bP_WeaveError, dP_WeaveError, he_WeaveError, gs, tk, hm_WeaveError⟩,
      x_NoPoint := ⟨xP_NoPoint, PySem.W.mg_of X G a_NoPoint, kP_NoPoint, bP_NoPoint, tP_NoPoint⟩,
      e_NoPoint := ⟨hg_NoPoint, hk_NoPoint, bP_NoPoint, dP_NoPoint, he_NoPoint, gs, tk, hm_NoPoint⟩,
      x_NoHand := ⟨xP_NoHand, PySem.W.mg_of X G a_NoHand, kP_NoHand, bP_NoHand, tP_NoHand⟩,
      e_NoHand := ⟨hg_NoHand, hk_NoHand, bP_NoHand, dP_NoHand, he_NoHand, gs, tk, hm_NoHand⟩,
      x_NoLetter := ⟨xP_NoLetter, PySem.W.mg_of X G a_NoLetter, kP_NoLetter, bP_NoLetter, tP_NoLetter⟩,
      e_NoLetter := ⟨hg_NoLetter, hk_NoLetter, bP_NoLetter, dP_NoLetter, he_NoLetter, gs, tk, hm_NoLetter⟩,
      x_NoText := ⟨xP_NoText, PySem.W.mg_of X G a_NoText, kP_NoText, bP_NoText, tP_NoText⟩,
      e_NoText := ⟨hg_NoText, hk_NoText, bP_NoText, dP_NoText, he_NoText, gs, tk, hm_NoText⟩,
      x_NoRow := ⟨xP_NoRow, PySem.W.mg_of X G a_NoRow, kP_NoRow, bP_NoRow, tP_NoRow⟩,
      e_NoRow := ⟨hg_NoRow, hk_NoRow, bP_NoRow, dP_NoRow, he_NoRow, gs, tk, hm_NoRow⟩,
      xm_NoText_WeaveError := PySem.W.exm_ref bP_WeaveError dP_WeaveError tP_WeaveError xm_NoText_WeaveError,
      kt_NoText_NoHand := kit_ref dP_NoHand tP_NoHand k0_NoHand ks_NoText_NoHand,
      kt_NoText_NoLetter := kit_ref dP_NoLetter tP_NoLetter k0_NoLetter ks_NoText_NoLetter,
      kt_NoText_NoPoint := kit_ref dP_NoPoint tP_NoPoint k0_NoPoint ks_NoText_NoPoint,
      kt_NoText_NoRow := kit_ref dP_NoRow tP_NoRow k0_NoRow ks_NoText_NoRow,
      kt_NoText_NoText := kit_ref dP_NoText tP_NoText k0_NoText ks_NoText_NoText,
      kt_NoText_ValueError := kit_rty (by decide +kernel) ks_NoText_ValueError,
      kt_list_list := kit_ty (by decide +kernel),
      kt_tuple_tuple := kit_ty (by decide +kernel),
      kt_int_bool := kit_ty (by decide +kernel) }
  refine ⟨PySem.W.fnOf "law" "law" (defArgs s_law) (defBody s_law) (defScope s_law) .none kV_law dV_law pV_law aA_law cV_law tV_law, [], by simp, fun _ h => (nomatch h), fun s v => .of_eq rfl, fun base KB _ TB => ?_⟩
  letI := noGG K
  exact ok_law T ⟨noGG_in⟩
end Law
open PySem PySem.W PyProof.Rows L3 in
set_option maxRecDepth 100000 in
set_option maxHeartbeats 0 in
theorem PySem.Challenge.cw_backline_k71_rows_as_text_holds : PySem.Challenge.rw_backline_k71_rows_as_text.Holds := by
  w_on; o_law; k_head; (case hw => w_witness2)
  k_fill
  refine walk_tabs (l := PySem.Challenge.rw_backline_k71_rows_as_text) (k := 5) (x := "_law_script") rfl rfl ⟨rfl, by decide, by decide⟩ (fun w h Y => PySem.W.kIn_of Y) ?F
  case F =>
    intro w mg fa h Y KX G hmg
    refine' Law.all_mk KX G hmg ?a_WeaveError ?a_NoPoint ?a_NoHand ?a_NoLetter ?a_NoText ?a_NoRow ?a_law ?a_law_same ?a_law_refused ?a_law_bad ?a_law_text ?a_law_row ?a_law_number ?a_law_mixed ?a_law_cell_at ?a_read_rows ?a_row_of ?a_rows_shown ?a_row_shown ?a_number_in ?l_number_in ?c_number_in ?k_number_in ?l_row_shown ?c_row_shown ?k_row_shown ?l_rows_shown ?c_rows_shown ?k_rows_shown ?l_row_of ?c_row_of ?k_row_of ?l_read_rows ?c_read_rows ?k_read_rows ?l_law_cell_at ?c_law_cell_at ?k_law_cell_at ?l_law_mixed ?c_law_mixed ?k_law_mixed ?l_law_number ?c_law_number ?k_law_number ?l_law_row ?c_law_row ?k_law_row ?l_law_text ?c_law_text ?k_law_text ?l_law_bad ?c_law_bad ?k_law_bad ?l_law_refused ?c_law_refused ?k_law_refused ?l_law_same ?c_law_same ?k_law_same ?l_law ?c_law ?k_law ?gs ?tk ?g_FIGURES ?b_ValueError ?b_any ?b_bool ?b_int ?b_isinstance ?b_len ?b_list ?b_range ?b_str ?b_tuple ?xP_WeaveError ?kP_WeaveError ?bP_WeaveError ?tP_WeaveError ?dP_WeaveError ?hg_WeaveError ?hk_WeaveError ?he_WeaveError ?hm_WeaveError ?xP_NoPoint ?kP_NoPoint ?bP_NoPoint ?tP_NoPoint ?dP_NoPoint ?hg_NoPoint ?hk_NoPoint ?he_NoPoint ?hm_NoPoint ?xP_NoHand ?kP_NoHand ?bP_NoHand ?tP_NoHand ?dP_NoHand ?hg_NoHand ?hk_NoHand ?he_NoHand ?hm_NoHand ?xP_NoLetter ?kP_NoLetter ?bP_NoLetter ?tP_NoLetter ?dP_NoLetter ?hg_NoLetter ?hk_NoLetter ?he_NoLetter ?hm_NoLetter ?xP_NoText ?kP_NoText ?bP_NoText ?tP_NoText ?dP_NoText ?hg_NoText ?hk_NoText ?he_NoText ?hm_NoText ?xP_NoRow ?kP_NoRow ?bP_NoRow ?tP_NoRow ?dP_NoRow ?hg_NoRow ?hk_NoRow ?he_NoRow ?hm_NoRow ?xm_NoText_WeaveError ?ks_NoText_NoHand ?k0_NoHand ?ks_NoText_NoLetter ?k0_NoLetter ?ks_NoText_NoPoint ?k0_NoPoint ?ks_NoText_NoRow ?k0_NoRow ?ks_NoText_NoText ?k0_NoText ?ks_NoText_ValueError
    (case a_WeaveError => k_is)
    (case a_NoPoint => k_is)
    (case a_NoHand => k_is)
    (case a_NoLetter => k_is)
    (case a_NoText => k_is)
    (case a_NoRow => k_is)
    (case a_law => k_is)
    (case a_law_same => k_is)
    (case a_law_refused => k_is)
    (case a_law_bad => k_is)
    (case a_law_text => k_is)
    (case a_law_row => k_is)
    (case a_law_number => k_is)
    (case a_law_mixed => k_is)
    (case a_law_cell_at => k_is)
    (case a_read_rows => k_is)
    (case a_row_of => k_is)
    (case a_rows_shown => k_is)
    (case a_row_shown => k_is)
    (case a_number_in => k_is)
    (case l_number_in => k_is)
    (case c_number_in => k_is)
    (case k_number_in => k_is)
    (case l_row_shown => k_is)
    (case c_row_shown => k_is)
    (case k_row_shown => k_is)
    (case l_rows_shown => k_is)
    (case c_rows_shown => k_is)
    (case k_rows_shown => k_is)
    (case l_row_of => k_is)
    (case c_row_of => k_is)
    (case k_row_of => k_is)
    (case l_read_rows => k_is)
    (case c_read_rows => k_is)
    (case k_read_rows => k_is)
    (case l_law_cell_at => k_is)
    (case c_law_cell_at => k_is)
    (case k_law_cell_at => k_is)
    (case l_law_mixed => k_is)
    (case c_law_mixed => k_is)
    (case k_law_mixed => k_is)
    (case l_law_number => k_is)
    (case c_law_number => k_is)
    (case k_law_number => k_is)
    (case l_law_row => k_is)
    (case c_law_row => k_is)
    (case k_law_row => k_is)
    (case l_law_text => k_is)
    (case c_law_text => k_is)
    (case k_law_text => k_is)
    (case l_law_bad => k_is)
    (case c_law_bad => k_is)
    (case k_law_bad => k_is)
    (case l_law_refused => k_is)
    (case c_law_refused => k_is)
    (case k_law_refused => k_is)
    (case l_law_same => k_is)
    (case c_law_same => k_is)
    (case k_law_same => k_is)
    (case l_law => k_is)
    (case c_law => k_is)
    (case k_law => k_is)
    (case gs => k_is)
    (case tk => k_is)
    (case g_FIGURES => k_is)
    (case b_ValueError => k_is)
    (case b_any => k_is)
    (case b_bool => k_is)
    (case b_int => k_is)
    (case b_isinstance => k_is)
    (case b_len => k_is)
    (case b_list => k_is)
    (case b_range => k_is)
    (case b_str => k_is)
    (case b_tuple => k_is)
    (case xP_WeaveError => k_exc)
    (case kP_WeaveError => k_is)
    (case bP_WeaveError => k_is)
    (case tP_WeaveError => k_is)
    (case dP_WeaveError => k_is)
    (case hg_WeaveError => k_is)
    (case hk_WeaveError => k_is)
    (case he_WeaveError => k_is)
    (case hm_WeaveError => k_is)
    (case xP_NoPoint => k_exc)
    (case kP_NoPoint => k_is)
    (case bP_NoPoint => k_is)
    (case tP_NoPoint => k_is)
    (case dP_NoPoint => k_is)
    (case hg_NoPoint => k_is)
    (case hk_NoPoint => k_is)
    (case he_NoPoint => k_is)
    (case hm_NoPoint => k_is)
    (case xP_NoHand => k_exc)
    (case kP_NoHand => k_is)
    (case bP_NoHand => k_is)
    (case tP_NoHand => k_is)
    (case dP_NoHand => k_is)
    (case hg_NoHand => k_is)
    (case hk_NoHand => k_is)
    (case he_NoHand => k_is)
    (case hm_NoHand => k_is)
    (case xP_NoLetter => k_exc)
    (case kP_NoLetter => k_is)
    (case bP_NoLetter => k_is)
    (case tP_NoLetter => k_is)
    (case dP_NoLetter => k_is)
    (case hg_NoLetter => k_is)
    (case hk_NoLetter => k_is)
    (case he_NoLetter => k_is)
    (case hm_NoLetter => k_is)
    (case xP_NoText => k_exc)
    (case kP_NoText => k_is)
    (case bP_NoText => k_is)
    (case tP_NoText => k_is)
    (case dP_NoText => k_is)
    (case hg_NoText => k_is)
    (case hk_NoText => k_is)
    (case he_NoText => k_is)
    (case hm_NoText => k_is)
    (case xP_NoRow => k_exc)
    (case kP_NoRow => k_is)
    (case bP_NoRow => k_is)
    (case tP_NoRow => k_is)
    (case dP_NoRow => k_is)
    (case hg_NoRow => k_is)
    (case hk_NoRow => k_is)
    (case he_NoRow => k_is)
    (case hm_NoRow => k_is)
    (case xm_NoText_WeaveError => k_is)
    (case ks_NoText_NoHand => k_is)
    (case k0_NoHand => k_is)
    (case ks_NoText_NoLetter => k_is)
    (case k0_NoLetter => k_is)
    (case ks_NoText_NoPoint => k_is)
    (case k0_NoPoint => k_is)
    (case ks_NoText_NoRow => k_is)
    (case k0_NoRow => k_is)
    (case ks_NoText_NoText => k_is)
    (case k0_NoText => k_is)
    (case ks_NoText_ValueError => k_is)
