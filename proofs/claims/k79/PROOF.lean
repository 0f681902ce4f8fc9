import PyProof.Rows.All
import Wide.All
import OpenK.AllK
import Wide.FinOn
import KE.KStateDown
import Lean
import HandS.Base
import HandS.Call
import HandS.Ends
import HandS.More
import HandS.Words
import HandS.WordsExc
import HandS.Defaults
import HandS.Head0
import HandS.Head1
import HandS.Head2
import HandS.HeadEnd
import HandS.HeadHook1
import HandS.HeadHook2
import HandS.HeadHook3
import HandS.HeadHook4
import HandS.ForMost
import HandS.Exc
import HandS.ExcOwn
import HandS.CallSlots
import HandS.Nested
import HandS.Wide
import HandS.Deep
import HandS.TupAny
import HandS.Codes
import HandS.RaiseMore
import PyProof.ReprReads
import KE.DataEq
import HandS.TupLen
import HandS.TryOnly
import HandS.Zip
import KE.GoesMore
import HandS.Comp
import HandS.DictComp
import HandS.MakeKw
import HandS.MakeKwOnly
import HandS.ExcInit
import HandS.Lambda
import HandS.IsInst
import HandS.SortInts
import HandS.WideBits
import PyProof.ReprRoads
import KE.KDictZip
import HandS.EndTab
import HandS.HeadWalk
import HandS.TupMul
import HandS.TryMany
import HandS.ExcField
import HandS.ExcIs
import KE.KExcIs
import KE.KExcInit
import PyProof.ReprLen
import PyProof.TupleOfStr
import HandS.Style
import PySem.Challenge.RW_digyears_k79_deeds_of_another_form
set_option Elab.async false
set_option linter.all false
set_option maxRecDepth 100000
set_option maxHeartbeats 8000000
namespace G
open PySem PySem.Spec PyProof.Rows L2

abbrev St := L2.St
/-- a pure value: tuples are trees, what can be changed is a place of the store -/
inductive PV where
  | non | bl (b : Bool) | int (i : Int) | str (s : Str) | tup (xs : List PV) | loc (n : Nat) | scr (ns : List Int) | ktup (xs : List PV)
  deriving Inhabited
/-- what stands at a place -/
inductive Ob where
  | lst (xs : List PV) | dK (kvs : List (Key × PV)) | dT (kvs : List (List Key × PV)) | ins (C : Addr) (fs : List (Str × PV))
  /-- dicts that a loop walks: read, not written -/
  | fK (kvs : List (Key × PV)) | fT (kvs : List (List Key × PV))
  deriving Inhabited
abbrev Sto := List Ob
/-- an end: a value, or an exception of the class at C with its attributes -/
inductive Out (α : Type) where
  | ok (a : α) | ex (C : Addr) (fs : List (Str × PV))
def M (α : Type) := Sto → Option (Out α × Sto)
def M.pure {α : Type} (a : α) : M α := fun st => some (.ok a, st)
def M.bind {α β : Type} (m : M α) (k : α → M β) : M β := fun st => match m st with
  | none => none
  | some (.ex C fs, st1) => some (.ex C fs, st1)
  | some (.ok a, st1) => k a st1
instance : Monad M where
  pure := M.pure
  bind := M.bind
def M.fail {α : Type} : M α := fun _ => none
theorem pure_run {α : Type} {a : α} {st : Sto} : (pure a : M α) st = some (.ok a, st) := rfl
theorem bind_run {α β : Type} {m : M α} {k : α → M β} {st : Sto} : (m >>= k) st = (match m st with
  | none => none
  | some (.ex C fs, st1) => some (.ex C fs, st1)
  | some (.ok a, st1) => k a st1) := rfl
theorem bind_ok {α β : Type} {m : M α} {k : α → M β} {st st1 : Sto} {a : α} (h : m st = some (.ok a, st1)) : (m >>= k) st = k a st1 := by rw [bind_run, h]
theorem bind_inv {α β : Type} {m : M α} {k : α → M β} {st st' : Sto} {r : Out β} (h : (m >>= k) st = some (r, st')) :
    (∃ a st1, m st = some (.ok a, st1) ∧ k a st1 = some (r, st')) ∨ (∃ C fs, m st = some (.ex C fs, st') ∧ r = .ex C fs) := by
  rw [bind_run] at h
  cases e : m st with
  | none => rw [e] at h; cases h
  | some p =>
    obtain ⟨o, st1⟩ := p
    rw [e] at h
    cases o with
    | ok a => exact .inl ⟨a, st1, rfl, h⟩
    | ex C fs =>
      have h' : (some (Out.ex C fs, st1) : Option (Out β × Sto)) = some (r, st') := h
      cases h'
      exact .inr ⟨C, fs, rfl, rfl⟩
theorem pure_inv {α : Type} {a : α} {st st' : Sto} {r : Out α} (h : (pure a : M α) st = some (r, st')) : r = .ok a ∧ st' = st := by
  have h' : (some (Out.ok a, st) : Option (Out α × Sto)) = some (r, st') := h
  cases h'
  exact ⟨rfl, rfl⟩
theorem fail_inv {α : Type} {st st' : Sto} {r : Out α} (h : (M.fail : M α) st = some (r, st')) : False := by cases h
/-- a thing that may lack -/
def lift {α : Type} (o : Option α) : M α := match o with
  | some a => pure a
  | none => M.fail
theorem lift_inv {α : Type} {o : Option α} {st st' : Sto} {r : Out α} (h : (lift o) st = some (r, st')) : ∃ a, o = some a ∧ r = .ok a ∧ st' = st := by
  cases o with
  | none => cases h
  | some a => exact ⟨a, rfl, pure_inv h⟩
/-- a test that must hold -/
def need (b : Bool) : M Unit := if b = true then pure () else M.fail
theorem need_inv {b : Bool} {st st' : Sto} {r : Out Unit} (h : (need b) st = some (r, st')) : b = true ∧ r = .ok () ∧ st' = st := by
  cases b with
  | false => cases h
  | true => exact ⟨rfl, pure_inv h⟩
theorem need_bind {α : Type} {b : Bool} {k : M α} {st : Sto} (h : b = true) : (need b >>= fun _ => k) st = k st := by
  subst h
  rfl
/-- the store -/
def getS : M Sto := fun st => some (.ok st, st)
def getO (n : Nat) : M Ob := fun st => match st[n]? with
  | some o => some (.ok o, st)
  | none => none
def setO (n : Nat) (o : Ob) : M Unit := fun st => some (.ok (), st.set n o)
def newO (o : Ob) : M Nat := fun st => some (.ok st.length, st ++ [o])
theorem getO_inv {n : Nat} {st st' : Sto} {r : Out Ob} (h : getO n st = some (r, st')) : ∃ o, st[n]? = some o ∧ r = .ok o ∧ st' = st := by
  unfold getO at h
  cases e : st[n]? with
  | none => rw [e] at h; cases h
  | some o => rw [e] at h; cases h; exact ⟨o, rfl, rfl, rfl⟩

/-- an exception at hand: the slot of its name, where it is, its class, its attributes, its dict -/
structure XI where
  i : Nat
  a : Addr
  C : Addr
  fs : List (Str × PV)
  d : Option Addr
structure Ct where
  K : PySem.W.Frag
  T : List NdefX.NTab
  sa : Addr
  ns : List Int
  /-- places that stand since the function at hand was made -/
  bs : List Addr
  /-- names that hold a function -/
  fs : List (Nat × Addr)
  xs : List XI
/-- places are only added, tuples stay -/
structure Ext (_c : Ct) (μ : List Addr) (H : Hp) (μ' : List Addr) (H' : Hp) : Prop where
  pre : μ <+: μ'
  tup : ∀ a vs, H a = some (.tup vs) → H' a = some (.tup vs)
  frz : ∀ a o u, H a = some (.frz o u) → H' a = some (.frz o u)
  xd : ∀ a fs, H a = some (.xd fs) → H' a = some (.xd fs)
/-- a tuple of the written part -/
def KTup (K : PySem.W.Frag) (a : Addr) (xs : List V) : Prop :=
  ∃ (o : Obj) (its : Array Value) (n : Nat), K.lookup a = some o ∧ o.cls = .type "tuple" ∧ o.data = .seq its n ∧ its.size ≤ sizeLine ∧ Vals xs its.toList
mutual
inductive RepV0 (K : PySem.W.Frag) (sa : Addr) (ns : List Int) (μ : List Addr) (H : Hp) : PV → V → Prop
  | non : RepV0 K sa ns μ H .non .non
  | bl (b : Bool) : RepV0 K sa ns μ H (.bl b) (.bl b)
  | int (i : Int) : RepV0 K sa ns μ H (.int i) (.int i)
  | str (x : Str) : RepV0 K sa ns μ H (.str x) (.str x)
  | tup {a : Addr} {vs : List V} {xs : List PV} : H a = some (.tup vs) → RepL0 K sa ns μ H xs vs → RepV0 K sa ns μ H (.tup xs) (.ref a)
  | loc {n : Nat} {a : Addr} : μ[n]? = some a → RepV0 K sa ns μ H (.loc n) (.ref a)
  | scr : RepV0 K sa ns μ H (.scr ns) (.ref sa)
  | ktup {a : Addr} {vs : List V} {xs : List PV} : KTup K a vs → RepL0 K sa ns μ H xs vs → RepV0 K sa ns μ H (.ktup xs) (.ref a)
inductive RepL0 (K : PySem.W.Frag) (sa : Addr) (ns : List Int) (μ : List Addr) (H : Hp) : List PV → List V → Prop
  | nil : RepL0 K sa ns μ H [] []
  | cons {x : PV} {xs : List PV} {v : V} {vs : List V} : RepV0 K sa ns μ H x v → RepL0 K sa ns μ H xs vs → RepL0 K sa ns μ H (x :: xs) (v :: vs)
end
abbrev RepV (c : Ct) : List Addr → Hp → PV → V → Prop := RepV0 c.K c.sa c.ns
abbrev RepL (c : Ct) : List Addr → Hp → List PV → List V → Prop := RepL0 c.K c.sa c.ns
section
variable (c : Ct)
/-- pairs, the values by RepV -/
def RepF {κ : Type} (μ : List Addr) (H : Hp) : List (κ × PV) → List (κ × V) → Prop := Paired fun p q => p.1 = q.1 ∧ RepV c μ H p.2 q.2
def SimO (μ : List Addr) (H : Hp) (a : Addr) : Ob → Prop
  | .lst xs => ∃ vs, H a = some (.lst vs) ∧ RepL c μ H xs vs
  | .dK kvs => ∃ ws, H a = some (.dK ws) ∧ RepF c μ H kvs ws
  | .dT kvs => ∃ ws, H a = some (.dT ws) ∧ RepF c μ H kvs ws
  | .ins C fs => ∃ dx gs, H a = some (.ins C dx gs) ∧ RepF c μ H fs gs
  | .fK kvs => ∃ o ws, H a = some (.frz o (.dK ws)) ∧ RepF c μ H kvs ws
  | .fT kvs => ∃ o ws, H a = some (.frz o (.dT ws)) ∧ RepF c μ H kvs ws
/-- a list of the written part -/
def KLst (K : PySem.W.Frag) (a : Addr) (xs : List V) : Prop :=
  ∃ (o : Obj) (its : Array Value) (n : Nat), K.lookup a = some o ∧ o.cls = .type "list" ∧ o.dict = none ∧ o.data = .seq its n ∧ its.size ≤ sizeLine ∧ Vals xs its.toList
def Scr (μ : List Addr) (H : Hp) : Prop := KLst c.K c.sa (c.ns.map V.int) ∨ (Rd H c.sa (.lst (c.ns.map V.int)) ∧ c.sa ∉ μ)
structure Sim (μ : List Addr) (H : Hp) (st : Sto) : Prop where
  nd : μ.Nodup
  len : μ.length = st.length
  ob : ∀ (n : Nat) (a : Addr) (o : Ob), μ[n]? = some a → st[n]? = some o → SimO c μ H a o
  tabs : NdefX.TabsN c.T H
  scr : Scr c μ H
  pre : c.bs <+: μ
end
section
variable {c : Ct} {μ μ' μ1 : List Addr} {H H' H1 : Hp} {st st' : Sto}
theorem Ext.refl : Ext c μ H μ H := ⟨List.prefix_refl _, fun _ _ h => h, fun _ _ _ h => h, fun _ _ h => h⟩
theorem Ext.trans (a : Ext c μ H μ1 H1) (b : Ext c μ1 H1 μ' H') : Ext c μ H μ' H' := ⟨a.pre.trans b.pre, fun x vs h => b.tup x vs (a.tup x vs h), fun x o u h => b.frz x o u (a.frz x o u h), fun x o h => b.xd x o (a.xd x o h)⟩
theorem Ext.at (x : Ext c μ H μ' H') {n : Nat} {a : Addr} (h : μ[n]? = some a) : μ'[n]? = some a := by
  obtain ⟨t, rfl⟩ := x.pre
  rw [List.getElem?_append_left (List.getElem?_eq_some_iff.mp h).1]
  exact h
mutual
theorem RepV0.up {K : PySem.W.Frag} {sa : Addr} {ns : List Int} (pr : μ <+: μ') (tp : ∀ a vs, H a = some (.tup vs) → H' a = some (.tup vs)) : ∀ {p : PV} {v : V}, RepV0 K sa ns μ H p v → RepV0 K sa ns μ' H' p v
  | .non, _, h => by cases h; exact .non
  | .bl b, _, h => by cases h; exact .bl b
  | .int i, _, h => by cases h; exact .int i
  | .str s, _, h => by cases h; exact .str s
  | .tup xs, _, h => by
    cases h with
    | tup h1 h2 => exact .tup (tp _ _ h1) (RepL0.up pr tp h2)
  | .loc n, _, h => by
    cases h with
    | loc h1 =>
      refine .loc ?_
      obtain ⟨t, rfl⟩ := pr
      rw [List.getElem?_append_left (List.getElem?_eq_some_iff.mp h1).1]
      exact h1
  | .scr ns, _, h => by cases h; exact .scr
  | .ktup xs, _, h => by
    cases h with
    | ktup h1 h2 => exact .ktup h1 (RepL0.up pr tp h2)
theorem RepL0.up {K : PySem.W.Frag} {sa : Addr} {ns : List Int} (pr : μ <+: μ') (tp : ∀ a vs, H a = some (.tup vs) → H' a = some (.tup vs)) : ∀ {p : List PV} {v : List V}, RepL0 K sa ns μ H p v → RepL0 K sa ns μ' H' p v
  | [], _, h => by cases h; exact .nil
  | p :: ps, _, h => by
    cases h with
    | cons h1 h2 => exact .cons (RepV0.up pr tp h1) (RepL0.up pr tp h2)
end
theorem RepV0.mono (x : Ext c μ H μ' H') {p : PV} {v : V} (h : RepV c μ H p v) : RepV c μ' H' p v := RepV0.up x.pre x.tup h
theorem RepL0.mono (x : Ext c μ H μ' H') {p : List PV} {v : List V} (h : RepL c μ H p v) : RepL c μ' H' p v := RepL0.up x.pre x.tup h
theorem RepF.mono {κ : Type} (x : Ext c μ H μ' H') {p : List (κ × PV)} {q : List (κ × V)} (h : RepF c μ H p q) : RepF c μ' H' p q := Paired.mapP h fun _ _ z => ⟨z.1, z.2.mono x⟩
theorem RepL0.length : ∀ {p : List PV} {v : List V}, RepL c μ H p v → p.length = v.length
  | [], _, h => by cases h; rfl
  | p :: ps, _, h => by
    cases h with
    | cons h1 h2 => exact congrArg Nat.succ h2.length
theorem RepL0.get : ∀ {p : List PV} {v : List V} {i : Nat} {x : PV}, RepL c μ H p v → p[i]? = some x → ∃ y, v[i]? = some y ∧ RepV c μ H x y
  | [], _, _, _, h, e => by simp at e
  | p :: ps, _, 0, x, h, e => by
    cases h with
    | cons h1 h2 => simp at e; subst e; exact ⟨_, rfl, h1⟩
  | p :: ps, _, i + 1, x, h, e => by
    cases h with
    | cons h1 h2 =>
      obtain ⟨y, e1, r⟩ := RepL0.get (i := i) (x := x) h2 (by simpa using e)
      exact ⟨y, by simpa using e1, r⟩
theorem RepL0.append : ∀ {p q : List PV} {v w : List V}, RepL c μ H p v → RepL c μ H q w → RepL c μ H (p ++ q) (v ++ w)
  | [], _, _, _, h, h' => by cases h; exact h'
  | p :: ps, _, _, _, h, h' => by
    cases h with
    | cons h1 h2 => exact .cons h1 (RepL0.append h2 h')
theorem RepL0.take : ∀ {p : List PV} {v : List V} (n : Nat), RepL c μ H p v → RepL c μ H (p.take n) (v.take n)
  | _, _, 0, _ => by simpa using RepL0.nil
  | [], _, n + 1, h => by cases h; simpa using RepL0.nil
  | p :: ps, _, n + 1, h => by
    cases h with
    | cons h1 h2 => simpa using RepL0.cons h1 (RepL0.take n h2)
theorem RepL0.drop : ∀ {p : List PV} {v : List V} (n : Nat), RepL c μ H p v → RepL c μ H (p.drop n) (v.drop n)
  | _, _, 0, h => by simpa using h
  | [], _, n + 1, h => by cases h; simpa using RepL0.nil
  | p :: ps, _, n + 1, h => by
    cases h with
    | cons h1 h2 => simpa using RepL0.drop n h2
theorem RepL0.set {x : PV} {y : V} (r : RepV c μ H x y) : ∀ {p : List PV} {v : List V} (n : Nat), RepL c μ H p v → RepL c μ H (p.set n x) (v.set n y)
  | [], _, _, h => by cases h; simpa using RepL0.nil
  | p :: ps, _, 0, h => by
    cases h with
    | cons h1 h2 => simpa using RepL0.cons r h2
  | p :: ps, _, n + 1, h => by
    cases h with
    | cons h1 h2 => simpa using RepL0.cons h1 (RepL0.set r n h2)
theorem RepL0.reverse : ∀ {p : List PV} {v : List V}, RepL c μ H p v → RepL c μ H p.reverse v.reverse
  | [], _, h => by cases h; exact .nil
  | p :: ps, _, h => by
    cases h with
    | cons h1 h2 =>
      rw [List.reverse_cons, List.reverse_cons]
      exact (RepL0.reverse h2).append (.cons h1 .nil)
theorem RepL0.one {x : PV} {v : V} (h : RepV c μ H x v) : RepL c μ H [x] [v] := .cons h .nil
theorem RepL0.ints : ∀ ns : List Int, RepL c μ H (ns.map PV.int) (ns.map V.int)
  | [] => .nil
  | n :: r => .cons (.int n) (RepL0.ints r)
theorem RepL0.strs : ∀ ns : List Str, RepL c μ H (ns.map PV.str) (ns.map V.str)
  | [] => .nil
  | n :: r => .cons (.str n) (RepL0.strs r)
/-- at another heap that has at a what the old one had there -/
theorem SimO.keep (x : Ext c μ H μ' H') {a : Addr} (k : H' a = H a) : ∀ {o : Ob}, SimO c μ H a o → SimO c μ' H' a o
  | .lst _, ⟨vs, h1, h2⟩ => ⟨vs, k.trans h1, h2.mono x⟩
  | .dK _, ⟨vs, h1, h2⟩ => ⟨vs, k.trans h1, h2.mono x⟩
  | .dT _, ⟨vs, h1, h2⟩ => ⟨vs, k.trans h1, h2.mono x⟩
  | .ins _ _, ⟨dx, vs, h1, h2⟩ => ⟨dx, vs, k.trans h1, h2.mono x⟩
  | .fK _, ⟨dx, vs, h1, h2⟩ => ⟨dx, vs, k.trans h1, h2.mono x⟩
  | .fT _, ⟨dx, vs, h1, h2⟩ => ⟨dx, vs, k.trans h1, h2.mono x⟩
/-- not walked now -/
def unl : Ob → Bool
  | .fK _ => false
  | .fT _ => false
  | _ => true
theorem SimO.mut {a : Addr} : ∀ {o : Ob}, unl o = true → SimO c μ H a o → Mut (H a)
  | .lst _, _, ⟨vs, h1, h2⟩ => by rw [h1]; trivial
  | .dK _, _, ⟨vs, h1, h2⟩ => by rw [h1]; trivial
  | .dT _, _, ⟨vs, h1, h2⟩ => by rw [h1]; trivial
  | .ins _ _, _, ⟨dx, vs, h1, h2⟩ => by rw [h1]; trivial
  | .fK _, z, _ => by cases z
  | .fT _, z, _ => by cases z
theorem SimO.some_ {a : Addr} : ∀ {o : Ob}, SimO c μ H a o → ∃ u, H a = some u
  | .lst _, ⟨vs, h1, h2⟩ => ⟨_, h1⟩
  | .dK _, ⟨vs, h1, h2⟩ => ⟨_, h1⟩
  | .dT _, ⟨vs, h1, h2⟩ => ⟨_, h1⟩
  | .ins _ _, ⟨dx, vs, h1, h2⟩ => ⟨_, h1⟩
  | .fK _, ⟨dx, vs, h1, h2⟩ => ⟨_, h1⟩
  | .fT _, ⟨dx, vs, h1, h2⟩ => ⟨_, h1⟩
theorem SimO.noTbl {a : Addr} : ∀ {o : Ob}, SimO c μ H a o → ∀ u, H a = some u → (∀ ps, u ≠ .tbl ps) ∧ (∀ φ, u ≠ .ext φ)
  | .lst _, ⟨vs, h1, h2⟩, u, e => by rw [h1] at e; cases e; exact ⟨fun _ z => (by cases z), fun _ z => (by cases z)⟩
  | .dK _, ⟨vs, h1, h2⟩, u, e => by rw [h1] at e; cases e; exact ⟨fun _ z => (by cases z), fun _ z => (by cases z)⟩
  | .dT _, ⟨vs, h1, h2⟩, u, e => by rw [h1] at e; cases e; exact ⟨fun _ z => (by cases z), fun _ z => (by cases z)⟩
  | .ins _ _, ⟨dx, vs, h1, h2⟩, u, e => by rw [h1] at e; cases e; exact ⟨fun _ z => (by cases z), fun _ z => (by cases z)⟩
  | .fK _, ⟨dx, vs, h1, h2⟩, u, e => by rw [h1] at e; cases e; exact ⟨fun _ z => (by cases z), fun _ z => (by cases z)⟩
  | .fT _, ⟨dx, vs, h1, h2⟩, u, e => by rw [h1] at e; cases e; exact ⟨fun _ z => (by cases z), fun _ z => (by cases z)⟩
/-- tuples stay where a mutable thing, or nothing, stood -/
theorem tup_upd {a : Addr} {o : HO} (h : H a = none ∨ Mut (H a)) {b : Addr} {vs : List V} (q : H b = some (.tup vs)) : upd H a o b = some (.tup vs) := by
  have : b ≠ a := by
    rintro rfl
    rw [q] at h
    rcases h with h | h
    · cases h
    · exact h
  rw [upd_ne this]
  exact q
theorem frz_upd {a : Addr} {o : HO} (h : H a = none ∨ Mut (H a)) {b : Addr} {ob : Obj} {u : HO} (q : H b = some (.frz ob u)) : upd H a o b = some (.frz ob u) := by
  have : b ≠ a := by
    rintro rfl
    rw [q] at h
    rcases h with h | h
    · cases h
    · exact h
  rw [upd_ne this]
  exact q
theorem xd_upd {a : Addr} {o : HO} (h : H a = none ∨ Mut (H a)) {b : Addr} {u : List (Str × V)} (q : H b = some (.xd u)) : upd H a o b = some (.xd u) := by
  have : b ≠ a := by
    rintro rfl
    rw [q] at h
    rcases h with h | h
    · cases h
    · exact h
  rw [upd_ne this]
  exact q
theorem ext_new {a : Addr} {o : HO} (h : H a = none) : Ext c μ H (μ ++ [a]) (upd H a o) := ⟨List.prefix_append _ _, fun _ _ q => tup_upd (.inl h) q, fun _ _ _ q => frz_upd (.inl h) q, fun _ _ q => xd_upd (.inl h) q⟩
theorem ext_tup {a : Addr} {o : HO} (h : H a = none) : Ext c μ H μ (upd H a o) := ⟨List.prefix_refl _, fun _ _ q => tup_upd (.inl h) q, fun _ _ _ q => frz_upd (.inl h) q, fun _ _ q => xd_upd (.inl h) q⟩
theorem ext_mut {a : Addr} {o : HO} (h : Mut (H a)) : Ext c μ H μ (upd H a o) := ⟨List.prefix_refl _, fun _ _ q => tup_upd (.inr h) q, fun _ _ _ q => frz_upd (.inr h) q, fun _ _ q => xd_upd (.inr h) q⟩
theorem tabs_keep {T : List NdefX.NTab} (h : NdefX.TabsN T H) {a : Addr} {o : HO} (k : ∀ u, H a = some u → (∀ ps, u ≠ .tbl ps) ∧ (∀ φ, u ≠ .ext φ)) : NdefX.TabsN T (upd H a o) := by
  intro p hp
  obtain ⟨ps, h1, h2, h3⟩ := h p hp
  have n1 : p.1 ≠ a := by
    rintro e
    exact (k _ (e ▸ h1)).1 _ rfl
  refine ⟨ps, by rw [upd_ne n1]; exact h1, h2, fun pos cv e => ?_⟩
  obtain ⟨x, e1, e2⟩ := h3 pos cv e
  have n2 : x ≠ a := by
    rintro rfl
    exact (k _ e2).2 _ rfl
  exact ⟨x, e1, by rw [upd_ne n2]; exact e2⟩
/-- a new tuple -/
theorem Sim.tuple (s : Sim c μ H st) {p : Addr} {o : HO} (hp : H p = none) : Sim c μ (upd H p o) st := by
  refine ⟨s.nd, s.len, fun n a ob h1 h2 => ?_, tabs_keep s.tabs fun u e => (by rw [hp] at e; cases e), ?_, s.pre⟩
  · have q := s.ob n a ob h1 h2
    have ne : a ≠ p := by
      rintro rfl
      obtain ⟨u, this⟩ := q.some_
      rw [hp] at this
      cases this
    exact q.keep (ext_tup hp) (upd_ne ne)
  · rcases s.scr with h | ⟨h, hn⟩
    · exact .inl h
    · refine .inr ⟨?_, hn⟩
      rcases h with h | ⟨f, h⟩
      · exact .inl (by rw [upd_ne (ne_of_none h hp)]; exact h)
      · exact .inr ⟨f, by rw [upd_ne (ne_of_none h hp)]; exact h⟩
/-- a new place -/
theorem Sim.new (s : Sim c μ H st) {p : Addr} {o : HO} {ob : Ob} (hp : H p = none) (hs : SimO c (μ ++ [p]) (upd H p o) p ob) : Sim c (μ ++ [p]) (upd H p o) (st ++ [ob]) := by
  have np : p ∉ μ := fun z => by
    obtain ⟨n, hn⟩ := List.getElem?_of_mem z
    have hl : n < st.length := by
      rw [← s.len]
      exact (List.getElem?_eq_some_iff.mp hn).1
    obtain ⟨u, q⟩ := (s.ob n p _ hn (List.getElem?_eq_getElem hl)).some_
    rw [hp] at q
    cases q
  refine ⟨?_, by simp [s.len], fun n a o' h1 h2 => ?_, tabs_keep s.tabs fun u e => (by rw [hp] at e; cases e), ?_, s.pre.trans (List.prefix_append _ _)⟩
  · rw [List.nodup_append]
    exact ⟨s.nd, by simp, fun x hx y hy => by
      simp at hy
      subst hy
      rintro rfl
      exact np hx⟩
  · by_cases hn : n < μ.length
    · rw [List.getElem?_append_left hn] at h1
      rw [List.getElem?_append_left (by rw [← s.len]; exact hn)] at h2
      have q := s.ob n a o' h1 h2
      have ne : a ≠ p := by
        rintro rfl
        exact np (List.mem_of_getElem? h1)
      exact q.keep (ext_new hp) (upd_ne ne)
    · have e : n = μ.length := by
        have := (List.getElem?_eq_some_iff.mp h1).1
        simp at this
        omega
      subst e
      rw [List.getElem?_append_right (Nat.le_refl _)] at h1
      rw [s.len, List.getElem?_append_right (Nat.le_refl _)] at h2
      simp at h1 h2
      subst h1 h2
      exact hs
  · rcases s.scr with h | ⟨h, hn⟩
    · exact .inl h
    · have ne : c.sa ≠ p := by
        rcases h with h | ⟨f, h⟩
        · exact ne_of_none h hp
        · exact ne_of_none h hp
      refine .inr ⟨?_, by simp [hn, ne]⟩
      rcases h with h | ⟨f, h⟩
      · exact .inl (by rw [upd_ne ne]; exact h)
      · exact .inr ⟨f, by rw [upd_ne ne]; exact h⟩
/-- a place is written -/
theorem Sim.put (s : Sim c μ H st) {n : Nat} {a : Addr} {o : HO} {ob ob' : Ob} (ha : μ[n]? = some a) (ho : st[n]? = some ob) (hs : SimO c μ (upd H a o) a ob') (hu : unl ob = true := by rfl) : Sim c μ (upd H a o) (st.set n ob') := by
  have q := s.ob n a ob ha ho
  have nb : n < μ.length := (List.getElem?_eq_some_iff.mp ha).1
  refine ⟨s.nd, by simp [s.len], fun m b o' h1 h2 => ?_, tabs_keep s.tabs q.noTbl, ?_, s.pre⟩
  · by_cases e : n = m
    · subst e
      rw [ha] at h1
      cases h1
      rw [List.getElem?_set_self (by rw [← s.len]; exact nb)] at h2
      cases h2
      exact hs
    · rw [List.getElem?_set_ne e] at h2
      have ne : b ≠ a := by
        rintro rfl
        have h3 := (List.getElem?_eq_some_iff.mp ha)
        have h4 := (List.getElem?_eq_some_iff.mp h1)
        exact e ((List.getElem_inj s.nd).mp (h3.2.trans h4.2.symm))
      exact (s.ob m b o' h1 h2).keep (ext_mut (q.mut hu)) (upd_ne ne)
  · rcases s.scr with h | ⟨h, hn⟩
    · exact .inl h
    · have ne : c.sa ≠ a := by
        rintro e
        exact hn (e ▸ List.mem_of_getElem? ha)
      refine .inr ⟨?_, hn⟩
      rcases h with h | ⟨f, h⟩
      · exact .inl (by rw [upd_ne ne]; exact h)
      · exact .inr ⟨f, by rw [upd_ne ne]; exact h⟩
theorem Sim.scrL (s : Sim c μ H st) : SqL c.K H c.sa (c.ns.map V.int) := by
  rcases s.scr with h | ⟨h, _⟩
  · exact .inr h
  · exact .inl h
end

/-- what a def's names hold -/
abbrev Slo := List (Option PV)
section
variable (c : Ct)
/-- the attributes of an exception -/
def RepX (μ : List Addr) (H : Hp) (fs : List (Str × PV)) (d : Option Addr) : Prop := (fs = [] ∧ d = none) ∨ ∃ dd gs, d = some dd ∧ H dd = some (.xd gs) ∧ RepF c μ H fs gs
structure RepS (μ : List Addr) (H : Hp) (ε : Slo) (σ : St) : Prop where
  len : ε.length = σ.length
  at_ : ∀ (i : Nat) (p : PV), ε[i]? = some (some p) → ∃ v, σ[i]? = some (some v) ∧ RepV c μ H p v
  fn : ∀ q ∈ c.fs, ε[q.1]? = some none → σ[q.1]? = some (some (.ref q.2))
  xc : ∀ q ∈ c.xs, (ε[q.i]? = some none → σ[q.i]? = some (some (.ref q.a))) ∧ RepX c μ H q.fs q.d
/-- from such an end all that is wanted follows -/
def Fin {α β : Type} (Rel : List Addr → Hp → α → β → Prop) (μ : List Addr) (H : Hp) (r : Out α) (st' : Sto) (Q : β → Hp → Prop) (W : XK) : Prop := match r with
  | .ok x => ∀ y μ' H', Ext c μ H μ' H' → Rel μ' H' x y → Sim c μ' H' st' → Q y H'
  | .ex C fs => ∀ d μ' H', Ext c μ H μ' H' → RepX c μ' H' fs d → Sim c μ' H' st' → W (.ref C) d H'
/-- the reading that a denotation gives -/
def tR {α β : Type} (Rel : List Addr → Hp → α → β → Prop) (W : WX) (d : Slo → M α) : St → Hp → (β → Hp → Prop) → Prop := fun σ H Q =>
  ∃ ε μ st r st', RepS c μ H ε σ ∧ Sim c μ H st ∧ d ε st = some (r, st') ∧ Fin c Rel μ H r st' Q (fun x y z => W x y σ z)
abbrev tD := tR c (RepV c)
abbrev tT := tR c (fun _ _ (a b : Bool) => a = b)
abbrev tL := tR c (RepL c)
end
section
variable {c : Ct} {μ μ' μ1 : List Addr} {H H' H1 : Hp} {st st' : Sto}
theorem RepX.mono (x : Ext c μ H μ' H') {fs : List (Str × PV)} {d : Option Addr} (h : RepX c μ H fs d) : RepX c μ' H' fs d := by
  rcases h with h | ⟨dd, gs, h1, h2, h3⟩
  · exact .inl h
  · exact .inr ⟨dd, gs, h1, x.xd _ _ h2, h3.mono x⟩
theorem RepS.mono (x : Ext c μ H μ' H') {ε : Slo} {σ : St} (h : RepS c μ H ε σ) : RepS c μ' H' ε σ := ⟨h.len, fun i p e => let ⟨v, a, b⟩ := h.at_ i p e; ⟨v, a, b.mono x⟩, h.fn, fun q hq => ⟨(h.xc q hq).1, (h.xc q hq).2.mono x⟩⟩
theorem RepS.set {ε : Slo} {σ : St} (h : RepS c μ H ε σ) (i : Nat) {p : PV} {v : V} (r : RepV c μ H p v) : RepS c μ H (ε.set i (some p)) (σ.set i (some v)) := by
  refine ⟨by simp [h.len], fun j q e => ?_, fun q hq e => ?_, fun q hq => ⟨fun e => ?_, (h.xc q hq).2⟩⟩
  · by_cases hj : i = j
    · subst hj
      have hi : i < ε.length := by
        have := (List.getElem?_eq_some_iff.mp e).1
        simpa using this
      rw [List.getElem?_set_self hi] at e
      cases e
      exact ⟨v, List.getElem?_set_self (by rw [← h.len]; exact hi), r⟩
    · rw [List.getElem?_set_ne hj] at e
      obtain ⟨w, a, b⟩ := h.at_ j q e
      exact ⟨w, by rw [List.getElem?_set_ne hj]; exact a, b⟩
  · by_cases hj : i = q.1
    · subst hj
      have hi : q.1 < ε.length := by
        have := (List.getElem?_eq_some_iff.mp e).1
        simpa using this
      rw [List.getElem?_set_self hi] at e
      cases e
    · rw [List.getElem?_set_ne hj] at e ⊢
      exact h.fn q hq e
  · by_cases hj : i = q.i
    · subst hj
      have hi : q.i < ε.length := by
        have := (List.getElem?_eq_some_iff.mp e).1
        simpa using this
      rw [List.getElem?_set_self hi] at e
      cases e
    · rw [List.getElem?_set_ne hj] at e ⊢
      exact (h.xc q hq).1 e
theorem Fin.mono {α β : Type} {Rel : List Addr → Hp → α → β → Prop} (x : Ext c μ H μ1 H1) {r : Out α} {Q : β → Hp → Prop} {W : XK} (h : Fin c Rel μ H r st' Q W) : Fin c Rel μ1 H1 r st' Q W := by
  cases r with
  | ok a => exact fun y μ' H' x' => h y μ' H' (x.trans x')
  | ex C fs => exact fun d μ' H' x' => h d μ' H' (x.trans x')
/-- one part of a denotation, then the rest -/
theorem step {α β γ δ : Type} {Rel : List Addr → Hp → α → β → Prop} {Rel' : List Addr → Hp → γ → δ → Prop} {W : WX} {d : Slo → M α} {k : α → M γ} {ε : Slo} {σ : St} {r : Out γ} {Q : δ → Hp → Prop} {R : β → Hp → Prop}
    (e : (d ε >>= k) st = some (r, st')) (hS : RepS c μ H ε σ) (s : Sim c μ H st) (fin : Fin c Rel' μ H r st' Q (fun x y z => W x y σ z))
    (cont : ∀ a b st1 μ1 H1, k a st1 = some (r, st') → Ext c μ H μ1 H1 → Rel μ1 H1 a b → Sim c μ1 H1 st1 → RepS c μ1 H1 ε σ → Fin c Rel' μ1 H1 r st' Q (fun x y z => W x y σ z) → R b H1) : tR c Rel W d σ H R := by
  rcases bind_inv e with ⟨a, st1, e1, e2⟩ | ⟨C, fs, e1, e2⟩
  · exact ⟨ε, μ, st, .ok a, st1, hS, s, e1, fun y μ' H' x rr s' => cont a y st1 μ' H' e2 x rr s' (hS.mono x) (fin.mono x)⟩
  · subst e2
    exact ⟨ε, μ, st, .ex C fs, st', hS, s, e1, fin⟩
/-- the last part -/
theorem last {α β : Type} {Rel : List Addr → Hp → α → β → Prop} {W : WX} {d : Slo → M α} {ε : Slo} {σ : St} {r : Out α} {Q : β → Hp → Prop}
    (e : d ε st = some (r, st')) (hS : RepS c μ H ε σ) (s : Sim c μ H st) (fin : Fin c Rel μ H r st' Q (fun x y z => W x y σ z)) : tR c Rel W d σ H Q := ⟨ε, μ, st, r, st', hS, s, e, fin⟩
end
theorem _root_.L2.PE.imp {X : Cx} {e : Expr} {t t' : TE} (h : PE X e t) (i : ∀ σ H Q, t' σ H Q → t σ H Q) : PE X e t' := ⟨fun pins s σ H Q I q => h.run pins s σ H Q I (i σ H Q q)⟩
theorem _root_.L2.PT.imp {X : Cx} {e : Expr} {t t' : TT} (h : PT X e t) (i : ∀ σ H Q, t' σ H Q → t σ H Q) : PT X e t' := ⟨fun pins s σ H Q I q => h.run pins s σ H Q I (i σ H Q q)⟩
theorem _root_.L2.PW.imp {X : Cx} {e : Expr} {t t' : TT} (h : PW X e t) (i : ∀ σ H Q, t' σ H Q → t σ H Q) : PW X e t' := ⟨fun w pins s σ H Q I q => h.run w pins s σ H Q I (i σ H Q q)⟩
theorem _root_.L2.PA.imp {X : Cx} {e : List Expr} {t t' : TA} (h : PA X e t) (i : ∀ σ H Q, t' σ H Q → t σ H Q) : PA X e t' := ⟨fun w pins s σ H Q I q => h.run w pins s σ H Q I (i σ H Q q)⟩
end G
namespace G
open PySem PySem.Spec PyProof.Rows L2

/-- the expression's reading is its denotation -/
abbrev GE (X : Cx) (c : Ct) (W : WX) (e : Expr) (d : Slo → M PV) : Prop := PE X e (tD c W d)
abbrev GT (X : Cx) (c : Ct) (W : WX) (e : Expr) (d : Slo → M Bool) : Prop := PT X e (tT c W d)
abbrev GW (X : Cx) (c : Ct) (W : WX) (e : Expr) (d : Slo → M Bool) : Prop := PW X e (tT c W d)
abbrev GA (X : Cx) (c : Ct) (W : WX) (es : List Expr) (d : Slo → M (List PV)) : Prop := PA X es (tL c W d)

def dVar (i : Nat) : Slo → M PV := fun ε => lift ((ε[i]?).join)
def dC (p : PV) : Slo → M PV := fun _ => pure p
section
variable {X : Cx} {c : Ct} {W : WX}
theorem tD_const {p : PV} {v : V} (hr : ∀ μ H, RepV c μ H p v) : ∀ σ H Q, tD c W (dC p) σ H Q → tC v σ H Q := by
  rintro σ H Q ⟨ε, μ, st, r, st', hS, s, e, fin⟩
  obtain ⟨rfl, rfl⟩ := pure_inv e
  exact fin v μ H .refl (hr μ H) s
theorem ge_var {i : Nat} {x : Str} {pos : Pos} (hN : X.N[i]? = some x) (hv : Vis X.env.scope x) (hd : (x == ("__debug__" : Str)) = false := by decide) (hcd : (x == ("__classdict__" : Str)) = false := by decide) : GE X c W (.Name x pos) (dVar i) := by
  refine (pe_var hN hv hd hcd).imp ?_
  rintro σ H Q ⟨ε, μ, st, r, st', hS, s, e, fin⟩
  obtain ⟨a, ea, rfl, rfl⟩ := lift_inv e
  obtain ⟨v, e1, rv⟩ := hS.at_ i a (by
    cases q : ε[i]? with
    | none => rw [q] at ea; cases ea
    | some o => rw [q] at ea; cases o with
      | none => cases ea
      | some b => cases ea; rfl)
  exact ⟨v, e1, fin v μ H .refl rv s⟩
theorem ge_int {i : Int} {j pos} : GE X c W (.Constant (.int i) j pos) (dC (.int i)) := pe_int.imp (tD_const fun _ _ => .int i)
theorem ge_bl {b j pos} : GE X c W (.Constant (.bool b) j pos) (dC (.bl b)) := pe_bl.imp (tD_const fun _ _ => .bl b)
theorem ge_non {j pos} : GE X c W (.Constant .none j pos) (dC .non) := pe_non.imp (tD_const fun _ _ => .non)
theorem ge_str {x : Str} {j pos} : GE X c W (.Constant (.str x) j pos) (dC (.str x)) := pe_str.imp (tD_const fun _ _ => .str x)
/-- a module's constant -/
theorem ge_glob {x : Str} {p : PV} {v : V} {u : Value} {pos : Pos} (hg : Gl X x) (hm : X.mg x = some u) (r : RelV v u) (hr : ∀ μ H, RepV c μ H p v) (hd : (x == ("__debug__" : Str)) = false := by decide) : GE X c W (.Name x pos) (dC p) := (pe_glob hg hm r hd).imp (tD_const hr)

def aNil : Slo → M (List PV) := fun _ => pure []
def aCons (d : Slo → M PV) (ds : Slo → M (List PV)) : Slo → M (List PV) := fun ε => do
  let x ← d ε
  let xs ← ds ε
  pure (x :: xs)
theorem ga_nil : GA X c W [] aNil := by
  refine pa_nil.imp ?_
  rintro σ H Q ⟨ε, μ, st, r, st', hS, s, e, fin⟩
  obtain ⟨rfl, rfl⟩ := pure_inv e
  exact fin [] μ H .refl .nil s
theorem ga_cons {e : Expr} {es : List Expr} {d : Slo → M PV} {ds : Slo → M (List PV)} (h1 : GE X c W e d) (h2 : GA X c W es ds) (hs : starEach (e :: es) X.env = (false, eval e X.env) :: starEach es X.env := by rfl) : GA X c W (e :: es) (aCons d ds) := by
  refine (pa_cons h1 h2 hs).imp ?_
  rintro σ H Q ⟨ε, μ, st, r, st', hS, s, e, fin⟩
  refine step e hS s fin fun x v st1 μ1 H1 e1 x1 rx s1 hS1 fin1 => ?_
  refine step e1 hS1 s1 fin1 fun xs vs st2 μ2 H2 e2 x2 rxs s2 hS2 fin2 => ?_
  obtain ⟨rfl, rfl⟩ := pure_inv e2
  exact fin2 (v :: vs) μ2 H2 .refl (.cons (rx.mono x2) rxs) s2
def dTup (ds : Slo → M (List PV)) : Slo → M PV := fun ε => do
  let xs ← ds ε
  need (decide (xs.length ≤ 16777216))
  pure (.tup xs)
def newL (xs : List PV) : M PV := do
  need (decide (xs.length ≤ 16777216))
  let n ← newO (.lst xs)
  pure (.loc n)
def dLst (ds : Slo → M (List PV)) : Slo → M PV := fun ε => do
  let xs ← ds ε
  newL xs
theorem need_inv2 {α : Type} {b : Bool} {k : M α} {st st' : Sto} {r : Out α} (h : (need b >>= fun _ => k) st = some (r, st')) : b = true ∧ k st = some (r, st') := by
  cases b with
  | false => cases h
  | true => exact ⟨rfl, h⟩
theorem newL_inv {xs : List PV} {st st' : Sto} {r : Out PV} (h : newL xs st = some (r, st')) : xs.length ≤ sizeLine ∧ r = .ok (.loc st.length) ∧ st' = st ++ [.lst xs] := by
  obtain ⟨h1, h2⟩ := need_inv2 h
  cases h2
  exact ⟨by rw [sizeLine_eq]; exact of_decide_eq_true h1, rfl, rfl⟩
/-- a new tuple's end -/
theorem fin_tup {μ : List Addr} {H : Hp} {st : Sto} {xs : List PV} {vs : List V} {Q : VK} {W : XK} {p : Addr} (hp : H p = none) (r : RepL c μ H xs vs) (s : Sim c μ H st) (fin : Fin c (RepV c) μ H (.ok (.tup xs)) st Q W) : Q (.ref p) (upd H p (.tup vs)) :=
  fin _ μ _ (ext_tup hp) (.tup upd_same (r.mono (ext_tup hp))) (s.tuple hp)
/-- a new list's end -/
theorem fin_lst {μ : List Addr} {H : Hp} {st : Sto} {xs : List PV} {vs : List V} {Q : VK} {W : XK} {p : Addr} (hp : H p = none) (r : RepL c μ H xs vs) (s : Sim c μ H st) (fin : Fin c (RepV c) μ H (.ok (.loc st.length)) (st ++ [.lst xs]) Q W) : Q (.ref p) (upd H p (.lst vs)) :=
  fin _ (μ ++ [p]) _ (ext_new hp) (.loc (by rw [← s.len]; simp)) (s.new hp ⟨vs, upd_same, r.mono (ext_new hp)⟩)
theorem ge_tup {es : List Expr} {k : Nat} {pos : Pos} {ds : Slo → M (List PV)} (h : GA X c W es ds) : GE X c W (.Tuple es k pos) (dTup ds) := by
  refine (pe_tup h).imp ?_
  rintro σ H Q ⟨ε, μ, st, r, st', hS, s, e, fin⟩
  refine step e hS s fin fun xs vs st1 μ1 H1 e1 x1 rx s1 hS1 fin1 => ?_
  obtain ⟨h1, h2⟩ := need_inv2 e1
  obtain ⟨rfl, rfl⟩ := pure_inv h2
  exact ⟨by rw [← rx.length, sizeLine_eq]; exact of_decide_eq_true h1, fun p hp => fin_tup hp rx s1 fin1⟩
theorem ge_lst {es : List Expr} {pos : Pos} {ds : Slo → M (List PV)} (h : GA X c W es ds) : GE X c W (.List es pos) (dLst ds) := by
  refine (pe_lst h).imp ?_
  rintro σ H Q ⟨ε, μ, st, r, st', hS, s, e, fin⟩
  refine step e hS s fin fun xs vs st1 μ1 H1 e1 x1 rx s1 hS1 fin1 => ?_
  obtain ⟨h1, rfl, rfl⟩ := newL_inv e1
  exact ⟨by rw [← rx.length]; exact h1, fun p hp => fin_lst hp rx s1 fin1⟩
end

/-- of an exception's end it does not matter what is wanted of a value -/
theorem Fin.anyQ {c : Ct} {α β α' β' : Type} {Rel : List Addr → Hp → α → β → Prop} {Rel' : List Addr → Hp → α' → β' → Prop} {μ : List Addr} {H : Hp} {st : Sto} {C : Addr} {fs : List (Str × PV)} {Q : β → Hp → Prop} {Q' : β' → Hp → Prop} {W : XK} (h : Fin c Rel μ H (.ex C fs) st Q W) : Fin c Rel' μ H (.ex C fs) st Q' W := h
/-- the operator's reading r is f -/
def OpS (c : Ct) (r : R2) (f : PV → PV → M PV) : Prop :=
  ∀ (μ : List Addr) (H : Hp) (st st' : Sto) (x y : PV) (v w : V) (rr : Out PV) (Q : VK) (W : XK), RepV c μ H x v → RepV c μ H y w → Sim c μ H st → f x y st = some (rr, st') → Fin c (RepV c) μ H rr st' Q W → r v w H Q
def dBin (f : PV → PV → M PV) (a b : Slo → M PV) : Slo → M PV := fun ε => do
  let x ← a ε
  let y ← b ε
  f x y
section
variable {X : Cx} {c : Ct} {W : WX} {a b : Expr} {da db dc : Slo → M PV} {pos : Pos}
theorem tD_op {r : R2} {f : PV → PV → M PV} (hf : OpS c r f) : ∀ σ H Q, tD c W (dBin f da db) σ H Q → tOp r (tD c W da) (tD c W db) σ H Q := by
  rintro σ H Q ⟨ε, μ, st, rr, st', hS, s, e, fin⟩
  refine step e hS s fin fun x v st1 μ1 H1 e1 x1 rx s1 hS1 fin1 => ?_
  refine step e1 hS1 s1 fin1 fun y w st2 μ2 H2 e2 x2 ry s2 hS2 fin2 => ?_
  exact hf μ2 H2 st2 st' x y v w rr Q _ (rx.mono x2) ry s2 e2 fin2
theorem ge_bin {op : Operator} {r : R2} {f : PV → PV → M PV} (ho : OpR X (binaryOp op) r) (hf : OpS c r f) (ha : GE X c W a da) (hb : GE X c W b db) : GE X c W (.BinOp a op b pos) (dBin f da db) := (pe_op ho ha hb).imp (tD_op hf)
theorem ge_cmp {op : CmpOp} {r : R2} {f : PV → PV → M PV} (ho : OpR X (compareOp op) r) (hf : OpS c r f) (ha : GE X c W a da) (hb : GE X c W b db) (hm : behindInMarks op b = false) : GE X c W (.Compare a [op] [b] pos) (dBin f da db) := (pe_cmpR ho ha hb hm).imp (tD_op hf)
/-- a value that is a truth -/
def asB (p : PV) : M Bool := match p with
  | .bl b => pure b
  | _ => M.fail
theorem asB_inv {p : PV} {st st' : Sto} {r : Out Bool} (h : asB p st = some (r, st')) : ∃ b, p = .bl b ∧ r = .ok b ∧ st' = st := by
  cases p with
  | bl b => exact ⟨b, rfl, pure_inv h⟩
  | _ => cases h
def dB (d : Slo → M PV) : Slo → M Bool := fun ε => do
  let x ← d ε
  asB x
theorem tT_val : ∀ σ H Q, tT c W (dB da) σ H Q → tTest (tD c W da) σ H Q := by
  rintro σ H Q ⟨ε, μ, st, rr, st', hS, s, e, fin⟩
  refine step e hS s fin fun x v st1 μ1 H1 e1 x1 rx s1 hS1 fin1 => ?_
  obtain ⟨b, rfl, rfl, rfl⟩ := asB_inv e1
  cases rx
  exact ⟨b, rfl, fin1 b μ1 H1 .refl rfl s1⟩
theorem PT.imp2 {e : Expr} {t t' : TT} (h : PT X e t) (i : ∀ σ H Q, t' σ H Q → t σ H Q) : PT X e t' := h.imp i
/-- readings that give more -/
theorem tTest_mono {t t' : TE} (i : ∀ σ H Q, t' σ H Q → t σ H Q) : ∀ σ H Q, tTest t' σ H Q → tTest t σ H Q := fun σ H Q h => i σ H _ h
theorem gt_cmp {op : CmpOp} {r : R2} {f : PV → PV → M PV} (ho : OpR X (compareOp op) r) (hf : OpS c r f) (ha : GE X c W a da) (hb : GE X c W b db) (hm : behindInMarks op b = false) : GT X c W (.Compare a [op] [b] pos) (dB (dBin f da db)) :=
  (pt_cmpR ho ha hb hm).imp fun σ H Q h => tTest_mono (tD_op hf) σ H Q (tT_val σ H Q h)
/-- a op b op' d -/
def dChain (f g : PV → PV → M PV) (a b d : Slo → M PV) : Slo → M PV := fun ε => do
  let x ← a ε
  let y ← b ε
  let z ← f x y
  let k ← asB z
  if k = true then do
    let w ← d ε
    g y w
  else pure (.bl false)
theorem tD_chain {r r' : R2} {f g : PV → PV → M PV} (hf : OpS c r f) (hg : OpS c r' g) : ∀ σ H Q, tD c W (dChain f g da db dc) σ H Q → tChain r r' (tD c W da) (tD c W db) (tD c W dc) σ H Q := by
  rintro σ H Q ⟨ε, μ, st, rr, st', hS, s, e, fin⟩
  refine step e hS s fin fun x v st1 μ1 H1 e1 x1 rx s1 hS1 fin1 => ?_
  refine step e1 hS1 s1 fin1 fun y w st2 μ2 H2 e2 x2 ry s2 hS2 fin2 => ?_
  rcases bind_inv e2 with ⟨z, st3, e3, e4⟩ | ⟨C, fs, e3, e4⟩
  · refine hf μ2 H2 st2 st3 x y v w (.ok z) _ (fun _ _ _ => False) (rx.mono x2) ry s2 e3 ?_
    intro zv μ3 H3 x3 rz s3
    rcases bind_inv e4 with ⟨k, st4, e5, e6⟩ | ⟨C, fs, e5, e6⟩
    · obtain ⟨k', rfl, e7, rfl⟩ := asB_inv e5
      cases e7
      cases rz
      refine ⟨k, rfl, ?_⟩
      cases k with
      | true =>
        rw [if_pos rfl] at e6 ⊢
        refine step e6 (hS2.mono x3) s3 (fin2.mono x3) fun u wv st5 μ5 H5 e8 x5 rw s5 hS5 fin5 => ?_
        exact hg μ5 H5 st5 st' y u w wv rr Q _ (ry.mono (x3.trans x5)) rw s5 e8 fin5
      | false =>
        rw [if_neg Bool.false_ne_true] at e6 ⊢
        obtain ⟨rfl, rfl⟩ := pure_inv e6
        exact fin2 (.bl false) μ3 H3 x3 (.bl false) s3
    · obtain ⟨k', _, e7, _⟩ := asB_inv e5
      cases e7
  · subst e4
    exact hf μ2 H2 st2 st' x y v w (.ex C fs) _ (fun x y z => W x y σ z) (rx.mono x2) ry s2 e3 fin2.anyQ
theorem ge_chain {op op' : CmpOp} {r r' : R2} {f g : PV → PV → M PV} {e : Expr} (ho : OpR X (compareOp op) r) (hf : OpS c r f) (ho' : OpR X (compareOp op') r') (hg : OpS c r' g) (ha : GE X c W a da) (hb : GE X c W b db) (hd : GE X c W e dc)
    (hm : lastMarks [op, op'] [b, e] = false := by with_unfolding_all rfl) : GE X c W (.Compare a [op, op'] [b, e] pos) (dChain f g da db dc) := (pe_chain ho ho' ha hb hd hm).imp (tD_chain hf hg)
theorem gt_chain {op op' : CmpOp} {r r' : R2} {f g : PV → PV → M PV} {e : Expr} (ho : OpR X (compareOp op) r) (hf : OpS c r f) (ho' : OpR X (compareOp op') r') (hg : OpS c r' g) (ha : GE X c W a da) (hb : GE X c W b db) (hd : GE X c W e dc)
    (hm : lastMarks [op, op'] [b, e] = false := by with_unfolding_all rfl) : GT X c W (.Compare a [op, op'] [b, e] pos) (dB (dChain f g da db dc)) :=
  (pt_chain ho ho' ha hb hd hm).imp fun σ H Q h => tTest_mono (tD_chain hf hg) σ H Q (tT_val σ H Q h)
/-- any expression that is a truth, as a test -/
theorem gt_val {e : Expr} (h : GE X c W e da) (he : ∀ whole, isTrue e X.env whole = (do let v ← whole; standAt e.pos; holding [v] (truthy v)) := by intro _; rfl) : GT X c W e (dB da) := (pt_val h he).imp fun σ H Q q => tT_val σ H Q q
/-- and, or, not of tests -/
def bAnd (a b : Slo → M Bool) : Slo → M Bool := fun ε => do
  let x ← a ε
  if x = true then b ε else pure false
def bOr (a b : Slo → M Bool) : Slo → M Bool := fun ε => do
  let x ← a ε
  if x = true then pure true else b ε
def bNot (a : Slo → M Bool) : Slo → M Bool := fun ε => do
  let x ← a ε
  pure (!x)
variable {ba bb : Slo → M Bool} {rest : List Expr}
theorem gw_and1 (ha : GT X c W a ba) : GW X c W (.BoolOp .And [a] pos) ba := pw_and1 ha
theorem gw_or1 (ha : GT X c W a ba) : GW X c W (.BoolOp .Or [a] pos) ba := pw_or1 ha
theorem gw_and (ha : GT X c W a ba) (hb : GW X c W (.BoolOp .And (b :: rest) pos) bb) : GW X c W (.BoolOp .And (a :: b :: rest) pos) (bAnd ba bb) := by
  refine (pw_and ha hb).imp ?_
  rintro σ H Q ⟨ε, μ, st, rr, st', hS, s, e, fin⟩
  refine step e hS s fin fun x v st1 μ1 H1 e1 x1 rx s1 hS1 fin1 => ?_
  subst rx
  cases x with
  | true => exact last e1 hS1 s1 fin1
  | false =>
    obtain ⟨rfl, rfl⟩ := pure_inv e1
    exact fin1 false μ1 H1 .refl rfl s1
theorem gw_or (ha : GT X c W a ba) (hb : GW X c W (.BoolOp .Or (b :: rest) pos) bb) : GW X c W (.BoolOp .Or (a :: b :: rest) pos) (bOr ba bb) := by
  refine (pw_or ha hb).imp ?_
  rintro σ H Q ⟨ε, μ, st, rr, st', hS, s, e, fin⟩
  refine step e hS s fin fun x v st1 μ1 H1 e1 x1 rx s1 hS1 fin1 => ?_
  subst rx
  cases x with
  | false => exact last e1 hS1 s1 fin1
  | true =>
    obtain ⟨rfl, rfl⟩ := pure_inv e1
    exact fin1 true μ1 H1 .refl rfl s1
theorem gt_w {e : Expr} (h : GW X c W e ba) : GT X c W e ba := h.pt
theorem gt_not (ha : GT X c W a ba) : GT X c W (.UnaryOp .Not a pos) (bNot ba) := by
  refine (pt_not ha).imp ?_
  rintro σ H Q ⟨ε, μ, st, rr, st', hS, s, e, fin⟩
  refine step e hS s fin fun x v st1 μ1 H1 e1 x1 rx s1 hS1 fin1 => ?_
  subst rx
  obtain ⟨rfl, rfl⟩ := pure_inv e1
  exact fin1 (!x) μ1 H1 .refl rfl s1
/-- .. of values that are truths -/
def vAnd (a b : Slo → M PV) : Slo → M PV := fun ε => do
  let x ← a ε
  let k ← asB x
  if k = true then b ε else pure (.bl false)
def vOr (a b : Slo → M PV) : Slo → M PV := fun ε => do
  let x ← a ε
  let k ← asB x
  if k = true then pure (.bl true) else b ε
def vNot (a : Slo → M PV) : Slo → M PV := fun ε => do
  let x ← a ε
  let k ← asB x
  pure (.bl (!k))
theorem ge_one {op : BoolOp} (h : GE X c W a da) : GE X c W (.BoolOp op [a] pos) da := pe_one h
theorem ge_and (ha : GE X c W a da) (hb : GE X c W (.BoolOp .And (b :: rest) pos) db) : GE X c W (.BoolOp .And (a :: b :: rest) pos) (vAnd da db) := by
  refine (pe_and ha hb).imp ?_
  rintro σ H Q ⟨ε, μ, st, rr, st', hS, s, e, fin⟩
  refine step e hS s fin fun x v st1 μ1 H1 e1 x1 rx s1 hS1 fin1 => ?_
  rcases bind_inv e1 with ⟨k, st2, e2, e3⟩ | ⟨C, fs, e2, e3⟩
  · obtain ⟨b, rfl, e4, rfl⟩ := asB_inv e2
    cases e4
    cases rx
    refine ⟨k, rfl, ?_⟩
    cases k with
    | true => exact last e3 hS1 s1 fin1
    | false =>
      obtain ⟨rfl, rfl⟩ := pure_inv e3
      exact fin1 (.bl false) μ1 H1 .refl (.bl false) s1
  · obtain ⟨b, _, e4, _⟩ := asB_inv e2
    cases e4
theorem ge_or (ha : GE X c W a da) (hb : GE X c W (.BoolOp .Or (b :: rest) pos) db) : GE X c W (.BoolOp .Or (a :: b :: rest) pos) (vOr da db) := by
  refine (pe_or ha hb).imp ?_
  rintro σ H Q ⟨ε, μ, st, rr, st', hS, s, e, fin⟩
  refine step e hS s fin fun x v st1 μ1 H1 e1 x1 rx s1 hS1 fin1 => ?_
  rcases bind_inv e1 with ⟨k, st2, e2, e3⟩ | ⟨C, fs, e2, e3⟩
  · obtain ⟨b, rfl, e4, rfl⟩ := asB_inv e2
    cases e4
    cases rx
    refine ⟨k, rfl, ?_⟩
    cases k with
    | false => exact last e3 hS1 s1 fin1
    | true =>
      obtain ⟨rfl, rfl⟩ := pure_inv e3
      exact fin1 (.bl true) μ1 H1 .refl (.bl true) s1
  · obtain ⟨b, _, e4, _⟩ := asB_inv e2
    cases e4
theorem ge_not (ha : GE X c W a da) : GE X c W (.UnaryOp .Not a pos) (vNot da) := by
  refine (pe_not ha).imp ?_
  rintro σ H Q ⟨ε, μ, st, rr, st', hS, s, e, fin⟩
  refine step e hS s fin fun x v st1 μ1 H1 e1 x1 rx s1 hS1 fin1 => ?_
  rcases bind_inv e1 with ⟨k, st2, e2, e3⟩ | ⟨C, fs, e2, e3⟩
  · obtain ⟨b, rfl, e4, rfl⟩ := asB_inv e2
    cases e4
    cases rx
    refine ⟨k, rfl, ?_⟩
    obtain ⟨rfl, rfl⟩ := pure_inv e3
    exact fin1 (.bl (!k)) μ1 H1 .refl (.bl (!k)) s1
  · obtain ⟨b, _, e4, _⟩ := asB_inv e2
    cases e4
/-- x if t else y -/
def dIf (t : Slo → M Bool) (a b : Slo → M PV) : Slo → M PV := fun ε => do
  let k ← t ε
  if k = true then a ε else b ε
theorem ge_if {e : Expr} (ht : GT X c W e ba) (ha : GE X c W a da) (hb : GE X c W b db) : GE X c W (.IfExp e a b pos) (dIf ba da db) := by
  refine (pe_ifExp ht ha hb).imp ?_
  rintro σ H Q ⟨ε, μ, st, rr, st', hS, s, e, fin⟩
  refine step e hS s fin fun x v st1 μ1 H1 e1 x1 rx s1 hS1 fin1 => ?_
  subst rx
  cases x with
  | true => exact last e1 hS1 s1 fin1
  | false => exact last e1 hS1 s1 fin1
/-- an operator of one operand -/
def UnS (c : Ct) (r : V → Hp → VK → Prop) (f : PV → M PV) : Prop :=
  ∀ (μ : List Addr) (H : Hp) (st st' : Sto) (x : PV) (v : V) (rr : Out PV) (Q : VK) (W : XK), RepV c μ H x v → Sim c μ H st → f x st = some (rr, st') → Fin c (RepV c) μ H rr st' Q W → r v H Q
def dUn (f : PV → M PV) (a : Slo → M PV) : Slo → M PV := fun ε => do
  let x ← a ε
  f x
theorem ge_un {op : UnaryOp} {r : V → Hp → VK → Prop} {f : PV → M PV} (ho : UnR X (unaryOp op) r) (hf : UnS c r f) (ha : GE X c W a da) : GE X c W (.UnaryOp op a pos) (dUn f da) := by
  refine (pe_un ho ha).imp ?_
  rintro σ H Q ⟨ε, μ, st, rr, st', hS, s, e, fin⟩
  refine step e hS s fin fun x v st1 μ1 H1 e1 x1 rx s1 hS1 fin1 => ?_
  exact hf μ1 H1 st1 st' x v rr Q _ rx s1 e1 fin1
end
end G
namespace G
open PySem PySem.Spec PyProof.Rows L2

/-- a list's items at a place -/
def getL (n : Nat) : M (List PV) := fun st => match st[n]? with
  | some (.lst xs) => some (.ok xs, st)
  | _ => none
theorem getL_inv {n : Nat} {st st' : Sto} {r : Out (List PV)} (h : getL n st = some (r, st')) : ∃ xs, st[n]? = some (.lst xs) ∧ r = .ok xs ∧ st' = st := by
  unfold getL at h
  split at h
  · rename_i xs e
    cases h
    exact ⟨xs, e, rfl, rfl⟩
  · cases h
theorem bind_getL {α : Type} {n : Nat} {k : List PV → M α} {st st' : Sto} {r : Out α} (h : (getL n >>= k) st = some (r, st')) : ∃ xs, st[n]? = some (.lst xs) ∧ k xs st = some (r, st') := by
  rcases bind_inv h with ⟨xs, st1, e1, e2⟩ | ⟨C, fs, e1, e2⟩
  · obtain ⟨ys, e3, e4, rfl⟩ := getL_inv e1
    cases e4
    exact ⟨_, e3, e2⟩
  · obtain ⟨ys, _, e4, _⟩ := getL_inv e1
    cases e4
/-- what may be read as a list, as a tuple, as either -/
def readL (p : PV) : M (List PV) := match p with
  | .loc n => getL n
  | .scr ns => pure (ns.map .int)
  | _ => M.fail
def readT (p : PV) : M (List PV) := match p with
  | .tup xs => pure xs
  | .ktup xs => pure xs
  | _ => M.fail
def readS (p : PV) : M (List PV) := match p with
  | .loc n => getL n
  | .scr ns => pure (ns.map .int)
  | .tup xs => pure xs
  | .ktup xs => pure xs
  | _ => M.fail
section
variable {c : Ct} {μ : List Addr} {H : Hp} {st st' : Sto}
theorem Sim.lst (s : Sim c μ H st) {n : Nat} {xs : List PV} (e : st[n]? = some (.lst xs)) : ∃ a vs, μ[n]? = some a ∧ H a = some (.lst vs) ∧ RepL c μ H xs vs := by
  have hn : n < μ.length := by
    rw [s.len]
    exact (List.getElem?_eq_some_iff.mp e).1
  obtain ⟨vs, h1, h2⟩ := s.ob n _ _ (List.getElem?_eq_getElem hn) e
  exact ⟨_, vs, List.getElem?_eq_getElem hn, h1, h2⟩
theorem Sim.at_loc (s : Sim c μ H st) {n : Nat} {o : Ob} {v : V} (e : st[n]? = some o) (r : RepV c μ H (.loc n) v) : ∃ a, v = .ref a ∧ μ[n]? = some a ∧ SimO c μ H a o := by
  cases r with
  | loc h => exact ⟨_, rfl, h, s.ob n _ _ h e⟩
theorem readL_inv {p : PV} {v : V} {r : Out (List PV)} (s : Sim c μ H st) (rv : RepV c μ H p v) (h : readL p st = some (r, st')) : ∃ xs a vs, r = .ok xs ∧ st' = st ∧ v = .ref a ∧ SqL c.K H a vs ∧ RepL c μ H xs vs := by
  cases rv with
  | loc hl =>
    obtain ⟨xs, e1, e2, e3⟩ := getL_inv h
    obtain ⟨vs, h1, h2⟩ := s.ob _ _ _ hl e1
    exact ⟨xs, _, vs, e2, e3, rfl, SqL.of h1, h2⟩
  | scr =>
    obtain ⟨e1, e2⟩ := pure_inv h
    exact ⟨_, _, _, e1, e2, rfl, s.scrL, RepL0.ints _⟩
  | _ => cases h
theorem readT_inv {p : PV} {v : V} {r : Out (List PV)} (rv : RepV c μ H p v) (h : readT p st = some (r, st')) : ∃ xs a vs, r = .ok xs ∧ st' = st ∧ v = .ref a ∧ SqT c.K H a vs ∧ RepL c μ H xs vs := by
  cases rv with
  | tup h1 h2 =>
    obtain ⟨e1, e2⟩ := pure_inv h
    exact ⟨_, _, _, e1, e2, rfl, SqT.of h1, h2⟩
  | ktup h1 h2 =>
    obtain ⟨e1, e2⟩ := pure_inv h
    exact ⟨_, _, _, e1, e2, rfl, .inr h1, h2⟩
  | _ => cases h
theorem readS_inv {p : PV} {v : V} {r : Out (List PV)} (s : Sim c μ H st) (rv : RepV c μ H p v) (h : readS p st = some (r, st')) : ∃ xs a vs, r = .ok xs ∧ st' = st ∧ v = .ref a ∧ (SqL c.K H a vs ∨ SqT c.K H a vs) ∧ RepL c μ H xs vs := by
  cases rv with
  | loc hl =>
    obtain ⟨xs, e1, e2, e3⟩ := getL_inv h
    obtain ⟨vs, h1, h2⟩ := s.ob _ _ _ hl e1
    exact ⟨xs, _, vs, e2, e3, rfl, .inl (SqL.of h1), h2⟩
  | scr =>
    obtain ⟨e1, e2⟩ := pure_inv h
    exact ⟨_, _, _, e1, e2, rfl, .inl s.scrL, RepL0.ints _⟩
  | tup h1 h2 =>
    obtain ⟨e1, e2⟩ := pure_inv h
    exact ⟨_, _, _, e1, e2, rfl, .inr (SqT.of h1), h2⟩
  | ktup h1 h2 =>
    obtain ⟨e1, e2⟩ := pure_inv h
    exact ⟨_, _, _, e1, e2, rfl, .inr (.inr h1), h2⟩
  | _ => cases h
theorem bind_readL {α : Type} {p : PV} {v : V} {k : List PV → M α} {r : Out α} (s : Sim c μ H st) (rv : RepV c μ H p v) (h : (readL p >>= k) st = some (r, st')) : ∃ xs a vs, k xs st = some (r, st') ∧ v = .ref a ∧ SqL c.K H a vs ∧ RepL c μ H xs vs := by
  rcases bind_inv h with ⟨xs, st1, e1, e2⟩ | ⟨C, fs, e1, e2⟩
  · obtain ⟨ys, a, vs, e3, rfl, e4, e5, e6⟩ := readL_inv s rv e1
    cases e3
    exact ⟨_, a, vs, e2, e4, e5, e6⟩
  · obtain ⟨ys, a, vs, e3, _⟩ := readL_inv s rv e1
    cases e3
theorem bind_readS {α : Type} {p : PV} {v : V} {k : List PV → M α} {r : Out α} (s : Sim c μ H st) (rv : RepV c μ H p v) (h : (readS p >>= k) st = some (r, st')) : ∃ xs a vs, k xs st = some (r, st') ∧ v = .ref a ∧ (SqL c.K H a vs ∨ SqT c.K H a vs) ∧ RepL c μ H xs vs := by
  rcases bind_inv h with ⟨xs, st1, e1, e2⟩ | ⟨C, fs, e1, e2⟩
  · obtain ⟨ys, a, vs, e3, rfl, e4, e5, e6⟩ := readS_inv s rv e1
    cases e3
    exact ⟨_, a, vs, e2, e4, e5, e6⟩
  · obtain ⟨ys, a, vs, e3, _⟩ := readS_inv s rv e1
    cases e3
end

/-- tuples put together, some of the written part -/
def fCat (x y : PV) (a b : List PV) : M PV := do
  need (decide (a.length + b.length ≤ 16777216))
  pure (if a.isEmpty then y else if b.isEmpty then x else .tup (a ++ b))
def fAdd : PV → PV → M PV
  | .int i, .int j => pure (.int (i + j))
  | .str a, .str b => do
    need (decide (a.length + b.length ≤ 16777216))
    pure (.str (a ++ b))
  | .tup a, .tup b => do
    need (decide (a.length + b.length ≤ 16777216))
    pure (.tup (a ++ b))
  | .loc m, .loc n => do
    let a ← getL m
    let b ← getL n
    newL (a ++ b)
  | .ktup a, .tup b => fCat (.ktup a) (.tup b) a b
  | .tup a, .ktup b => fCat (.tup a) (.ktup b) a b
  | .ktup a, .ktup b => fCat (.ktup a) (.ktup b) a b
  | _, _ => M.fail
def rAddAll (K : PySem.W.Frag) : R2 := fun x y H Q => (rI0 (fun i j => .int (i + j))) x y H Q ∨ (∃ i j, x = .str i ∧ y = .str j ∧ i.length + j.length ≤ sizeLine ∧ Q (.str (i ++ j)) H) ∨ rCatA K x y H Q ∨ rCat x y H Q
theorem op_addAll {X : Cx} : OpR X (binaryOp .Add) (rAddAll X.K) := op_add.or (op_add_str.or (op_catA.or op_cat))
theorem fCat_ok {c : Ct} {μ : List Addr} {H : Hp} {st st' : Sto} {x y : PV} {a1 a2 : Addr} {xs ys : List PV} {vs ws : List V} {rr : Out PV} {Q : VK} {W : XK} (rx : RepV c μ H x (.ref a1)) (ry : RepV c μ H y (.ref a2)) (t1 : SqT c.K H a1 vs) (t2 : SqT c.K H a2 ws) (l1 : RepL c μ H xs vs) (l2 : RepL c μ H ys ws) (s : Sim c μ H st)
    (e : fCat x y xs ys st = some (rr, st')) (fin : Fin c (RepV c) μ H rr st' Q W) : rCatA c.K (.ref a1) (.ref a2) H Q := by
  obtain ⟨h1, h2⟩ := need_inv2 e
  obtain ⟨rfl, rfl⟩ := pure_inv h2
  have hz := of_decide_eq_true h1
  rw [l1.length, l2.length, ← sizeLine_eq] at hz
  refine ⟨_, _, _, _, rfl, rfl, t1, t2, hz, fun z => ?_, fun _ z => ?_, fun z1 z2 p hp => ?_⟩
  · subst z
    cases l1
    exact fin _ μ H .refl ry s
  · subst z
    cases l2
    cases xs with
    | nil => cases l1; contradiction
    | cons x1 xs1 => exact fin _ μ H .refl rx s
  · cases xs with
    | nil => cases l1; exact absurd rfl z1
    | cons x1 xs1 =>
      cases ys with
      | nil => cases l2; exact absurd rfl z2
      | cons y1 ys1 => exact fin_tup hp (l1.append l2) s fin
theorem ops_add {c : Ct} : OpS c (rAddAll c.K) fAdd := by
  intro μ H st st' x y v w rr Q W rx ry s e fin
  cases rx with
  | int i => cases ry with
    | int j =>
      obtain ⟨rfl, rfl⟩ := pure_inv e
      exact .inl ⟨i, j, rfl, rfl, fin _ μ H .refl (.int _) s⟩
    | _ => cases e
  | str a => cases ry with
    | str b =>
      obtain ⟨h1, h2⟩ := need_inv2 e
      obtain ⟨rfl, rfl⟩ := pure_inv h2
      exact .inr (.inl ⟨a, b, rfl, rfl, by rw [sizeLine_eq]; exact of_decide_eq_true h1, fin _ μ H .refl (.str _) s⟩)
    | _ => cases e
  | tup t1 l1 => cases ry with
    | tup t2 l2 =>
      rename_i xs _ _ ys
      obtain ⟨h1, h2⟩ := need_inv2 e
      obtain ⟨rfl, rfl⟩ := pure_inv h2
      have hz := of_decide_eq_true h1
      rw [l1.length, l2.length, ← sizeLine_eq] at hz
      refine .inr (.inr (.inl ⟨_, _, _, _, rfl, rfl, SqT.of t1, SqT.of t2, hz, fun z => ?_, fun _ z => ?_, fun _ _ p hp => fin_tup hp (l1.append l2) s fin⟩))
      · subst z
        cases l1
        exact fin _ μ H .refl (.tup t2 l2) s
      · subst z
        cases l2
        rw [List.append_nil] at fin
        exact fin _ μ H .refl (.tup t1 l1) s
    | ktup t2 l2 => exact .inr (.inr (.inl (fCat_ok (.tup t1 l1) (.ktup t2 l2) (SqT.of t1) (.inr t2) l1 l2 s e fin)))
    | _ => cases e
  | ktup t1 l1 => cases ry with
    | tup t2 l2 => exact .inr (.inr (.inl (fCat_ok (.ktup t1 l1) (.tup t2 l2) (.inr t1) (SqT.of t2) l1 l2 s e fin)))
    | ktup t2 l2 => exact .inr (.inr (.inl (fCat_ok (.ktup t1 l1) (.ktup t2 l2) (.inr t1) (.inr t2) l1 l2 s e fin)))
    | _ => cases e
  | loc h1 => cases ry with
    | loc h2 =>
      obtain ⟨xs, e1, e2⟩ := bind_getL e
      obtain ⟨ys, e3, e4⟩ := bind_getL e2
      obtain ⟨hz, rfl, rfl⟩ := newL_inv e4
      obtain ⟨vs, g1, r1⟩ := s.ob _ _ _ h1 e1
      obtain ⟨ws, g2, r2⟩ := s.ob _ _ _ h2 e3
      refine .inr (.inr (.inr ⟨_, _, vs, ws, rfl, rfl, g1, g2, ?_, fun p hp => fin_lst hp (r1.append r2) s fin⟩))
      rw [← r1.length, ← r2.length, ← List.length_append]
      exact hz
    | _ => cases e
  | _ => cases e
def fSub : PV → PV → M PV
  | .int i, .int j => pure (.int (i - j))
  | _, _ => M.fail
theorem ops_sub {c : Ct} : OpS c (rI0 fun i j => .int (i - j)) fSub := by
  intro μ H st st' x y v w rr Q W rx ry s e fin
  cases rx with
  | int i => cases ry with
    | int j =>
      obtain ⟨rfl, rfl⟩ := pure_inv e
      exact ⟨i, j, rfl, rfl, fin _ μ H .refl (.int _) s⟩
    | _ => cases e
  | _ => cases e
/-- one factor below 2 ^ 64 -/
def small64 (i : Int) : Bool := decide (-(2 ^ 64) < i) && decide (i < 2 ^ 64)
theorem small64_ok {i : Int} (h : small64 i = true) : -(2 ^ 64) < i ∧ i < 2 ^ 64 := by
  obtain ⟨a, b⟩ := Bool.and_eq_true_iff.mp h
  exact ⟨of_decide_eq_true a, of_decide_eq_true b⟩
def fMul : PV → PV → M PV
  | .int i, .int j => do
    need (small64 i || small64 j)
    pure (.int (i * j))
  | .loc m, .int k => do
    let xs ← getL m
    need (decide (0 ≤ k) && decide (k ≤ 10000) && decide (xs.length * k.toNat ≤ 16777216))
    newL (List.replicate k.toNat xs).flatten
  | _, _ => M.fail
def rMulAll : R2 := fun x y H Q => rI CMul (fun i j => .int (i * j)) x y H Q ∨ rRep x y H Q
theorem op_mulAll {X : Cx} : OpR X (binaryOp .Mult) rMulAll := op_mul.or op_rep
theorem RepL0.rep {c : Ct} {μ : List Addr} {H : Hp} {xs : List PV} {vs : List V} (h : RepL c μ H xs vs) : ∀ k : Nat, RepL c μ H (List.replicate k xs).flatten (List.replicate k vs).flatten
  | 0 => .nil
  | k + 1 => by
    rw [List.replicate_succ, List.replicate_succ, List.flatten_cons, List.flatten_cons]
    exact h.append (RepL0.rep h k)
theorem ops_mul {c : Ct} : OpS c rMulAll fMul := by
  intro μ H st st' x y v w rr Q W rx ry s e fin
  cases rx with
  | int i => cases ry with
    | int j =>
      obtain ⟨h1, h2⟩ := need_inv2 e
      obtain ⟨rfl, rfl⟩ := pure_inv h2
      exact .inl ⟨i, j, rfl, rfl, (Bool.or_eq_true_iff.mp h1).imp small64_ok small64_ok, fin _ μ H .refl (.int _) s⟩
    | _ => cases e
  | loc h1 => cases ry with
    | int k =>
      obtain ⟨xs, e1, e2⟩ := bind_getL e
      obtain ⟨h3, e3⟩ := need_inv2 e2
      obtain ⟨hz, rfl, rfl⟩ := newL_inv e3
      obtain ⟨vs, g1, r1⟩ := s.ob _ _ _ h1 e1
      obtain ⟨h4, h5⟩ := Bool.and_eq_true_iff.mp h3
      obtain ⟨h6, h7⟩ := Bool.and_eq_true_iff.mp h4
      have a1 := of_decide_eq_true h6
      have a2 := of_decide_eq_true h7
      have a3 := of_decide_eq_true h5
      exact .inr ⟨_, k, vs, rfl, rfl, g1, by omega, by omega, by rw [← r1.length, sizeLine_eq]; exact a3, fun p hp => fin_lst hp (r1.rep _) s fin⟩
    | _ => cases e
  | _ => cases e
def fDiv : PV → PV → M PV
  | .int i, .int j => do
    need (decide (0 < j) && decide (j < 1073741824))
    pure (.int (i / j))
  | _, _ => M.fail
theorem ops_div {c : Ct} : OpS c (rI CDiv fun i j => .int (i / j)) fDiv := by
  intro μ H st st' x y v w rr Q W rx ry s e fin
  cases rx with
  | int i => cases ry with
    | int j =>
      obtain ⟨h1, h2⟩ := need_inv2 e
      obtain ⟨rfl, rfl⟩ := pure_inv h2
      obtain ⟨a, b⟩ := Bool.and_eq_true_iff.mp h1
      exact ⟨i, j, rfl, rfl, ⟨of_decide_eq_true a, of_decide_eq_true b⟩, fin _ μ H .refl (.int _) s⟩
    | _ => cases e
  | _ => cases e
def fMod : PV → PV → M PV
  | .int i, .int j => do
    need (decide (0 < j))
    pure (.int (i % j))
  | _, _ => M.fail
theorem ops_mod {c : Ct} : OpS c (rI (fun _ j => 0 < j) fun i j => .int (i % j)) fMod := by
  intro μ H st st' x y v w rr Q W rx ry s e fin
  cases rx with
  | int i => cases ry with
    | int j =>
      obtain ⟨h1, h2⟩ := need_inv2 e
      obtain ⟨rfl, rfl⟩ := pure_inv h2
      exact ⟨i, j, rfl, rfl, of_decide_eq_true h1, fin _ μ H .refl (.int _) s⟩
    | _ => cases e
  | _ => cases e
def fPow : PV → PV → M PV
  | .int i, .int j => do
    need (decide (0 ≤ j) && decide (j ≤ 1000) && decide (i.natAbs < 2 ^ 64))
    pure (.int (i ^ j.toNat))
  | _, _ => M.fail
theorem ops_pow {c : Ct} : OpS c (rI CPow fun i j => .int (i ^ j.toNat)) fPow := by
  intro μ H st st' x y v w rr Q W rx ry s e fin
  cases rx with
  | int i => cases ry with
    | int j =>
      obtain ⟨h1, h2⟩ := need_inv2 e
      obtain ⟨rfl, rfl⟩ := pure_inv h2
      obtain ⟨a, b⟩ := Bool.and_eq_true_iff.mp h1
      obtain ⟨a1, a2⟩ := Bool.and_eq_true_iff.mp a
      have := of_decide_eq_true a1
      have := of_decide_eq_true a2
      exact ⟨i, j, rfl, rfl, ⟨by omega, by omega, of_decide_eq_true b⟩, fin _ μ H .refl (.int _) s⟩
    | _ => cases e
  | _ => cases e
def fNeg : PV → M PV
  | .int i => pure (.int (-i))
  | _ => M.fail
theorem uns_neg {c : Ct} : UnS c (rU fun i => .int (-i)) fNeg := by
  intro μ H st st' x v rr Q W rx s e fin
  cases rx with
  | int i =>
    obtain ⟨rfl, rfl⟩ := pure_inv e
    exact ⟨i, rfl, fin _ μ H .refl (.int _) s⟩
  | _ => cases e

def toD (st : Sto) : Nat → PV → Option PyData
  | 0, _ => none
  | _ + 1, .non => some .none
  | _ + 1, .bl b => some (.bool b)
  | _ + 1, .int i => some (.int i)
  | _ + 1, .str x => some (.str x)
  | k + 1, .tup xs => (xs.mapM (toD st k)).map .tuple
  | k + 1, .ktup xs => (xs.mapM (toD st k)).map .tuple
  | k + 1, .loc n => match st[n]? with
    | some (.lst xs) => (xs.mapM (toD st k)).map .list
    | _ => none
  | _ + 1, .scr ns => some (.list (ns.map .int))
section
variable {c : Ct} {μ : List Addr} {H : Hp} {st st' : Sto}
theorem mapM_dp {f : PV → Option PyData} (hf : ∀ x v d, RepV c μ H x v → f x = some d → Dp c.K H v d) : ∀ {xs : List PV} {vs : List V} {ds : List PyData}, RepL c μ H xs vs → xs.mapM f = some ds → DpAll c.K H vs ds
  | [], _, ds, r, e => by
    cases r
    simp at e
    subst e
    exact .nil
  | x :: xs, _, ds, r, e => by
    cases r with
    | cons r1 r2 =>
      rw [List.mapM_cons] at e
      cases q : f x with
      | none => rw [q] at e; cases e
      | some d =>
        rw [q] at e
        cases q2 : xs.mapM f with
        | none => rw [q2] at e; cases e
        | some ds' =>
          rw [q2] at e
          cases e
          exact .cons (hf _ _ _ r1 q) (mapM_dp hf r2 q2)
theorem ints_dp : ∀ ns : List Int, DpAll c.K H (ns.map V.int) (ns.map PyData.int)
  | [] => .nil
  | n :: r => .cons (.int n) (ints_dp r)
theorem toD_dp (s : Sim c μ H st) : ∀ (k : Nat) (x : PV) (v : V) (d : PyData), RepV c μ H x v → toD st k x = some d → Dp c.K H v d
  | 0, _, _, _, _, e => by cases e
  | k + 1, .non, _, _, r, e => by cases r; cases e; exact .non
  | k + 1, .bl b, _, _, r, e => by cases r; cases e; exact .bl b
  | k + 1, .int i, _, _, r, e => by cases r; cases e; exact .int i
  | k + 1, .str x, _, _, r, e => by cases r; cases e; exact .str x
  | k + 1, .tup xs, _, d, r, e => by
    cases r with
    | tup h1 h2 =>
      have e' : (xs.mapM (toD st k)).map PyData.tuple = some d := e
      cases q : xs.mapM (toD st k) with
      | none => rw [q] at e'; cases e'
      | some ds =>
        rw [q] at e'
        cases e'
        exact .tup (SqT.of h1) (mapM_dp (fun x v d h1 h2 => toD_dp s k x v d h1 h2) h2 q)
  | k + 1, .ktup xs, _, d, r, e => by
    cases r with
    | ktup h1 h2 =>
      have e' : (xs.mapM (toD st k)).map PyData.tuple = some d := e
      cases q : xs.mapM (toD st k) with
      | none => rw [q] at e'; cases e'
      | some ds =>
        rw [q] at e'
        cases e'
        exact .tup (.inr h1) (mapM_dp (fun x v d h1 h2 => toD_dp s k x v d h1 h2) h2 q)
  | k + 1, .loc n, _, d, r, e => by
    cases r with
    | loc h1 =>
      have e' : (match st[n]? with
        | some (.lst xs) => (xs.mapM (toD st k)).map PyData.list
        | _ => none) = some d := e
      split at e'
      · rename_i xs ex
        obtain ⟨vs, g1, r1⟩ := s.ob _ _ _ h1 ex
        cases q : xs.mapM (toD st k) with
        | none => rw [q] at e'; cases e'
        | some ds =>
          rw [q] at e'
          cases e'
          exact .lst (SqL.of g1) (mapM_dp (fun x v d h1 h2 => toD_dp s k x v d h1 h2) r1 q)
      · cases e'
  | k + 1, .scr ns, _, d, r, e => by
    cases r
    cases e
    exact .lst s.scrL (ints_dp _)
end
/-- not too deep -/
def shp (d : PyData) : Bool := decide (d.depth ≤ 64)
mutual
theorem dp_plain {K : PySem.W.Frag} {H : Hp} : ∀ {d : PyData} {v : V}, Dp K H v d → d.plain = true
  | .none, _, _ => rfl
  | .bool _, _, _ => rfl
  | .int _, _, _ => rfl
  | .str _, _, _ => rfl
  | .list ds, _, h => by
    cases h with
    | lst _ h => exact dpAll_plain h
  | .tuple ds, _, h => by
    cases h with
    | tup _ h => exact dpAll_plain h
  | .dict _, _, h => by cases h
theorem dpAll_plain {K : PySem.W.Frag} {H : Hp} : ∀ {ds : List PyData} {vs : List V}, DpAll K H vs ds → PyData.plainAll ds = true
  | [], _, _ => rfl
  | d :: ds, _, h => by
    cases h with
    | cons h1 h2 =>
      show (d.plain && PyData.plainAll ds) = true
      rw [dp_plain h1, dpAll_plain h2]
      rfl
end
def rEqP (K : PySem.W.Frag) : R2 := fun x y H Q => ∃ d e, Dp K H x d ∧ Dp K H y e ∧ shp d = true ∧ shp e = true ∧ Q (.bl (PyData.eqv d e)) H
def rNeP (K : PySem.W.Frag) : R2 := fun x y H Q => ∃ d e, Dp K H x d ∧ Dp K H y e ∧ shp d = true ∧ shp e = true ∧ Q (.bl (!PyData.eqv d e)) H
theorem op_eqP {X : Cx} (hu : X.A.units + 64 < cLine) : OpR X (compareOp .Eq) (rEqP X.K) := by
  intro pins s σ H x y v u Q I rx ry h
  obtain ⟨d, e, hd, he, sd, se, q⟩ := h
  obtain ⟨as, r1⟩ := Dp.reads I d x v hd rx
  obtain ⟨bs, r2⟩ := Dp.reads I e y u he ry
  have sd' : d.depth ≤ 64 := of_decide_eq_true sd
  exact SeqAt.eq_plain r1 r2 (dp_plain hd) (dp_plain he) (by omega) ⟨.bl _, H, I, rfl, q⟩
theorem op_neP {X : Cx} (hu : X.A.units + 64 < cLine) : OpR X (compareOp .NotEq) (rNeP X.K) := by
  intro pins s σ H x y v u Q I rx ry h
  obtain ⟨d, e, hd, he, sd, se, q⟩ := h
  obtain ⟨as, r1⟩ := Dp.reads I d x v hd rx
  obtain ⟨bs, r2⟩ := Dp.reads I e y u he ry
  have sd' : d.depth ≤ 64 := of_decide_eq_true sd
  exact SeqAt.ne_plain r1 r2 (dp_plain hd) (dp_plain he) (by omega) ⟨.bl _, H, I, rfl, q⟩
/-- what is compared, shown -/
def getD (x : PV) : M PyData := fun st => match toD st 60 x with
  | some d => if shp d = true then some (.ok d, st) else none
  | none => none
theorem getD_inv {x : PV} {st st' : Sto} {r : Out PyData} (h : getD x st = some (r, st')) : ∃ d, toD st 60 x = some d ∧ shp d = true ∧ r = .ok d ∧ st' = st := by
  unfold getD at h
  split at h
  · rename_i d e
    split at h
    · rename_i q
      cases h
      exact ⟨d, e, q, rfl, rfl⟩
    · cases h
  · cases h
theorem bind_getD {c : Ct} {μ : List Addr} {H : Hp} {α : Type} {x : PV} {v : V} {k : PyData → M α} {st st' : Sto} {r : Out α} (s : Sim c μ H st) (rv : RepV c μ H x v) (h : (getD x >>= k) st = some (r, st')) : ∃ d, toD st 60 x = some d ∧ Dp c.K H v d ∧ shp d = true ∧ k d st = some (r, st') := by
  rcases bind_inv h with ⟨xs, st1, e1, e2⟩ | ⟨C, fs, e1, e2⟩
  · obtain ⟨d, e3, e4, e5, rfl⟩ := getD_inv e1
    cases e5
    exact ⟨_, e3, toD_dp s 60 x v _ rv e3, e4, e2⟩
  · obtain ⟨d, e3, e4, e5, _⟩ := getD_inv e1
    cases e5
def fEq (x y : PV) : M PV := do
  let d ← getD x
  let e ← getD y
  pure (.bl (PyData.eqv d e))
def fNe (x y : PV) : M PV := do
  let d ← getD x
  let e ← getD y
  pure (.bl (!PyData.eqv d e))
theorem ops_eq {c : Ct} : OpS c (rEqP c.K) fEq := by
  intro μ H st st' x y v w rr Q W rx ry s e fin
  obtain ⟨d, _, hd, sd, e1⟩ := bind_getD s rx e
  obtain ⟨d', _, hd', sd', e2⟩ := bind_getD s ry e1
  obtain ⟨rfl, rfl⟩ := pure_inv e2
  exact ⟨d, d', hd, hd', sd, sd', fin _ μ H .refl (.bl _) s⟩
theorem ops_ne {c : Ct} : OpS c (rNeP c.K) fNe := by
  intro μ H st st' x y v w rr Q W rx ry s e fin
  obtain ⟨d, _, hd, sd, e1⟩ := bind_getD s rx e
  obtain ⟨d', _, hd', sd', e2⟩ := bind_getD s ry e1
  obtain ⟨rfl, rfl⟩ := pure_inv e2
  exact ⟨d, d', hd, hd', sd, sd', fin _ μ H .refl (.bl _) s⟩

def fCmp (p : Int → Int → Bool) (q : Str → Str → Bool) : PV → PV → M PV
  | .int i, .int j => pure (.bl (p i j))
  | .str a, .str b => pure (.bl (q a b))
  | _, _ => M.fail
def rCmp (p : Int → Int → Bool) (q : Str → Str → Bool) : R2 := fun x y H Q => rI0 (fun i j => .bl (p i j)) x y H Q ∨ ∃ i j, x = .str i ∧ y = .str j ∧ Q (.bl (q i j)) H
theorem ops_cmp {c : Ct} {p : Int → Int → Bool} {q : Str → Str → Bool} : OpS c (rCmp p q) (fCmp p q) := by
  intro μ H st st' x y v w rr Q W rx ry s e fin
  cases rx with
  | int i => cases ry with
    | int j =>
      obtain ⟨rfl, rfl⟩ := pure_inv e
      exact .inl ⟨i, j, rfl, rfl, fin _ μ H .refl (.bl _) s⟩
    | _ => cases e
  | str i => cases ry with
    | str j =>
      obtain ⟨rfl, rfl⟩ := pure_inv e
      exact .inr ⟨i, j, rfl, rfl, fin _ μ H .refl (.bl _) s⟩
    | _ => cases e
  | _ => cases e
def sLt (a b : Str) : Bool := decide (a.cps.toList < b.cps.toList)
abbrev fLt := fCmp (fun i j => decide (i < j)) sLt
abbrev fLe := fCmp (fun i j => decide (i ≤ j)) (fun a b => !sLt b a)
abbrev fGt := fCmp (fun i j => decide (j < i)) (fun a b => sLt b a)
abbrev fGe := fCmp (fun i j => decide (j ≤ i)) (fun a b => !sLt a b)
section
variable {X : Cx}
theorem op_ltA : OpR X (compareOp .Lt) (rCmp (fun i j => decide (i < j)) sLt) := op_lt.or op_lt_str
theorem op_leA : OpR X (compareOp .LtE) (rCmp (fun i j => decide (i ≤ j)) (fun a b => !sLt b a)) := op_le.or op_le_str
theorem op_gtA : OpR X (compareOp .Gt) (rCmp (fun i j => decide (j < i)) (fun a b => sLt b a)) := op_gt.or op_gt_str
theorem op_geA : OpR X (compareOp .GtE) (rCmp (fun i j => decide (j ≤ i)) (fun a b => !sLt a b)) := op_ge.or op_ge_str
end

def isNone : PV → Bool
  | .non => true
  | _ => false
def fIsN (neg : Bool) (x y : PV) : M PV := match y with
  | .non => pure (.bl (if neg = true then !isNone x else isNone x))
  | _ => M.fail
theorem isNone_ok {c : Ct} {μ : List Addr} {H : Hp} {x : PV} {v : V} (r : RepV c μ H x v) : decide (v = .non) = isNone x := by
  cases r <;> rfl
theorem ops_isN {c : Ct} : OpS c (fun x y H Q => y = .non ∧ Q (.bl (decide (x = .non))) H) (fIsN false) := by
  intro μ H st st' x y v w rr Q W rx ry s e fin
  cases ry with
  | non =>
    obtain ⟨rfl, rfl⟩ := pure_inv e
    refine ⟨rfl, ?_⟩
    rw [isNone_ok rx]
    exact fin _ μ H .refl (.bl _) s
  | _ => cases e
theorem ops_notN {c : Ct} : OpS c (fun x y H Q => y = .non ∧ Q (.bl (!decide (x = .non))) H) (fIsN true) := by
  intro μ H st st' x y v w rr Q W rx ry s e fin
  cases ry with
  | non =>
    obtain ⟨rfl, rfl⟩ := pure_inv e
    refine ⟨rfl, ?_⟩
    rw [isNone_ok rx]
    exact fin _ μ H .refl (.bl _) s
  | _ => cases e

end G
namespace G
open PySem PySem.Spec PyProof.Rows L2

theorem PE.or {X : Cx} {e : Expr} {t u : TE} (h : PE X e t) (h' : PE X e u) : PE X e (fun σ H Q => t σ H Q ∨ u σ H Q) := ⟨fun pins s σ H Q I q => q.elim (h.run pins s σ H Q I) (h'.run pins s σ H Q I)⟩
section
variable {c : Ct} {μ : List Addr} {H : Hp} {st st' st1 : Sto}
/-- a part whose end is known -/
theorem stepAt {α β γ δ : Type} {Rel : List Addr → Hp → α → β → Prop} {Rel' : List Addr → Hp → γ → δ → Prop} {W : WX} {d : Slo → M α} {ε : Slo} {σ : St} {a : α} {r : Out γ} {Q : δ → Hp → Prop} {R : β → Hp → Prop}
    (e : d ε st = some (.ok a, st1)) (hS : RepS c μ H ε σ) (s : Sim c μ H st) (fin : Fin c Rel' μ H r st' Q (fun x y z => W x y σ z))
    (cont : ∀ b μ1 H1, Ext c μ H μ1 H1 → Rel μ1 H1 a b → Sim c μ1 H1 st1 → RepS c μ1 H1 ε σ → Fin c Rel' μ1 H1 r st' Q (fun x y z => W x y σ z) → R b H1) : tR c Rel W d σ H R :=
  ⟨ε, μ, st, .ok a, st1, hS, s, e, fun y μ' H' x rr s' => cont y μ' H' x rr s' (hS.mono x) (fin.mono x)⟩
theorem stepEx {α β γ δ : Type} {Rel : List Addr → Hp → α → β → Prop} {Rel' : List Addr → Hp → γ → δ → Prop} {W : WX} {d : Slo → M α} {ε : Slo} {σ : St} {C : Addr} {fs : List (Str × PV)} {Q : δ → Hp → Prop} {R : β → Hp → Prop}
    (e : d ε st = some (.ex C fs, st')) (hS : RepS c μ H ε σ) (s : Sim c μ H st) (fin : Fin c Rel' μ H (.ex C fs) st' Q (fun x y z => W x y σ z)) : tR c Rel W d σ H R :=
  ⟨ε, μ, st, .ex C fs, st', hS, s, e, fin⟩
end

def asK : PV → Option Key
  | .int i => some (.inl i)
  | .str x => some (.inr x)
  | _ => none
def asKs : PV → Option (List Key)
  | .tup xs => xs.mapM asK
  | _ => none
def valP {κ : Type} [DecidableEq κ] (kvs : List (κ × PV)) (k : κ) : Option PV := (kvs.find? fun kv => decide (kv.1 = k)).map (·.2)
def putP {κ : Type} [DecidableEq κ] (kvs : List (κ × PV)) (k : κ) (v : PV) : List (κ × PV) :=
  if (kvs.any fun kv => decide (kv.1 = k)) = true then kvs.map (fun kv => if kv.1 = k then (kv.1, v) else kv) else kvs ++ [(k, v)]
/-- what a dict has at a key -/
def dLook (o : Ob) (p : PV) : Option (Option PV) := match o with
  | .dK kvs => (asK p).map (valP kvs)
  | .dT kvs => (asKs p).map (valP kvs)
  | .fK kvs => (asK p).map (valP kvs)
  | .fT kvs => (asKs p).map (valP kvs)
  | _ => none
def RepO (c : Ct) (μ : List Addr) (H : Hp) : Option PV → Option V → Prop
  | some p, some v => RepV c μ H p v
  | none, none => True
  | _, _ => False
section
variable {c : Ct} {μ : List Addr} {H : Hp} {st st' : Sto}
theorem asK_ok {p : PV} {v : V} {k : Key} (r : RepV c μ H p v) (e : asK p = some k) : v = kV k := by
  cases r with
  | int i => cases e; rfl
  | str x => cases e; rfl
  | _ => cases e
theorem mapM_asK : ∀ {xs : List PV} {vs : List V} {ks : List Key}, RepL c μ H xs vs → xs.mapM asK = some ks → vs = ks.map kV
  | [], _, ks, r, e => by
    cases r
    simp at e
    subst e
    rfl
  | x :: xs, _, ks, r, e => by
    cases r with
    | cons r1 r2 =>
      rw [List.mapM_cons] at e
      cases q : asK x with
      | none => rw [q] at e; cases e
      | some d =>
        rw [q] at e
        cases q2 : xs.mapM asK with
        | none => rw [q2] at e; cases e
        | some ds' =>
          rw [q2] at e
          cases e
          rw [asK_ok r1 q, mapM_asK r2 q2]
          rfl
theorem asKs_ok {p : PV} {v : V} {k : List Key} (r : RepV c μ H p v) (e : asKs p = some k) : ∃ b, v = .ref b ∧ H b = some (.tup (k.map kV)) := by
  cases r with
  | tup h1 h2 =>
    rw [mapM_asK h2 e] at h1
    exact ⟨_, rfl, h1⟩
  | _ => cases e
theorem valP_ok {κ : Type} [DecidableEq κ] {k : κ} : ∀ {kvs : List (κ × PV)} {ws : List (κ × V)}, RepF c μ H kvs ws → RepO c μ H (valP kvs k) (valV ws k)
  | _, _, .nil => trivial
  | p :: r, q :: t, .cons h h' => by
    obtain ⟨e, rv⟩ := h
    by_cases x : p.1 = k
    · have e1 : valP (p :: r) k = some p.2 := by simp [valP, List.find?_cons, x]
      rw [e1, valV_pos (e ▸ x)]
      exact rv
    · have e1 : valP (p :: r) k = valP r k := by simp [valP, List.find?_cons, x]
      rw [e1, valV_neg (fun z => x (e ▸ z))]
      exact valP_ok h'
theorem any_ok {κ : Type} [DecidableEq κ] {k : κ} : ∀ {kvs : List (κ × PV)} {ws : List (κ × V)}, RepF c μ H kvs ws → (kvs.any fun kv => decide (kv.1 = k)) = ws.any fun kv => decide (kv.1 = k)
  | _, _, .nil => rfl
  | p :: r, q :: t, .cons h h' => by rw [List.any_cons, List.any_cons, h.1, any_ok h']
theorem map_put_ok {κ : Type} [DecidableEq κ] {k : κ} {p : PV} {v : V} (rv : RepV c μ H p v) : ∀ {kvs : List (κ × PV)} {ws : List (κ × V)}, RepF c μ H kvs ws →
    RepF c μ H (kvs.map fun kv => if kv.1 = k then (kv.1, p) else kv) (ws.map fun kv => if kv.1 = k then (kv.1, v) else kv)
  | _, _, .nil => .nil
  | x :: r, y :: t, .cons h h' => by
    refine .cons ?_ (map_put_ok rv h')
    by_cases z : x.1 = k
    · have z' : y.1 = k := h.1 ▸ z
      simp only [z, z', if_true]
      exact ⟨trivial, rv⟩
    · have z' : ¬ y.1 = k := fun q => z (h.1 ▸ q)
      simp only [z, z', if_false]
      exact h
theorem RepF.append {κ : Type} : ∀ {a b : List (κ × PV)} {v w : List (κ × V)}, RepF c μ H a v → RepF c μ H b w → RepF c μ H (a ++ b) (v ++ w)
  | _, _, _, _, .nil, h => h
  | _, _, _, _, .cons h t, h' => .cons h (RepF.append t h')
theorem putP_ok {κ : Type} [DecidableEq κ] {k : κ} {p : PV} {v : V} (rv : RepV c μ H p v) {kvs : List (κ × PV)} {ws : List (κ × V)} (h : RepF c μ H kvs ws) : RepF c μ H (putP kvs k p) (putK ws k v) := by
  unfold putP putK
  rw [any_ok h]
  split
  · exact map_put_ok rv h
  · exact h.append (.cons ⟨rfl, rv⟩ .nil)
theorem RepF.len {κ : Type} {a : List (κ × PV)} {v : List (κ × V)} (h : RepF c μ H a v) : a.length = v.length := Paired.length h
theorem dget_ok {a : Addr} {o : Ob} {p : PV} {y : V} {x : Option PV} (so : SimO c μ H a o) (r : RepV c μ H p y) (e : dLook o p = some x) : ∃ z, DGet H a y z ∧ RepO c μ H x z := by
  cases o with
  | dK kvs =>
    obtain ⟨ws, h1, h2⟩ := so
    cases q : asK p with
    | none => rw [dLook, q] at e; cases e
    | some k =>
      rw [dLook, q] at e
      cases e
      obtain rfl := asK_ok r q
      exact ⟨_, .inl ⟨ws, k, .inl h1, rfl, rfl⟩, valP_ok h2⟩
  | dT kvs =>
    obtain ⟨ws, h1, h2⟩ := so
    cases q : asKs p with
    | none => rw [dLook, q] at e; cases e
    | some k =>
      rw [dLook, q] at e
      cases e
      obtain ⟨b, rfl, hb⟩ := asKs_ok r q
      exact ⟨_, .inr ⟨ws, k, b, .inl h1, rfl, hb, rfl⟩, valP_ok h2⟩
  | fK kvs =>
    obtain ⟨od, ws, h1, h2⟩ := so
    cases q : asK p with
    | none => rw [dLook, q] at e; cases e
    | some k =>
      rw [dLook, q] at e
      cases e
      obtain rfl := asK_ok r q
      exact ⟨_, .inl ⟨ws, k, .inr ⟨_, h1⟩, rfl, rfl⟩, valP_ok h2⟩
  | fT kvs =>
    obtain ⟨od, ws, h1, h2⟩ := so
    cases q : asKs p with
    | none => rw [dLook, q] at e; cases e
    | some k =>
      rw [dLook, q] at e
      cases e
      obtain ⟨b, rfl, hb⟩ := asKs_ok r q
      exact ⟨_, .inr ⟨ws, k, b, .inr ⟨_, h1⟩, rfl, hb, rfl⟩, valP_ok h2⟩
  | _ => cases e
/-- the dict behind a store -/
def dPut (o : Ob) (p v : PV) : Option Ob := match o with
  | .dK kvs => if kvs.length < 16777216 then (asK p).map fun k => .dK (putP kvs k v) else none
  | .dT kvs => if kvs.length < 16777216 then (asKs p).map fun k => .dT (putP kvs k v) else none
  | _ => none
theorem dput_ok {n : Nat} {a : Addr} {o o' : Ob} {p v : PV} {y z : V} (s : Sim c μ H st) (ha : μ[n]? = some a) (ho : st[n]? = some o) (r : RepV c μ H p y) (rv : RepV c μ H v z) (e : dPut o p v = some o') :
    ∃ H', DPut H a y z H' ∧ Ext c μ H μ H' ∧ Sim c μ H' (st.set n o') := by
  have so := s.ob n a o ha ho
  cases o with
  | dK kvs =>
    obtain ⟨ws, h1, h2⟩ := id so
    simp only [dPut] at e
    split at e
    · rename_i hl
      cases q : asK p with
      | none => rw [q] at e; cases e
      | some k =>
        rw [q] at e
        cases e
        obtain rfl := asK_ok r q
        have x : Ext c μ H μ (upd H a (.dK (putK ws k z))) := ext_mut (SimO.mut rfl so)
        exact ⟨_, .inl ⟨ws, k, h1, rfl, by rw [← h2.len, sizeLine_eq]; exact hl, rfl⟩, x, s.put ha ho ⟨_, upd_same, (putP_ok rv h2).mono x⟩⟩
    · cases e
  | dT kvs =>
    obtain ⟨ws, h1, h2⟩ := id so
    simp only [dPut] at e
    split at e
    · rename_i hl
      cases q : asKs p with
      | none => rw [q] at e; cases e
      | some k =>
        rw [q] at e
        cases e
        obtain ⟨b, rfl, hb⟩ := asKs_ok r q
        have x : Ext c μ H μ (upd H a (.dT (putK ws k z))) := ext_mut (SimO.mut rfl so)
        exact ⟨_, .inr ⟨ws, k, b, h1, rfl, hb, by rw [← h2.len, sizeLine_eq]; exact hl, rfl⟩, x, s.put ha ho ⟨_, upd_same, (putP_ok rv h2).mono x⟩⟩
    · cases e
  | _ => cases e
end

section
variable {X : Cx}
def rInT (K : PySem.W.Frag) : R2 := fun x y H Q => ∃ d ds, Dp K H x d ∧ Dp K H y (.tuple ds) ∧ shp d = true ∧ shp (.tuple ds) = true ∧ Q (.bl (ds.any fun z => PyData.eqv z d)) H
def rNotInT (K : PySem.W.Frag) : R2 := fun x y H Q => ∃ d ds, Dp K H x d ∧ Dp K H y (.tuple ds) ∧ shp d = true ∧ shp (.tuple ds) = true ∧ Q (.bl (!ds.any fun z => PyData.eqv z d)) H
def rInL (K : PySem.W.Frag) : R2 := fun x y H Q => ∃ d ds, Dp K H x d ∧ Dp K H y (.list ds) ∧ shp d = true ∧ shp (.list ds) = true ∧ Q (.bl (ds.any fun z => PyData.eqv z d)) H
def rNotInL (K : PySem.W.Frag) : R2 := fun x y H Q => ∃ d ds, Dp K H x d ∧ Dp K H y (.list ds) ∧ shp d = true ∧ shp (.list ds) = true ∧ Q (.bl (!ds.any fun z => PyData.eqv z d)) H
theorem room_inP {n : Nat} {m : Nat} {d : PyData} (sd : shp d = true) (hu : n + 65 < cLine) : n + 1 + min m d.depth < cLine := by
  have sd' : d.depth ≤ 64 := of_decide_eq_true sd
  omega
theorem op_inT (hu : X.A.units + 65 < cLine) : OpR X (compareOp .In) (rInT X.K) := by
  rintro pins s σ H x y v u Q I rx ry ⟨d, ds, hd, he, sd, se, q⟩
  obtain ⟨as, r1⟩ := Dp.reads I d x v hd rx
  obtain ⟨bs, r2⟩ := Dp.reads I (.tuple ds) y u he ry
  exact SeqAt.in_tuple_data r2 r1 (dp_plain he) (dp_plain hd) (room_inP sd hu) ⟨.bl _, H, I, rfl, q⟩
theorem op_notInT (hu : X.A.units + 65 < cLine) : OpR X (compareOp .NotIn) (rNotInT X.K) := by
  rintro pins s σ H x y v u Q I rx ry ⟨d, ds, hd, he, sd, se, q⟩
  obtain ⟨as, r1⟩ := Dp.reads I d x v hd rx
  obtain ⟨bs, r2⟩ := Dp.reads I (.tuple ds) y u he ry
  exact SeqAt.notIn_tuple_data r2 r1 (dp_plain he) (dp_plain hd) (room_inP sd hu) ⟨.bl _, H, I, rfl, q⟩
theorem op_inL (hu : X.A.units + 65 < cLine) : OpR X (compareOp .In) (rInL X.K) := by
  rintro pins s σ H x y v u Q I rx ry ⟨d, ds, hd, he, sd, se, q⟩
  obtain ⟨as, r1⟩ := Dp.reads I d x v hd rx
  obtain ⟨bs, r2⟩ := Dp.reads I (.list ds) y u he ry
  exact SeqAt.in_list_data r2 r1 (dp_plain he) (dp_plain hd) (room_inP sd hu) ⟨.bl _, H, I, rfl, q⟩
theorem op_notInL (hu : X.A.units + 65 < cLine) : OpR X (compareOp .NotIn) (rNotInL X.K) := by
  rintro pins s σ H x y v u Q I rx ry ⟨d, ds, hd, he, sd, se, q⟩
  obtain ⟨as, r1⟩ := Dp.reads I d x v hd rx
  obtain ⟨bs, r2⟩ := Dp.reads I (.list ds) y u he ry
  exact SeqAt.notIn_list_data r2 r1 (dp_plain he) (dp_plain hd) (room_inP sd hu) ⟨.bl _, H, I, rfl, q⟩
def rInKeys (neg : Bool) : R2 := fun y x H Q => ∃ a o, x = .ref a ∧ DGet H a y o ∧ Q (.bl (if neg = true then !o.isSome else o.isSome)) H
theorem op_inKeys (hu : X.A.units + 1 < cLine) : OpR X (compareOp .In) (rInKeys false) := by
  rintro pins s σ H y x v u Q I ry rx ⟨a, o, rfl, g, q⟩
  obtain rfl : u = Value.ref a := rx
  exact d_in hu I g ry fun s3 I3 => ⟨.bl o.isSome, H, I3, rfl, q⟩
theorem op_notInKeys (hu : X.A.units + 1 < cLine) : OpR X (compareOp .NotIn) (rInKeys true) := by
  rintro pins s σ H y x v u Q I ry rx ⟨a, o, rfl, g, q⟩
  obtain rfl : u = Value.ref a := rx
  exact d_notIn hu I g ry fun s3 I3 => ⟨.bl (!o.isSome), H, I3, rfl, q⟩
def rSign (neg : Bool) : R2 := fun x y H Q => ∃ (k : Nat) (z : Str), x = .str ⟨#[k]⟩ ∧ y = .str z ∧ Q (.bl (if neg = true then !decide (k ∈ z.cps.toList) else decide (k ∈ z.cps.toList))) H
def rInAll (K : PySem.W.Frag) : R2 := fun x y H Q => rSign false x y H Q ∨ rInL K x y H Q ∨ rInT K x y H Q ∨ rInKeys false x y H Q
def rNotInAll (K : PySem.W.Frag) : R2 := fun x y H Q => rSign true x y H Q ∨ rNotInL K x y H Q ∨ rNotInT K x y H Q ∨ rInKeys true x y H Q
theorem op_inAll (hu : X.A.units + 65 < cLine) : OpR X (compareOp .In) (rInAll X.K) :=
  OpR.or (r := rSign false) op_in_sign ((op_inL hu).or ((op_inT hu).or (op_inKeys (by omega))))
theorem op_notInAll (hu : X.A.units + 65 < cLine) : OpR X (compareOp .NotIn) (rNotInAll X.K) :=
  OpR.or (r := rSign true) op_notIn_sign ((op_notInL hu).or ((op_notInT hu).or (op_notInKeys (by omega))))
end
def nb (neg b : Bool) : Bool := if neg = true then !b else b
/-- the items of what is looked in -/
def inD (neg : Bool) (x : PV) (y : PV) : M PV := do
  let d ← getD x
  let e ← getD y
  match e with
  | .list ds => pure (.bl (nb neg (ds.any fun z => PyData.eqv z d)))
  | .tuple ds => pure (.bl (nb neg (ds.any fun z => PyData.eqv z d)))
  | _ => M.fail
def inStr (neg : Bool) (x : PV) (b : Str) : M PV := match x with
  | .str a => match a.cps.toList with
    | [k] => pure (.bl (nb neg (decide (k ∈ b.cps.toList))))
    | _ => M.fail
  | _ => M.fail
def fIn (neg : Bool) (x y : PV) : M PV := match y with
  | .str b => inStr neg x b
  | .loc n => do
    let o ← getO n
    match o with
    | .lst _ => inD neg x y
    | o => do
      let r ← lift (dLook o x)
      pure (.bl (nb neg r.isSome))
  | _ => inD neg x y
theorem inStr_inv {neg : Bool} {x : PV} {b : Str} {st st' : Sto} {rr : Out PV} (e : inStr neg x b st = some (rr, st')) : ∃ k : Nat, x = .str ⟨#[k]⟩ ∧ rr = .ok (.bl (nb neg (decide (k ∈ b.cps.toList)))) ∧ st' = st := by
  cases x with
  | str a =>
    cases a with
    | mk l =>
      cases l with
      | mk t =>
        cases t with
        | nil => cases e
        | cons k t =>
          cases t with
          | nil =>
            obtain ⟨rfl, rfl⟩ := pure_inv e
            exact ⟨k, rfl, rfl, rfl⟩
          | cons _ _ => cases e
  | _ => cases e
theorem bind_getO {α : Type} {n : Nat} {k : Ob → M α} {st st' : Sto} {r : Out α} (h : (getO n >>= k) st = some (r, st')) : ∃ o, st[n]? = some o ∧ k o st = some (r, st') := by
  rcases bind_inv h with ⟨xs, st1, e1, e2⟩ | ⟨C, fs, e1, e2⟩
  · obtain ⟨ys, e3, e4, rfl⟩ := getO_inv e1
    cases e4
    exact ⟨_, e3, e2⟩
  · obtain ⟨ys, _, e4, _⟩ := getO_inv e1
    cases e4
theorem bind_lift {α β : Type} {o : Option β} {k : β → M α} {st st' : Sto} {r : Out α} (h : (lift o >>= k) st = some (r, st')) : ∃ b, o = some b ∧ k b st = some (r, st') := by
  cases o with
  | none => cases h
  | some b => exact ⟨b, rfl, h⟩
section
variable {c : Ct}
theorem RepO.isSome {μ : List Addr} {H : Hp} {x : Option PV} {z : Option V} (r : RepO c μ H x z) : z.isSome = x.isSome := by
  cases x <;> cases z <;> first | rfl | exact False.elim r
theorem inD_ok {neg : Bool} {μ : List Addr} {H : Hp} {st st' : Sto} {x y : PV} {v w : V} {rr : Out PV} {Q : VK} {W : XK} (rx : RepV c μ H x v) (ry : RepV c μ H y w) (s : Sim c μ H st) (e : inD neg x y st = some (rr, st')) (fin : Fin c (RepV c) μ H rr st' Q W) :
    ∃ d ds, Dp c.K H v d ∧ (Dp c.K H w (.list ds) ∧ shp (.list ds) = true ∨ Dp c.K H w (.tuple ds) ∧ shp (.tuple ds) = true) ∧ shp d = true ∧ Q (.bl (nb neg (ds.any fun z => PyData.eqv z d))) H := by
  obtain ⟨d, _, hd, sd, e1⟩ := bind_getD s rx e
  obtain ⟨d', _, hd', sd', e2⟩ := bind_getD s ry e1
  cases d' with
  | list ds =>
    obtain ⟨rfl, rfl⟩ := pure_inv e2
    exact ⟨d, ds, hd, .inl ⟨hd', sd'⟩, sd, fin _ μ H .refl (.bl _) s⟩
  | tuple ds =>
    obtain ⟨rfl, rfl⟩ := pure_inv e2
    exact ⟨d, ds, hd, .inr ⟨hd', sd'⟩, sd, fin _ μ H .refl (.bl _) s⟩
  | _ => cases e2
theorem inKeys_ok {neg : Bool} {μ : List Addr} {H : Hp} {st st' : Sto} {x : PV} {n : Nat} {o : Ob} {v w : V} {rr : Out PV} {Q : VK} {W : XK} (rx : RepV c μ H x v) (ry : RepV c μ H (.loc n) w) (s : Sim c μ H st) (ho : st[n]? = some o)
    (e : (lift (dLook o x) >>= fun r => pure (PV.bl (nb neg r.isSome)) : M PV) st = some (rr, st')) (fin : Fin c (RepV c) μ H rr st' Q W) : rInKeys neg v w H Q := by
  obtain ⟨r, e1, e2⟩ := bind_lift e
  obtain ⟨rfl, rfl⟩ := pure_inv e2
  obtain ⟨a, rfl, ha, so⟩ := s.at_loc ho ry
  obtain ⟨z, g, ro⟩ := dget_ok so rx e1
  refine ⟨a, z, rfl, g, ?_⟩
  have := fin (.bl (nb neg r.isSome)) μ H .refl (.bl _) s
  rw [ro.isSome]
  exact this
theorem ops_in : OpS c (rInAll c.K) (fIn false) := by
  intro μ H st st' x y v w rr Q W rx ry s e fin
  have dat : ∀ {e : inD false x y st = some (rr, st')}, rInAll c.K v w H Q := fun {e} => by
    obtain ⟨d, ds, h1, h2, h3, h4⟩ := inD_ok rx ry s e fin
    rcases h2 with ⟨h2, h5⟩ | ⟨h2, h5⟩
    · exact .inr (.inl ⟨d, ds, h1, h2, h3, h5, h4⟩)
    · exact .inr (.inr (.inl ⟨d, ds, h1, h2, h3, h5, h4⟩))
  cases y with
  | str b =>
    cases ry
    obtain ⟨k, rfl, rfl, rfl⟩ := inStr_inv e
    cases rx
    exact .inl ⟨k, b, rfl, rfl, fin _ μ H .refl (.bl _) s⟩
  | loc n =>
    obtain ⟨o, ho, e1⟩ := bind_getO e
    cases o with
    | lst _ => exact dat (e := e1)
    | _ => exact .inr (.inr (.inr (inKeys_ok rx ry s ho e1 fin)))
  | _ => exact dat (e := e)
theorem ops_notIn : OpS c (rNotInAll c.K) (fIn true) := by
  intro μ H st st' x y v w rr Q W rx ry s e fin
  have dat : ∀ {e : inD true x y st = some (rr, st')}, rNotInAll c.K v w H Q := fun {e} => by
    obtain ⟨d, ds, h1, h2, h3, h4⟩ := inD_ok rx ry s e fin
    rcases h2 with ⟨h2, h5⟩ | ⟨h2, h5⟩
    · exact .inr (.inl ⟨d, ds, h1, h2, h3, h5, h4⟩)
    · exact .inr (.inr (.inl ⟨d, ds, h1, h2, h3, h5, h4⟩))
  cases y with
  | str b =>
    cases ry
    obtain ⟨k, rfl, rfl, rfl⟩ := inStr_inv e
    cases rx
    exact .inl ⟨k, b, rfl, rfl, fin _ μ H .refl (.bl _) s⟩
  | loc n =>
    obtain ⟨o, ho, e1⟩ := bind_getO e
    cases o with
    | lst _ => exact dat (e := e1)
    | _ => exact .inr (.inr (.inr (inKeys_ok rx ry s ho e1 fin)))
  | _ => exact dat (e := e)
end

def strAt (s : Str) (i : Int) : M PV := do
  need (decide (s.length ≤ 16777216))
  let k ← lift (atI s.cps.toList i)
  pure (.str ⟨#[k]⟩)
def ixS (xs : List PV) (y : PV) : M PV := match y with
  | .int i => lift (atI xs i)
  | _ => M.fail
def fIx (x y : PV) : M PV := match x with
  | .str s => match y with
    | .int i => strAt s i
    | _ => M.fail
  | .loc n => do
    let o ← getO n
    match o with
    | .lst xs => ixS xs y
    | o => do
      let r ← lift (dLook o y)
      lift r
  | .tup xs => ixS xs y
  | .ktup xs => ixS xs y
  | .scr ns => ixS (ns.map .int) y
  | _ => M.fail
section
variable {X : Cx} {c : Ct} {W : WX} {a b : Expr} {da db : Slo → M PV} {pos : Pos}
theorem RepL0.atI {μ : List Addr} {H : Hp} {xs : List PV} {vs : List V} {i : Int} {p : PV} (r : RepL c μ H xs vs) (e : atI xs i = some p) : ∃ v, L2.atI vs i = some v ∧ RepV c μ H p v := by
  unfold L2.atI at e ⊢
  rw [← r.length]
  cases q : ixN xs.length i with
  | none => rw [q] at e; cases e
  | some j =>
    rw [q] at e
    exact r.get (i := j) e
def rIxD : R2 := fun x y H Q => ∃ a v, x = .ref a ∧ DGet H a y (some v) ∧ Q v H
theorem ix_dict (hu : X.A.units + 1 < cLine) : IxR X rIxD := by
  rintro value slice pins s σ H x y v u Q I rx ry ⟨a, w, rfl, g, q⟩ hs
  obtain rfl : v = Value.ref a := rx
  exact tail_any (dict_typeIs I g) PySem.F.slot_dict_getitem.lookup (d_getItem hu I g ry fun w' s3 I3 rw' => ⟨w, H, I3, rw', q⟩) hs
def rIxAll (K : PySem.W.Frag) : R2 := fun x y H Q => rIx K x y H Q ∨ rIxD x y H Q
theorem ix_all (hu : X.A.units + 1 < cLine) : IxR X (rIxAll X.K) := ix_seq.or (ix_dict hu)
theorem ops_ix : OpS c (rIxAll c.K) fIx := by
  intro μ H st st' x y v w rr Q W' rx ry s e fin
  have seq : ∀ {xs : List PV} {vs : List V}, RepL c μ H xs vs → ixS xs y st = some (rr, st') → ∃ i u, w = .int i ∧ atI vs i = some u ∧ Q u H := fun {xs vs} r e => by
    cases y with
    | int i =>
      cases ry
      obtain ⟨p, e1, rfl, rfl⟩ := lift_inv e
      obtain ⟨u, e2, ru⟩ := r.atI e1
      exact ⟨i, u, rfl, e2, fin u μ H .refl ru s⟩
    | _ => cases e
  cases rx with
  | str z =>
    cases ry with
    | int i =>
      obtain ⟨h1, h2⟩ := need_inv2 e
      obtain ⟨k, e1, e2⟩ := bind_lift h2
      obtain ⟨rfl, rfl⟩ := pure_inv e2
      exact .inl (.inr (.inr ⟨z, i, k, rfl, rfl, by rw [sizeLine_eq]; exact of_decide_eq_true h1, e1, fin _ μ H .refl (.str _) s⟩))
    | _ => cases e
  | tup h1 h2 =>
    obtain ⟨i, u, rfl, e1, q⟩ := seq h2 e
    exact .inl (.inr (.inl ⟨_, _, i, u, rfl, rfl, SqT.of h1, e1, q⟩))
  | ktup h1 h2 =>
    obtain ⟨i, u, rfl, e1, q⟩ := seq h2 e
    exact .inl (.inr (.inl ⟨_, _, i, u, rfl, rfl, .inr h1, e1, q⟩))
  | scr =>
    obtain ⟨i, u, rfl, e1, q⟩ := seq (RepL0.ints _) e
    exact .inl (.inl ⟨_, _, i, u, rfl, rfl, s.scrL, e1, q⟩)
  | loc h1 =>
    obtain ⟨o, ho, e1⟩ := bind_getO e
    cases o with
    | lst xs =>
      obtain ⟨vs, g1, r1⟩ := s.ob _ _ _ h1 ho
      obtain ⟨i, u, rfl, e2, q⟩ := seq r1 e1
      exact .inl (.inl ⟨_, vs, i, u, rfl, rfl, SqL.of g1, e2, q⟩)
    | _ =>
      obtain ⟨r, e2, e3⟩ := bind_lift e1
      obtain ⟨p, rfl, rfl, rfl⟩ := lift_inv e3
      obtain ⟨z, g, ro⟩ := dget_ok (s.ob _ _ _ h1 ho) ry e2
      cases z with
      | none => exact False.elim ro
      | some u => exact .inr ⟨_, u, rfl, g, fin u μ H .refl ro s⟩
  | _ => cases e
theorem ge_ix (hu : X.A.units + 1 < cLine) (hK : c.K = X.K) (ha : GE X c W a da) (hb : GE X c W b db) (hs : PlainIx b := by exact fun _ _ => rfl) : GE X c W (.Subscript a b pos) (dBin fIx da db) := by
  refine (pe_ix (ix_all hu) ha hb hs).imp (tD_op ?_)
  rw [← hK]
  exact ops_ix
end

def cutP (xs : List PV) (lo hi : Option Int) : List PV := (xs.drop (HT.sIx xs.length 0 lo)).take (HT.sIx xs.length xs.length hi - HT.sIx xs.length 0 lo)
def fSl (x : PV) (lo hi : Option Int) : M PV := match x with
  | .str z => do
    need (decide (z.length ≤ 16777216))
    pure (.str (cutS z lo hi))
  | .tup xs => pure (.tup (cutP xs lo hi))
  | .ktup xs => do
    need (!(decide (HT.sIx xs.length 0 lo = 0) && decide (HT.sIx xs.length xs.length hi = xs.length)))
    pure (.tup (cutP xs lo hi))
  | .loc n => do
    let xs ← getL n
    newL (cutP xs lo hi)
  | .scr ns => newL (cutP (ns.map .int) lo hi)
  | _ => M.fail
/-- a part of a slice: an int, or none -/
def oNone : Slo → M (Option Int) := fun _ => pure none
def oSome (d : Slo → M PV) : Slo → M (Option Int) := fun ε => do
  let x ← d ε
  match x with
  | .int i => pure (some i)
  | _ => M.fail
abbrev GO (X : Cx) (c : Ct) (W : WX) (e : Option Expr) (d : Slo → M (Option Int)) : Prop := PO X e (tR c (fun _ _ (a b : Option Int) => a = b) W d)
def dSl (a : Slo → M PV) (lo hi : Slo → M (Option Int)) : Slo → M PV := fun ε => do
  let x ← a ε
  let l ← lo ε
  let h ← hi ε
  fSl x l h
theorem _root_.L2.PO.imp {X : Cx} {e : Option Expr} {t t' : TO} (h : PO X e t) (i : ∀ σ H Q, t' σ H Q → t σ H Q) : PO X e t' := ⟨fun pins s σ H Q I q => h.run pins s σ H Q I (i σ H Q q)⟩
section
variable {X : Cx} {c : Ct} {W : WX} {a b : Expr} {da db : Slo → M PV} {pos : Pos}
theorem go_none : GO X c W none oNone := by
  refine po_none.imp ?_
  rintro σ H Q ⟨ε, μ, st, r, st', hS, s, e, fin⟩
  obtain ⟨rfl, rfl⟩ := pure_inv e
  exact fin none μ H .refl rfl s
theorem go_some (ha : GE X c W a da) : GO X c W (some a) (oSome da) := by
  refine (po_some ha).imp ?_
  rintro σ H Q ⟨ε, μ, st, r, st', hS, s, e, fin⟩
  refine step e hS s fin fun x v st1 μ1 H1 e1 x1 rx s1 hS1 fin1 => ?_
  cases rx with
  | int i =>
    obtain ⟨rfl, rfl⟩ := pure_inv e1
    exact ⟨i, rfl, fin1 (some i) μ1 H1 .refl rfl s1⟩
  | _ => cases e1
theorem RepL0.cut {μ : List Addr} {H : Hp} {xs : List PV} {vs : List V} (r : RepL c μ H xs vs) (lo hi : Option Int) : RepL c μ H (cutP xs lo hi) (cutV vs lo hi) := by
  unfold cutP cutV
  rw [r.length]
  exact (r.drop _).take _
theorem cut_whole {α : Type} {xs : List α} {lo hi : Option Int} (h : HT.sIx xs.length 0 lo = 0 ∧ HT.sIx xs.length xs.length hi = xs.length) : (xs.drop (HT.sIx xs.length 0 lo)).take (HT.sIx xs.length xs.length hi - HT.sIx xs.length 0 lo) = xs := by
  rw [h.1, h.2]
  simp
def rSlAll (K : PySem.W.Frag) : V → Option Int → Option Int → Hp → VK → Prop := fun x lo hi H Q => rSlS x lo hi H Q ∨ rSlA K x lo hi H Q ∨ rSlL K x lo hi H Q
theorem sl_all : SlR X (rSlAll X.K) := sl_str.or (sl_tupA.or sl_list)
theorem sl_ok {μ : List Addr} {H : Hp} {st st' : Sto} {x : PV} {v : V} {lo hi : Option Int} {rr : Out PV} {Q : VK} {W' : XK} (rx : RepV c μ H x v) (s : Sim c μ H st) (e : fSl x lo hi st = some (rr, st')) (fin : Fin c (RepV c) μ H rr st' Q W') : rSlAll c.K v lo hi H Q := by
  cases rx with
  | str z =>
    obtain ⟨h1, h2⟩ := need_inv2 e
    obtain ⟨rfl, rfl⟩ := pure_inv h2
    exact .inl ⟨z, rfl, by rw [sizeLine_eq]; exact of_decide_eq_true h1, fin _ μ H .refl (.str _) s⟩
  | tup h1 h2 =>
    obtain ⟨rfl, rfl⟩ := pure_inv e
    refine .inr (.inl ⟨_, _, rfl, SqT.of h1, fun z => ?_, fun _ p hp => fin_tup hp (h2.cut lo hi) s fin⟩)
    have z' := z
    rw [← h2.length] at z'
    rw [cutP, cut_whole z'] at fin
    exact fin _ μ H .refl (.tup h1 h2) s
  | ktup h1 h2 =>
    obtain ⟨h3, h4⟩ := need_inv2 e
    obtain ⟨rfl, rfl⟩ := pure_inv h4
    refine .inr (.inl ⟨_, _, rfl, .inr h1, fun z => ?_, fun _ p hp => fin_tup hp (h2.cut lo hi) s fin⟩)
    rw [← h2.length] at z
    rw [decide_eq_true z.1, decide_eq_true z.2] at h3
    cases h3
  | scr =>
    obtain ⟨hz, rfl, rfl⟩ := newL_inv e
    exact .inr (.inr ⟨_, _, rfl, s.scrL, fun p hp => fin_lst hp ((RepL0.ints _).cut lo hi) s fin⟩)
  | loc h1 =>
    obtain ⟨xs, e1, e2⟩ := bind_getL e
    obtain ⟨hz, rfl, rfl⟩ := newL_inv e2
    obtain ⟨vs, g1, r1⟩ := s.ob _ _ _ h1 e1
    exact .inr (.inr ⟨_, vs, rfl, SqL.of g1, fun p hp => fin_lst hp (r1.cut lo hi) s fin⟩)
  | _ => cases e
theorem ge_sl {lo hi : Option Expr} {p2 : Pos} {dl dh : Slo → M (Option Int)} (hK : c.K = X.K) (ha : GE X c W a da) (hl : GO X c W lo dl) (hh : GO X c W hi dh) : GE X c W (.Subscript a (.Slice lo hi none p2) pos) (dSl da dl dh) := by
  refine (pe_slice sl_all ha hl hh).imp ?_
  rintro σ H Q ⟨ε, μ, st, rr, st', hS, s, e, fin⟩
  refine step e hS s fin fun x v st1 μ1 H1 e1 x1 rx s1 hS1 fin1 => ?_
  refine step e1 hS1 s1 fin1 fun l l' st2 μ2 H2 e2 x2 rl s2 hS2 fin2 => ?_
  subst rl
  refine step e2 hS2 s2 fin2 fun h h' st3 μ3 H3 e3 x3 rh s3 hS3 fin3 => ?_
  subst rh
  rw [← hK]
  exact sl_ok (rx.mono (x2.trans x3)) s3 e3 fin3
end

def tru (x : PV) : M Bool := match x with
  | .non => pure false
  | .bl b => pure b
  | .int i => pure (i != 0)
  | .str y => do
    need (decide (y.length ≤ 16777216))
    pure ((y.length : Int) != 0)
  | .tup xs => pure (!xs.isEmpty)
  | .ktup xs => pure (!xs.isEmpty)
  | .scr ns => pure (!ns.isEmpty)
  | .loc n => do
    let o ← getO n
    match o with
    | .lst xs => pure (!xs.isEmpty)
    | .dK kvs => pure (!kvs.isEmpty)
    | _ => M.fail
def dTr (d : Slo → M PV) : Slo → M Bool := fun ε => do
  let x ← d ε
  tru x
section
variable {X : Cx} {c : Ct} {W : WX} {a b : Expr} {da db : Slo → M PV} {pos : Pos}
theorem RepL0.isEmpty {μ : List Addr} {H : Hp} {xs : List PV} {vs : List V} (r : RepL c μ H xs vs) : vs.isEmpty = xs.isEmpty := by cases r <;> rfl
theorem RepF.isEmpty {κ : Type} {μ : List Addr} {H : Hp} {xs : List (κ × PV)} {vs : List (κ × V)} (r : RepF c μ H xs vs) : vs.isEmpty = xs.isEmpty := by cases r <;> rfl
theorem tru_inv {μ : List Addr} {H : Hp} {st st' : Sto} {x : PV} {v : V} {rr : Out Bool} (rx : RepV c μ H x v) (s : Sim c μ H st) (e : tru x st = some (rr, st')) : ∃ k, rr = .ok k ∧ st' = st ∧ TruV c.K v H k := by
  cases rx with
  | non => obtain ⟨rfl, rfl⟩ := pure_inv e; exact ⟨_, rfl, rfl, rfl⟩
  | bl b => obtain ⟨rfl, rfl⟩ := pure_inv e; exact ⟨_, rfl, rfl, rfl⟩
  | int i => obtain ⟨rfl, rfl⟩ := pure_inv e; exact ⟨_, rfl, rfl, rfl⟩
  | str z =>
    obtain ⟨h1, h2⟩ := need_inv2 e
    obtain ⟨rfl, rfl⟩ := pure_inv h2
    exact ⟨_, rfl, rfl, by rw [sizeLine_eq]; exact of_decide_eq_true h1, rfl⟩
  | tup h1 h2 => obtain ⟨rfl, rfl⟩ := pure_inv e; exact ⟨_, rfl, rfl, .inr (.inl ⟨_, SqT.of h1, by rw [h2.isEmpty]⟩)⟩
  | ktup h1 h2 => obtain ⟨rfl, rfl⟩ := pure_inv e; exact ⟨_, rfl, rfl, .inr (.inl ⟨_, .inr h1, by rw [h2.isEmpty]⟩)⟩
  | scr => obtain ⟨rfl, rfl⟩ := pure_inv e; exact ⟨_, rfl, rfl, .inl ⟨_, s.scrL, by cases c.ns <;> rfl⟩⟩
  | loc h1 =>
    obtain ⟨o, ho, e1⟩ := bind_getO e
    cases o with
    | lst xs =>
      obtain ⟨vs, g1, r1⟩ := s.ob _ _ _ h1 ho
      obtain ⟨rfl, rfl⟩ := pure_inv e1
      exact ⟨_, rfl, rfl, .inl ⟨vs, SqL.of g1, by rw [r1.isEmpty]⟩⟩
    | dK kvs =>
      obtain ⟨vs, g1, r1⟩ := s.ob _ _ _ h1 ho
      obtain ⟨rfl, rfl⟩ := pure_inv e1
      exact ⟨_, rfl, rfl, .inr (.inr ⟨vs, g1, by rw [r1.isEmpty]⟩)⟩
    | _ => cases e1
/-- any expression as a test, by its value's truth -/
theorem gt_tru (hK : c.K = X.K) (h : GE X c W a da) (he : ∀ whole, isTrue a X.env whole = (do let v ← whole; standAt a.pos; holding [v] (truthy v)) := by intro _; rfl) : GT X c W a (dTr da) := by
  refine (pt_truth h he).imp ?_
  rintro σ H Q ⟨ε, μ, st, rr, st', hS, s, e, fin⟩
  refine step e hS s fin fun x v st1 μ1 H1 e1 x1 rx s1 hS1 fin1 => ?_
  obtain ⟨k, rfl, rfl, h⟩ := tru_inv rx s1 e1
  rw [hK] at h
  exact ⟨k, h, fin1 k μ1 H1 .refl rfl s1⟩
end

def fFld (C : Addr) (f : Str) (x : PV) : M PV := match x with
  | .loc n => do
    let o ← getO n
    match o with
    | .ins D fs => do
      need (decide (D = C))
      lift (fs.lookup f)
    | _ => M.fail
  | _ => M.fail
section
variable {X : Cx} {c : Ct} {W : WX} {a b : Expr} {da db : Slo → M PV} {pos : Pos}
theorem RepF.lookup {μ : List Addr} {H : Hp} {f : Str} : ∀ {xs : List (Str × PV)} {vs : List (Str × V)}, RepF c μ H xs vs → RepO c μ H (xs.lookup f) (vs.lookup f)
  | _, _, .nil => trivial
  | p :: r, q :: t, .cons h h' => by
    obtain ⟨k, x⟩ := p
    obtain ⟨k', y⟩ := q
    obtain ⟨rfl, rv⟩ := h
    simp only [List.lookup]
    cases f == k with
    | true => exact rv
    | false => exact RepF.lookup h'
theorem ge_fld {C : Addr} {f : Str} (hC : Cls X.K C) (hn : NoAttr X.K C f) (ha : GE X c W a da) (hb : attributeBase a f X.env (eval a X.env) = eval a X.env := by rfl) : GE X c W (.Attribute a f pos) (dUn (fFld C f) da) := by
  refine (pe_fld ha hb).imp ?_
  rintro σ H Q ⟨ε, μ, st, rr, st', hS, s, e, fin⟩
  refine step e hS s fin fun x v st1 μ1 H1 e1 x1 rx s1 hS1 fin1 => ?_
  cases x with
  | loc n =>
    obtain ⟨o, ho, e2⟩ := bind_getO e1
    cases o with
    | ins D fs =>
      obtain ⟨h1, h2⟩ := need_inv2 e2
      have hD := of_decide_eq_true h1
      subst hD
      obtain ⟨p, e3, rfl, rfl⟩ := lift_inv h2
      obtain ⟨ad, rfl, ha', dx, gs, g1, r1⟩ := s1.at_loc ho rx
      have q := r1.lookup (f := f)
      rw [e3] at q
      cases z : gs.lookup f with
      | none => rw [z] at q; exact False.elim q
      | some u =>
        rw [z] at q
        exact ⟨ad, D, dx, gs, u, rfl, g1, hC, hn, z, fin1 u μ1 H1 .refl q s1⟩
    | _ => cases e2
  | _ => cases e1
end
end G
namespace G
open PySem PySem.Spec PyProof.Rows L2

/-- how a statement ends -/
inductive SR where
  | nx (ε : Slo) | rt (p : PV) | bk (ε : Slo) | ct (ε : Slo) | ex (C : Addr) (fs : List (Str × PV)) (ε : Slo)
def SM := Slo → Sto → Option (SR × Sto)
/-- an expression's end, then the rest -/
def eS {α : Type} (m : Slo → M α) (k : α → SM) : SM := fun ε st => match m ε st with
  | none => none
  | some (.ex C fs, st1) => some (.ex C fs ε, st1)
  | some (.ok a, st1) => k a ε st1
theorem eS_inv {α : Type} {m : Slo → M α} {k : α → SM} {ε : Slo} {st st' : Sto} {r : SR} (h : eS m k ε st = some (r, st')) :
    (∃ a st1, m ε st = some (.ok a, st1) ∧ k a ε st1 = some (r, st')) ∨ (∃ C fs, m ε st = some (.ex C fs, st') ∧ r = .ex C fs ε) := by
  unfold eS at h
  cases e : m ε st with
  | none => rw [e] at h; cases h
  | some p =>
    obtain ⟨o, st1⟩ := p
    rw [e] at h
    cases o with
    | ok a => exact .inl ⟨a, st1, rfl, h⟩
    | ex C fs => cases h; exact .inr ⟨C, fs, rfl, rfl⟩
theorem eS_ok {α : Type} {m : Slo → M α} {k : α → SM} {ε : Slo} {st st1 : Sto} {a : α} (h : m ε st = some (.ok a, st1)) : eS m k ε st = k a ε st1 := by
  unfold eS
  rw [h]
section
variable (c : Ct)
def FinS (μ : List Addr) (H : Hp) (r : SR) (st' : Sto) (D : Ends) (W : WX) : Prop := match r with
  | .nx ε => ∀ μ' H' σ, Ext c μ H μ' H' → RepS c μ' H' ε σ → Sim c μ' H' st' → D.nx σ H'
  | .rt p => ∀ v μ' H', Ext c μ H μ' H' → RepV c μ' H' p v → Sim c μ' H' st' → D.rt v H'
  | .bk ε => ∀ μ' H' σ, Ext c μ H μ' H' → RepS c μ' H' ε σ → Sim c μ' H' st' → D.bk σ H'
  | .ct ε => ∀ μ' H' σ, Ext c μ H μ' H' → RepS c μ' H' ε σ → Sim c μ' H' st' → D.ct σ H'
  | .ex C fs ε => ∀ d μ' H' σ, Ext c μ H μ' H' → RepS c μ' H' ε σ → RepX c μ' H' fs d → Sim c μ' H' st' → W (.ref C) d σ H'
def tS (W : WX) (d : SM) : TS := fun D σ H => ∃ ε μ st r st', RepS c μ H ε σ ∧ Sim c μ H st ∧ d ε st = some (r, st') ∧ FinS c μ H r st' D W
end
abbrev GS (X : Cx) (c : Ct) (W : WX) (s : Stmt) (d : SM) : Prop := PS X s (tS c W d)
abbrev GSs (X : Cx) (c : Ct) (W : WX) (s : List Stmt) (d : SM) : Prop := PSs X s (tS c W d)
theorem _root_.L2.PS.imp {X : Cx} {s : Stmt} {t t' : TS} (h : PS X s t) (i : ∀ D σ H, t' D σ H → t D σ H) : PS X s t' := ⟨fun pins s σ H D I q => h.run pins s σ H D I (i D σ H q)⟩
theorem _root_.L2.PSs.imp {X : Cx} {s : List Stmt} {t t' : TS} (h : PSs X s t) (i : ∀ D σ H, t' D σ H → t D σ H) : PSs X s t' := ⟨fun pins s σ H D I q => h.run pins s σ H D I (i D σ H q)⟩
section
variable {c : Ct} {μ μ1 : List Addr} {H H1 : Hp} {st st' : Sto}
theorem FinS.mono (x : Ext c μ H μ1 H1) {r : SR} {D : Ends} {W : WX} (h : FinS c μ H r st' D W) : FinS c μ1 H1 r st' D W := by
  cases r with
  | nx ε => exact fun μ' H' σ x' => h μ' H' σ (x.trans x')
  | rt p => exact fun v μ' H' x' => h v μ' H' (x.trans x')
  | bk ε => exact fun μ' H' σ x' => h μ' H' σ (x.trans x')
  | ct ε => exact fun μ' H' σ x' => h μ' H' σ (x.trans x')
  | ex C fs ε => exact fun d μ' H' σ x' => h d μ' H' σ (x.trans x')
/-- an expression in a statement, then the rest -/
theorem stepS {α β : Type} {Rel : List Addr → Hp → α → β → Prop} {W : WX} {d : Slo → M α} {k : α → SM} {ε : Slo} {σ : St} {r : SR} {D : Ends} {R : β → Hp → Prop}
    (e : eS d k ε st = some (r, st')) (hS : RepS c μ H ε σ) (s : Sim c μ H st) (fin : FinS c μ H r st' D W)
    (cont : ∀ a b st1 μ1 H1, k a ε st1 = some (r, st') → Ext c μ H μ1 H1 → Rel μ1 H1 a b → Sim c μ1 H1 st1 → RepS c μ1 H1 ε σ → FinS c μ1 H1 r st' D W → R b H1) : tR c Rel W d σ H R := by
  rcases eS_inv e with ⟨a, st1, e1, e2⟩ | ⟨C, fs, e1, rfl⟩
  · exact ⟨ε, μ, st, .ok a, st1, hS, s, e1, fun y μ' H' x rr s' => cont a y st1 μ' H' e2 x rr s' (hS.mono x) (fin.mono x)⟩
  · exact ⟨ε, μ, st, .ex C fs, st', hS, s, e1, fun dd μ' H' x rr s' => fin dd μ' H' σ x (hS.mono x) rr s'⟩
theorem lastS {W : WX} {d : SM} {ε : Slo} {σ : St} {r : SR} {D : Ends} (e : d ε st = some (r, st')) (hS : RepS c μ H ε σ) (s : Sim c μ H st) (fin : FinS c μ H r st' D W) : tS c W d D σ H := ⟨ε, μ, st, r, st', hS, s, e, fin⟩
end

def sNext : SM := fun ε st => some (.nx ε, st)
def sSeq (a b : SM) : SM := fun ε st => match a ε st with
  | some (.nx ε', st1) => b ε' st1
  | r => r
def sPass : SM := sNext
def sBreak : SM := fun ε st => some (.bk ε, st)
def sCont : SM := fun ε st => some (.ct ε, st)
def sExpr (d : Slo → M PV) : SM := eS d fun _ => sNext
def sRet (d : Slo → M PV) : SM := eS d fun p _ st => some (.rt p, st)
def sRetN : SM := fun _ st => some (.rt .non, st)
def sIf (t : Slo → M Bool) (a b : SM) : SM := eS t fun k => if k = true then a else b
section
variable {X : Cx} {c : Ct} {W : WX} {s1 : Stmt} {ss : List Stmt} {a b : SM} {e : Expr} {d : Slo → M PV} {pos : Pos}
theorem gs_nil : GSs X c W [] sNext := by
  refine pss_nil.imp ?_
  rintro D σ H ⟨ε, μ, st, r, st', hS, s, e, fin⟩
  cases e
  exact fin μ H σ .refl hS s
theorem tS_seq : ∀ D σ H, tS c W (sSeq a b) D σ H → tSeq (tS c W a) (tS c W b) D σ H := by
  rintro D σ H ⟨ε, μ, st, r, st', hS, s, e, fin⟩
  unfold sSeq at e
  cases q : a ε st with
  | none => rw [q] at e; cases e
  | some p =>
    obtain ⟨r1, st1⟩ := p
    rw [q] at e
    refine ⟨ε, μ, st, r1, st1, hS, s, q, ?_⟩
    cases r1 with
    | nx ε' => exact fun μ' H' σ' x hS' s' => ⟨ε', μ', st1, r, st', hS', s', e, fin.mono x⟩
    | rt p => cases e; exact fin
    | bk ε' => cases e; exact fin
    | ct ε' => cases e; exact fin
    | ex C fs ε' => cases e; exact fin
theorem gs_cons (h1 : GS X c W s1 a) (h2 : GSs X c W ss b) : GSs X c W (s1 :: ss) (sSeq a b) := (pss_cons h1 h2).imp tS_seq
theorem gs_one (h1 : GS X c W s1 a) : GSs X c W [s1] a := pss_one h1
theorem gs_pass : GS X c W (.Pass pos) sNext := by
  refine ps_pass.imp ?_
  rintro D σ H ⟨ε, μ, st, r, st', hS, s, e, fin⟩
  cases e
  exact fin μ H σ .refl hS s
theorem gs_break : GS X c W (.Break pos) sBreak := by
  refine ps_break.imp ?_
  rintro D σ H ⟨ε, μ, st, r, st', hS, s, e, fin⟩
  cases e
  exact fin μ H σ .refl hS s
theorem gs_cont : GS X c W (.Continue pos) sCont := by
  refine ps_continue.imp ?_
  rintro D σ H ⟨ε, μ, st, r, st', hS, s, e, fin⟩
  cases e
  exact fin μ H σ .refl hS s
theorem gs_expr (h : GE X c W e d) (hs : swapsWith e none pos.line X.env = pure false := by rfl) : GS X c W (.Expr e pos) (sExpr d) := by
  refine (ps_expr h hs).imp ?_
  rintro D σ H ⟨ε, μ, st, r, st', hS, s, e, fin⟩
  refine stepS e hS s fin fun x v st1 μ1 H1 e1 x1 rx s1 hS1 fin1 => ?_
  cases e1
  exact fin1 μ1 H1 σ .refl hS1 s1
theorem gs_ret (h : GE X c W e d) : GS X c W (.Return (some e) pos) (sRet d) := by
  refine (ps_ret h).imp ?_
  rintro D σ H ⟨ε, μ, st, r, st', hS, s, e, fin⟩
  refine stepS e hS s fin fun x v st1 μ1 H1 e1 x1 rx s1 hS1 fin1 => ?_
  cases e1
  exact fin1 v μ1 H1 .refl rx s1
theorem gs_retN : GS X c W (.Return none pos) sRetN := by
  refine ps_retN.imp ?_
  rintro D σ H ⟨ε, μ, st, r, st', hS, s, e, fin⟩
  cases e
  exact fin .non μ H .refl .non s
theorem gs_if {t : Slo → M Bool} {sa sb : List Stmt} (ht : GT X c W e t) (ha : GSs X c W sa a) (hb : GSs X c W sb b) : GS X c W (.If e sa sb pos) (sIf t a b) := by
  refine (ps_if ht ha hb).imp ?_
  rintro D σ H ⟨ε, μ, st, r, st', hS, s, e, fin⟩
  refine stepS e hS s fin fun x v st1 μ1 H1 e1 x1 rx s1 hS1 fin1 => ?_
  subst rx
  cases x with
  | true => exact lastS e1 hS1 s1 fin1
  | false => exact lastS e1 hS1 s1 fin1
/-- what is never come to -/
def sNever : SM := fun _ _ => none
theorem gs_never : GS X c W s1 sNever := by
  refine ps_never.imp ?_
  rintro D σ H ⟨ε, μ, st, r, st', hS, s, e, fin⟩
  cases e
theorem gss_never : GSs X c W ss sNever := by
  refine pss_never.imp ?_
  rintro D σ H ⟨ε, μ, st, r, st', hS, s, e, fin⟩
  cases e
end

/-- what a target does with a value -/
def TM := PV → SM
def gN (i : Nat) : TM := fun p ε st => some (.nx (ε.set i (some p)), st)
/-- several targets, one after another -/
def gsNil : List PV → SM := fun ps ε st => match ps with
  | [] => some (.nx ε, st)
  | _ :: _ => none
def gsCons (g : TM) (gs : List PV → SM) : List PV → SM := fun ps ε st => match ps with
  | p :: r => sSeq (g p) (gs r) ε st
  | [] => none
def gTu (gs : List PV → SM) : TM := fun p => eS (fun _ => readS p) gs
section
variable (c : Ct)
/-- a target's reading: the end is nx (an exception is wished for by W) -/
def tG (W : WX) (g : TM) : TG := fun v σ H Q => ∃ p ε μ st r st', RepV c μ H p v ∧ RepS c μ H ε σ ∧ Sim c μ H st ∧ g p ε st = some (r, st') ∧ FinS c μ H r st' { nx := Q, rt := fun _ _ => False } W
def tGs (W : WX) (g : List PV → SM) : TGs := fun vs σ H Q => ∃ ps ε μ st r st', RepL c μ H ps vs ∧ RepS c μ H ε σ ∧ Sim c μ H st ∧ g ps ε st = some (r, st') ∧ FinS c μ H r st' { nx := Q, rt := fun _ _ => False } W
end
abbrev GG (X : Cx) (c : Ct) (W : WX) (e : Expr) (g : TM) : Prop := PG X e (tG c W g)
abbrev GGs (X : Cx) (c : Ct) (W : WX) (es : List Expr) (g : List PV → SM) : Prop := PGs X es (tGs c W g)
theorem _root_.L2.PG.imp {X : Cx} {s : Expr} {t t' : TG} (h : PG X s t) (i : ∀ v σ H Q, t' v σ H Q → t v σ H Q) : PG X s t' := ⟨fun pins s σ H v u Q I r q => h.run pins s σ H v u Q I r (i v σ H Q q)⟩
theorem _root_.L2.PGs.imp {X : Cx} {s : List Expr} {t t' : TGs} (h : PGs X s t) (i : ∀ v σ H Q, t' v σ H Q → t v σ H Q) : PGs X s t' := ⟨fun pins s σ H v u Q I r q => h.run pins s σ H v u Q I r (i v σ H Q q)⟩
theorem PG.or {X : Cx} {e : Expr} {t u : TG} (h : PG X e t) (h' : PG X e u) : PG X e (fun v σ H Q => t v σ H Q ∨ u v σ H Q) := ⟨fun pins s σ H v w Q I r q => q.elim (h.run pins s σ H v w Q I r) (h'.run pins s σ H v w Q I r)⟩
section
variable {X : Cx} {c : Ct} {W : WX} {e : Expr} {es : List Expr} {pos : Pos}
theorem gg_name {i : Nat} {x : Str} (hN : X.N.Nodup) (hi : X.N[i]? = some x) (hx : Loc X.env.scope x) (hf : X.fn x = true ∨ X.env.scope.names.lookup x = some .local := by first | exact .inl rfl | exact .inr rfl | assumption) : GG X c W (.Name x pos) (gN i) := by
  refine (pg_name hN hi hx hf).imp ?_
  rintro v σ H Q ⟨p, ε, μ, st, r, st', rp, hS, s, e, fin⟩
  cases e
  exact fin μ H _ .refl (hS.set i rp) s
theorem ggs_nil : GGs X c W [] gsNil := by
  refine pgs_nil.imp ?_
  rintro v σ H Q ⟨p, ε, μ, st, r, st', rp, hS, s, e, fin⟩
  cases rp with
  | nil => cases e; exact ⟨rfl, fin μ H σ .refl hS s⟩
  | cons _ _ => cases e
theorem ggs_cons {g : TM} {gs : List PV → SM} (h1 : GG X c W e g) (h2 : GGs X c W es gs) (hs : (assignEach (e :: es) X.env).map (·.2) = assign e X.env :: (assignEach es X.env).map (·.2) := by rfl) : GGs X c W (e :: es) (gsCons g gs) := by
  refine (pgs_cons h1 h2 hs).imp ?_
  rintro v σ H Q ⟨p, ε, μ, st, r, st', rp, hS, s, e, fin⟩
  cases rp with
  | nil => cases e
  | cons r1 r2 =>
    rename_i x xs y ys
    refine ⟨y, ys, rfl, ?_⟩
    have e' : sSeq (g x) (gs xs) ε st = some (r, st') := e
    unfold sSeq at e'
    cases q : g x ε st with
    | none => rw [q] at e'; cases e'
    | some p =>
      obtain ⟨ra, st1⟩ := p
      rw [q] at e'
      refine ⟨x, ε, μ, st, ra, st1, r1, hS, s, q, ?_⟩
      cases ra with
      | nx ε' => exact fun μ' H' σ' x' hS' s' => ⟨xs, ε', μ', st1, r, st', r2.mono x', hS', s', e', fin.mono x'⟩
      | rt p => cases e'; exact fin
      | bk ε' => cases e'; exact fin
      | ct ε' => cases e'; exact fin
      | ex C fs ε' => cases e'; exact fin
theorem gs_len {gs : List PV → SM} {n : Nat} : (∀ ps ε st r st', gs ps ε st = some (r, st') → ps.length = n) → ∀ {W : WX}, True := fun _ _ => trivial
theorem gg_tup {k : Nat} {gs : List PV → SM} {n : Nat} (hK : c.K = X.K) (hc : X.calm = true) (h : GGs X c W es gs) (hl : ∀ ps ε st q, gs ps ε st = some q → ps.length = n)
    (hn : (assignEach es X.env).length = n := by rfl) (hst : (assignEach es X.env).findIdx? (·.1) = none := by rfl) : GG X c W (.Tuple es k pos) (gTu gs) := by
  refine (PG.or (pg_tup hc h hn hst) (pg_lst hc h hn hst)).imp ?_
  rintro v σ H Q ⟨p, ε, μ, st, r, st', rp, hS, s, e, fin⟩
  rcases eS_inv e with ⟨xs, st1, e1, e2⟩ | ⟨C, fs, e1, _⟩
  · obtain ⟨ys, a, vs, e3, rfl, rfl, e5, rl⟩ := readS_inv s rp e1
    cases e3
    have hlen : vs.length = n := by rw [← rl.length]; exact hl _ _ _ _ e2
    rw [hK] at e5
    rcases e5 with e5 | e5
    · exact .inr ⟨a, vs, rfl, e5, hlen, xs, ε, μ, st1, r, st', rl, hS, s, e2, fin⟩
    · exact .inl ⟨a, vs, rfl, e5, hlen, xs, ε, μ, st1, r, st', rl, hS, s, e2, fin⟩
  · obtain ⟨ys, a, vs, e3, _⟩ := readS_inv s rp e1
    cases e3
theorem gsNil_len {ps : List PV} {ε : Slo} {st : Sto} {q : SR × Sto} (h : gsNil ps ε st = some q) : ps.length = 0 := by
  cases ps with
  | nil => rfl
  | cons _ _ => cases h
theorem gsCons_len {g : TM} {gs : List PV → SM} {n : Nat} (hl : ∀ ps ε st q, gs ps ε st = some q → ps.length = n) (hg : ∀ p ε st r st', g p ε st = some (r, st') → ∃ ε', r = .nx ε') {ps : List PV} {ε : Slo} {st : Sto} {q : SR × Sto} (h : gsCons g gs ps ε st = some q) : ps.length = n + 1 := by
  cases ps with
  | nil => cases h
  | cons p r =>
    have e' : sSeq (g p) (gs r) ε st = some q := h
    unfold sSeq at e'
    cases z : g p ε st with
    | none => rw [z] at e'; cases e'
    | some w =>
      obtain ⟨ra, st1⟩ := w
      obtain ⟨ε', rfl⟩ := hg _ _ _ _ _ z
      rw [z] at e'
      exact congrArg Nat.succ (hl _ _ _ _ e')
theorem gN_nx {i : Nat} {p : PV} {ε : Slo} {st st' : Sto} {r : SR} (h : gN i p ε st = some (r, st')) : ∃ ε', r = .nx ε' := by
  cases h
  exact ⟨_, rfl⟩
end

def sAsg (d : Slo → M PV) (g : TM) : SM := eS d g
section
variable {X : Cx} {c : Ct} {W : WX} {tg e : Expr} {d : Slo → M PV} {g : TM} {pos : Pos}
/-- target = value, any target -/
theorem gs_asg (hg_nx : ∀ p ε st r st', g p ε st = some (r, st') → (∃ ε', r = .nx ε') ∨ ∃ C fs ε', r = .ex C fs ε') (he : GE X c W e d) (hg : GG X c W tg g) (hs : swapsWithSole [tg] e pos.line X.env = pure false := by rfl) (hw : swappedStores [tg] e X.env = pure none := by rfl)
    (h1 : (assignEach [tg] X.env).map (·.2) = [assign tg X.env] := by rfl) : GS X c W (.Assign [tg] e pos) (sAsg d g) := by
  refine (ps_asg he hg hs hw h1).imp ?_
  rintro D σ H ⟨ε, μ, st, r, st', hS, s, e, fin⟩
  refine stepS e hS s fin fun x v st1 μ1 H1 e1 x1 rx s1 hS1 fin1 => ?_
  refine ⟨x, ε, μ1, st1, r, st', rx, hS1, s1, e1, ?_⟩
  rcases hg_nx _ _ _ _ _ e1 with ⟨ε', rfl⟩ | ⟨C, fs, ε', rfl⟩
  · exact fin1
  · exact fin1
theorem gs_set {i : Nat} {x : Str} {pos' : Pos} (hN : X.N.Nodup) (hi : X.N[i]? = some x) (hx : Loc X.env.scope x) (he : GE X c W e d) (hs : swapsWith e (some (.Name x pos')) pos.line X.env = pure false := by rfl)
    (hf : X.fn x = true ∨ X.env.scope.names.lookup x = some .local := by first | exact .inl rfl | exact .inr rfl | assumption) : GS X c W (.Assign [.Name x pos'] e pos) (sAsg d (gN i)) := by
  refine (ps_set hN hi hx he hs hf).imp ?_
  rintro D σ H ⟨ε, μ, st, r, st', hS, s, e, fin⟩
  refine stepS e hS s fin fun x v st1 μ1 H1 e1 x1 rx s1 hS1 fin1 => ?_
  cases e1
  exact fin1 μ1 H1 _ .refl (hS1.set i rx) s1
/-- a, b = x, y with plain local names -/
def sPar (i j : Nat) (ds : Slo → M (List PV)) : SM := eS ds fun ps ε st => match ps with
  | [p, q] => some (.nx ((ε.set i (some p)).set j (some q)), st)
  | _ => none
theorem gs_par {i j : Nat} {x y : Str} {a b : Expr} {ds : Slo → M (List PV)} {px py pt : Pos} {kt k2 pt2} (hc : X.calm = true) (hN : X.N.Nodup) (hi : X.N[i]? = some x) (hj : X.N[j]? = some y) (hij : i ≠ j)
    (hx : X.env.scope.names.lookup x = some .local) (hy : X.env.scope.names.lookup y = some .local) (ha : GA X c W [a, b] ds)
    (hw : swappedStores [.Tuple [.Name x px, .Name y py] kt pt] (.Tuple [a, b] k2 pt2) X.env = pure (some [x, y]))
    (hs : swapsWithSole [.Tuple [.Name x px, .Name y py] kt pt] (.Tuple [a, b] k2 pt2) pos.line X.env = pure false := by rfl) :
    GS X c W (.Assign [.Tuple [.Name x px, .Name y py] kt pt] (.Tuple [a, b] k2 pt2) pos) (sPar i j ds) := by
  refine (ps_par hc hN hi hj hij hx hy ha hw hs).imp ?_
  rintro D σ H ⟨ε, μ, st, r, st', hS, s, e, fin⟩
  refine stepS e hS s fin fun x v st1 μ1 H1 e1 x1 rx s1 hS1 fin1 => ?_
  cases rx with
  | nil => cases e1
  | cons r1 r2 =>
    cases r2 with
    | nil => cases e1
    | cons r3 r4 =>
      cases r4 with
      | nil =>
        cases e1
        exact ⟨_, _, rfl, fin1 μ1 H1 _ .refl ((hS1.set i r1).set j r3) s1⟩
      | cons _ _ => cases e1
/-- o[i] = v -/
def setI (o i v : PV) : M Unit := match o with
  | .loc n => do
    let ob ← getO n
    match ob with
    | .lst xs => match i with
      | .int k => do
        let j ← lift (ixN xs.length k)
        setO n (.lst (xs.set j v))
      | _ => M.fail
    | ob => do
      let ob' ← lift (dPut ob i v)
      setO n ob'
  | _ => M.fail
def gSb (o i : Slo → M PV) : TM := fun v => eS o fun x => eS i fun y => eS (fun _ => setI x y v) fun _ => sNext
def rSetAll : V → V → V → Hp → (Hp → Prop) → Prop := fun o i v H Q => rSetL o i v H Q ∨ ∃ a H', o = .ref a ∧ DPut H a i v H' ∧ Q H'
theorem set_all (hu : X.A.units + 1 < cLine) : PSet X rSetAll := by
  rintro pins s σ H o i v ov iv u Q I ro ri rv (h | ⟨a, H', rfl, g, q⟩)
  · exact set_list pins s σ H o i v ov iv u Q I ro ri rv h
  · obtain rfl : ov = Value.ref a := ro
    exact d_setItem hu I g ri rv fun s4 I4 => ⟨H', I4, q⟩
theorem setO_inv {n : Nat} {o : Ob} {st st' : Sto} {r : Out Unit} (h : setO n o st = some (r, st')) : r = .ok () ∧ st' = st.set n o := by
  cases h
  exact ⟨rfl, rfl⟩
theorem setI_ok {μ : List Addr} {H : Hp} {st st' : Sto} {o i v : PV} {ov iv u : V} {r : Out Unit} {Q : Hp → Prop} (ro : RepV c μ H o ov) (ri : RepV c μ H i iv) (rv : RepV c μ H v u) (s : Sim c μ H st) (e : setI o i v st = some (r, st'))
    (q : r = .ok () → ∀ H', Ext c μ H μ H' → Sim c μ H' st' → Q H') : rSetAll ov iv u H Q := by
  cases o with
  | loc n =>
    obtain ⟨ob, ho, e1⟩ := bind_getO e
    obtain ⟨a, rfl, ha, so⟩ := s.at_loc ho ro
    have dct : ∀ {ob' : Option Ob}, dPut ob i v = ob' → (lift ob' >>= fun ob' => setO n ob' : M Unit) st = some (r, st') → rSetAll (.ref a) iv u H Q := fun {ob'} eo e => by
      obtain ⟨o2, e2, e3⟩ := bind_lift e
      obtain ⟨rfl, rfl⟩ := setO_inv e3
      rw [e2] at eo
      obtain ⟨H', d1, d2, d3⟩ := dput_ok s ha ho ri rv eo
      exact .inr ⟨a, H', rfl, d1, q rfl H' d2 d3⟩
    cases ob with
    | lst xs =>
      cases i with
      | int k =>
        cases ri
        obtain ⟨j, e2, e3⟩ := bind_lift e1
        obtain ⟨rfl, rfl⟩ := setO_inv e3
        obtain ⟨vs, g1, r1⟩ := id so
        rw [r1.length] at e2
        refine .inl ⟨a, vs, k, j, rfl, rfl, g1, e2, q rfl _ (ext_mut (SimO.mut rfl so)) (s.put ha ho ⟨_, upd_same, (r1.set rv j).mono (ext_mut (SimO.mut rfl so))⟩)⟩
      | _ => cases e1
    | _ => exact dct rfl e1
  | _ => cases e
theorem gg_sub {o i : Expr} {do_ di : Slo → M PV} (hu : X.A.units + 1 < cLine) (ho : GE X c W o do_) (hi : GE X c W i di)
    (ha : ∀ v, assign (.Subscript o i pos) X.env v = (do
      let ov ← holding [v] (eval o X.env)
      let iv ← holding [v, ov] (eval i X.env)
      standAt pos
      holding [v, ov, iv] (setItem ov iv v)
      release [v, ov, iv] []) := by intro _; rfl) : GG X c W (.Subscript o i pos) (gSb do_ di) := by
  refine (pg_sub ho hi (set_all hu) ha).imp ?_
  rintro v σ H Q ⟨p, ε, μ, st, r, st', rp, hS, s, e, fin⟩
  refine stepS e hS s fin fun x xv st1 μ1 H1 e1 x1 rx s1 hS1 fin1 => ?_
  refine stepS e1 hS1 s1 fin1 fun y yv st2 μ2 H2 e2 x2 ry s2 hS2 fin2 => ?_
  rcases eS_inv e2 with ⟨z, st3, e3, e4⟩ | ⟨C, fs, e3, _⟩
  · cases e4
    refine setI_ok (rx.mono x2) ry (rp.mono (x1.trans x2)) s2 e3 fun _ H' x' s' => ?_
    exact fin2 μ2 H' σ x' (hS2.mono x') s'
  · exact setI_ok (rx.mono x2) ry (rp.mono (x1.trans x2)) s2 e3 fun z => nomatch z
theorem gSb_nx {o i : Slo → M PV} {p : PV} {ε : Slo} {st st' : Sto} {r : SR} (h : gSb o i p ε st = some (r, st')) : (∃ ε', r = .nx ε') ∨ ∃ C fs ε', r = .ex C fs ε' := by
  rcases eS_inv h with ⟨a, st1, _, h1⟩ | ⟨C, fs, _, rfl⟩
  · rcases eS_inv h1 with ⟨b, st2, _, h2⟩ | ⟨C, fs, _, rfl⟩
    · rcases eS_inv h2 with ⟨_, st3, _, h3⟩ | ⟨C, fs, _, rfl⟩
      · cases h3
        exact .inl ⟨_, rfl⟩
      · exact .inr ⟨C, fs, _, rfl⟩
    · exact .inr ⟨C, fs, _, rfl⟩
  · exact .inr ⟨C, fs, _, rfl⟩
/-- self.f = v -/
def putG (f : Str) (v : PV) : List (Str × PV) → List (Str × PV)
  | [] => [(f, v)]
  | p :: r => if p.1 = f then (p.1, v) :: r else p :: putG f v r
end
end G
namespace G
open PySem PySem.Spec PyProof.Rows L2

/-- what a loop draws from: fixed things; a list as it stands at each turn; the same in pairs; two lists side by side -/
inductive Src where
  | fix (xs : List PV) | live (n : Nat) | enm (n : Nat) | zip2 (n m : Nat)
def lstAt (st : Sto) (n : Nat) : Option (List PV) := match st[n]? with
  | some (.lst xs) => some xs
  | _ => none
theorem lstAt_inv {st : Sto} {n : Nat} {xs : List PV} (h : lstAt st n = some xs) : st[n]? = some (.lst xs) := by
  unfold lstAt at h
  cases e : st[n]? with
  | none => rw [e] at h; cases h
  | some o =>
    rw [e] at h
    cases o with
    | lst ys => cases h; rfl
    | _ => cases h
/-- none: stuck; some none: the end -/
def Src.draw (s : Src) (i : Nat) (st : Sto) : Option (Option PV) := match s with
  | .fix xs => some xs[i]?
  | .live n => match lstAt st n with
    | some xs => some xs[i]?
    | none => none
  | .enm n => match lstAt st n with
    | some xs => some (xs[i]?.map fun x => .tup [.int i, x])
    | none => none
  | .zip2 n m => match lstAt st n, lstAt st m with
    | some xs, some ys => some (match xs[i]?, ys[i]? with
      | some x, some y => some (.tup [x, y])
      | _, _ => none)
    | _, _ => none
def Src.many (s : Src) (st : Sto) : Nat := match s with
  | .fix xs => xs.length
  | .live n => ((lstAt st n).getD []).length
  | .enm n => ((lstAt st n).getD []).length
  | .zip2 n _ => ((lstAt st n).getD []).length
/-- J draws what s tells -/
def SrcOk (c : Ct) (s : Src) (J : It) (μ : List Addr) (H : Hp) : Prop :=
  ∀ (i : Nat) (μ1 : List Addr) (H1 : Hp) (st1 : Sto) (o : Option PV), Ext c μ H μ1 H1 → Sim c μ1 H1 st1 → s.draw i st1 = some o → match o with
    | none => J.stop i H1
    | some x => J.go i H1 ∧ ∀ v H2, J.yld i H1 v H2 → Ext c μ1 H1 μ1 H2 ∧ RepV c μ1 H2 x v ∧ Sim c μ1 H2 st1
section
variable (c : Ct)
abbrev tI (W : WX) (d : Slo → M Src) : TI := fun σ H R => ∃ ε μ st r st', RepS c μ H ε σ ∧ Sim c μ H st ∧ d ε st = some (r, st') ∧ (match r with
  | .ok s => ∀ J μ' H', Ext c μ H μ' H' → SrcOk c s J μ' H' → Sim c μ' H' st' → R J H'
  | .ex C fs => ∀ d μ' H', Ext c μ H μ' H' → RepX c μ' H' fs d → Sim c μ' H' st' → W (.ref C) d σ H')
end
abbrev GI (X : Cx) (c : Ct) (W : WX) (tg e : Expr) (d : Slo → M Src) : Prop := PI X tg e (tI c W d)
theorem _root_.L2.PI.imp {X : Cx} {tg e : Expr} {t t' : TI} (h : PI X tg e t) (i : ∀ σ H R, t' σ H R → t σ H R) : PI X tg e t' := ⟨fun pins s σ H R I q => h.run pins s σ H R I (i σ H R q)⟩
theorem PI.or {X : Cx} {tg e : Expr} {t u : TI} (h : PI X tg e t) (h' : PI X tg e u) : PI X tg e (fun σ H R => t σ H R ∨ u σ H R) := ⟨fun pins s σ H R I q => q.elim (h.run pins s σ H R I) (h'.run pins s σ H R I)⟩
theorem SrcOk.mono {c : Ct} {s : Src} {J : It} {μ μ' : List Addr} {H H' : Hp} (x : Ext c μ H μ' H') (h : SrcOk c s J μ H) : SrcOk c s J μ' H' := fun i μ1 H1 st1 o x1 => h i μ1 H1 st1 o (x.trans x1)
theorem Ext.sqT {c : Ct} {μ μ' : List Addr} {H H' : Hp} (x : Ext c μ H μ' H') {K : PySem.W.Frag} {a : Addr} {vs : List V} (h : H a = some (.tup vs)) : SqT K H' a vs := .inl (.inl (x.tup _ _ h))

def chars (s : Str) : List PV := s.cps.toList.map fun k => .str ⟨#[k]⟩
def srcOf (p : PV) : M Src := match p with
  | .tup xs => pure (.fix xs)
  | .ktup xs => pure (.fix xs)
  | .scr ns => pure (.fix (ns.map PV.int))
  | .str s => pure (.fix (chars s))
  | .loc n => fun st => match lstAt st n with
    | some _ => some (.ok (.live n), st)
    | none => none
  | _ => M.fail
section
variable {c : Ct} {μ : List Addr} {H : Hp} {st : Sto}
theorem srcok_fixT {K : PySem.W.Frag} {a : Addr} {vs : List V} {xs : List PV} (q : ∀ μ' H', Ext c μ H μ' H' → SqT K H' a vs) (r : RepL c μ H xs vs) : SrcOk c (.fix xs) (Itt K a) μ H := by
  intro i μ1 H1 st1 o x s e
  have e' : xs[i]? = o := Option.some.inj e
  have r1 := r.mono x
  have q1 := q _ _ x
  cases o with
  | none =>
    refine ⟨vs, q1, ?_⟩
    rw [← r1.length]
    exact List.getElem?_eq_none_iff.mp e'
  | some p =>
    obtain ⟨y, ey, ry⟩ := r1.get e'
    refine ⟨⟨vs, y, q1, ey⟩, ?_⟩
    rintro v H2 ⟨rfl, f⟩
    have := f vs q1
    rw [ey] at this
    cases this
    exact ⟨.refl, ry, s⟩
theorem srcok_fixL {K : PySem.W.Frag} {a : Addr} {vs : List V} {xs : List PV} (q : ∀ μ' H' st', Ext c μ H μ' H' → Sim c μ' H' st' → SqL K H' a vs) (r : RepL c μ H xs vs) : SrcOk c (.fix xs) (Itl K a) μ H := by
  intro i μ1 H1 st1 o x s e
  have e' : xs[i]? = o := Option.some.inj e
  have r1 := r.mono x
  have q1 := q _ _ _ x s
  cases o with
  | none =>
    refine ⟨vs, q1, ?_⟩
    rw [← r1.length]
    exact List.getElem?_eq_none_iff.mp e'
  | some p =>
    obtain ⟨y, ey, ry⟩ := r1.get e'
    refine ⟨⟨vs, y, q1, ey⟩, ?_⟩
    rintro v H2 ⟨rfl, f⟩
    have := f vs q1
    rw [ey] at this
    cases this
    exact ⟨.refl, ry, s⟩
theorem srcok_live {K : PySem.W.Frag} {n : Nat} {a : Addr} (ha : μ[n]? = some a) : SrcOk c (.live n) (Itl K a) μ H := by
  intro i μ1 H1 st1 o x s e
  dsimp only [Src.draw] at e
  cases q : lstAt st1 n with
  | none => rw [q] at e; cases e
  | some xs =>
    rw [q] at e
    have e' : xs[i]? = o := Option.some.inj e
    obtain ⟨vs, g, r1⟩ := s.ob n a _ (x.at ha) (lstAt_inv q)
    have q1 : SqL K H1 a vs := .inl (.inl g)
    cases o with
    | none =>
      refine ⟨vs, q1, ?_⟩
      rw [← r1.length]
      exact List.getElem?_eq_none_iff.mp e'
    | some p =>
      obtain ⟨y, ey, ry⟩ := r1.get e'
      refine ⟨⟨vs, y, q1, ey⟩, ?_⟩
      rintro v H2 ⟨rfl, f⟩
      have := f vs q1
      rw [ey] at this
      cases this
      exact ⟨.refl, ry, s⟩
theorem pairNew (s : Sim c μ H st) {T : Addr} {x y : V} {p q : PV} (hT : H T = none) (rx : RepV c μ H p x) (ry : RepV c μ H q y) :
    Ext c μ H μ (upd H T (.tup [x, y])) ∧ RepV c μ (upd H T (.tup [x, y])) (.tup [p, q]) (.ref T) ∧ Sim c μ (upd H T (.tup [x, y])) st := by
  have xx : Ext c μ H μ (upd H T (.tup [x, y])) := ext_tup hT
  exact ⟨xx, .tup upd_same (.cons (rx.mono xx) (.cons (ry.mono xx) .nil)), s.tuple hT⟩
theorem srcok_enm {K : PySem.W.Frag} {n : Nat} {a : Addr} (ha : μ[n]? = some a) : SrcOk c (.enm n) (Ite K a) μ H := by
  intro i μ1 H1 st1 o x s e
  dsimp only [Src.draw] at e
  cases q : lstAt st1 n with
  | none => rw [q] at e; cases e
  | some xs =>
    rw [q] at e
    obtain ⟨vs, g, r1⟩ := s.ob n a _ (x.at ha) (lstAt_inv q)
    have q1 : SqL K H1 a vs := .inl (.inl g)
    have e' := Option.some.inj e
    cases z : xs[i]? with
    | none =>
      rw [z] at e'
      subst e'
      refine ⟨vs, q1, ?_⟩
      rw [← r1.length]
      exact List.getElem?_eq_none_iff.mp z
    | some p =>
      rw [z] at e'
      subst e'
      obtain ⟨y, ey, ry⟩ := r1.get z
      refine ⟨⟨vs, y, q1, ey⟩, ?_⟩
      rintro v H2 ⟨T, w, rfl, hT, rfl, f⟩
      have := f vs q1
      rw [ey] at this
      cases this
      exact pairNew s hT (.int _) ry
theorem srcok_zip {K : PySem.W.Frag} {n m : Nat} {a b : Addr} (ha : μ[n]? = some a) (hb : μ[m]? = some b) : SrcOk c (.zip2 n m) (Itz K a b) μ H := by
  intro i μ1 H1 st1 o x s e
  dsimp only [Src.draw] at e
  cases q : lstAt st1 n with
  | none => rw [q] at e; cases e
  | some xs =>
    cases q' : lstAt st1 m with
    | none => rw [q, q'] at e; cases e
    | some ys =>
      rw [q, q'] at e
      obtain ⟨vs, g, r1⟩ := s.ob n a _ (x.at ha) (lstAt_inv q)
      obtain ⟨ws, g', r2⟩ := s.ob m b _ (x.at hb) (lstAt_inv q')
      have q1 : SqL K H1 a vs := .inl (.inl g)
      have q2 : SqL K H1 b ws := .inl (.inl g')
      have e' := Option.some.inj e
      cases z : xs[i]? with
      | none =>
        rw [z] at e'
        subst e'
        refine ⟨vs, ws, q1, q2, .inl ?_⟩
        rw [← r1.length]
        exact List.getElem?_eq_none_iff.mp z
      | some p =>
        cases z' : ys[i]? with
        | none =>
          rw [z, z'] at e'
          subst e'
          refine ⟨vs, ws, q1, q2, .inr ?_⟩
          rw [← r2.length]
          exact List.getElem?_eq_none_iff.mp z'
        | some p' =>
          rw [z, z'] at e'
          subst e'
          obtain ⟨y, ey, ry⟩ := r1.get z
          obtain ⟨y', ey', ry'⟩ := r2.get z'
          refine ⟨⟨vs, ws, y, y', q1, q2, ey, ey'⟩, ?_⟩
          rintro v H2 ⟨T, w, w', rfl, hT, rfl, f, f'⟩
          have := f vs q1
          rw [ey] at this
          cases this
          have := f' ws q2
          rw [ey'] at this
          cases this
          exact pairNew s hT ry ry'
theorem srcok_str {x : Str} : SrcOk c (.fix (chars x)) (Its x) μ H := by
  intro i μ1 H1 st1 o xx s e
  have e' : (chars x)[i]? = o := Option.some.inj e
  unfold chars at e'
  rw [List.getElem?_map, Array.getElem?_toList] at e'
  cases z : x.cps[i]? with
  | none =>
    rw [z] at e'
    subst e'
    exact Array.getElem?_eq_none_iff.mp z
  | some k =>
    rw [z] at e'
    subst e'
    refine ⟨(Array.getElem?_eq_some_iff.mp z).1, ?_⟩
    rintro v H2 ⟨rfl, k', ek, rfl⟩
    rw [z] at ek
    cases ek
    exact ⟨.refl, .str _, s⟩
theorem srcok_range {lo : Int} {n : Nat} : SrcOk c (.fix ((List.range n).map fun i : Nat => PV.int (lo + (i : Int)))) (Itr lo n) μ H := by
  intro i μ1 H1 st1 o xx s e
  have e' := Option.some.inj e
  rw [List.getElem?_map] at e'
  by_cases hi : i < n
  · rw [List.getElem?_range hi] at e'
    subst e'
    refine ⟨hi, ?_⟩
    rintro v H2 ⟨rfl, rfl⟩
    exact ⟨.refl, .int _, s⟩
  · rw [List.getElem?_eq_none (by simp; omega)] at e'
    subst e'
    exact Nat.le_of_not_lt hi
theorem srcok_rangeC {lo k : Int} {n : Nat} : SrcOk c (.fix ((List.range n).map fun i : Nat => PV.int (lo + (i : Nat) * k))) (Itc lo k n) μ H := by
  intro i μ1 H1 st1 o xx s e
  have e' := Option.some.inj e
  rw [List.getElem?_map] at e'
  by_cases hi : i < n
  · rw [List.getElem?_range hi] at e'
    subst e'
    refine ⟨hi, ?_⟩
    rintro v H2 ⟨rfl, rfl⟩
    exact ⟨.refl, .int _, s⟩
  · rw [List.getElem?_eq_none (by simp; omega)] at e'
    subst e'
    exact Nat.le_of_not_lt hi
end
/-- over a value: a tuple, a list, a text -/
def dSrc (d : Slo → M PV) : Slo → M Src := fun ε => d ε >>= srcOf
section
variable {X : Cx} {c : Ct} {W : WX} {tg e : Expr} {d : Slo → M PV} {ds : Slo → M (List PV)} {pos p : Pos}
theorem gi_val (hK : c.K = X.K) (h : GE X c W e d) : GI X c W tg e (dSrc d) := by
  refine (PI.or (pi_list h) (PI.or (pi_tup h) (pi_str h))).imp ?_
  rintro σ H R ⟨ε, μ, st, r, st', hS, s, e, fin⟩
  rcases bind_inv e with ⟨p, st1, e1, e2⟩ | ⟨C, fs, e1, rfl⟩
  · cases p with
    | tup xs =>
      obtain ⟨rfl, rfl⟩ := pure_inv e2
      refine .inr (.inl ⟨ε, μ, st, _, _, hS, s, e1, fun v μ' H' x rv s' => ?_⟩)
      cases rv with
      | tup h1 h2 => exact ⟨_, rfl, ⟨_, .inl (.inl h1)⟩, fin _ μ' H' x (srcok_fixT (fun _ _ x' => x'.sqT h1) h2) s'⟩
    | ktup xs =>
      obtain ⟨rfl, rfl⟩ := pure_inv e2
      refine .inr (.inl ⟨ε, μ, st, _, _, hS, s, e1, fun v μ' H' x rv s' => ?_⟩)
      cases rv with
      | ktup h1 h2 =>
        rw [hK] at h1
        exact ⟨_, rfl, ⟨_, .inr h1⟩, fin _ μ' H' x (srcok_fixT (fun _ _ x' => .inr h1) h2) s'⟩
    | scr ns =>
      obtain ⟨rfl, rfl⟩ := pure_inv e2
      refine .inl ⟨ε, μ, st, _, _, hS, s, e1, fun v μ' H' x rv s' => ?_⟩
      cases rv
      have q1 := s'.scrL
      rw [hK] at q1
      refine ⟨_, rfl, ⟨_, q1⟩, fin _ μ' H' x (srcok_fixL (fun μ2 H2 st2 x2 s2 => ?_) (RepL0.ints _)) s'⟩
      have q2 := s2.scrL
      rw [hK] at q2
      exact q2
    | str z =>
      obtain ⟨rfl, rfl⟩ := pure_inv e2
      refine .inr (.inr ⟨ε, μ, st, _, _, hS, s, e1, fun v μ' H' x rv s' => ?_⟩)
      cases rv
      exact ⟨z, rfl, fin _ μ' H' x srcok_str s'⟩
    | loc n =>
      have e2' : (match lstAt st1 n with
        | some _ => some (Out.ok (Src.live n), st1)
        | none => none) = some (r, st') := e2
      cases q : lstAt st1 n with
      | none => rw [q] at e2'; cases e2'
      | some xs =>
        rw [q] at e2'
        cases e2'
        refine .inl ⟨ε, μ, st, _, _, hS, s, e1, fun v μ' H' x rv s' => ?_⟩
        cases rv with
        | loc ha =>
          obtain ⟨vs, g, _⟩ := s'.ob n _ _ ha (lstAt_inv q)
          exact ⟨_, rfl, ⟨vs, .inl (.inl g)⟩, fin _ μ' H' x (srcok_live ha) s'⟩
    | _ => cases e2
  · exact .inl ⟨ε, μ, st, _, _, hS, s, e1, fin⟩
end
end G
namespace G
open PySem PySem.Spec PyProof.Rows L2

def big62 (i : Int) : Bool := decide (-(2 ^ 62) ≤ i ∧ i < 2 ^ 62)
def rngP (lo : Int) (n : Nat) : List PV := (List.range n).map fun i : Nat => PV.int (lo + (i : Int))
def rngPC (lo k : Int) (n : Nat) : List PV := (List.range n).map fun i : Nat => PV.int (lo + (i : Nat) * k)
/-- the source, the values told -/
def rng1 : PV → Option (List PV)
  | .int j => if big62 j = true then some (rngP 0 j.toNat) else none
  | _ => none
def rng2 : PV → PV → Option (List PV)
  | .int i, .int j => if (big62 i && big62 j) = true then some (rngP i (j - i).toNat) else none
  | _, _ => none
def rng3 : PV → PV → PV → Option (List PV)
  | .int i, .int j, .int k => if (big62 i && big62 j && decide (k = -1)) = true then some (rngPC i (-1) (i - j).toNat) else none
  | _, _, _ => none
def enmT : PV → Option (List PV)
  | .tup xs => some (xs.mapIdx fun i x => PV.tup [.int i, x])
  | .ktup xs => some (xs.mapIdx fun i x => PV.tup [.int i, x])
  | _ => none
def zipP (xs ys : List PV) : List PV := List.zipWith (fun x y => PV.tup [x, y]) xs ys
def dRng1 (a : Slo → M PV) : Slo → M Src := fun ε => do let x ← a ε; let r ← lift (rng1 x); pure (.fix r)
def dRng2 (a b : Slo → M PV) : Slo → M Src := fun ε => do let x ← a ε; let y ← b ε; let r ← lift (rng2 x y); pure (.fix r)
def dRng3 (a b d : Slo → M PV) : Slo → M Src := fun ε => do let x ← a ε; let y ← b ε; let z ← d ε; let r ← lift (rng3 x y z); pure (.fix r)
def srcEnm (x : PV) : M Src := match x with
  | .loc n => do let _ ← getL n; pure (.enm n)
  | x => do let r ← lift (enmT x); pure (.fix r)
def dEnm (a : Slo → M PV) : Slo → M Src := fun ε => do let x ← a ε; srcEnm x
def srcZip (x y : PV) : M Src := match x, y with
  | .tup xs, .tup ys => pure (.fix (zipP xs ys))
  | .loc n, .loc m => do let _ ← getL n; let _ ← getL m; pure (.zip2 n m)
  | _, _ => M.fail
def dZip (a b : Slo → M PV) : Slo → M Src := fun ε => do let x ← a ε; let y ← b ε; srcZip x y
theorem big_of {i : Int} (h : big62 i = true) : -(2 ^ 62) ≤ i ∧ i < 2 ^ 62 := by simpa [big62] using h
theorem if_some {α : Type} {b : Bool} {x y : α} (h : (if b = true then some x else none) = some y) : b = true ∧ x = y := by
  cases b with
  | false => cases h
  | true => exact ⟨rfl, Option.some.inj h⟩
theorem rng1_inv {x : PV} {l : List PV} (h : rng1 x = some l) : ∃ j, x = .int j ∧ big62 j = true ∧ l = rngP 0 j.toNat := by
  cases x with
  | int j => obtain ⟨b, e⟩ := if_some h; exact ⟨j, rfl, b, e.symm⟩
  | _ => cases h
theorem rng2_inv {x y : PV} {l : List PV} (h : rng2 x y = some l) : ∃ i j, x = .int i ∧ y = .int j ∧ big62 i = true ∧ big62 j = true ∧ l = rngP i (j - i).toNat := by
  cases x with
  | int i =>
    cases y with
    | int j =>
      obtain ⟨b, e⟩ := if_some h
      rw [Bool.and_eq_true] at b
      exact ⟨i, j, rfl, rfl, b.1, b.2, e.symm⟩
    | _ => cases h
  | _ => cases h
theorem rng3_inv {x y z : PV} {l : List PV} (h : rng3 x y z = some l) : ∃ i j, x = .int i ∧ y = .int j ∧ z = .int (-1) ∧ big62 i = true ∧ big62 j = true ∧ l = rngPC i (-1) (i - j).toNat := by
  cases x with
  | int i =>
    cases y with
    | int j =>
      cases z with
      | int k =>
        obtain ⟨b, e⟩ := if_some h
        rw [Bool.and_eq_true, Bool.and_eq_true, decide_eq_true_eq] at b
        obtain ⟨⟨b1, b2⟩, rfl⟩ := b
        exact ⟨i, j, rfl, rfl, rfl, b1, b2, e.symm⟩
      | _ => cases h
    | _ => cases h
  | _ => cases h
def FinI (c : Ct) (μ : List Addr) (H : Hp) (r : Out Src) (st' : Sto) (R : It → Hp → Prop) (W : XK) : Prop := match r with
  | .ok s => ∀ J μ' H', Ext c μ H μ' H' → SrcOk c s J μ' H' → Sim c μ' H' st' → R J H'
  | .ex C fs => ∀ d μ' H', Ext c μ H μ' H' → RepX c μ' H' fs d → Sim c μ' H' st' → W (.ref C) d H'
theorem FinI.mono {c : Ct} {μ μ1 : List Addr} {H H1 : Hp} {st' : Sto} (x : Ext c μ H μ1 H1) {r : Out Src} {R : It → Hp → Prop} {W : XK} (h : FinI c μ H r st' R W) : FinI c μ1 H1 r st' R W := by
  cases r with
  | ok a => exact fun J μ' H' x' => h J μ' H' (x.trans x')
  | ex C fs => exact fun d μ' H' x' => h d μ' H' (x.trans x')
theorem stepI {c : Ct} {α β : Type} {Rel : List Addr → Hp → α → β → Prop} {W : WX} {μ : List Addr} {H : Hp} {st st' : Sto} {d : Slo → M α} {k : α → M Src} {ε : Slo} {σ : St} {r : Out Src} {R : It → Hp → Prop} {R' : β → Hp → Prop}
    (e : (d ε >>= k) st = some (r, st')) (hS : RepS c μ H ε σ) (s : Sim c μ H st) (fin : FinI c μ H r st' R (fun x y z => W x y σ z))
    (cont : ∀ a b st1 μ1 H1, k a st1 = some (r, st') → Ext c μ H μ1 H1 → Rel μ1 H1 a b → Sim c μ1 H1 st1 → RepS c μ1 H1 ε σ → FinI c μ1 H1 r st' R (fun x y z => W x y σ z) → R' b H1) : tR c Rel W d σ H R' := by
  rcases bind_inv e with ⟨a, st1, e1, e2⟩ | ⟨C, fs, e1, rfl⟩
  · exact ⟨ε, μ, st, .ok a, st1, hS, s, e1, fun y μ' H' x rr s' => cont a y st1 μ' H' e2 x rr s' (hS.mono x) (fin.mono x)⟩
  · exact ⟨ε, μ, st, .ex C fs, st', hS, s, e1, fin⟩
section
variable {X : Cx} {c : Ct} {W : WX} {tg e e2 e3 : Expr} {da db dc : Slo → M PV} {pos p tpos : Pos} {elts : List Expr} {kk : Nat}
theorem gi_rng1 (hg : Gl X "range") (hm : X.mg "range" = none) (ha : GE X c W e da) (hs : starEach [e] X.env = [(false, eval e X.env)] := by rfl) : GI X c W tg (.Call (.Name "range" p) [e] [] pos) (dRng1 da) := by
  refine (pi_range1 hg hm (pa_cons ha pa_nil hs) hs).imp ?_
  rintro σ H R ⟨ε, μ, st, r, st', hS, s, e, fin⟩
  refine stepI e hS s fin fun x v st1 μ1 H1 e1 x1 rx s1 hS1 fin1 => ?_
  obtain ⟨l, el, e2⟩ := bind_lift e1
  obtain ⟨rfl, rfl⟩ := pure_inv e2
  obtain ⟨j, rfl, b, rfl⟩ := rng1_inv el
  cases rx
  exact ⟨j, rfl, (big_of b).1, (big_of b).2, fin1 _ μ1 H1 .refl srcok_range s1⟩
theorem gi_rng2 (hg : Gl X "range") (hm : X.mg "range" = none) (ha : GE X c W e da) (hb : GE X c W e2 db) (hs : starEach [e, e2] X.env = [(false, eval e X.env), (false, eval e2 X.env)] := by rfl) (hs2 : starEach [e2] X.env = [(false, eval e2 X.env)] := by rfl) :
    GI X c W tg (.Call (.Name "range" p) [e, e2] [] pos) (dRng2 da db) := by
  refine (pi_range2 hg hm (pa_cons ha (pa_cons hb pa_nil hs2) (by rw [hs, hs2])) hs hs2).imp ?_
  rintro σ H R ⟨ε, μ, st, r, st', hS, s, e, fin⟩
  refine stepI e hS s fin fun x v st1 μ1 H1 e1 x1 rx s1 hS1 fin1 => ?_
  refine stepI e1 hS1 s1 fin1 fun y w st2 μ2 H2 e2 x2 ry s2 hS2 fin2 => ?_
  obtain ⟨l, el, e3⟩ := bind_lift e2
  obtain ⟨rfl, rfl⟩ := pure_inv e3
  obtain ⟨i, j, rfl, rfl, b, b', rfl⟩ := rng2_inv el
  cases rx
  cases ry
  exact ⟨i, j, rfl, ⟨(big_of b).1, (big_of b).2, (big_of b').1, (big_of b').2⟩, fin2 _ μ2 H2 .refl srcok_range s2⟩
theorem gi_rng3 (hg : Gl X "range") (hm : X.mg "range" = none) (ha : GE X c W e da) (hb : GE X c W e2 db) (hd : GE X c W e3 dc) (hs1 : starEach [e, e2, e3] X.env = (false, eval e X.env) :: starEach [e2, e3] X.env := by rfl)
    (hs2 : starEach [e2, e3] X.env = (false, eval e2 X.env) :: starEach [e3] X.env := by rfl) (hs3 : starEach [e3] X.env = (false, eval e3 X.env) :: starEach [] X.env := by rfl) (hpl : (backTo pos (starEach [e2, e3] X.env)).any (·.1) = false := by rfl) :
    GI X c W tg (.Call (.Name "range" p) [e, e2, e3] [] pos) (dRng3 da db dc) := by
  refine (pi_range3 hg hm (pa_cons ha (pa_cons hb (pa_cons hd pa_nil hs3) hs2) hs1) hs1 hpl).imp ?_
  rintro σ H R ⟨ε, μ, st, r, st', hS, s, e, fin⟩
  refine stepI e hS s fin fun x v st1 μ1 H1 e1 x1 rx s1 hS1 fin1 => ?_
  refine stepI e1 hS1 s1 fin1 fun y w st2 μ2 H2 e2 x2 ry s2 hS2 fin2 => ?_
  refine stepI e2 hS2 s2 fin2 fun z u st3 μ3 H3 e3 x3 rz s3 hS3 fin3 => ?_
  obtain ⟨l, el, e4⟩ := bind_lift e3
  obtain ⟨rfl, rfl⟩ := pure_inv e4
  obtain ⟨i, j, rfl, rfl, rfl, b, b', rfl⟩ := rng3_inv el
  cases rx
  cases ry
  cases rz
  exact ⟨i, j, -1, _, rfl, RgC.neg (big_of b).1 (big_of b).2 (big_of b').1 (big_of b').2, fin3 _ μ3 H3 .refl srcok_rangeC s3⟩

/-- the tuple at a, each item in a new pair -/
def ItE (K : PySem.W.Frag) (a : Addr) : It :=
  ⟨fun i H => ∃ (xs : List V) (x : V), SqT K H a xs ∧ xs[i]? = some x, fun i H v H' => ∃ T x, v = .ref T ∧ H T = none ∧ H' = upd H T (.tup [.int (i : Nat), x]) ∧ ∀ xs, SqT K H a xs → xs[i]? = some x, fun i H => ∃ xs : List V, SqT K H a xs ∧ xs.length ≤ i⟩
theorem turn_enmT {P : Program} {w : World} {K : PySem.W.Frag} {elts : List Expr} {kk : Nat} {tpos : Pos} (a n it : Addr) :
    Turn P w K (.Tuple elts kk tpos) (ItE K a) [n, it] n (fun i h => (∃ old, IsEnum h n it ((i : Nat) : Int) old) ∧ h.IsTupleIter it a i ∧ n ≠ it ∧ n ≠ a ∧ a ≠ it) where
  mem := List.mem_cons_self
  obj := by
    rintro i h ⟨⟨old, hn⟩, ⟨o, ho, _, hd⟩, _⟩ b hb
    rcases List.mem_cons.mp hb with z | z
    · subst z
      exact ⟨_, hn, fun v q => nomatch q⟩
    · rw [List.mem_singleton.mp z]
      exact ⟨o, ho, fun v q => by rw [hd] at q; cases q⟩
  keep := fun i h h' ⟨⟨old, hn⟩, hi, ne⟩ k => ⟨⟨old, k n List.mem_cons_self _ hn⟩, hi.at fun o q => k it (List.mem_cons_of_mem _ List.mem_cons_self) o q, ne⟩
  item := by
    rintro X rfl rfl rfl hc i pins s σ H E I hf ⟨⟨old, hn⟩, hi, ne, na, nt⟩ ⟨xs, x, hq, hx⟩
    obtain ⟨its, rv, p, _⟩ := I.tuple hq
    obtain ⟨u, hu, ru⟩ := rv.get hx
    have ln : n < s.heap.objs.size := Heap.lt_size hn
    have li : it < s.heap.objs.size := hi.elim fun _ q => Heap.lt_size q.1
    have D : Draws X.prog X.w X.A.in1 it [it, a] its.toArray.size (fun i v => its.toArray[i]? = some v) (fun i h => h.IsTupleIter it a i ∧ h.IsTuple a its.toArray) := Draws.tuple (show X.A.in1.handled = none from I.ok.hd hc) it a nt its.toArray
    have hlt : i < its.toArray.size := by
      have := (List.getElem?_eq_some_iff.mp hu).1
      simpa using this
    refine wpAny_pyNext_enum_itemD D hn ⟨hi, p⟩ hlt ne (by simp [ne, na]) fun v h' tk hv out st' hT hsz hk => ⟨_, rfl, ?_⟩
    have ev : v = u := by
      have hv' : its[i]? = some v := by simpa using hv
      exact Option.some.inj (hv'.symm.trans hu)
    subst ev
    refine wpAny_letOwnedTupleGo_enum (s := { s with heap := h', toks := tk + 1 }) out fun h2 hn2 sb => ?_
    have hT2 := (sb.2 _ (Nat.ne_of_gt ln)).trans hT
    have I1 : Inv X pins σ (upd H s.heap.objs.size (.tup [.int (i : Nat), x])) { s with heap := h2, toks := tk + 1 } :=
      I.turnedNew (ch := [n, it]) (fun b ob hb q => by
        have b1 : b ≠ n := fun z => hb (by simp [z])
        have b2 : b ≠ it := fun z => hb (by simp [z])
        exact (sb.2 b b1).trans (hk b ob b1 b2 q)) hf (Nat.le_refl _) ⟨(by decide : 2 ≤ sizeLine), [.int i tk, v], .cons ⟨_, rfl⟩ (.cons ru .nil), ⟨_, hT2, rfl, _, rfl⟩⟩
    refine ⟨.ref s.heap.objs.size, _, I1, rfl, ⟨_, x, rfl, I.hok.fresh (Nat.le_refl _), rfl, fun ys hy => by rw [I.tuple_inj hy hq]; exact hx⟩, ⟨⟨v, ?_⟩, st'.1.at fun o q => (sb.2 it (Ne.symm ne)).trans q, ne, na, nt⟩, fun b hb => ?_⟩
    · have e1 : ((i + 1 : Nat) : Int) = (i : Int) + 1 := Int.natCast_succ i
      rw [e1]; exact hn2
    · have lb : b < s.heap.objs.size := (List.mem_cons.mp hb).elim (fun z => z ▸ ln) fun z => (List.mem_singleton.mp z) ▸ li
      rw [upd_ne (Nat.ne_of_lt lb)]
      exact (hf b hb).1
  done := by
    rintro X rfl rfl rfl hc i pins s σ H E I hf ⟨⟨old, hn⟩, hi, ne, na, nt⟩ ⟨xs, hq, hx⟩
    obtain ⟨its, rv, p, _⟩ := I.tuple hq
    have hl := rv.length
    have D : Draws X.prog X.w X.A.in1 it [it, a] i (fun _ _ => True) (fun j h => j = i ∧ h.IsTupleIter it a i ∧ h.IsTuple a its.toArray) := by
      refine ⟨fun j h q => q.2.1.elim fun o z => ⟨o, z.1⟩, fun j h h' q k => ⟨q.1, q.2.1.at fun o z => k it (by simp) o z, q.2.2.at fun o z => k a (by simp) o z⟩, fun j s Q E hj q => absurd q.1 (Nat.ne_of_lt hj), fun s Q E q hE => ?_⟩
      refine wpAny_nextOf_tuple_end (show X.A.in1.handled = none from I.ok.hd hc) q.2.1 q.2.2 ?_ hE
      simp only [List.getElem?_toArray]
      exact List.getElem?_eq_none (by omega)
    obtain ⟨f0, f1, f2, f3, f4, f5⟩ := hf it (by simp)
    exact wpAny_pyNext_enum_endD D hn ⟨rfl, hi, p⟩ fun h' eb => ⟨rfl, I.turned (t' := s.toks) (fun b o hb q => eb b o hb q) f0 f1 f3 f4 f5⟩
  self := fun A i s Q E st h => st.1.elim fun _ q => wpAny_pyIter_enum q h
/-- enumerate(v), v's iterator told by Begins -/
theorem newEnum1 {v : Value} {ob : Obj} {Hh : Heap → Prop} (B : Begins v ob Hh) :
    Meets (Builtin.«enumerate.__new__» ⟨[.type "enumerate", v], []⟩) (fun _ R s => Hh s.heap ∧ R (.ok (.ret (.ref (s.heap.push ob).objs.size)))
      { s with heap := (s.heap.push ob).push { cls := .type "enumerate", data := .fields #[.none, .bool false, .ref s.heap.objs.size, rawInt 0, .none, .none] } }) := by
  refine .of_wp fun pr wo A R sh hh => ?_
  obtain ⟨hp, gs, dr, tk, os⟩ := sh
  obtain ⟨hb, hr⟩ := hh
  have hsub := sub_enumerate
  have it1 : ∀ {A2 : Around} {E : Value → Shared → Prop} {Q : Value → Shared → Prop}, Q (.ref hp.objs.size) ⟨hp.push ob, gs, dr, tk, os⟩ → wpAny (model pr wo) A2 (pyIter v) Q E ⟨hp, gs, dr, tk, os⟩ := fun q => B.iter pr wo _ _ ⟨hp, gs, dr, tk, os⟩ _ hb q
  wp_walk using it1
  refine wpAny_stack_any (fun _ => wpAny_pure ?_)
  split
  next cc _ _ _ _ _ => cases (cc == Value.type "enumerate") <;> (wp_walk using it1; exact ⟨_, rfl, hr⟩)
  next => wp_walk using it1; exact ⟨_, rfl, hr⟩
theorem pi_enmT {ta : TA} (hg : Gl X "enumerate") (hm : X.mg "enumerate" = none) (ha : PA X [e] ta) (hs : starEach [e] X.env = [(false, eval e X.env)] := by rfl) :
    PI X (.Tuple elts kk tpos) (.Call (.Name "enumerate" p) [e] [] pos) (fun σ H R => ta σ H fun vs H1 => ∃ a xs, vs = [.ref a] ∧ SqT X.K H1 a xs ∧ R (ItE X.K a) H1) := by
  refine ⟨fun pins s σ H R I h => Call_ (ld_blt I hg hm boot_enumerate (PyProof.Rows.callWith_type1 (thn (ha.run pos pins s σ H _ I h) fun us s1 q1 => ?_) hs rfl))⟩
  obtain ⟨vs, H1, I1, r1, a, xs, rfl, hq, q⟩ := q1
  cases r1 with
  | cons r rr =>
    cases rr
    cases r
    obtain ⟨its, rv, p', _⟩ := I1.tuple hq
    have ht : s1.heap.IsTuple a its.toArray := p'
    have la : a < s1.heap.objs.size := ht.elim fun _ z => Heap.lt_size z.1
    refine callType_new F.called_enumerate (by decide) (F.typeCall_enumerate_1 _) (F.newCall_enumerate_1 _) (fun obj => F.args_object_init_2 obj _) F.entry_enumerate_new (newEnum1 (begins_tuple a its.toArray)) ⟨ht, ?_⟩
    generalize hob : ({ cls := .type "tuple_iterator", data := .fields #[.ref a, .int 0 0] } : Obj) = ob
    have fre : ob.isFreed = false := by rw [← hob] <;> rfl
    have sz : (s1.heap.push ob).objs.size = s1.heap.objs.size + 1 := Heap.size_push ..
    show _ ∧ _
    rw [sz]
    generalize hh2 : (s1.heap.push ob).push { cls := .type "enumerate", data := .fields #[.none, .bool false, .ref s1.heap.objs.size, rawInt 0, .none, .none] } = h2
    have he : IsEnum h2 (s1.heap.objs.size + 1) s1.heap.objs.size 0 .none := by
      rw [← sz, ← hh2]
      exact Heap.get?_push_size _ rfl
    have hi : h2.IsTupleIter s1.heap.objs.size a 0 := by
      refine ⟨ob, ?_, by subst hob; rfl, by subst hob; rfl⟩
      rw [← hh2]
      exact Heap.get?_push_of_some _ (Heap.get?_push_size _ fre)
    have hk : ∀ b o, s1.heap.get? b = some o → h2.get? b = some o := fun b o z => by
      rw [← hh2]
      exact Heap.get?_push_of_some _ (Heap.get?_push_of_some _ z)
    refine ⟨⟨_, he, rfl⟩, wpAny_pyIter_enum he ?_⟩
    refine ⟨s1.heap.objs.size + 1, [s1.heap.objs.size + 1, s1.heap.objs.size], _, _, H1, rfl, I1.kept (t' := s1.toks) hk, turn_enmT a (s1.heap.objs.size + 1) s1.heap.objs.size, ⟨⟨.none, he⟩, hi, Nat.succ_ne_self _, Nat.ne_of_gt (Nat.lt_succ_of_lt la), Nat.ne_of_lt la⟩, fun b hb => ?_, q⟩
    have hle : s1.heap.objs.size ≤ b := (List.mem_cons.mp hb).elim (fun z => z ▸ Nat.le_succ _) fun z => (List.mem_singleton.mp z) ▸ Nat.le_refl _
    exact I1.fpOk hle (I1.hok.fresh hle)
theorem srcok_enmT {K : PySem.W.Frag} {μ : List Addr} {H : Hp} {a : Addr} {vs : List V} {xs : List PV} (q : ∀ μ' H', Ext c μ H μ' H' → SqT K H' a vs) (r : RepL c μ H xs vs) : SrcOk c (.fix (xs.mapIdx fun i x => PV.tup [.int i, x])) (ItE K a) μ H := by
  intro i μ1 H1 st1 o x s e
  have e' := Option.some.inj e
  rw [List.getElem?_mapIdx] at e'
  have q1 := q _ _ x
  cases z : xs[i]? with
  | none =>
    rw [z] at e'
    subst e'
    refine ⟨vs, q1, ?_⟩
    rw [← r.length]
    exact List.getElem?_eq_none_iff.mp z
  | some p =>
    rw [z] at e'
    subst e'
    obtain ⟨y, ey, ry⟩ := (r.mono x).get z
    refine ⟨⟨vs, y, q1, ey⟩, ?_⟩
    rintro v H2 ⟨T, w, rfl, hT, rfl, f⟩
    have := f vs q1
    rw [ey] at this
    cases this
    exact pairNew s hT (.int _) ry
theorem gi_enm (hK : c.K = X.K) (hg : Gl X "enumerate") (hm : X.mg "enumerate" = none) (ha : GE X c W e da) (hs : starEach [e] X.env = [(false, eval e X.env)] := by rfl) : GI X c W (.Tuple elts kk tpos) (.Call (.Name "enumerate" p) [e] [] pos) (dEnm da) := by
  refine (PI.or (pi_enum hg hm (pa_cons ha pa_nil hs) hs) (pi_enmT hg hm (pa_cons ha pa_nil hs) hs)).imp ?_
  rintro σ H R ⟨ε, μ, st, r, st', hS, s, e, fin⟩
  rcases bind_inv e with ⟨x, st1, e1, e2⟩ | ⟨C, fs, e1, rfl⟩
  · cases x with
    | loc n =>
      refine .inl ⟨ε, μ, st, _, _, hS, s, e1, fun v μ' H' xx rv s' => ?_⟩
      obtain ⟨xs, ho, e3⟩ := bind_getL e2
      obtain ⟨rfl, rfl⟩ := pure_inv e3
      cases rv with
      | loc ha =>
        obtain ⟨vs, g, _⟩ := s'.ob n _ _ ha ho
        exact ⟨_, vs, rfl, .inl (.inl g), fin _ μ' H' xx (srcok_enm ha) s'⟩
    | tup xs =>
      refine .inr ⟨ε, μ, st, _, _, hS, s, e1, fun v μ' H' xx rv s' => ?_⟩
      obtain ⟨l, el, e3⟩ := bind_lift e2
      obtain ⟨rfl, rfl⟩ := pure_inv e3
      cases el
      cases rv with
      | tup h1 h2 => exact ⟨_, _, rfl, .inl (.inl h1), fin _ μ' H' xx (srcok_enmT (fun _ _ x' => x'.sqT h1) h2) s'⟩
    | ktup xs =>
      refine .inr ⟨ε, μ, st, _, _, hS, s, e1, fun v μ' H' xx rv s' => ?_⟩
      obtain ⟨l, el, e3⟩ := bind_lift e2
      obtain ⟨rfl, rfl⟩ := pure_inv e3
      cases el
      cases rv with
      | ktup h1 h2 =>
        rw [hK] at h1
        exact ⟨_, _, rfl, .inr h1, fin _ μ' H' xx (srcok_enmT (fun _ _ x' => .inr h1) h2) s'⟩
    | _ =>
      obtain ⟨l, el, e3⟩ := bind_lift e2
      cases el
  · exact .inl ⟨ε, μ, st, _, _, hS, s, e1, fin⟩
theorem srcok_zipT {K : PySem.W.Frag} {μ : List Addr} {H : Hp} {a b : Addr} {vs ws : List V} {xs ys : List PV} (q : ∀ μ' H', Ext c μ H μ' H' → SqT K H' a vs) (q' : ∀ μ' H', Ext c μ H μ' H' → SqT K H' b ws) (r : RepL c μ H xs vs) (r' : RepL c μ H ys ws) :
    SrcOk c (.fix (zipP xs ys)) (RZ.ItzT K a b) μ H := by
  intro i μ1 H1 st1 o x s e
  have e' := Option.some.inj e
  unfold zipP at e'
  rw [List.getElem?_zipWith] at e'
  have q1 := q _ _ x
  have q2 := q' _ _ x
  cases z : xs[i]? with
  | none =>
    rw [z] at e'
    subst e'
    refine ⟨vs, ws, q1, q2, .inl ?_⟩
    rw [← r.length]
    exact List.getElem?_eq_none_iff.mp z
  | some p =>
    cases z' : ys[i]? with
    | none =>
      rw [z, z'] at e'
      subst e'
      refine ⟨vs, ws, q1, q2, .inr ?_⟩
      rw [← r'.length]
      exact List.getElem?_eq_none_iff.mp z'
    | some p' =>
      rw [z, z'] at e'
      subst e'
      obtain ⟨y, ey, ry⟩ := (r.mono x).get z
      obtain ⟨y', ey', ry'⟩ := (r'.mono x).get z'
      refine ⟨⟨vs, ws, y, y', q1, q2, ey, ey'⟩, ?_⟩
      rintro v H2 ⟨T, w, w', rfl, hT, rfl, f, f'⟩
      have := f vs q1
      rw [ey] at this
      cases this
      have := f' ws q2
      rw [ey'] at this
      cases this
      exact pairNew s hT ry ry'
theorem gi_zip (hg : Gl X "zip") (hm : X.mg "zip" = none) (ha : GE X c W e da) (hb : GE X c W e2 db) (hs : starEach [e, e2] X.env = (false, eval e X.env) :: starEach [e2] X.env := by rfl) (hs2 : starEach [e2] X.env = (false, eval e2 X.env) :: starEach [] X.env := by rfl) (hpl : (backTo pos (starEach [e2] X.env)).any (·.1) = false := by rfl) :
    GI X c W (.Tuple elts kk tpos) (.Call (.Name "zip" p) [e, e2] [] pos) (dZip da db) := by
  refine (RZ.pi_zipA hg hm (pa_cons ha (pa_cons hb pa_nil hs2) hs) hs hpl).imp ?_
  rintro σ H R ⟨ε, μ, st, r, st', hS, s, e, fin⟩
  refine stepI e hS s fin fun x v st1 μ1 H1 e1 x1 rx s1 hS1 fin1 => ?_
  refine stepI e1 hS1 s1 fin1 fun y w st2 μ2 H2 e2 x2 ry s2 hS2 fin2 => ?_
  have rx := rx.mono x2
  cases x with
  | tup xs =>
    cases y with
    | tup ys =>
      obtain ⟨rfl, rfl⟩ := pure_inv e2
      cases rx with
      | tup h1 h2 =>
        cases ry with
        | tup h3 h4 => exact ⟨_, _, _, _, rfl, .inr ⟨.inl (.inl h1), .inl (.inl h3), fin2 _ μ2 H2 .refl (srcok_zipT (fun _ _ x' => x'.sqT h1) (fun _ _ x' => x'.sqT h3) h2 h4) s2⟩⟩
    | _ => cases e2
  | loc n =>
    cases y with
    | loc m =>
      obtain ⟨xs, ho, e3⟩ := bind_getL e2
      obtain ⟨ys, ho', e4⟩ := bind_getL e3
      obtain ⟨rfl, rfl⟩ := pure_inv e4
      cases rx with
      | loc ha =>
        cases ry with
        | loc hb =>
          obtain ⟨vs, g, _⟩ := s2.ob n _ _ ha ho
          obtain ⟨ws, g', _⟩ := s2.ob m _ _ hb ho'
          exact ⟨_, _, _, _, rfl, .inl ⟨.inl (.inl g), .inl (.inl g'), fin2 _ μ2 H2 .refl (srcok_zip ha hb) s2⟩⟩
    | _ => cases e2
  | _ => cases e2
end
end G
namespace G
open PySem PySem.Spec PyProof.Rows L2

/-- the turns from i on, at most f items -/
def forS (s : Src) (gb : PV → SM) : Nat → Nat → Slo → Sto → Option (SR × Sto)
  | f, i, ε, st => match s.draw i st with
    | none => none
    | some none => some (.nx ε, st)
    | some (some x) => match f with
      | 0 => none
      | f + 1 => match gb x ε st with
        | some (.nx ε', st') => forS s gb f (i + 1) ε' st'
        | some (.ct ε', st') => forS s gb f (i + 1) ε' st'
        | some (.bk ε', st') => some (.nx ε', st')
        | r => r
def sFor (d : Slo → M Src) (g : TM) (b : SM) : SM := eS d fun s ε st => forS s (fun x => sSeq (g x) b) (s.many st) 0 ε st
theorem forS_stop {s : Src} {gb : PV → SM} {f i : Nat} {ε : Slo} {st : Sto} (h : s.draw i st = some none) : forS s gb f i ε st = some (.nx ε, st) := by
  unfold forS
  rw [h]
theorem forS_go {s : Src} {gb : PV → SM} {f i : Nat} {ε : Slo} {st : Sto} {x : PV} (h : s.draw i st = some (some x)) : forS s gb (f + 1) i ε st = (match gb x ε st with
        | some (.nx ε', st') => forS s gb f (i + 1) ε' st'
        | some (.ct ε', st') => forS s gb f (i + 1) ε' st'
        | some (.bk ε', st') => some (.nx ε', st')
        | r => r) := by
  rw [forS, h]
theorem forS_zero {s : Src} {gb : PV → SM} {i : Nat} {ε : Slo} {st : Sto} {x : PV} (h : s.draw i st = some (some x)) : forS s gb 0 i ε st = none := by
  rw [forS]
  rw [h]
section
variable {X : Cx} {c : Ct} {W : WX} {tg iter : Expr} {body : List Stmt} {d : Slo → M Src} {g : TM} {b : SM} {pos : Pos}
/-- the target's end is nx or an exception -/
def nxOnly (g : TM) : Prop := ∀ p ε st r st', g p ε st = some (r, st') → (∃ ε', r = .nx ε') ∨ ∃ C fs ε', r = .ex C fs ε'
theorem gs_for (hp : PassesOwn (model X.prog X.w) X.A X.env X.xe) (hc : X.calm = true) (gx : nxOnly g) (hi : GI X c W tg iter d) (hg : GG X c W tg g) (hb : GSs X c W body b)
    (hs : ∀ x, foldedSetIterable iter X.env x = pure x := by intro _; rfl) : GS X c W (.For tg iter body [] pos) (sFor d g b) := by
  refine (ps_for hp hc hi hg hb hs).imp ?_
  rintro D σ H ⟨ε, μ, st, r, st', hS, s, e, fin⟩
  rcases eS_inv e with ⟨src, st1, e1, e2⟩ | ⟨C, fs, e1, rfl⟩
  · refine ⟨ε, μ, st, _, _, hS, s, e1, fun J μ1 H1 x1 ok s1 => ?_⟩
    refine ⟨fun i m σ2 H2 => ∃ ε2 μ2 st2, RepS c μ2 H2 ε2 σ2 ∧ Ext c μ1 H1 μ2 H2 ∧ Sim c μ2 H2 st2 ∧ forS src (fun x => sSeq (g x) b) m i ε2 st2 = some (r, st') ∧ FinS c μ2 H2 r st' D W, ⟨src.many st1, ε, μ1, st1, hS.mono x1, .refl, s1, e2, fin.mono x1⟩, ?_⟩
    rintro i m σ2 H2 ⟨ε2, μ2, st2, hS2, x2, s2, e3, fin2⟩
    cases q : src.draw i st2 with
    | none =>
      rw [forS, q] at e3
      cases e3
    | some o =>
      have okk := ok i μ2 H2 st2 o x2 s2 q
      cases o with
      | none =>
        rw [forS_stop q] at e3
        cases e3
        exact .inl ⟨okk, fin2 μ2 H2 σ2 .refl hS2 s2⟩
      | some x =>
        cases m with
        | zero => rw [forS_zero q] at e3; cases e3
        | succ f =>
          rw [forS_go q] at e3
          refine .inr ⟨okk.1, fun σ3 H3 => ∃ ε3 μ3 st3, RepS c μ3 H3 ε3 σ3 ∧ Ext c μ1 H1 μ3 H3 ∧ Sim c μ3 H3 st3 ∧ forS src (fun x => sSeq (g x) b) f (i + 1) ε3 st3 = some (r, st') ∧ FinS c μ3 H3 r st' D W, fun σ' H' h => ⟨f, Nat.lt_succ_self f, h⟩, fun v H3 y => ?_⟩
          obtain ⟨x3, rv, s3⟩ := okk.2 v H3 y
          have hS3 := hS2.mono x3
          have fin3 := fin2.mono x3
          cases q1 : g x ε2 st2 with
          | none =>
            have : sSeq (g x) b ε2 st2 = none := by unfold sSeq; rw [q1]
            rw [this] at e3
            cases e3
          | some p =>
            obtain ⟨r1, st4⟩ := p
            refine ⟨x, ε2, μ2, st2, r1, st4, rv, hS3, s3, q1, ?_⟩
            rcases gx _ _ _ _ _ q1 with ⟨ε4, rfl⟩ | ⟨C, fs, ε4, rfl⟩
            · have : sSeq (g x) b ε2 st2 = b ε4 st4 := by unfold sSeq; rw [q1]
              rw [this] at e3
              intro μ4 H4 σ4 x4 hS4 s4
              cases q2 : b ε4 st4 with
              | none => rw [q2] at e3; cases e3
              | some p =>
                obtain ⟨r2, st5⟩ := p
                rw [q2] at e3
                refine ⟨ε4, μ4, st4, r2, st5, hS4, s4, q2, ?_⟩
                have fin4 := fin3.mono x4
                have xx := x2.trans (x3.trans x4)
                cases r2 with
                | nx ε5 => exact fun μ5 H5 σ5 x5 hS5 s5 => ⟨ε5, μ5, st5, hS5, xx.trans x5, s5, e3, fin4.mono x5⟩
                | ct ε5 => exact fun μ5 H5 σ5 x5 hS5 s5 => ⟨ε5, μ5, st5, hS5, xx.trans x5, s5, e3, fin4.mono x5⟩
                | bk ε5 => cases e3; exact fin4
                | rt p => cases e3; exact fin4
                | ex C fs ε5 => cases e3; exact fin4
            · have : sSeq (g x) b ε2 st2 = some (.ex C fs ε4, st4) := by unfold sSeq; rw [q1]
              rw [this] at e3
              cases e3
              exact fin3
  · exact ⟨ε, μ, st, _, _, hS, s, e1, fun dd μ' H' x rr s' => fin dd μ' H' σ x (hS.mono x) rr s'⟩

def whS (t : Slo → M Bool) (b : SM) : Nat → Slo → Sto → Option (SR × Sto)
  | f, ε, st => match t ε st with
    | none => none
    | some (.ex C fs, st1) => some (.ex C fs ε, st1)
    | some (.ok false, st1) => some (.nx ε, st1)
    | some (.ok true, st1) => match f with
      | 0 => none
      | f + 1 => match b ε st1 with
        | some (.nx ε', st') => whS t b f ε' st'
        | some (.ct ε', st') => whS t b f ε' st'
        | some (.bk ε', st') => some (.nx ε', st')
        | r => r
/-- while: at most n turns -/
def sWh (n : Slo → Sto → Nat) (t : Slo → M Bool) (b : SM) : SM := fun ε st => whS t b (n ε st) ε st
theorem gs_wh {n : Slo → Sto → Nat} {t : Slo → M Bool} {e : Expr} (hp : PassesOwn (model X.prog X.w) X.A X.env X.xe) (ht : GT X c W e t) (hb : GSs X c W body b) : GS X c W (.While e body [] pos) (sWh n t b) := by
  refine (ps_while hp ht hb).imp ?_
  rintro D σ H ⟨ε, μ, st, r, st', hS, s, e, fin⟩
  refine ⟨fun m σ2 H2 => ∃ ε2 μ2 st2, RepS c μ2 H2 ε2 σ2 ∧ Sim c μ2 H2 st2 ∧ whS t b m ε2 st2 = some (r, st') ∧ FinS c μ2 H2 r st' D W, ⟨n ε st, ε, μ, st, hS, s, e, fin⟩, ?_⟩
  rintro m σ2 H2 ⟨ε2, μ2, st2, hS2, s2, e3, fin2⟩
  rw [whS] at e3
  cases q : t ε2 st2 with
  | none => rw [q] at e3; cases e3
  | some p =>
    obtain ⟨o, st3⟩ := p
    rw [q] at e3
    refine ⟨ε2, μ2, st2, o, st3, hS2, s2, q, ?_⟩
    cases o with
    | ex C fs => cases e3; exact fun dd μ' H' x rr s' => fin2 dd μ' H' σ2 x (hS2.mono x) rr s'
    | ok k =>
      intro y μ3 H3 x3 ey s3
      subst ey
      cases k with
      | false =>
        cases e3
        exact fin2 μ3 H3 σ2 x3 (hS2.mono x3) s3
      | true =>
        cases m with
        | zero => cases e3
        | succ f =>
          refine ⟨fun σ4 H4 => ∃ ε4 μ4 st4, RepS c μ4 H4 ε4 σ4 ∧ Sim c μ4 H4 st4 ∧ whS t b f ε4 st4 = some (r, st') ∧ FinS c μ4 H4 r st' D W, fun σ' H' h => ⟨f, Nat.lt_succ_self f, h⟩, ?_⟩
          have fin3 := fin2.mono x3
          cases q2 : b ε2 st3 with
          | none => simp only [q2] at e3; cases e3
          | some p =>
            obtain ⟨r2, st5⟩ := p
            simp only [q2] at e3
            refine ⟨ε2, μ3, st3, r2, st5, hS2.mono x3, s3, q2, ?_⟩
            cases r2 with
            | nx ε5 => exact fun μ5 H5 σ5 x5 hS5 s5 => ⟨ε5, μ5, st5, hS5, s5, e3, fin3.mono x5⟩
            | ct ε5 => exact fun μ5 H5 σ5 x5 hS5 s5 => ⟨ε5, μ5, st5, hS5, s5, e3, fin3.mono x5⟩
            | bk ε5 => cases e3; exact fin3
            | rt p => cases e3; exact fin3
            | ex C fs ε5 => cases e3; exact fin3
end

def setF (C : Addr) (f : Str) (o v : PV) : M Unit := match o with
  | .loc n => do
    let ob ← getO n
    match ob with
    | .ins C' fs => do
      need (decide (C' = C) && decide (fs.length < 1000))
      setO n (.ins C (putG f v fs))
    | _ => M.fail
  | _ => M.fail
def sFldS (C : Addr) (f : Str) (o d : Slo → M PV) : SM := eS d fun v => eS o fun x => eS (fun _ => setF C f x v) fun _ => sNext
theorem putG_ok {c : Ct} {μ : List Addr} {H : Hp} {f : Str} {p : PV} {v : V} (r : RepV c μ H p v) : ∀ {fs : List (Str × PV)} {gs : List (Str × V)}, RepF c μ H fs gs → RepF c μ H (putG f p fs) (putF f v gs)
  | [], _, h => by
    cases h
    exact .cons ⟨rfl, r⟩ .nil
  | q :: fs, _, h => by
    cases h with
    | cons h1 h2 =>
      rename_i b bs
      obtain ⟨bk, bv⟩ := b
      obtain ⟨e, rr⟩ := h1
      dsimp only at e rr
      subst e
      unfold putG putF
      by_cases hk : q.1 = f
      · rw [if_pos hk]
        simp only [hk, if_true]
        exact .cons ⟨rfl, r⟩ h2
      · rw [if_neg hk]
        simp only [hk, if_false]
        exact .cons ⟨rfl, rr⟩ (putG_ok r h2)
section
variable {X : Cx} {c : Ct} {W : WX} {o value : Expr} {f : Str} {C : Addr} {da dv : Slo → M PV} {pos pos' : Pos}
theorem gs_fld (hC : Cls X.K C) (hn : NoAttr X.K C f) (ha : GE X c W o da) (hv : GE X c W value dv) (hs : swapsWith value (some (.Attribute o f pos')) pos.line X.env = pure false := by rfl) : GS X c W (.Assign [.Attribute o f pos'] value pos) (sFldS C f da dv) := by
  refine (ps_fld ha hv hs).imp ?_
  rintro D σ H ⟨ε, μ, st, r, st', hS, s, e, fin⟩
  refine stepS e hS s fin fun x v st1 μ1 H1 e1 x1 rx s1 hS1 fin1 => ?_
  refine stepS e1 hS1 s1 fin1 fun y w st2 μ2 H2 e2 x2 ry s2 hS2 fin2 => ?_
  have rx := rx.mono x2
  rcases eS_inv e2 with ⟨z, st3, e3, e4⟩ | ⟨C', fs, e3, _⟩
  · cases e4
    cases y with
    | loc n =>
      obtain ⟨ob, ho, e5⟩ := bind_getO e3
      obtain ⟨a, rfl, ha, so⟩ := s2.at_loc ho ry
      cases ob with
      | ins C' fs =>
        obtain ⟨b, e6⟩ := need_inv2 e5
        rw [Bool.and_eq_true, decide_eq_true_eq, decide_eq_true_eq] at b
        obtain ⟨rfl, hl⟩ := b
        obtain ⟨_, rfl⟩ := setO_inv e6
        obtain ⟨dx, gs, g, rf⟩ := id so
        refine ⟨a, C', dx, gs, rfl, g, hC, hn, by rw [← rf.len]; exact hl, ?_⟩
        have xx : Ext c μ2 H2 μ2 (upd H2 a (.ins C' dx (putF f v gs))) := ext_mut (SimO.mut rfl so)
        exact fin2 μ2 _ σ xx (hS2.mono xx) (s2.put ha ho ⟨dx, _, upd_same, (putG_ok rx rf).mono xx⟩)
      | _ => cases e5
    | _ => cases e3
  · cases y with
    | loc n =>
      obtain ⟨ob, ho, e5⟩ := bind_getO e3
      cases ob with
      | ins C' fs =>
        obtain ⟨b, e6⟩ := need_inv2 e5
        obtain ⟨h, _⟩ := setO_inv e6
        cases h
      | _ => cases e5
    | _ => cases e3
end

def wipeP (ε : Slo) : List Nat → Slo
  | [] => ε
  | v :: vs => (wipeP ε vs).set v none
/-- no name that holds a function is among these -/
def FsOk (c : Ct) (vs : List Nat) : Prop := (∀ q ∈ c.fs, q.1 ∉ vs) ∧ ∀ q ∈ c.xs, q.i ∉ vs
theorem RepS.wipe {c : Ct} {μ : List Addr} {H : Hp} {ε : Slo} {σ : St} (h : RepS c μ H ε σ) : ∀ vs : List Nat, FsOk c vs → RepS c μ H (wipeP ε vs) (wipe σ vs)
  | [], _ => h
  | v :: vs, hv => by
    have ih := h.wipe vs ⟨fun q hq z => hv.1 q hq (List.mem_cons_of_mem _ z), fun q hq z => hv.2 q hq (List.mem_cons_of_mem _ z)⟩
    unfold wipeP L2.wipe
    refine ⟨by simp [ih.len], fun j q e => ?_, fun q hq e => ?_, fun q hq => ⟨fun e => ?_, (ih.xc q hq).2⟩⟩
    · by_cases hj : v = j
      · subst hj
        by_cases hl : v < (wipeP ε vs).length
        · rw [List.getElem?_set_self hl] at e; cases e
        · rw [List.getElem?_eq_none (by simpa using hl)] at e; cases e
      · rw [List.getElem?_set_ne hj] at e ⊢
        exact ih.at_ j q e
    · have hj : v ≠ q.1 := fun z => hv.1 q hq (by rw [← z]; exact List.mem_cons_self)
      rw [List.getElem?_set_ne hj] at e ⊢
      exact ih.fn q hq e
    · have hj : v ≠ q.i := fun z => hv.2 q hq (by rw [← z]; exact List.mem_cons_self)
      rw [List.getElem?_set_ne hj] at e ⊢
      exact (ih.xc q hq).1 e
/-- a block raises nothing -/
abbrev W0 : WX := fun _ _ _ _ => False
theorem wipe_set {σ : St} {i : Nat} {o : Option V} : ∀ {vs : List Nat}, i ∈ vs → wipe (σ.set i o) vs = wipe σ vs
  | v :: vs, h => by
    unfold L2.wipe
    by_cases hi : i ∈ vs
    · rw [wipe_set hi]
    · have e : i = v := (List.mem_cons.mp h).resolve_right hi
      subst e
      clear h
      induction vs with
      | nil => simp [L2.wipe]
      | cons u us ih =>
        unfold L2.wipe
        have hu : i ≠ u := fun z => hi (z ▸ List.mem_cons_self)
        have := ih fun z => hi (List.mem_cons_of_mem _ z)
        rw [List.set_comm _ _ (Ne.symm hu), this, List.set_comm _ _ hu]
/-- a block's target: it writes slots of vs -/
def tGv (c : Ct) (vs : List Nat) (g : TM) : TG := fun v σ H Q => ∃ p ε μ st r st', RepV c μ H p v ∧ RepS c μ H ε σ ∧ Sim c μ H st ∧ g p ε st = some (r, st') ∧ (match r with
  | .nx ε' => ∀ σ', RepS c μ H ε' σ' → wipe σ' vs = wipe σ vs → Sim c μ H st' → Q σ' H
  | _ => False)
def tGvs (c : Ct) (vs : List Nat) (g : List PV → SM) : TGs := fun v σ H Q => ∃ p ε μ st r st', RepL c μ H p v ∧ RepS c μ H ε σ ∧ Sim c μ H st ∧ g p ε st = some (r, st') ∧ (match r with
  | .nx ε' => ∀ σ', RepS c μ H ε' σ' → wipe σ' vs = wipe σ vs → Sim c μ H st' → Q σ' H
  | _ => False)
abbrev GV (X : Cx) (c : Ct) (vs : List Nat) (e : Expr) (g : TM) : Prop := PG X e (tGv c vs g)
abbrev GVs (X : Cx) (c : Ct) (vs : List Nat) (es : List Expr) (g : List PV → SM) : Prop := PGs X es (tGvs c vs g)
section
variable {X : Cx} {c : Ct} {vs : List Nat} {e : Expr} {es : List Expr} {pos : Pos}
theorem gv_name {i : Nat} {x : Str} (hm : i ∈ vs) (hN : X.N.Nodup) (hi : X.N[i]? = some x) (hx : Loc X.env.scope x) (hf : X.fn x = true ∨ X.env.scope.names.lookup x = some .local := by first | exact .inl rfl | exact .inr rfl | assumption) : GV X c vs (.Name x pos) (gN i) := by
  refine (pg_name hN hi hx hf).imp ?_
  rintro v σ H Q ⟨p, ε, μ, st, r, st', rp, hS, s, e, fin⟩
  cases e
  exact fin _ (hS.set i rp) (wipe_set hm) s
theorem gvs_nil : GVs X c vs [] gsNil := by
  refine pgs_nil.imp ?_
  rintro v σ H Q ⟨p, ε, μ, st, r, st', rp, hS, s, e, fin⟩
  cases rp with
  | nil => cases e; exact ⟨rfl, fin σ hS rfl s⟩
  | cons _ _ => cases e
theorem gvs_cons {g : TM} {gs : List PV → SM} (h1 : GV X c vs e g) (h2 : GVs X c vs es gs) (hs : (assignEach (e :: es) X.env).map (·.2) = assign e X.env :: (assignEach es X.env).map (·.2) := by rfl) : GVs X c vs (e :: es) (gsCons g gs) := by
  refine (pgs_cons h1 h2 hs).imp ?_
  rintro v σ H Q ⟨p, ε, μ, st, r, st', rp, hS, s, e, fin⟩
  cases rp with
  | nil => cases e
  | cons r1 r2 =>
    rename_i x xs y ys
    refine ⟨y, ys, rfl, ?_⟩
    have e' : sSeq (g x) (gs xs) ε st = some (r, st') := e
    unfold sSeq at e'
    cases q : g x ε st with
    | none => rw [q] at e'; cases e'
    | some p =>
      obtain ⟨ra, st1⟩ := p
      rw [q] at e'
      refine ⟨x, ε, μ, st, ra, st1, r1, hS, s, q, ?_⟩
      cases ra with
      | nx ε' =>
        intro σ1 hS1 w1 s1
        refine ⟨xs, ε', μ, st1, r, st', r2, hS1, s1, e', ?_⟩
        cases r with
        | nx ε2 => exact fun σ2 hS2 w2 s2 => fin σ2 hS2 (w2.trans w1) s2
        | _ => exact fin
      | rt p => cases e'; exact fin
      | bk ε' => cases e'; exact fin
      | ct ε' => cases e'; exact fin
      | ex C fs ε' => cases e'; exact fin
theorem gv_tup {k : Nat} {gs : List PV → SM} {n : Nat} (hK : c.K = X.K) (hc : X.calm = true) (h : GVs X c vs es gs) (hl : ∀ ps ε st q, gs ps ε st = some q → ps.length = n)
    (hn : (assignEach es X.env).length = n := by rfl) (hst : (assignEach es X.env).findIdx? (·.1) = none := by rfl) : GV X c vs (.Tuple es k pos) (gTu gs) := by
  refine (PG.or (pg_tup hc h hn hst) (pg_lst hc h hn hst)).imp ?_
  rintro v σ H Q ⟨p, ε, μ, st, r, st', rp, hS, s, e, fin⟩
  rcases eS_inv e with ⟨xs, st1, e1, e2⟩ | ⟨C, fs, e1, _⟩
  · obtain ⟨ys, a, vs', e3, rfl, rfl, e5, rl⟩ := readS_inv s rp e1
    cases e3
    have hlen : vs'.length = n := by rw [← rl.length]; exact hl _ _ _ _ e2
    rw [hK] at e5
    rcases e5 with e5 | e5
    · exact .inr ⟨a, vs', rfl, e5, hlen, xs, ε, μ, st1, r, st', rl, hS, s, e2, fin⟩
    · exact .inl ⟨a, vs', rfl, e5, hlen, xs, ε, μ, st1, r, st', rl, hS, s, e2, fin⟩
  · obtain ⟨ys, a, vs', e3, _⟩ := readS_inv s rp e1
    cases e3
end
/-- a clause's tests -/
abbrev GTs (X : Cx) (c : Ct) (ifs : List Expr) (t : Slo → M Bool) : Prop := PTs X ifs (tT c W0 t)
theorem _root_.L2.PTs.imp {X : Cx} {s : List Expr} {t t' : TT} (h : PTs X s t) (i : ∀ σ H Q, t' σ H Q → t σ H Q) : PTs X s t' := ⟨fun pins s σ H Q I q => h.run pins s σ H Q I (i σ H Q q)⟩
def tYesP : Slo → M Bool := fun _ => pure true
theorem gts_nil {X : Cx} {c : Ct} : GTs X c [] tYesP := by
  refine pts_nil.imp ?_
  rintro σ H Q ⟨ε, μ, st, r, st', hS, s, e, fin⟩
  obtain ⟨rfl, rfl⟩ := pure_inv e
  exact fin true μ H .refl rfl s
theorem gts_one {X : Cx} {c : Ct} {e : Expr} {t : Slo → M Bool} (h : GT X c W0 e t) : GTs X c [e] t := pts_one h
/-- an item of the new list at n -/
def addL (n : Nat) (y : PV) : M Unit := do
  let acc ← getL n
  need (decide (acc.length < sizeLine))
  setO n (.lst (acc ++ [y]))
/-- a turn behind the target -/
def lcStep (t : Slo → M Bool) (e : Slo → M PV) (n : Nat) (ε : Slo) : M Unit := do
  let b ← t ε
  if b = true then do
    let y ← e ε
    addL n y
  else pure ()
/-- the turns of a comprehension from i on -/
def lcGo (s : Src) (g : TM) (t : Slo → M Bool) (e : Slo → M PV) (n : Nat) (ε : Slo) : Nat → Nat → Sto → Option Sto
  | f, i, st => match s.draw i st with
    | none => none
    | some none => some st
    | some (some x) => match f with
      | 0 => none
      | f + 1 => match g x ε st with
        | some (.nx ε2, st2) => match lcStep t e n ε2 st2 with
          | some (.ok _, st3) => lcGo s g t e n ε f (i + 1) st3
          | _ => none
        | _ => none
def dLc (d : Slo → M Src) (g : TM) (t : Slo → M Bool) (e : Slo → M PV) (vs : List Nat) : Slo → M PV := fun ε => do
  let s ← d ε
  let n ← newO (.lst [])
  (fun st => match lcGo s g t e n (wipeP ε vs) (s.many st) 0 st with
    | some st' => some (.ok (.loc n), st')
    | none => none)
theorem addL_inv {n : Nat} {y : PV} {st st' : Sto} {r : Out Unit} (h : addL n y st = some (r, st')) : ∃ acc, st[n]? = some (.lst acc) ∧ acc.length < sizeLine ∧ r = .ok () ∧ st' = st.set n (.lst (acc ++ [y])) := by
  obtain ⟨acc, e1, e2⟩ := bind_getL h
  obtain ⟨b, e3⟩ := need_inv2 e2
  obtain ⟨rfl, rfl⟩ := setO_inv e3
  exact ⟨acc, e1, by simpa using b, rfl, rfl⟩
section
variable {X : Cx} {c : Ct} {W : WX} {elt tg iter : Expr} {ifs : List Expr} {scope : Scope} {own : List (Str × Nat)} {pos : Pos} {d : Slo → M Src} {g : TM} {t : Slo → M Bool} {e : Slo → M PV}
theorem wipe_setN {σ : St} {i : Nat} : ∀ vs : List Nat, wipe (σ.set i none) vs = (wipe σ vs).set i none
  | [] => rfl
  | v :: vs => by
    unfold L2.wipe
    rw [wipe_setN vs]
    by_cases e : i = v
    · rw [e]
    · rw [List.set_comm _ _ e]
theorem wipe_wipe {σ : St} : ∀ vs : List Nat, wipe (wipe σ vs) vs = wipe σ vs
  | [] => rfl
  | v :: vs => by
    have e : wipe ((wipe σ vs).set v none) vs = (wipe σ vs).set v none := by rw [wipe_setN, wipe_wipe vs]
    show (wipe ((wipe σ vs).set v none) vs).set v none = (wipe σ vs).set v none
    rw [e, List.set_set]
theorem newO_inv {o : Ob} {st st' : Sto} {r : Out Nat} (h : newO o st = some (r, st')) : r = .ok st.length ∧ st' = st ++ [o] := by
  cases h
  exact ⟨rfl, rfl⟩
theorem tD_lc {vs : List Nat} (hv : FsOk c vs) : ∀ σ H Q, tD c W (dLc d g t e vs) σ H Q → tLc (tI c W d) (tGv c vs g) (tT c W0 t) (tD c W0 e) vs σ H Q := by
  rintro σ H Q ⟨ε, μ, st, r, st', hS, s, eq, fin⟩
  rcases bind_inv eq with ⟨src, st1, e1, e2⟩ | ⟨C, fs, e1, rfl⟩
  · refine ⟨ε, μ, st, _, _, hS, s, e1, fun J μ1 H1 x1 ok s1 D hD => ?_⟩
    have e3 : (match lcGo src g t e st1.length (wipeP ε vs) (src.many (st1 ++ [.lst []])) 0 (st1 ++ [.lst []]) with
      | some st' => some (Out.ok (PV.loc st1.length), st')
      | none => none) = some (r, st') := e2
    cases q0 : lcGo src g t e st1.length (wipeP ε vs) (src.many (st1 ++ [.lst []])) 0 (st1 ++ [.lst []]) with
    | none => rw [q0] at e3; cases e3
    | some stF =>
      rw [q0] at e3
      cases e3
      have xD : Ext c μ1 H1 (μ1 ++ [D]) (upd H1 D (.lst [])) := ext_new hD
      have sD : Sim c (μ1 ++ [D]) (upd H1 D (.lst [])) (st1 ++ [.lst []]) := s1.new hD ⟨[], upd_same, .nil⟩
      have atD : (μ1 ++ [D])[st1.length]? = some D := by
        rw [← s1.len, List.getElem?_append_right (Nat.le_refl _)]
        simp
      refine ⟨fun i m H2 => ∃ μ2 st2, Ext c (μ1 ++ [D]) (upd H1 D (.lst [])) μ2 H2 ∧ Sim c μ2 H2 st2 ∧ lcGo src g t e st1.length (wipeP ε vs) m i st2 = some st', ⟨_, _, _, .refl, sD, q0⟩, ?_⟩
      rintro i m H2 ⟨μ2, st2, x2, s2, q2⟩
      have hS2 : RepS c μ2 H2 (wipeP ε vs) (wipe σ vs) := ((hS.mono (x1.trans (xD.trans x2))).wipe vs hv)
      rw [lcGo] at q2
      cases q3 : src.draw i st2 with
      | none => rw [q3] at q2; cases q2
      | some o =>
        have okk := ok i μ2 H2 st2 o (xD.trans x2) s2 q3
        rw [q3] at q2
        cases o with
        | none =>
          cases q2
          exact .inl ⟨okk, fin (.ref D) μ2 H2 (x1.trans (xD.trans x2)) (.loc (x2.at atD)) s2⟩
        | some x =>
          cases m with
          | zero => cases q2
          | succ f =>
            refine .inr ⟨okk.1, fun H3 => ∃ μ3 st3, Ext c (μ1 ++ [D]) (upd H1 D (.lst [])) μ3 H3 ∧ Sim c μ3 H3 st3 ∧ lcGo src g t e st1.length (wipeP ε vs) f (i + 1) st3 = some st', fun H' h => ⟨f, Nat.lt_succ_self f, h⟩, fun v H3 y => ?_⟩
            obtain ⟨x3, rv, s3⟩ := okk.2 v H3 y
            cases q4 : g x (wipeP ε vs) st2 with
            | none => simp only [q4] at q2; cases q2
            | some p =>
              obtain ⟨r1, st4⟩ := p
              simp only [q4] at q2
              refine ⟨x, wipeP ε vs, μ2, st2, r1, st4, rv, hS2.mono x3, s3, q4, ?_⟩
              cases r1 with
              | nx ε4 =>
                intro σ4 hS4 w4 s4
                refine ⟨?_, ?_⟩
                · rw [w4]
                  exact wipe_wipe vs
                · cases q5 : lcStep t e st1.length ε4 st4 with
                  | none => simp only [q5] at q2; cases q2
                  | some p =>
                    obtain ⟨o5, st5⟩ := p
                    simp only [q5] at q2
                    cases o5 with
                    | ex C fs => cases q2
                    | ok u =>
                      have xx := x2.trans x3
                      rcases bind_inv q5 with ⟨b, st6, e6, e7⟩ | ⟨C, fs, _, z⟩
                      · refine ⟨ε4, μ2, st4, _, _, hS4, s4, e6, fun b' μ6 H6 x6 eb s6 => ?_⟩
                        subst eb
                        cases b with
                        | false =>
                          obtain ⟨_, rfl⟩ := pure_inv e7
                          exact ⟨μ6, _, xx.trans x6, s6, q2⟩
                        | true =>
                          rcases bind_inv (show (e ε4 >>= fun y => addL st1.length y) st6 = _ from e7) with ⟨y7, st7, e8, e9⟩ | ⟨C, fs, _, z⟩
                          · refine ⟨ε4, μ6, st6, _, _, hS4.mono x6, s6, e8, fun yv μ7 H7 x7 ry s7 => ?_⟩
                            obtain ⟨acc, ha, hl, _, rfl⟩ := addL_inv e9
                            have a7 : μ7[st1.length]? = some D := (xx.trans (x6.trans x7)).at atD
                            obtain ⟨ws, g1, r1⟩ := s7.ob _ _ _ a7 ha
                            have x8 : Ext c μ7 H7 μ7 (upd H7 D (.lst (ws ++ [yv]))) := ext_mut (by rw [g1]; trivial)
                            have so : SimO c μ7 (upd H7 D (.lst (ws ++ [yv]))) D (.lst (acc ++ [y7])) := ⟨_, upd_same, (r1.append (.cons ry .nil)).mono x8⟩
                            exact ⟨ws, g1, by rw [← r1.length]; exact hl, μ7, _, (xx.trans (x6.trans x7)).trans x8, s7.put a7 ha so, q2⟩
                          · cases z
                      · cases z
              | _ => cases q2
  · exact ⟨ε, μ, st, _, _, hS, s, e1, fin⟩
/-- [e for tg in iter if ..] -/
theorem ge_lc (hc : X.calm = true) (hN : X.N.Nodup) (hi : GI X c W tg iter d) (ok : BlkOk X.N X.env.scope scope own)
    (hg : ∀ (s : Shared) (H : Hp) (C : Addr) (cl : List (Str × Addr)) (fp : List Addr), GV (X.blk s H scope (compEnvC scope cl C X.env) fp) c (own.map (·.2)) tg g)
    (ht : ∀ (s : Shared) (H : Hp) (C : Addr) (cl : List (Str × Addr)) (fp : List Addr), GTs (X.blk s H scope (compEnvC scope cl C X.env) fp) c ifs t)
    (he : ∀ (s : Shared) (H : Hp) (C : Addr) (cl : List (Str × Addr)) (fp : List Addr), GE (X.blk s H scope (compEnvC scope cl C X.env) fp) c W0 elt e) (hs : ∀ x, foldedSetIterable iter X.env x = pure x := by intro _; rfl) (hv : FsOk c (own.map (·.2)) := by first | exact ⟨(fun _ z => nomatch z), (fun _ z => nomatch z)⟩ | (constructor <;> (intro q hq; simp_all))) :
    GE X c W (.ListComp elt [⟨tg, iter, ifs, 0⟩] scope pos) (dLc d g t e (own.map (·.2))) := (pe_lc hc hN hi ok hg ht he hs).imp (tD_lc hv)
theorem gs_setLc {i : Nat} {y : Str} {py spos : Pos} (hc : X.calm = true) (hN : X.N.Nodup) (hy : X.N[i]? = some y) (hyl : X.env.scope.names.lookup y = some .local)
    (hsw : swapsWith (.ListComp elt [⟨tg, iter, ifs, 0⟩] scope pos) (some (.Name y py)) spos.line X.env = pure true) (hi : GI X c W tg iter d) (ok : BlkOk X.N X.env.scope scope own)
    (hg : ∀ (s : Shared) (H : Hp) (C : Addr) (cl : List (Str × Addr)) (fp : List Addr), GV (X.blk s H scope (compEnvC scope cl C X.env) fp) c (own.map (·.2)) tg g)
    (ht : ∀ (s : Shared) (H : Hp) (C : Addr) (cl : List (Str × Addr)) (fp : List Addr), GTs (X.blk s H scope (compEnvC scope cl C X.env) fp) c ifs t)
    (he : ∀ (s : Shared) (H : Hp) (C : Addr) (cl : List (Str × Addr)) (fp : List Addr), GE (X.blk s H scope (compEnvC scope cl C X.env) fp) c W0 elt e) (hs : ∀ x, foldedSetIterable iter X.env x = pure x := by intro _; rfl) (hv : FsOk c (own.map (·.2)) := by first | exact ⟨(fun _ z => nomatch z), (fun _ z => nomatch z)⟩ | (constructor <;> (intro q hq; simp_all))) :
    GS X c W (.Assign [.Name y py] (.ListComp elt [⟨tg, iter, ifs, 0⟩] scope pos) spos) (sAsg (dLc d g t e (own.map (·.2))) (gN i)) := by
  refine (ps_setLc hc hN hy hyl hsw hi ok hg ht he hs).imp ?_
  rintro D σ H ⟨ε, μ, st, r, st', hS, s, e, fin⟩
  refine tD_lc hv σ H _ (stepS e hS s fin fun x v st1 μ1 H1 e1 x1 rx s1 hS1 fin1 => ?_)
  cases e1
  exact fin1 μ1 H1 _ .refl (hS1.set i rx) s1
end
end G
namespace G
open PySem PySem.Spec PyProof.Rows L2 LamX

/-- what a def does with its arguments: its body b over n names, np of them parameters -/
def fnD (n np : Nat) (b : SM) : List PV → M PV := fun ps st => if ps.length = np then (match b (ps.map some ++ List.replicate (n - np) none) st with
  | some (.nx _, st') => some (.ok .non, st')
  | some (.rt p, st') => some (.ok p, st')
  | some (.ex C fs _, st') => some (.ex C fs, st')
  | _ => none) else none
/-- its promise -/
def spG (c : Ct) (F : List PV → M PV) (np : Nat) : Sp := fun vs H Q E => vs.length = np ∧ ∃ ps μ st r st', RepL c μ H ps vs ∧ Sim c μ H st ∧ F ps st = some (r, st') ∧ Fin c (RepV c) μ H r st' Q E
/-- what a def begins with; a hole where a function stands -/
def RepA (c : Ct) (μ : List Addr) (H : Hp) (ps : List (Option PV)) (vs : List V) : Prop := ps.length = vs.length ∧ ∀ (i : Nat) (p : PV), ps[i]? = some (some p) → ∃ v, vs[i]? = some v ∧ RepV c μ H p v
theorem RepS.startA {c : Ct} {μ : List Addr} {H : Hp} {N : List Str} {ps : List (Option PV)} {vs : List V} (h : RepA c μ H ps vs) (hf : ∀ q ∈ c.fs, vs[q.1]? = some (.ref q.2)) (hx : c.xs = []) : RepS c μ H (ps ++ List.replicate (N.length - ps.length) none) (start N vs) := by
  unfold L2.start
  refine ⟨by simp [h.1], fun i p e => ?_, fun q hq e => ?_, (by rw [hx]; exact fun _ z => nomatch z)⟩
  · by_cases hi : i < ps.length
    · rw [List.getElem?_append_left hi] at e
      obtain ⟨v, ev, rv⟩ := h.2 i p e
      refine ⟨v, ?_, rv⟩
      rw [List.getElem?_append_left (by rw [List.length_map, ← h.1]; exact hi), List.getElem?_map, ev]
      rfl
    · rw [List.getElem?_append_right (Nat.le_of_not_lt hi), List.getElem?_replicate] at e
      split at e <;> cases e
  · have ev := hf q hq
    have hi : q.1 < vs.length := (List.getElem?_eq_some_iff.mp ev).1
    rw [List.getElem?_append_left (by rw [List.length_map]; exact hi), List.getElem?_map, ev]
    rfl
theorem RepL0.repA {c : Ct} {μ : List Addr} {H : Hp} {ps : List PV} {vs : List V} (h : RepL c μ H ps vs) : RepA c μ H (ps.map some) vs := by
  refine ⟨by rw [List.length_map, h.length], fun i p e => ?_⟩
  rw [List.getElem?_map] at e
  cases z : ps[i]? with
  | none => rw [z] at e; cases e
  | some q =>
    rw [z] at e
    cases e
    exact h.get z
theorem RepS.start {c : Ct} {μ : List Addr} {H : Hp} {N : List Str} {ps : List PV} {vs : List V} (h : RepL c μ H ps vs) (hf : c.fs = [] ∧ c.xs = []) : RepS c μ H (ps.map some ++ List.replicate (N.length - ps.length) none) (start N vs) := by
  have z := RepS.startA (N := N) h.repA (by rw [hf.1]; exact fun _ z => nomatch z) hf.2
  rw [List.length_map] at z
  exact z
/-- what a caller has: room, and nothing is being shown -/
structure Rm (k : Nat) (A : Around) : Prop where
  room : Room k A
  gd : A.guards = some []
theorem Rm.mono {j k : Nat} {A : Around} (r : Rm k A) (h : j ≤ k) : Rm j A := ⟨r.room.mono h, r.gd⟩
theorem Rm.deeper {k : Nat} {A : Around} (r : Rm (k + 1) A) (env : Env) : Rm k (A.deeper env) := ⟨r.room.deeper env, r.gd⟩
/-- a def's promise, where nothing is being shown -/
structure FnP (P : Program) (w : World) (K : PySem.W.Frag) (mg : Str → Option Value) (base : Heap) (k : Nat) (f : Addr) (fd : FuncData) (ps : List Str) (sp : Sp) : Prop where
  len : ∀ vs H Q E, sp vs H Q E → vs.length = ps.length
  run : ∀ (A : Around) (outer : List Env) (s : Shared) (H : Hp) (args : Args) (us : List Value) (vs : List V) (Q : VK) (E : XK), Rm k A → Env0 P w K mg base A outer s H → BindsTo s fd args (ps.zip us) → Vals vs us → sp vs H Q E →
    codeAny (model P w) A (.call (.ref f) args) (CR (CX P w) outer P w H s Q E) s
section
variable {P : Program} {w : World} {K : PySem.W.Frag} {mg : Str → Option Value} {base : Heap} {x qual : Str} {params : Arguments} {body : List Stmt} {scope : Scope} {dvs : List V} {kws : List (Str × V)} {f : Addr} {fd : FuncData} {N ps : List Str} {k : Nat} {c : Ct} {b : SM}
theorem fn_in {r : Out PV} {μ : List Addr} {H : Hp} {st st' : Sto} {pvs : List PV} {vs : List V} {Q : VK} {E : XK} (hl : vs.length = ps.length) (rl : RepL c μ H pvs vs) (sm : Sim c μ H st) (e : fnD N.length ps.length b pvs st = some (r, st')) (fin : Fin c (RepV c) μ H r st' Q E) (hfs : c.fs = [] ∧ c.xs = []) :
    tS c (fun cls d _ H => E cls d H) b { nx := fun _ H' => Q .non H', rt := Q } (start N vs) H := by
  have hl' : pvs.length = ps.length := rl.length.trans hl
  unfold fnD at e
  rw [if_pos hl'] at e
  cases q : b (pvs.map some ++ List.replicate (N.length - ps.length) none) st with
  | none => rw [q] at e; cases e
  | some p =>
    obtain ⟨r1, st1⟩ := p
    rw [q] at e
    refine ⟨_, μ, st, r1, st1, (by have z := RepS.start (N := N) rl hfs; rw [hl'] at z; exact z), sm, q, ?_⟩
    cases r1 with
    | nx ε => cases e; exact fun μ' H' σ x' _ s' => fin .non μ' H' x' .non s'
    | rt p => cases e; exact fun v μ' H' x' rv s' => fin v μ' H' x' rv s'
    | bk ε => cases e
    | ct ε => cases e
    | ex C fs ε => cases e; exact fun d μ' H' σ x' _ rx s' => fin d μ' H' x' rx s'
/-- a def keeps its promise: its body's derivation -/
theorem fn_g (F : FunD K x qual params body scope dvs kws f fd) (S : FnScope N ps scope)
    (hb : ∀ (cdv : Value) (A : Around) (outer : List Env) (s : Shared) (H : Hp) (E : XK), fd.code = cdv → Rm k (A.deeper (envOfC qual scope s.heap.objs.size f cdv)) → GSs (cxOf (CX P w) P w K mg base N qual scope f cdv A outer s H E) c (fun cls d _ H => E cls d H) body b) (hfs : c.fs = [] ∧ c.xs = [] := by exact ⟨rfl, rfl⟩) :
    FnP P w K mg base (k + 1) f fd ps (spG c (fnD N.length ps.length b) ps.length) := by
  obtain ⟨oc, od, dV, kV, doc, pm, an, cdv, ct, osl, rfl, lk, hcd, _, _⟩ := F.ex
  refine ⟨fun vs H Q E h => h.1, fun A outer s H args us vs Q E hr e0 hbd r h => ?_⟩
  refine run_ofS lk hcd S hr.room e0 hbd r h.1 fun _ => ⟨_, hb cdv A outer s H E rfl (hr.deeper _), ?_⟩
  obtain ⟨hl, pvs, μ, st, r, st', rl, sm, e, fin⟩ := h
  exact fn_in hl rl sm e fin hfs
end

def dCall (F : List PV → M PV) (ds : List PV) (as : Slo → M (List PV)) : Slo → M PV := fun ε => do
  let xs ← as ε
  F (xs ++ ds)
/-- some of a list's things, by their places -/
def pick {α : Type} (ix : List Nat) (l : List α) : List α := ix.filterMap fun i => l[i]?
def dCallK (F : List PV → M PV) (n m : Nat) (ix : List Nat) (ds : List PV) (as aks : Slo → M (List PV)) : Slo → M PV := fun ε => do
  let xs ← as ε
  let ys ← aks ε
  need (decide (xs.length = n ∧ ys.length = m))
  F (pick ix (xs ++ ys ++ ds))
theorem RepL0.pick {c : Ct} {μ : List Addr} {H : Hp} {xs : List PV} {vs : List V} (h : RepL c μ H xs vs) : ∀ ix : List Nat, RepL c μ H (G.pick ix xs) (G.pick ix vs)
  | [] => .nil
  | i :: ix => by
    have ih := h.pick ix
    unfold G.pick at ih ⊢
    rw [List.filterMap_cons, List.filterMap_cons]
    cases e : xs[i]? with
    | none =>
      have : vs[i]? = none := by
        rw [List.getElem?_eq_none_iff] at e ⊢
        rw [← h.length]
        exact e
      rw [this]
      exact ih
    | some p =>
      obtain ⟨v, ev, rv⟩ := h.get e
      rw [ev]
      exact .cons rv ih
theorem Vals.pick {xs : List V} {vs : List Value} (h : Vals xs vs) : ∀ ix : List Nat, Vals (G.pick ix xs) (G.pick ix vs)
  | [] => .nil
  | i :: ix => by
    have ih := Vals.pick h ix
    unfold G.pick at ih ⊢
    rw [List.filterMap_cons, List.filterMap_cons]
    cases e : xs[i]? with
    | none =>
      have : vs[i]? = none := by
        rw [List.getElem?_eq_none_iff] at e ⊢
        rw [← h.length]
        exact e
      rw [this]
      exact ih
    | some p =>
      obtain ⟨v, ev, rv⟩ := h.get e
      rw [ev]
      exact .cons rv ih
/-- how a call's arguments are bound: n positional ones, the keywords ks, the defaults dvs -/
def BF (K : PySem.W.Frag) (fd : FuncData) (ps : List Str) (n : Nat) (ks : List Str) (ix : List Nat) (dvs : List V) : Prop :=
  ∃ its : List Value, Vals dvs its ∧ ∀ (s : Shared) (us ws : List Value), K.In s.heap → us.length = n → ws.length = ks.length → BindsTo s fd ⟨us, ks.zip ws⟩ (ps.zip (pick ix (us ++ ws ++ its)))
section
variable {K : PySem.W.Frag} {x qual : Str} {params : Arguments} {body : List Stmt} {scope : Scope} {dvs : List V} {kws : List (Str × V)} {f : Addr} {fd : FuncData} {ps ks : List Str} {ix : List Nat} {n : Nat}
theorem bf0 (F : FunD K x qual params body scope [] kws f fd)
    (h : ∀ (kV doc pm : Value) (an : Option Addr) (cdv ct : Value) (us ws : List Value), us.length = n → ws.length = ks.length → bindArgs (PySem.W.fnOf x qual params body scope .none kV doc pm an cdv ct) ⟨us, ks.zip ws⟩ = pure (ps.zip (pick ix (us ++ ws ++ [])))) : BF K fd ps n ks ix [] := by
  obtain ⟨oc, od, dV, kV, doc, pm, an, cdv, ct, osl, rfl, lk, hcd, hD, hK⟩ := F.ex
  rcases hD with ⟨_, rfl⟩ | ⟨e, _⟩
  · exact ⟨[], .nil, fun s us ws X l1 l2 => .of_eq (h kV doc pm an cdv ct us ws l1 l2)⟩
  · exact absurd rfl e
theorem bfD (F : FunD K x qual params body scope dvs kws f fd) (hd : dvs ≠ [])
    (h : ∀ (T : Addr) (kV doc pm : Value) (an : Option Addr) (cdv ct : Value) (us its ws : List Value), us.length = n → its.length = dvs.length → ws.length = ks.length →
      ∃ k, bindArgs (PySem.W.fnOf x qual params body scope (.ref T) kV doc pm an cdv ct) ⟨us, ks.zip ws⟩ = seqItems? (.ref T) >>= k ∧ k (some its.toArray) = pure (ps.zip (pick ix (us ++ ws ++ its)))) : BF K fd ps n ks ix dvs := by
  obtain ⟨oc, od, dV, kV, doc, pm, an, cdv, ct, osl, rfl, lk, hcd, hD, hK⟩ := F.ex
  rcases hD with ⟨e, _⟩ | ⟨_, T, o, its, m, rfl, lT, oT, rT⟩
  · exact absurd e hd
  · refine ⟨its, rT, fun s us ws X l1 l2 => ?_⟩
    obtain ⟨k, e1, e2⟩ := h T kV doc pm an cdv ct us its ws l1 rT.length.symm l2
    refine BindsTo.of_looks fun M => ?_
    rw [e1]
    exact looks_items X lT oT (.of_pure e2)
end
abbrev GK (X : Cx) (c : Ct) (W : WX) (kws : List Keyword) (d : Slo → M (List PV)) : Prop := PK X kws (tL c W d)
theorem _root_.L2.PK.imp {X : Cx} {e : List Keyword} {t t' : TA} (h : PK X e t) (i : ∀ σ H Q, t' σ H Q → t σ H Q) : PK X e t' := ⟨fun w pins s σ H Q I q => h.run w pins s σ H Q I (i σ H Q q)⟩
theorem gk_nil {X : Cx} {c : Ct} {W : WX} : GK X c W [] aNil := by
  refine pk_nil.imp ?_
  rintro σ H Q ⟨ε, μ, st, r, st', hS, s, e, fin⟩
  obtain ⟨rfl, rfl⟩ := pure_inv e
  exact fin [] μ H .refl .nil s
theorem gk_cons {X : Cx} {c : Ct} {W : WX} {nm : Option Str} {kpos : Pos} {e : Expr} {kws : List Keyword} {d : Slo → M PV} {ds : Slo → M (List PV)} (h1 : GE X c W e d) (h2 : GK X c W kws ds) : GK X c W (⟨nm, e, kpos⟩ :: kws) (aCons d ds) := by
  refine (pk_cons h1 h2).imp ?_
  rintro σ H Q ⟨ε, μ, st, r, st', hS, s, e, fin⟩
  refine step e hS s fin fun x v st1 μ1 H1 e1 x1 rx s1 hS1 fin1 => ?_
  refine step e1 hS1 s1 fin1 fun xs vs st2 μ2 H2 e2 x2 rxs s2 hS2 fin2 => ?_
  obtain ⟨rfl, rfl⟩ := pure_inv e2
  exact fin2 (v :: vs) μ2 H2 .refl (.cons (rx.mono x2) rxs) s2
/-- a def known by its name -/
structure Fn (P : Program) (w : World) (K : PySem.W.Frag) (mg : Str → Option Value) (base : Heap) (c : Ct) (k : Nat) (x : Str) (f : Addr) (fd : FuncData) (ps : List Str) (F : List PV → M PV) : Prop where
  ok : FnP P w K mg base k f fd ps (spG c F ps.length)
  mg : mg x = some (.ref f)
  kp : PySem.W.keepIn K (.ref f) = true
section
variable {X : Cx} {c : Ct} {W : WX} {k n : Nat} {f : Addr} {fd : FuncData} {ps ks : List Str} {F : List PV → M PV} {x : Str} {p pos : Pos} {e : Expr} {es : List Expr} {kws : List Keyword} {as aks : Slo → M (List PV)} {ix : List Nat} {ds : List PV} {dvs : List V} {dus : List Value}
theorem fin_call {μ : List Addr} {H : Hp} {st st' : Sto} {r : Out PV} {Q : VK} {W : WX} {σ : St} {ps0 : List PV} {vs : List V} (rl : RepL c μ H ps0 vs) (s : Sim c μ H st) (hl : vs.length = ps.length) (e : F ps0 st = some (r, st')) (fin : Fin c (RepV c) μ H r st' Q (fun x y z => W x y σ z)) :
    spG c F ps.length vs H Q (WE W σ) := ⟨hl, ps0, μ, st, r, st', rl, s, e, fin⟩
theorem run_end {pins : List (Addr × Obj)} {σ : St} {H : Hp} {s : Shared} {Q : VK} {r : Result} {s' : Shared} (tk : Takes X W) (I : Inv X pins σ H s) (hq : CR (CX X.prog X.w) X.stack X.prog X.w H s Q (WE W σ) r s') : (fun (r : Result) (s' : Shared) => match r with | .ok (.ret v) => EP X pins σ Q v s' | .ok _ => False | .error e => X.xe e s') r s' := by
  cases r with
  | error e => exact passAt tk σ pins H s e s' I hq
  | ok fl =>
    cases fl with
    | ret u => exact I.after hq
    | next => exact False.elim hq
    | brk => exact False.elim hq
    | cont => exact False.elim hq
theorem run_pos {pins : List (Addr × Obj)} {σ : St} {H : Hp} {s : Shared} {Q : VK} {us : List Value} {vs : List V} (Fo : Fn X.prog X.w X.K X.mg X.base c k x f fd ps F) (hr : Rm k X.A) (hb : Binds X.K fd ps dus) (hd : Vals dvs dus) (tk : Takes X W)
    (I : Inv X pins σ H s) (r : Vals vs us) (h : spG c F ps.length (vs ++ dvs) H Q (WE W σ)) : wpAny (model X.prog X.w) X.A (call (.ref f) us) (EP X pins σ Q) X.xe s := by
  have r2 : Vals (vs ++ dvs) (us ++ dus) := r.append hd
  have hl : (us ++ dus).length = ps.length := r2.length.symm.trans h.1
  exact wpAny_call (codeAny_mono (Fo.ok.run X.A X.stack s H ⟨us, []⟩ (us ++ dus) (vs ++ dvs) Q (WE W σ) hr I.env0 (hb s us I.kIn hl) r2 h) fun r s' hq => run_end tk I hq)
theorem ge_call (Fo : Fn X.prog X.w X.K X.mg X.base c k x f fd ps F) (hr : Rm k X.A) (hb : Binds X.K fd ps dus) (hd : Vals dvs dus) (hD : ∀ μ H, RepL c μ H ds dvs) (tk : Takes X W) (hl : ∀ ε st q st', as ε st = some (.ok q, st') → q.length + ds.length = ps.length) (hg : Gl X x)
    (ha : GA X c W (e :: es) as) (hdb : (x == ("__debug__" : Str)) = false := by decide) (he : starEach (e :: es) X.env = (false, eval e X.env) :: starEach es X.env := by rfl) (hpl : (backTo pos (starEach es X.env)).any (·.1) = false := by rfl) :
    GE X c W (.Call (.Name x p) (e :: es) [] pos) (dCall F ds as) := by
  refine ⟨fun pins s σ H Q I h => ?_⟩
  obtain ⟨ε, μ, st, r, st', hS, sm, e, fin⟩ := h
  refine wpAny_Call_Name_kw (ld_glob I hg Fo.mg ?_ hdb)
  have hT : tL c W as σ H fun vs H1 => spG c F ps.length (vs ++ dvs) H1 Q (WE W σ) := by
    rcases bind_inv e with ⟨xs, st1, e1, e2⟩ | ⟨C, fs, e1, rfl⟩
    · refine ⟨ε, μ, st, _, _, hS, sm, e1, fun vs μ1 H1 x1 rl s1 => ?_⟩
      have rl2 := rl.append (hD μ1 H1)
      refine fin_call rl2 s1 ?_ e2 (fin.mono x1)
      rw [← rl2.length, List.length_append]
      exact hl _ _ _ _ e1
    · exact ⟨ε, μ, st, _, _, hS, sm, e1, fin⟩
  refine PySem.W.callWith_K (h₀ := X.base) I.ok.mod.kin Fo.kp (thn (ha.run pos pins s σ H _ I hT) fun us s1 ⟨vs, H1, I1, rv, q⟩ => ⟨I1.kIn, ?_⟩) he hpl
  exact run_pos Fo hr hb hd tk I1 rv q
theorem ge_call0 (Fo : Fn X.prog X.w X.K X.mg X.base c k x f fd ps F) (hr : Rm k X.A) (hb : Binds X.K fd ps dus) (hd : Vals dvs dus) (hD : ∀ μ H, RepL c μ H ds dvs) (tk : Takes X W) (hl : ds.length = ps.length) (hg : Gl X x) (hdb : (x == ("__debug__" : Str)) = false := by decide) :
    GE X c W (.Call (.Name x p) [] [] pos) (dCall F ds aNil) := by
  refine ⟨fun pins s σ H Q I h => ?_⟩
  obtain ⟨ε, μ, st, r, st', hS, sm, e, fin⟩ := h
  refine wpAny_Call_Name_kw (ld_glob I hg Fo.mg ?_ hdb)
  have e2 : F ([] ++ ds) st = some (r, st') := e
  have sp := fin_call (W := W) (σ := σ) (ps := ps) (hD μ H) sm (by rw [← (hD μ H).length]; exact hl) e2 fin
  exact PySem.W.callWith_K0 I.kIn Fo.kp (run_pos (us := []) (vs := []) Fo hr hb hd tk I .nil sp)
theorem run_fnKw {pins : List (Addr × Obj)} {σ : St} {H : Hp} {s : Shared} {Q : VK} {us ws : List Value} {vs zs : List V} (Fo : Fn X.prog X.w X.K X.mg X.base c k x f fd ps F) (hr : Rm k X.A) (hb : BF X.K fd ps n ks ix dvs) (tk : Takes X W)
    (I : Inv X pins σ H s) (r : Vals vs us) (rz : Vals zs ws) (l1 : vs.length = n) (l2 : zs.length = ks.length) (h : spG c F ps.length (pick ix (vs ++ zs ++ dvs)) H Q (WE W σ)) : wpAny (model X.prog X.w) X.A (call (.ref f) us (ks.zip ws)) (EP X pins σ Q) X.xe s := by
  obtain ⟨its, rd, bt⟩ := hb
  have r2 := Vals.pick ((r.append rz).append rd) ix
  refine wpAny_call (codeAny_mono (Fo.ok.run X.A X.stack s H ⟨us, ks.zip ws⟩ _ _ Q (WE W σ) hr I.env0 (bt s us ws I.kIn (r.length.symm.trans l1) (rz.length.symm.trans l2)) r2 h) fun r s' hq => run_end tk I hq)
theorem ge_callK (Fo : Fn X.prog X.w X.K X.mg X.base c k x f fd ps F) (hr : Rm k X.A) (hb : BF X.K fd ps n ks ix dvs) (hD : ∀ μ H, RepL c μ H ds dvs) (tk : Takes X W) (hl : ∀ xs : List V, xs.length = n + ks.length + dvs.length → (pick ix xs).length = ps.length) (hg : Gl X x)
    (ha : GA X c W (e :: es) as) (hkw : GK X c W kws aks) (hall : (backToKw pos (keywordEach kws X.env)).all (·.1.isSome) = true := by rfl) (hks : (backToKw pos (keywordEach kws X.env)).filterMap (·.1) = ks := by rfl)
    (hdb : (x == ("__debug__" : Str)) = false := by decide) (he : starEach (e :: es) X.env = (false, eval e X.env) :: starEach es X.env := by rfl)
    (hpl : ((backTo pos (starEach (e :: es) X.env)).any (·.1) || (backToKw pos (keywordEach kws X.env)).any (·.1.isNone)) = false := by rfl) :
    GE X c W (.Call (.Name x p) (e :: es) kws pos) (dCallK F n ks.length ix ds as aks) := by
  refine ⟨fun pins s σ H Q I h => ?_⟩
  obtain ⟨ε, μ, st, r, st', hS, sm, e, fin⟩ := h
  refine wpAny_Call_Name_kw (ld_glob I hg Fo.mg ?_ hdb)
  have hT : tL c W as σ H fun vs H1 => tL c W aks σ H1 fun zs H2 => vs.length = n ∧ zs.length = ks.length ∧ spG c F ps.length (pick ix (vs ++ zs ++ dvs)) H2 Q (WE W σ) := by
    refine step e hS sm fin fun xs vs st1 μ1 H1 e1 x1 rx s1 hS1 fin1 => ?_
    refine step e1 hS1 s1 fin1 fun ys zs st2 μ2 H2 e2 x2 ry s2 hS2 fin2 => ?_
    obtain ⟨b, e3⟩ := need_inv2 e2
    rw [decide_eq_true_eq] at b
    have rx := rx.mono x2
    have q1 : vs.length = n := rx.length.symm.trans b.1
    have q2 : zs.length = ks.length := ry.length.symm.trans b.2
    refine ⟨q1, q2, fin_call (((rx.append ry).append (hD μ2 H2)).pick ix) s2 (hl _ ?_) e3 fin2⟩
    rw [List.length_append, List.length_append, q1, q2]
  refine PySem.W.callWith_KW (h₀ := X.base) I.ok.mod.kin Fo.kp hall (thn (ha.run pos pins s σ H _ I hT) fun us s1 ⟨vs, H1, I1, r, q⟩ => ?_) hpl he
  refine thn (hkw.run pos pins s1 σ H1 _ I1 q) fun ws s2 ⟨zs, H2, I2, rz, l1, l2, q2⟩ => ⟨I2.kIn, ?_⟩
  rw [hks]
  exact run_fnKw Fo hr hb tk I2 r rz l1 l2 q2
theorem ge_callK0 (Fo : Fn X.prog X.w X.K X.mg X.base c k x f fd ps F) (hr : Rm k X.A) (hb : BF X.K fd ps 0 ks ix dvs) (hD : ∀ μ H, RepL c μ H ds dvs) (tk : Takes X W) (hl : ∀ xs : List V, xs.length = 0 + ks.length + dvs.length → (pick ix xs).length = ps.length) (hg : Gl X x)
    (hkw : GK X c W kws aks) (hall : (backToKw pos (keywordEach kws X.env)).all (·.1.isSome) = true := by rfl) (hks : (backToKw pos (keywordEach kws X.env)).filterMap (·.1) = ks := by rfl)
    (hdb : (x == ("__debug__" : Str)) = false := by decide)
    (hpl : ((backTo pos (starEach [] X.env)).any (·.1) || (backToKw pos (keywordEach kws X.env)).any (·.1.isNone)) = false := by rfl) :
    GE X c W (.Call (.Name x p) [] kws pos) (dCallK F 0 ks.length ix ds aNil aks) := by
  refine ⟨fun pins s σ H Q I h => ?_⟩
  obtain ⟨ε, μ, st, r, st', hS, sm, e, fin⟩ := h
  refine wpAny_Call_Name_kw (ld_glob I hg Fo.mg ?_ hdb)
  have hT : tL c W aks σ H fun zs H2 => zs.length = ks.length ∧ spG c F ps.length (pick ix ([] ++ zs ++ dvs)) H2 Q (WE W σ) := by
    have e0 : (aks ε >>= fun ys => do need (decide (([] : List PV).length = 0 ∧ ys.length = ks.length)); F (pick ix ([] ++ ys ++ ds))) st = some (r, st') := e
    refine step e0 hS sm fin fun ys zs st2 μ2 H2 e2 x2 ry s2 hS2 fin2 => ?_
    obtain ⟨b, e3⟩ := need_inv2 e2
    rw [decide_eq_true_eq] at b
    have q2 : zs.length = ks.length := ry.length.symm.trans b.2
    refine ⟨q2, fin_call (((RepL0.nil.append ry).append (hD μ2 H2)).pick ix) s2 (hl _ ?_) e3 fin2⟩
    rw [List.length_append, List.length_append, q2]
    rfl
  refine PySem.W.callWith_KW0 (h₀ := X.base) I.ok.mod.kin Fo.kp hall ?_ hpl
  refine thn (hkw.run pos pins s σ H _ I hT) fun ws s2 ⟨zs, H2, I2, rz, l2, q2⟩ => ⟨I2.kIn, ?_⟩
  rw [hks]
  exact run_fnKw (us := []) (vs := []) Fo hr hb tk I2 .nil rz rfl l2 q2
/-- the arguments' count -/
theorem aNil_len {ε : Slo} {st st' : Sto} {q : List PV} (h : aNil ε st = some (.ok q, st')) : q.length = 0 := by
  cases h
  rfl
theorem aCons_len {d : Slo → M PV} {ds : Slo → M (List PV)} {n : Nat} (hl : ∀ ε st q st', ds ε st = some (.ok q, st') → q.length = n) {ε : Slo} {st st' : Sto} {q : List PV} (h : aCons d ds ε st = some (.ok q, st')) : q.length = n + 1 := by
  rcases bind_inv h with ⟨x, st1, _, e2⟩ | ⟨C, fs, _, e⟩
  · rcases bind_inv e2 with ⟨xs, st2, e3, e4⟩ | ⟨C, fs, _, e⟩
    · obtain ⟨e5, _⟩ := pure_inv e4
      cases e5
      exact congrArg Nat.succ (hl _ _ _ _ e3)
    · cases e
  · cases e
end
end G
namespace G
open PySem PySem.Spec PyProof.Rows L2

/-- what a built-in does with values, against its rule's reading -/
def CbS (c : Ct) (r : List V → Hp → VK → Prop) (f : List PV → M PV) : Prop :=
  ∀ (μ : List Addr) (H : Hp) (st : Sto) (rr : Out PV) (st' : Sto) (ps : List PV) (vs : List V) (Q : VK) (W : XK), RepL c μ H ps vs → Sim c μ H st → f ps st = some (rr, st') → Fin c (RepV c) μ H rr st' Q W → r vs H Q
def dCB (f : List PV → M PV) (as : Slo → M (List PV)) : Slo → M PV := fun ε => do
  let xs ← as ε
  f xs
theorem CallR.or {X : Cx} {f : Value} {r r' : List V → Hp → VK → Prop} (h : CallR X f r) (h' : CallR X f r') : CallR X f (fun vs H Q => r vs H Q ∨ r' vs H Q) :=
  fun pins s σ H xs us Q I rv q => q.elim (h pins s σ H xs us Q I rv) (h' pins s σ H xs us Q I rv)
theorem tD_cb {c : Ct} {W : WX} {r : List V → Hp → VK → Prop} {f : List PV → M PV} {as : Slo → M (List PV)} (hf : CbS c r f) : ∀ σ H Q, tD c W (dCB f as) σ H Q → tCB r (tL c W as) σ H Q := by
  rintro σ H Q ⟨ε, μ, st, rr, st', hS, s, e, fin⟩
  refine step e hS s fin fun ps vs st1 μ1 H1 e1 x1 rx s1 hS1 fin1 => hf μ1 H1 st1 rr st' ps vs Q _ rx s1 e1 fin1
section
variable {X : Cx} {c : Ct} {W : WX} {r : List V → Hp → VK → Prop} {f : List PV → M PV} {as : Slo → M (List PV)} {x : Str} {p pos : Pos} {e : Expr} {es : List Expr} {id T : String}
theorem ge_cb (hc : CallR X (.builtin id) r) (hf : CbS c r f) (hg : Gl X x) (hm : X.mg x = none) (hv : bootBuiltins x = some (.builtin id)) (ha : GA X c W (e :: es) as) (hn : x ≠ "__name__" := by decide) (hdb : (x == ("__debug__" : Str)) = false := by decide)
    (he : starEach (e :: es) X.env = (false, eval e X.env) :: starEach es X.env := by rfl) (hpl : (backTo pos (starEach es X.env)).any (·.1) = false := by rfl) : GE X c W (.Call (.Name x p) (e :: es) [] pos) (dCB f as) := (pe_callB hc hg hm hv ha hn hdb he hpl).imp (tD_cb hf)
theorem ge_cty (hc : CallR X (.type T) r) (hf : CbS c r f) (hg : Gl X x) (hm : X.mg x = none) (hv : bootBuiltins x = some (.type T)) (ha : GA X c W (e :: es) as) (hn : x ≠ "__name__" := by decide) (hdb : (x == ("__debug__" : Str)) = false := by decide)
    (he : starEach (e :: es) X.env = (false, eval e X.env) :: starEach es X.env := by rfl) (hpl : (backTo pos (starEach es X.env)).any (·.1) = false := by rfl) : GE X c W (.Call (.Name x p) (e :: es) [] pos) (dCB f as) := (pe_callTy hc hg hm hv ha hn hdb he hpl).imp (tD_cb hf)
end
theorem rl0 {c : Ct} {μ : List Addr} {H : Hp} {vs : List V} (h : RepL c μ H [] vs) : vs = [] := by cases h; rfl
theorem rl1 {c : Ct} {μ : List Addr} {H : Hp} {p : PV} {vs : List V} (h : RepL c μ H [p] vs) : ∃ v, vs = [v] ∧ RepV c μ H p v := by
  cases h with
  | cons h1 h2 => cases h2; exact ⟨_, rfl, h1⟩
theorem rl2 {c : Ct} {μ : List Addr} {H : Hp} {p q : PV} {vs : List V} (h : RepL c μ H [p, q] vs) : ∃ v w, vs = [v, w] ∧ RepV c μ H p v ∧ RepV c μ H q w := by
  cases h with
  | cons h1 h2 =>
    obtain ⟨w, rfl, r⟩ := rl1 h2
    exact ⟨_, _, rfl, h1, r⟩
def lenP (x : PV) : M PV := match x with
  | .str s => do need (decide (s.length ≤ sizeLine)); pure (.int s.length)
  | x => do let xs ← readS x; pure (.int xs.length)
def fLen (ps : List PV) : M PV := match ps with
  | [x] => lenP x
  | _ => M.fail
section
variable {c : Ct}
theorem cb_len : CbS c (fun xs H Q => ∃ x n, xs = [x] ∧ LenV c.K x H n ∧ Q (.int n) H) fLen := by
  intro μ H st rr st' ps vs Q W rl s e fin
  match ps, e with
  | [x], e =>
    obtain ⟨v, rfl, rv⟩ := rl1 rl
    have seq : ∀ {r : Out PV}, (readS x >>= fun xs => (pure (.int xs.length) : M PV)) st = some (r, st') → r = rr → ∃ y n, [v] = [y] ∧ LenV c.K y H n ∧ Q (.int n) H := fun {r} e er => by
      obtain ⟨xs, a, ws, e2, rfl, e4, rl⟩ := bind_readS s rv e
      obtain ⟨rfl, rfl⟩ := pure_inv e2
      subst er
      have q := fin (.int ws.length) μ H .refl (by rw [rl.length]; exact .int _) s
      refine ⟨.ref a, ws.length, rfl, ?_, q⟩
      rcases e4 with e4 | e4
      · exact .inl ⟨ws, e4, rfl⟩
      · exact .inr ⟨ws, e4, rfl⟩
    cases x with
    | str z =>
      obtain ⟨b, e2⟩ := need_inv2 e
      obtain ⟨rfl, rfl⟩ := pure_inv e2
      cases rv
      exact ⟨_, _, rfl, ⟨by simpa using b, rfl⟩, fin _ μ H .refl (.int _) s⟩
    | _ => exact seq e rfl
  | [], e => cases e
  | _ :: _ :: _, e => cases e
def fAbs (ps : List PV) : M PV := match ps with
  | [.int i] => pure (.int (if i < 0 then -i else i))
  | _ => M.fail
theorem cb_abs : CbS c (fun xs H Q => ∃ i, xs = [.int i] ∧ Q (.int (if i < 0 then -i else i)) H) fAbs := by
  intro μ H st rr st' ps vs Q W rl s e fin
  unfold fAbs at e
  split at e
  · obtain ⟨rfl, rfl⟩ := pure_inv e
    obtain ⟨v, rfl, rv⟩ := rl1 rl
    cases rv
    exact ⟨_, rfl, fin _ μ H .refl (.int _) s⟩
  · cases e
def fInt (ps : List PV) : M PV := match ps with
  | [.int i] => pure (.int i)
  | [.bl k] => pure (.int (if k then 1 else 0))
  | _ => M.fail
theorem cb_int : CbS c (fun xs H Q => (∃ i, xs = [.int i] ∧ Q (.int i) H) ∨ ∃ k, xs = [.bl k] ∧ Q (.int (if k then 1 else 0)) H) fInt := by
  intro μ H st rr st' ps vs Q W rl s e fin
  unfold fInt at e
  split at e
  · obtain ⟨rfl, rfl⟩ := pure_inv e
    obtain ⟨v, rfl, rv⟩ := rl1 rl
    cases rv
    exact .inl ⟨_, rfl, fin _ μ H .refl (.int _) s⟩
  · obtain ⟨rfl, rfl⟩ := pure_inv e
    obtain ⟨v, rfl, rv⟩ := rl1 rl
    cases rv
    exact .inr ⟨_, rfl, fin _ μ H .refl (.int _) s⟩
  · cases e
def fDivmod (ps : List PV) : M PV := match ps with
  | [.int i, .int j] => do need (decide (0 < j ∧ j < 1073741824)); pure (.tup [.int (i / j), .int (i % j)])
  | _ => M.fail
theorem cb_divmod : CbS c (fun xs H Q => ∃ i j, xs = [.int i, .int j] ∧ CDiv i j ∧ ∀ p, H p = none → Q (.ref p) (upd H p (.tup [.int (i / j), .int (i % j)]))) fDivmod := by
  intro μ H st rr st' ps vs Q W rl s e fin
  unfold fDivmod at e
  split at e
  · obtain ⟨b, e2⟩ := need_inv2 e
    obtain ⟨rfl, rfl⟩ := pure_inv e2
    obtain ⟨v, w, rfl, rv, rw'⟩ := rl2 rl
    cases rv
    cases rw'
    refine ⟨_, _, rfl, (by rw [decide_eq_true_eq] at b; exact b), fun p hp => fin_tup hp (.cons (.int _) (.cons (.int _) .nil)) s fin⟩
  · cases e
def asI : PV → Option Int
  | .int i => some i
  | _ => none
def asBl : PV → Option Bool
  | .bl i => some i
  | _ => none
def asStr : PV → Option Str
  | .str i => some i
  | _ => none
theorem mapM_inv {α : Type} {g : α → V} {f : PV → Option α} {μ : List Addr} {H : Hp} (hf : ∀ x v d, RepV c μ H x v → f x = some d → v = g d) : ∀ {xs : List PV} {vs : List V} {ds : List α}, RepL c μ H xs vs → xs.mapM f = some ds → vs = ds.map g
  | [], _, _, h, e => by
    cases h
    simp at e
    subst e
    rfl
  | x :: xs, _, ds, h, e => by
    cases h with
    | cons h1 h2 =>
      rw [List.mapM_cons] at e
      cases q : f x with
      | none => rw [q] at e; cases e
      | some d =>
        rw [q] at e
        cases q2 : xs.mapM f with
        | none => rw [q2] at e; cases e
        | some r =>
          rw [q2] at e
          cases e
          rw [List.map_cons, mapM_inv hf h2 q2, hf x _ d h1 q]
theorem asI_ok {μ : List Addr} {H : Hp} : ∀ x v d, RepV c μ H x v → asI x = some d → v = .int d := by
  intro x v d r e
  cases x <;> cases e
  cases r
  rfl
theorem asBl_ok {μ : List Addr} {H : Hp} : ∀ x v d, RepV c μ H x v → asBl x = some d → v = .bl d := by
  intro x v d r e
  cases x <;> cases e
  cases r
  rfl
theorem asStr_ok {μ : List Addr} {H : Hp} : ∀ x v d, RepV c μ H x v → asStr x = some d → v = .str d := by
  intro x v d r e
  cases x <;> cases e
  cases r
  rfl
def maxI : List Int → Int
  | [] => 0
  | [a] => a
  | a :: r => max a (maxI r)
def minI : List Int → Int
  | [] => 0
  | [a] => a
  | a :: r => min a (minI r)
theorem maxI_spec : ∀ l : List Int, l ≠ [] → maxI l ∈ l ∧ ∀ y ∈ l, y ≤ maxI l
  | [], h => absurd rfl h
  | [a], _ => by simp [maxI]
  | a :: b :: r, _ => by
    obtain ⟨h1, h2⟩ := maxI_spec (b :: r) (by simp)
    show max a (maxI (b :: r)) ∈ _ ∧ ∀ y ∈ _, y ≤ max a (maxI (b :: r))
    refine ⟨?_, fun y hy => ?_⟩
    · rcases Int.le_total a (maxI (b :: r)) with z | z
      · rw [Int.max_eq_right z]; exact List.mem_cons_of_mem _ h1
      · rw [Int.max_eq_left z]; exact List.mem_cons_self
    · rcases List.mem_cons.mp hy with z | z
      · rw [z]; exact Int.le_max_left ..
      · exact Int.le_trans (h2 y z) (Int.le_max_right ..)
theorem minI_spec : ∀ l : List Int, l ≠ [] → minI l ∈ l ∧ ∀ y ∈ l, minI l ≤ y
  | [], h => absurd rfl h
  | [a], _ => by simp [minI]
  | a :: b :: r, _ => by
    obtain ⟨h1, h2⟩ := minI_spec (b :: r) (by simp)
    show min a (minI (b :: r)) ∈ _ ∧ ∀ y ∈ _, min a (minI (b :: r)) ≤ y
    refine ⟨?_, fun y hy => ?_⟩
    · rcases Int.le_total a (minI (b :: r)) with z | z
      · rw [Int.min_eq_left z]; exact List.mem_cons_self
      · rw [Int.min_eq_right z]; exact List.mem_cons_of_mem _ h1
    · rcases List.mem_cons.mp hy with z | z
      · rw [z]; exact Int.min_le_left ..
      · exact Int.le_trans (Int.min_le_right ..) (h2 y z)
def overI (g : List Int → Int) (x : PV) : M PV := do
  let xs ← readL x
  let ns ← lift (xs.mapM asI)
  need (!ns.isEmpty)
  pure (.int (g ns))
def fMax (ps : List PV) : M PV := match ps with
  | [.int i, .int j] => pure (.int (if j > i then j else i))
  | [x] => overI maxI x
  | _ => M.fail
def fMin (ps : List PV) : M PV := match ps with
  | [.int i, .int j] => pure (.int (if j < i then j else i))
  | [x] => overI minI x
  | _ => M.fail
theorem overI_inv {g : List Int → Int} {μ : List Addr} {H : Hp} {st st' : Sto} {x : PV} {v : V} {rr : Out PV} (s : Sim c μ H st) (rv : RepV c μ H x v) (e : overI g x st = some (rr, st')) : ∃ a ns, v = .ref a ∧ SqL c.K H a (ns.map V.int) ∧ ns ≠ [] ∧ rr = .ok (.int (g ns)) ∧ st' = st := by
  obtain ⟨xs, a, ws, e2, rfl, e4, rl⟩ := bind_readL s rv e
  obtain ⟨ns, e5, e6⟩ := bind_lift e2
  obtain ⟨b, e7⟩ := need_inv2 e6
  obtain ⟨rfl, rfl⟩ := pure_inv e7
  have := mapM_inv asI_ok rl e5
  subst this
  refine ⟨a, ns, rfl, e4, ?_, rfl, rfl⟩
  rintro rfl
  cases b
theorem cb_max : CbS c (fun xs H Q => (∃ i j, xs = [.int i, .int j] ∧ Q (.int (if j > i then j else i)) H) ∨ rMax c.K xs H Q) fMax := by
  intro μ H st rr st' ps vs Q W rl s e fin
  unfold fMax at e
  split at e
  · obtain ⟨rfl, rfl⟩ := pure_inv e
    obtain ⟨v, w, rfl, rv, rw'⟩ := rl2 rl
    cases rv
    cases rw'
    exact .inl ⟨_, _, rfl, fin _ μ H .refl (.int _) s⟩
  · obtain ⟨v, rfl, rv⟩ := rl1 rl
    obtain ⟨a, ns, rfl, hq, hne, rfl, rfl⟩ := overI_inv s rv e
    refine .inr ⟨a, ns, rfl, hq, List.length_pos_iff.mpr hne, fun m hm hy => ?_⟩
    obtain ⟨h1, h2⟩ := maxI_spec ns hne
    have : m = maxI ns := Int.le_antisymm (h2 m hm) (hy _ h1)
    subst this
    exact fin _ μ H .refl (.int _) s
  · cases e
theorem cb_min : CbS c (fun xs H Q => (∃ i j, xs = [.int i, .int j] ∧ Q (.int (if j < i then j else i)) H) ∨ rMin c.K xs H Q) fMin := by
  intro μ H st rr st' ps vs Q W rl s e fin
  unfold fMin at e
  split at e
  · obtain ⟨rfl, rfl⟩ := pure_inv e
    obtain ⟨v, w, rfl, rv, rw'⟩ := rl2 rl
    cases rv
    cases rw'
    exact .inl ⟨_, _, rfl, fin _ μ H .refl (.int _) s⟩
  · obtain ⟨v, rfl, rv⟩ := rl1 rl
    obtain ⟨a, ns, rfl, hq, hne, rfl, rfl⟩ := overI_inv s rv e
    refine .inr ⟨a, ns, rfl, hq, List.length_pos_iff.mpr hne, fun m hm hy => ?_⟩
    obtain ⟨h1, h2⟩ := minI_spec ns hne
    have : m = minI ns := Int.le_antisymm (hy _ h1) (h2 m hm)
    subst this
    exact fin _ μ H .refl (.int _) s
  · cases e
def fSum (ps : List PV) : M PV := match ps with
  | [x] => do let xs ← readL x; let ns ← lift (xs.mapM asI); pure (.int ns.sum)
  | _ => M.fail
theorem cb_sum : CbS c (rSum c.K) fSum := by
  intro μ H st rr st' ps vs Q W rl s e fin
  unfold fSum at e
  split at e
  · obtain ⟨v, rfl, rv⟩ := rl1 rl
    obtain ⟨xs, a, ws, e2, rfl, e4, rl⟩ := bind_readL s rv e
    obtain ⟨ns, e5, e6⟩ := bind_lift e2
    obtain ⟨rfl, rfl⟩ := pure_inv e6
    have := mapM_inv asI_ok rl e5
    subst this
    exact ⟨a, ns, rfl, e4, fin _ μ H .refl (.int _) s⟩
  · cases e
def fAll (ps : List PV) : M PV := match ps with
  | [x] => do let xs ← readL x; let ns ← lift (xs.mapM asBl); pure (.bl (ns.all id))
  | _ => M.fail
theorem cb_all : CbS c (rAll c.K) fAll := by
  intro μ H st rr st' ps vs Q W rl s e fin
  unfold fAll at e
  split at e
  · obtain ⟨v, rfl, rv⟩ := rl1 rl
    obtain ⟨xs, a, ws, e2, rfl, e4, rl⟩ := bind_readL s rv e
    obtain ⟨ns, e5, e6⟩ := bind_lift e2
    obtain ⟨rfl, rfl⟩ := pure_inv e6
    have := mapM_inv asBl_ok rl e5
    subst this
    exact ⟨a, ns, rfl, e4, fin _ μ H .refl (.bl _) s⟩
  · cases e
def fAny (ps : List PV) : M PV := match ps with
  | [x] => do let xs ← readL x; let ns ← lift (xs.mapM asBl); pure (.bl (ns.any id))
  | _ => M.fail
theorem cb_any : CbS c (rAny c.K) fAny := by
  intro μ H st rr st' ps vs Q W rl s e fin
  unfold fAny at e
  split at e
  · obtain ⟨v, rfl, rv⟩ := rl1 rl
    obtain ⟨xs, a, ws, e2, rfl, e4, rl⟩ := bind_readL s rv e
    obtain ⟨ns, e5, e6⟩ := bind_lift e2
    obtain ⟨rfl, rfl⟩ := pure_inv e6
    have := mapM_inv asBl_ok rl e5
    subst this
    exact ⟨a, ns, rfl, e4, fin _ μ H .refl (.bl _) s⟩
  · cases e
def fTuple (ps : List PV) : M PV := match ps with
  | [.tup xs] => pure (.tup xs)
  | [.ktup xs] => pure (.ktup xs)
  | [x] => do let xs ← readL x; pure (.tup xs)
  | _ => M.fail
theorem cb_tuple : CbS c (fun xs H Q => ∃ p ys, xs = [.ref p] ∧ ((SqL c.K H p ys ∧ ∀ l, H l = none → Q (.ref l) (upd H l (.tup ys))) ∨ (SqT c.K H p ys ∧ Q (.ref p) H))) fTuple := by
  intro μ H st rr st' ps vs Q W rl s e fin
  unfold fTuple at e
  split at e
  · obtain ⟨rfl, rfl⟩ := pure_inv e
    obtain ⟨v, rfl, rv⟩ := rl1 rl
    have rv0 := rv
    cases rv with
    | tup h1 h2 => exact ⟨_, _, rfl, .inr ⟨.inl (.inl h1), fin _ μ H .refl rv0 s⟩⟩
  · obtain ⟨rfl, rfl⟩ := pure_inv e
    obtain ⟨v, rfl, rv⟩ := rl1 rl
    have rv0 := rv
    cases rv with
    | ktup h1 h2 => exact ⟨_, _, rfl, .inr ⟨.inr h1, fin _ μ H .refl rv0 s⟩⟩
  · obtain ⟨v, rfl, rv⟩ := rl1 rl
    obtain ⟨xs, a, ws, e2, rfl, e4, rl⟩ := bind_readL s rv e
    obtain ⟨rfl, rfl⟩ := pure_inv e2
    exact ⟨a, ws, rfl, .inl ⟨e4, fun l hl => fin_tup hl rl s fin⟩⟩
  · cases e
def fList (ps : List PV) : M PV := match ps with
  | [x] => do let xs ← readS x; (do let n ← newO (.lst xs); pure (.loc n))
  | _ => M.fail
theorem cb_list : CbS c (fun xs H Q => ∃ p ys, xs = [.ref p] ∧ (SqL c.K H p ys ∨ SqT c.K H p ys) ∧ ∀ l, H l = none → Q (.ref l) (upd H l (.lst ys))) fList := by
  intro μ H st rr st' ps vs Q W rl s e fin
  unfold fList at e
  split at e
  · obtain ⟨v, rfl, rv⟩ := rl1 rl
    obtain ⟨xs, a, ws, e2, rfl, e4, rl⟩ := bind_readS s rv e
    have e3 : (some (Out.ok (PV.loc st.length), st ++ [Ob.lst xs]) : Option (Out PV × Sto)) = some (rr, st') := e2
    cases e3
    exact ⟨a, ws, rfl, e4, fun l hl => fin_lst hl rl s fin⟩
  · cases e
def fRepr (ps : List PV) : M PV := match ps with
  | [x] => do
    let d ← getD x
    need (d.showable && decide (d.shown.length ≤ sizeLine) && decide (d.depth < 100) && (match d with
      | .list _ => true
      | .tuple _ => true
      | _ => false))
    pure (.str d.shown)
  | _ => M.fail
def rReprD (K : PySem.W.Frag) : List V → Hp → VK → Prop := fun vs H Q => ∃ (a : Addr) (d : PyData), vs = [V.ref a] ∧ Dp K H (.ref a) d ∧ d.showable = true ∧ d.shown.length ≤ sizeLine ∧ d.depth < 100 ∧ Q (.str d.shown) H
end
mutual
theorem dp_noDict {K : PySem.W.Frag} {H : Hp} : ∀ {d : PyData} {v : V}, Dp K H v d → d.hasDict = false
  | .none, _, _ => rfl
  | .bool _, _, _ => rfl
  | .int _, _, _ => rfl
  | .str _, _, _ => rfl
  | .list ds, _, h => by
    cases h with
    | lst _ h => exact dpAll_noDict h
  | .tuple ds, _, h => by
    cases h with
    | tup _ h => exact dpAll_noDict h
  | .dict _, _, h => by cases h
theorem dpAll_noDict {K : PySem.W.Frag} {H : Hp} : ∀ {ds : List PyData} {vs : List V}, DpAll K H vs ds → PyData.hasDictAll ds = false
  | [], _, _ => rfl
  | d :: ds, _, h => by
    cases h with
    | cons h1 h2 =>
      show (d.hasDict || PyData.hasDictAll ds) = false
      rw [dp_noDict h1, dpAll_noDict h2]
      rfl
end
theorem call_reprD {X : Cx} (hg : X.A.guards = some []) (hu : X.A.units + 101 < cLine) : CallR X (.builtin "repr") (rReprD X.K) := by
  intro pins s σ H xs us Q I r h
  obtain ⟨a, d, rfl, hd, h1, h2, h3, q⟩ := h
  obtain ⟨u, rfl, ru⟩ := vals1 r
  obtain rfl : u = Value.ref a := ru
  obtain ⟨as, rd⟩ := Dp.reads I d (.ref a) (.ref a) hd rfl
  exact repr_of_reads' rd h1 (PyData.noDict_hsm (dp_noDict hd)) hg (by omega) (fun _ _ z => z) (fun h' u tk hk => ⟨.str d.shown, H, I.kept hk, ⟨u, rfl⟩, q⟩) h2
section
variable {c : Ct}
theorem cb_repr : CbS c (rReprD c.K) fRepr := by
  intro μ H st rr st' ps vs Q W rl s e fin
  unfold fRepr at e
  split at e
  · obtain ⟨v, rfl, rv⟩ := rl1 rl
    obtain ⟨d, h1, dp, h2, e2⟩ := bind_getD s rv e
    obtain ⟨b, e3⟩ := need_inv2 e2
    obtain ⟨rfl, rfl⟩ := pure_inv e3
    simp only [Bool.and_eq_true, decide_eq_true_eq] at b
    obtain ⟨⟨⟨b1, b2⟩, b3⟩, b4⟩ := b
    have : ∃ a, v = .ref a := by
      cases dp with
      | lst _ _ => exact ⟨_, rfl⟩
      | tup _ _ => exact ⟨_, rfl⟩
      | _ => cases b4
    obtain ⟨a, rfl⟩ := this
    exact ⟨a, d, rfl, dp, b1, b2, b3, fin _ μ H .refl (.str _) s⟩
  · cases e
def sLeB (a b : Str) : Bool := !sLt b a
def srtS (xs : List Str) : List Str := xs.mergeSort sLeB
def srtI (xs : List Int) : List Int := xs.mergeSort fun a b => decide (a ≤ b)
end
end G
namespace G
open PySem PySem.Spec PyProof.Rows L2

theorem ltCps_lt : ∀ a b : List Nat, ltCps a b = decide (a < b)
  | [], [] => by simp [ltCps]
  | [], _ :: _ => by simp [ltCps]
  | _ :: _, [] => by simp [ltCps]
  | x :: a, y :: b => by
    have ih := ltCps_lt a b
    unfold ltCps
    rw [ih]
    by_cases h1 : x < y
    · have : x :: a < y :: b := List.cons_lt_cons_iff.mpr (.inl h1)
      simp [h1, this]
    · by_cases h2 : x = y
      · subst h2
        simp
      · have : ¬ (x :: a < y :: b) := by
          rw [List.cons_lt_cons_iff]
          rintro (h | ⟨h, _⟩)
          · exact h1 h
          · exact h2 h
        simp [h1, h2, this]
def leS (a b : Str) : Prop := ¬ (b.cps.toList < a.cps.toList)
theorem sLeB_iff {a b : Str} : sLeB a b = true ↔ leS a b := by
  unfold sLeB sLt leS
  simp
theorem leS_trans {a b d : Str} (h : leS a b) (h' : leS b d) : leS a d := List.le_trans (l₁ := a.cps.toList) (l₂ := b.cps.toList) (l₃ := d.cps.toList) h h'
theorem leS_total {a b : Str} : leS a b ∨ leS b a := List.le_total a.cps.toList b.cps.toList
theorem leS_antisymm {a b : Str} (h : leS a b) (h' : leS b a) : a = b := by
  have := List.le_antisymm (as := a.cps.toList) (bs := b.cps.toList) h h'
  obtain ⟨x⟩ := a
  obtain ⟨y⟩ := b
  have e : x = y := Array.toList_inj.mp this
  rw [e]
theorem rising_le : ∀ (l : List Str) (p : Str), risingS p l = true → (p :: l).Pairwise leS
  | [], p, _ => List.pairwise_singleton _ _
  | x :: r, p, h => by
    unfold risingS at h
    rw [Bool.and_eq_true, ltCps_lt] at h
    obtain ⟨h1, h2⟩ := h
    have hp : leS p x := by
      unfold leS
      simpa using h1
    have ih := rising_le r x h2
    rw [List.pairwise_cons]
    refine ⟨fun y hy => ?_, ih⟩
    rcases List.mem_cons.mp hy with z | z
    · rw [z]; exact hp
    · exact leS_trans hp ((List.pairwise_cons.mp ih).1 y z)
theorem sortedS_le {l : List Str} (h : sortedS l = true) : l.Pairwise leS := by
  cases l with
  | nil => exact .nil
  | cons x r => exact rising_le r x h
theorem srtS_perm (l : List Str) : (srtS l).Perm l := List.mergeSort_perm l _
theorem srtS_le (l : List Str) : (srtS l).Pairwise leS := by
  have := List.pairwise_mergeSort (le := sLeB) (fun a b d h h' => sLeB_iff.mpr (leS_trans (sLeB_iff.mp h) (sLeB_iff.mp h'))) (fun a b => by
    have := leS_total (a := a) (b := b)
    rw [Bool.or_eq_true, sLeB_iff, sLeB_iff]
    exact this) l
  exact this.imp sLeB_iff.mp
theorem sort_unique {α : Type} {r : α → α → Prop} (anti : ∀ a b, r a b → r b a → a = b) : ∀ {l l' : List α}, l.Perm l' → l.Pairwise r → l'.Pairwise r → l = l'
  | [], l', h, _, _ => by rw [List.nil_perm.mp h]
  | a :: l, [], h, _, _ => by cases (List.perm_nil.mp h)
  | a :: l, b :: l', h, h1, h2 => by
    have hab : a = b := by
      by_cases e : a = b
      · exact e
      have ha : a ∈ l' := (List.mem_cons.mp (h.mem_iff.mp List.mem_cons_self)).resolve_left e
      have hb : b ∈ l := (List.mem_cons.mp (h.mem_iff.mpr List.mem_cons_self)).resolve_left (fun z => e z.symm)
      exact anti a b ((List.pairwise_cons.mp h1).1 b hb) ((List.pairwise_cons.mp h2).1 a ha)
    subst hab
    rw [sort_unique anti (List.perm_cons a |>.mp h) (List.pairwise_cons.mp h1).2 (List.pairwise_cons.mp h2).2]
theorem srtI_perm (l : List Int) : (srtI l).Perm l := List.mergeSort_perm l _
theorem srtI_le (l : List Int) : (srtI l).Pairwise (· ≤ ·) := by
  have := List.pairwise_mergeSort (le := fun a b : Int => decide (a ≤ b)) (fun a b d h h' => by
    rw [decide_eq_true_eq] at h h' ⊢
    exact Int.le_trans h h') (fun a b => by
    rw [Bool.or_eq_true, decide_eq_true_eq, decide_eq_true_eq]
    exact Int.le_total a b) l
  exact this.imp fun h => by simpa using h
def fSorted (ps : List PV) : M PV := match ps with
  | [x] => do
    let xs ← readL x
    match xs.mapM asStr with
    | some ss => do need (decide (ss.length < 64)); (do let n ← newO (.lst ((srtS ss).map PV.str)); pure (.loc n))
    | none => do let ns ← lift (xs.mapM asI); (do let n ← newO (.lst ((srtI ns).map PV.int)); pure (.loc n))
  | _ => M.fail
section
variable {c : Ct}
theorem new_inv {o : Ob} {st st' : Sto} {rr : Out PV} (h : (do let n ← newO o; pure (.loc n) : M PV) st = some (rr, st')) : rr = .ok (.loc st.length) ∧ st' = st ++ [o] := by
  have e3 : (some (Out.ok (PV.loc st.length), st ++ [o]) : Option (Out PV × Sto)) = some (rr, st') := h
  cases e3
  exact ⟨rfl, rfl⟩
theorem cb_sorted : CbS c (fun vs H Q => rSortedS c.K vs H Q ∨ rSortedI c.K vs H Q) fSorted := by
  intro μ H st rr st' ps vs Q W rl s e fin
  unfold fSorted at e
  split at e
  · obtain ⟨v, rfl, rv⟩ := rl1 rl
    obtain ⟨xs, a, ws, e2, rfl, e4, rl⟩ := bind_readL s rv e
    cases q : xs.mapM asStr with
    | some ss =>
      simp only [q] at e2
      obtain ⟨b, e3⟩ := need_inv2 e2
      obtain ⟨rfl, rfl⟩ := new_inv e3
      have := mapM_inv asStr_ok rl q
      subst this
      refine .inl ⟨a, ss, rfl, e4, by simpa using b, fun ys p hp hs hn => ?_⟩
      have : ys = srtS ss := sort_unique (fun a b => leS_antisymm) (hp.trans (srtS_perm ss).symm) (sortedS_le hs) (srtS_le ss)
      subst this
      exact fin_lst hn (RepL0.strs _) s fin
    | none =>
      simp only [q] at e2
      obtain ⟨ns, e5, e6⟩ := bind_lift e2
      obtain ⟨rfl, rfl⟩ := new_inv e6
      have := mapM_inv asI_ok rl e5
      subst this
      refine .inr ⟨a, ns, rfl, e4, fun ys p hp hs hn => ?_⟩
      have : ys = srtI ns := sort_unique (fun a b => Int.le_antisymm) (hp.trans (srtI_perm ns).symm) hs (srtI_le ns)
      subst this
      exact fin_lst hn (RepL0.ints _) s fin
  · cases e
def pairK : PV → Option (Key × PV)
  | .tup [k, v] => (asK k).map fun k' => (k', v)
  | _ => none
def mergeP (acc : List (Key × PV)) : List (Key × PV) → List (Key × PV)
  | [] => acc
  | q :: r => mergeP (putP acc q.1 q.2) r
def fDictL (ps : List PV) : M PV := match ps with
  | [x] => do
    let xs ← readL x
    let kvs ← lift (xs.mapM pairK)
    (do let n ← newO (.dK (mergeP [] kvs)); pure (.loc n))
  | _ => M.fail
theorem pairs_inv {μ : List Addr} {H : Hp} : ∀ {xs : List PV} {vs : List V} {kvs : List (Key × PV)}, RepL c μ H xs vs → xs.mapM pairK = some kvs →
    ∃ (ps : List Addr) (ws : List (Key × V)), vs = ps.map V.ref ∧ Paired (fun p (kv : Key × V) => SqT c.K H p [kV kv.1, kv.2]) ps ws ∧ RepF c μ H kvs ws
  | [], _, _, h, e => by
    cases h
    simp at e
    subst e
    exact ⟨[], [], rfl, .nil, .nil⟩
  | x :: xs, _, kvs, h, e => by
    cases h with
    | cons h1 h2 =>
      rw [List.mapM_cons] at e
      cases q : pairK x with
      | none => rw [q] at e; cases e
      | some d =>
        rw [q] at e
        cases q2 : xs.mapM pairK with
        | none => rw [q2] at e; cases e
        | some r =>
          rw [q2] at e
          cases e
          obtain ⟨ps, ws, rfl, h3, h4⟩ := pairs_inv h2 q2
          unfold pairK at q
          split at q
          · rename_i k v
            cases q3 : asK k with
            | none => rw [q3] at q; cases q
            | some k' =>
              rw [q3] at q
              cases q
              cases h1 with
              | tup g1 g2 =>
                obtain ⟨a, b, rfl, r1, r2⟩ := rl2 g2
                have := asK_ok r1 q3
                subst this
                exact ⟨_ :: ps, (k', b) :: ws, rfl, .cons (.inl (.inl g1)) h3, .cons ⟨rfl, r2⟩ h4⟩
          · cases q
theorem mergeP_ok {μ : List Addr} {H : Hp} : ∀ {kvs : List (Key × PV)} {ws : List (Key × V)} {acc : List (Key × PV)} {wacc : List (Key × V)}, RepF c μ H acc wacc → RepF c μ H kvs ws → RepF c μ H (mergeP acc kvs) (mergeK wacc ws)
  | [], _, _, _, h, h' => by
    cases h'
    exact h
  | q :: r, _, _, _, h, h' => by
    cases h' with
    | cons h1 h2 =>
      rename_i b bs
      obtain ⟨bk, bv⟩ := b
      obtain ⟨e, rr⟩ := h1
      dsimp only at e rr
      subst e
      exact mergeP_ok (acc := putP _ q.1 q.2) (wacc := putK _ q.1 bv) (putP_ok rr h) h2
theorem cb_dictL : CbS c (fun xs H Q => ∃ (a : Addr) (ps : List Addr) (kvs : List (Key × V)), xs = [.ref a] ∧ SqL c.K H a (ps.map V.ref) ∧ Paired (fun p kv => SqT c.K H p [kV kv.1, kv.2]) ps kvs ∧
    ∀ p, H p = none → Q (.ref p) (upd H p (.dK (mergeK [] kvs)))) fDictL := by
  intro μ H st rr st' ps vs Q W rl s e fin
  unfold fDictL at e
  split at e
  · obtain ⟨v, rfl, rv⟩ := rl1 rl
    obtain ⟨xs, a, ws, e2, rfl, e4, rl⟩ := bind_readL s rv e
    obtain ⟨kvs, e5, e6⟩ := bind_lift e2
    obtain ⟨rfl, rfl⟩ := new_inv e6
    obtain ⟨ps, ws, rfl, h3, h4⟩ := pairs_inv rl e5
    refine ⟨a, ps, ws, rfl, e4, h3, fun p hp => ?_⟩
    have xx : Ext c μ H (μ ++ [p]) (upd H p (.dK (mergeK [] ws))) := ext_new hp
    refine fin _ (μ ++ [p]) _ xx (.loc ?_) (s.new hp ⟨_, upd_same, (mergeP_ok .nil h4).mono xx⟩)
    rw [← s.len, List.getElem?_append_right (Nat.le_refl _)]
    simp
  · cases e
end

def MbS (c : Ct) (T : String) (r : V → List V → Hp → VK → Prop) (f : PV → List PV → M PV) (ty : PV → Sto → Bool) : Prop :=
  (∀ (μ : List Addr) (H : Hp) (st : Sto) (x : PV) (v : V), RepV c μ H x v → Sim c μ H st → ty x st = true → tyV c.K T v H) ∧
  ∀ (μ : List Addr) (H : Hp) (st : Sto) (rr : Out PV) (st' : Sto) (x : PV) (v : V) (ps : List PV) (vs : List V) (Q : VK) (W : XK), RepV c μ H x v → RepL c μ H ps vs → Sim c μ H st → f x ps st = some (rr, st') → Fin c (RepV c) μ H rr st' Q W → r v vs H Q
def dBM (f : PV → List PV → M PV) (ty : PV → Sto → Bool) (o : Slo → M PV) (as : Slo → M (List PV)) : Slo → M PV := fun ε => do
  let x ← o ε
  (fun st => if ty x st = true then (do let xs ← as ε; f x xs) st else none)
section
variable {X : Cx} {c : Ct} {W : WX} {o e : Expr} {es : List Expr} {name : Str} {apos cpos : Pos} {T id : String} {r : V → List V → Hp → VK → Prop} {f : PV → List PV → M PV} {ty : PV → Sto → Bool} {d : Slo → M PV} {as : Slo → M (List PV)}
theorem tD_bm (hf : MbS c T r f ty) : ∀ σ H Q, tD c W (dBM f ty d as) σ H Q → tBM c.K T r (tD c W d) (tL c W as) σ H Q := by
  rintro σ H Q ⟨ε, μ, st, rr, st', hS, s, e, fin⟩
  refine step e hS s fin fun x v st1 μ1 H1 e1 x1 rx s1 hS1 fin1 => ?_
  by_cases ht : ty x st1 = true
  · simp only [ht, if_true] at e1
    refine ⟨hf.1 μ1 H1 st1 x v rx s1 ht, ?_⟩
    refine step e1 hS1 s1 fin1 fun ps vs st2 μ2 H2 e2 x2 rxs s2 hS2 fin2 => ?_
    exact hf.2 μ2 H2 st2 rr st' x v ps vs Q _ (rx.mono x2) rxs s2 e2 fin2
  · rw [if_neg ht] at e1
    cases e1
theorem ge_bm (hK : c.K = X.K) (pa : PlainAttrs T) (slot : Slot T name id) (hty : typeOf (.builtin id) = pure (.type "method_descriptor")) (hm : MtR X id r) (hf : MbS c T r f ty) (ho : GE X c W o d) (ha : GA X c W (e :: es) as)
    (hbase : attributeBase o name X.env (eval o X.env) = eval o X.env := by rfl)
    (hfew : ((backTo cpos (starEach (e :: es) X.env)).all (fun x => !x.1) && (backToKw cpos (keywordEach [] X.env)).all (fun x => x.1.isSome)
      && decide ((e :: es).length + ([] : List Keyword).length + (if ([] : List Keyword).isEmpty then 0 else 1) < 30)) = true := by rfl)
    (hline : (apos.endLine == cpos.line) = true := by rfl) (hs : starEach (e :: es) X.env = (false, eval e X.env) :: starEach es X.env := by rfl) (hplain : (backTo cpos (starEach es X.env)).any (·.1) = false := by rfl) :
    GE X c W (.Call (.Attribute o name apos) (e :: es) [] cpos) (dBM f ty d as) := (pe_bm pa slot hty hm ho ha hbase hfew hline hs hplain).imp (hK ▸ tD_bm hf)
theorem ge_bm0 (hK : c.K = X.K) (pa : PlainAttrs T) (slot : Slot T name id) (hty : typeOf (.builtin id) = pure (.type "method_descriptor")) (hm : MtR X id r) (hf : MbS c T r f ty) (ho : GE X c W o d)
    (hbase : attributeBase o name X.env (eval o X.env) = eval o X.env := by rfl) (hline : (apos.endLine == cpos.line) = true := by rfl) :
    GE X c W (.Call (.Attribute o name apos) [] [] cpos) (dBM f ty d aNil) := by
  refine (pe_bm0 pa slot hty hm ho hbase hline).imp ?_
  rintro σ H Q ⟨ε, μ, st, rr, st', hS, s, e, fin⟩
  refine step e hS s fin fun x v st1 μ1 H1 e1 x1 rx s1 hS1 fin1 => ?_
  by_cases ht : ty x st1 = true
  · simp only [ht, if_true] at e1
    exact ⟨by rw [← hK]; exact hf.1 μ1 H1 st1 x v rx s1 ht, hf.2 μ1 H1 st1 rr st' x v [] [] Q _ rx .nil s1 e1 fin1⟩
  · rw [if_neg ht] at e1
    cases e1
end
def isLst (x : PV) (st : Sto) : Bool := match x with
  | .loc n => (lstAt st n).isSome
  | _ => false
def mAppend (x : PV) (ps : List PV) : M PV := match x, ps with
  | .loc n, [y] => do
    let xs ← getL n
    need (decide (xs.length < sizeLine))
    setO n (.lst (xs ++ [y]))
    pure .non
  | _, _ => M.fail
def mPop (x : PV) (ps : List PV) : M PV := match x, ps with
  | .loc n, [.int i] => do
    let xs ← getL n
    need (decide (-(2 ^ 63) ≤ i ∧ i < 2 ^ 63))
    let k ← lift (seqIndex? i xs.length)
    let y ← lift xs[k]?
    setO n (.lst (xs.eraseIdx k))
    pure y
  | .loc n, [] => do
    let xs ← getL n
    let y ← lift xs[xs.length - 1]?
    setO n (.lst xs.dropLast)
    pure y
  | _, _ => M.fail
section
variable {c : Ct} {μ : List Addr} {H : Hp} {st st' : Sto}
theorem bind_setO {α : Type} {n : Nat} {o : Ob} {k : Unit → M α} {r : Out α} (h : (setO n o >>= k) st = some (r, st')) : k () (st.set n o) = some (r, st') := h
theorem lst_ty (x : PV) (v : V) (rx : RepV c μ H x v) (s : Sim c μ H st) (h : isLst x st = true) : tyV c.K "list" v H := by
  cases x with
  | loc n =>
    cases q : lstAt st n with
    | none => simp [isLst, q] at h
    | some xs =>
      obtain ⟨a, vs, h1, h2, h3⟩ := s.lst (lstAt_inv q)
      cases rx with
      | loc h4 =>
        rw [h1] at h4
        cases h4
        exact .inl ⟨rfl, vs, .inl (.inl h2)⟩
  | _ => cases h
theorem mb_append : MbS c "list" rAppend mAppend isLst := by
  refine ⟨fun μ H st x v rx s h => lst_ty x v rx s h, fun μ H st rr st' x v ps vs Q W rx rl s e fin => ?_⟩
  unfold mAppend at e
  split at e
  · obtain ⟨xs, h1, e2⟩ := bind_getL e
    obtain ⟨b, e3⟩ := need_inv2 e2
    have e6 := bind_setO e3
    obtain ⟨rfl, rfl⟩ := pure_inv e6
    obtain ⟨y, rfl, ry⟩ := rl1 rl
    obtain ⟨a, ws, g1, g2, g3⟩ := s.lst h1
    cases rx with
    | loc g4 =>
      rw [g1] at g4
      cases g4
      have xx : Ext c μ H μ (upd H a (.lst (ws ++ [y]))) := ext_mut (by rw [g2]; trivial)
      have so : SimO c μ (upd H a (.lst (ws ++ [y]))) a (.lst (xs ++ [_])) := ⟨_, upd_same, (g3.append (.cons ry .nil)).mono xx⟩
      exact ⟨a, ws, y, rfl, rfl, g2, by rw [← g3.length]; simpa using b, fin .non μ _ xx .non (s.put g1 h1 so)⟩
  · cases e
theorem RepL0.eraseIdx : ∀ {xs : List PV} {vs : List V} (k : Nat), RepL c μ H xs vs → RepL c μ H (xs.eraseIdx k) (vs.eraseIdx k)
  | [], _, _, h => by cases h; simpa using RepL0.nil
  | x :: xs, _, 0, h => by
    cases h with
    | cons h1 h2 => simpa using h2
  | x :: xs, _, k + 1, h => by
    cases h with
    | cons h1 h2 => simpa using RepL0.cons h1 (RepL0.eraseIdx k h2)
theorem RepL0.dropLast {xs : List PV} {vs : List V} (h : RepL c μ H xs vs) : RepL c μ H xs.dropLast vs.dropLast := by
  rw [List.dropLast_eq_take, List.dropLast_eq_take, h.length]
  exact h.take _
theorem mb_pop : MbS c "list" (fun x xs H Q => rPop x xs H Q ∨ rPopAt x xs H Q) mPop isLst := by
  refine ⟨fun μ H st x v rx s h => lst_ty x v rx s h, fun μ H st rr st' x v ps vs Q W rx rl s e fin => ?_⟩
  unfold mPop at e
  split at e
  · obtain ⟨xs, h1, e2⟩ := bind_getL e
    obtain ⟨b, e3⟩ := need_inv2 e2
    obtain ⟨k, hk, e4⟩ := bind_lift e3
    obtain ⟨y, hy, e5⟩ := bind_lift e4
    have e6 := bind_setO e5
    obtain ⟨rfl, rfl⟩ := pure_inv e6
    obtain ⟨u, rfl, ru⟩ := rl1 rl
    cases ru
    obtain ⟨a, ws, g1, g2, g3⟩ := s.lst h1
    obtain ⟨w, hw, rw'⟩ := g3.get hy
    cases rx with
    | loc g4 =>
      rw [g1] at g4
      cases g4
      rw [decide_eq_true_eq] at b
      have xx : Ext c μ H μ (upd H a (.lst (ws.eraseIdx k))) := ext_mut (by rw [g2]; trivial)
      have so : SimO c μ (upd H a (.lst (ws.eraseIdx k))) a (.lst (xs.eraseIdx k)) := ⟨_, upd_same, (g3.eraseIdx k).mono xx⟩
      exact .inr ⟨a, ws, _, k, w, rfl, rfl, g2, b.1, b.2, by rw [← g3.length]; exact hk, hw, fin w μ _ xx (rw'.mono xx) (s.put g1 h1 so)⟩
  · obtain ⟨xs, h1, e2⟩ := bind_getL e
    obtain ⟨y, hy, e5⟩ := bind_lift e2
    have e6 := bind_setO e5
    obtain ⟨rfl, rfl⟩ := pure_inv e6
    have := rl0 rl
    subst this
    obtain ⟨a, ws, g1, g2, g3⟩ := s.lst h1
    obtain ⟨w, hw, rw'⟩ := g3.get hy
    cases rx with
    | loc g4 =>
      rw [g1] at g4
      cases g4
      have xx : Ext c μ H μ (upd H a (.lst ws.dropLast)) := ext_mut (by rw [g2]; trivial)
      have so : SimO c μ (upd H a (.lst ws.dropLast)) a (.lst xs.dropLast) := ⟨_, upd_same, g3.dropLast.mono xx⟩
      exact .inl ⟨a, ws, w, rfl, rfl, g2, by rw [← g3.length]; exact hw, fin w μ _ xx (rw'.mono xx) (s.put g1 h1 so)⟩
  · cases e
end
/-- the built-in type of a value; none: an own class -/
def tyN (x : PV) : M String := match x with
  | .non => pure "NoneType"
  | .bl _ => pure "bool"
  | .int _ => pure "int"
  | .str _ => pure "str"
  | .tup _ => pure "tuple"
  | .ktup _ => pure "tuple"
  | .scr _ => M.fail
  | .loc n => do
    let o ← getO n
    match o with
    | .lst _ => pure "list"
    | .dK _ => pure "dict"
    | .dT _ => pure "dict"
    | .ins _ _ => M.fail
    | .fK _ => M.fail
    | .fT _ => M.fail
def fIsi (T : String) (x : PV) : M PV := do
  let a ← tyN x
  let b ← lift (kitB a T)
  pure (.bl b)
def fIsC (C : Addr) (x : PV) : M PV := match x with
  | .loc n => do
    let o ← getO n
    match o with
    | .ins C' _ => do need (decide (C' = C)); pure (.bl true)
    | _ => M.fail
  | _ => M.fail
section
variable {X : Cx} {c : Ct} {W : WX} {e : Expr} {d : Slo → M PV} {p p2 pos : Pos}
theorem tyN_ok {μ : List Addr} {H : Hp} {st st' : Sto} {x : PV} {v : V} {r : Out String} (rx : RepV c μ H x v) (s : Sim c μ H st) (h : tyN x st = some (r, st')) : ∃ a, r = .ok a ∧ st' = st ∧ TyX c.K H v (.type a) := by
  unfold tyN at h
  split at h
  · obtain ⟨rfl, rfl⟩ := pure_inv h; cases rx; exact ⟨_, rfl, rfl, .base .non⟩
  · obtain ⟨rfl, rfl⟩ := pure_inv h; cases rx; exact ⟨_, rfl, rfl, .base (.bl _)⟩
  · obtain ⟨rfl, rfl⟩ := pure_inv h; cases rx; exact ⟨_, rfl, rfl, .base (.int _)⟩
  · obtain ⟨rfl, rfl⟩ := pure_inv h; cases rx; exact ⟨_, rfl, rfl, .base (.str _)⟩
  · obtain ⟨rfl, rfl⟩ := pure_inv h
    cases rx with
    | tup h1 h2 => exact ⟨_, rfl, rfl, .base (.tup h1)⟩
  · obtain ⟨rfl, rfl⟩ := pure_inv h
    cases rx with
    | ktup h1 h2 =>
      obtain ⟨o, its, n, k1, k2, _⟩ := h1
      exact ⟨_, rfl, rfl, .kTuple k1 k2⟩
  · cases h
  · obtain ⟨ob, ho, h2⟩ := bind_getO h
    obtain ⟨a, rfl, ha, so⟩ := s.at_loc ho rx
    cases ob with
    | lst xs => obtain ⟨rfl, rfl⟩ := pure_inv h2; obtain ⟨_, g, _⟩ := so; exact ⟨_, rfl, rfl, .base (.lst g)⟩
    | dK xs => obtain ⟨rfl, rfl⟩ := pure_inv h2; obtain ⟨_, g, _⟩ := so; exact ⟨_, rfl, rfl, .base (.dK g)⟩
    | dT xs => obtain ⟨rfl, rfl⟩ := pure_inv h2; obtain ⟨_, g, _⟩ := so; exact ⟨_, rfl, rfl, .base (.dT g)⟩
    | ins C fs => cases h2
    | fK _ => cases h2
    | fT _ => cases h2
/-- isinstance(e, T) -/
theorem ge_isi {T : String} {x : Str} {isl : Str} (hK : c.K = X.K) (hi : isl = "isinstance") (hg : Gl X isl) (hm : X.mg isl = none) (hgT : Gl X x) (hmT : X.mg x = none) (hvT : bootBuiltins x = some (.type T)) (ha : GE X c W e d)
    (hvi : bootBuiltins isl = some (.builtin "isinstance")) (hn : isl ≠ "__name__" := by decide) (hdb : (isl == ("__debug__" : Str)) = false := by decide) (hn2 : x ≠ "__name__" := by decide) (hdb2 : (x == ("__debug__" : Str)) = false := by decide)
    (he : starEach [e, .Name x p2] X.env = (false, eval e X.env) :: starEach [.Name x p2] X.env := by rfl) (he2 : starEach [.Name x p2] X.env = (false, eval (.Name x p2) X.env) :: starEach [] X.env := by rfl) (hpl : (backTo pos (starEach [.Name x p2] X.env)).any (·.1) = false := by rfl) :
    GE X c W (.Call (.Name isl p) [e, .Name x p2] [] pos) (dUn (fIsi T) d) := by
  have hT : PE X (.Name x p2) (tC (.ty T)) := pe_bltn hgT hmT hvT rfl hn2 hdb2
  refine (pe_callB call_isi hg hm hvi (pa_cons ha (pa_cons hT pa_nil he2) he) hn hdb he hpl).imp ?_
  rintro σ H Q ⟨ε, μ, st, r, st', hS, s, e, fin⟩
  refine step e hS s fin fun x v st1 μ1 H1 e1 x1 rx s1 hS1 fin1 => ?_
  rcases bind_inv (show (tyN x >>= fun a => (lift (kitB a T) >>= fun b => pure (.bl b) : M PV)) st1 = _ from e1) with ⟨a, st2, e2, e3⟩ | ⟨C, fs, e2, _⟩
  · obtain ⟨a', h1, rfl, ty⟩ := tyN_ok rx s1 e2
    cases h1
    obtain ⟨b, e4, e5⟩ := bind_lift e3
    obtain ⟨rfl, rfl⟩ := pure_inv e5
    rw [hK] at ty
    exact ⟨v, .ty T, _, _, b, rfl, .ty T, ty, kit_ty e4, fin1 (.bl b) μ1 H1 .refl (.bl b) s1⟩
  · obtain ⟨_, h1, _⟩ := tyN_ok rx s1 e2
    cases h1
/-- isinstance(e, C), C an own class that e is of -/
theorem ge_isC {C : Addr} {x isl : Str} (ic : C8.InsC X.K C) (hg : Gl X isl) (hm : X.mg isl = none) (hgC : Gl X x) (hmC : X.mg x = some (.ref C)) (ha : GE X c W e d)
    (hvi : bootBuiltins isl = some (.builtin "isinstance")) (hn : isl ≠ "__name__" := by decide) (hdb : (isl == ("__debug__" : Str)) = false := by decide) (hdb2 : (x == ("__debug__" : Str)) = false := by decide)
    (he : starEach [e, .Name x p2] X.env = (false, eval e X.env) :: starEach [.Name x p2] X.env := by rfl) (he2 : starEach [.Name x p2] X.env = (false, eval (.Name x p2) X.env) :: starEach [] X.env := by rfl) (hpl : (backTo pos (starEach [.Name x p2] X.env)).any (·.1) = false := by rfl) :
    GE X c W (.Call (.Name isl p) [e, .Name x p2] [] pos) (dUn (fIsC C) d) := by
  have hT : PE X (.Name x p2) (tC (.ref C)) := pe_glob hgC hmC rfl hdb2
  refine (pe_callB (C8.call_isC ic) hg hm hvi (pa_cons ha (pa_cons hT pa_nil he2) he) hn hdb he hpl).imp ?_
  rintro σ H Q ⟨ε, μ, st, r, st', hS, s, e, fin⟩
  refine step e hS s fin fun x v st1 μ1 H1 e1 x1 rx s1 hS1 fin1 => ?_
  cases x with
  | loc n =>
    obtain ⟨ob, ho, e2⟩ := bind_getO e1
    obtain ⟨a, rfl, ha, so⟩ := s1.at_loc ho rx
    cases ob with
    | ins C' fs =>
      obtain ⟨b, e3⟩ := need_inv2 e2
      obtain ⟨rfl, rfl⟩ := pure_inv e3
      rw [decide_eq_true_eq] at b
      subst b
      obtain ⟨dx, gs, g, rf⟩ := so
      exact ⟨a, dx, gs, rfl, g, fin1 (.bl true) μ1 H1 .refl (.bl true) s1⟩
    | _ => cases e2
  | _ => cases e1
end
end G
namespace G
open PySem PySem.Spec PyProof.Rows L2 LamX

def dMake (C : Addr) (F : List PV → M PV) (ds : List PV) (as : Slo → M (List PV)) : Slo → M PV := fun ε => do
  let xs ← as ε
  let n ← newO (.ins C [])
  let r ← F (.loc n :: (xs ++ ds))
  match r with
  | .non => pure (.loc n)
  | _ => M.fail
section
variable {X : Cx} {c : Ct} {W : WX} {k n : Nat} {f C : Addr} {fd : FuncData} {ps ks : List Str} {F : List PV → M PV} {x : Str} {p pos : Pos} {e : Expr} {es : List Expr} {kws : List Keyword} {as aks : Slo → M (List PV)} {ix : List Nat} {ds : List PV} {dvs : List V} {dus : List Value}
/-- the new object and its dict laid, then what __init__ promises -/
theorem make_sp {μ : List Addr} {H : Hp} {st st' : Sto} {r : Out PV} {xs : List PV} {vs : List V} {Q : VK} {W : XK} (rl : RepL c μ H xs vs) (s : Sim c μ H st) (hl : vs.length + 1 = ps.length)
    (e : (do let n ← newO (.ins C []); let r ← F (.loc n :: xs); (match r with | .non => pure (.loc n) | _ => M.fail) : M PV) st = some (r, st')) (fin : Fin c (RepV c) μ H r st' Q W)
    (y dx : Addr) (hy : H y = none) (hdx : H dx = none) (hne : dx ≠ y) : spG c F ps.length (.ref y :: vs) (upd (upd H dx (.own y)) y (.ins C dx [])) (fun v H2 => v = .non ∧ Q (.ref y) H2) W := by
  have hy2 : upd H dx (.own y) y = none := by rw [upd_ne (Ne.symm hne)]; exact hy
  have x1 : Ext c μ H μ (upd H dx (.own y)) := ext_tup hdx
  have x2 : Ext c μ (upd H dx (.own y)) (μ ++ [y]) (upd (upd H dx (.own y)) y (.ins C dx [])) := ext_new hy2
  have s1 : Sim c μ (upd H dx (.own y)) st := s.tuple hdx
  have s2 : Sim c (μ ++ [y]) (upd (upd H dx (.own y)) y (.ins C dx [])) (st ++ [.ins C []]) := s1.new hy2 ⟨dx, [], upd_same, .nil⟩
  have at_ : (μ ++ [y])[st.length]? = some y := by
    rw [← s.len, List.getElem?_append_right (Nat.le_refl _)]
    simp
  have e1 : (F (.loc st.length :: xs) >>= fun r => (match r with | .non => pure (.loc st.length) | _ => M.fail : M PV)) (st ++ [.ins C []]) = some (r, st') := e
  refine ⟨hl, .loc st.length :: xs, μ ++ [y], st ++ [.ins C []], ?_⟩
  rcases bind_inv e1 with ⟨r1, st2, e2, e3⟩ | ⟨C', fs, e2, rfl⟩
  · refine ⟨_, _, .cons (.loc at_) (rl.mono (x1.trans x2)), s2, e2, fun v μ' H' x' rv s' => ?_⟩
    cases r1 with
    | non =>
      cases rv
      obtain ⟨rfl, rfl⟩ := pure_inv e3
      exact ⟨rfl, fin (.ref y) μ' H' (x1.trans (x2.trans x')) (.loc (x'.at at_)) s'⟩
    | _ => cases e3
  · exact ⟨_, _, .cons (.loc at_) (rl.mono (x1.trans x2)), s2, e2, fin.mono (x1.trans x2)⟩
theorem run_mk {pins : List (Addr × Obj)} {σ : St} {H : Hp} {s : Shared} {Q : VK} {us : List Value} {vs : List V} (Mk' : Mk X.K C f) (Fo : FnP X.prog X.w X.K X.mg X.base k f fd ps (spG c F ps.length)) (hr : Rm (k + 1) X.A) (hb : Binds X.K fd ps dus) (hd : Vals dvs dus) (tk : Takes X W)
    (I : Inv X pins σ H s) (r : Vals vs us)
    (h : ∀ x dx, H x = none → H dx = none → dx ≠ x → spG c F ps.length (.ref x :: (vs ++ dvs)) (upd (upd H dx (.own x)) x (.ins C dx [])) (fun v H2 => v = .non ∧ Q (.ref x) H2) (WE W σ)) : wpAny (model X.prog X.w) X.A (call (.ref C) us) (EP X pins σ Q) X.xe s := by
  have I2 := Inv.made (C := C) I
  have hq := h (s.heap.objs.size + 1) s.heap.objs.size (I.hok.fresh (Nat.le_add_right _ _)) (I.hok.fresh (Nat.le_refl _)) (Nat.ne_of_lt (Nat.lt_succ_self _))
  have r2 : Vals (V.ref (s.heap.objs.size + 1) :: (vs ++ dvs)) (Value.ref (s.heap.objs.size + 1) :: (us ++ dus)) := .cons rfl (r.append hd)
  have hl : ((Value.ref (s.heap.objs.size + 1) :: us) ++ dus).length = ps.length := by rw [List.cons_append, ← r2.length]; exact hq.1
  have hb2 := hb _ (Value.ref (s.heap.objs.size + 1) :: us) I2.kIn hl
  have rm : Rm k (X.A.under (.builtin "type.__call__" ⟨.ref C :: us, []⟩)) := ⟨hr.room.make C us [], by
    have hg := hr.gd
    simp [Around.under, Code.guards, Code.isGuard, guardIds, pushGuards, hg]⟩
  have run1 := Fo.run _ X.stack _ _ ⟨Value.ref (s.heap.objs.size + 1) :: us, []⟩ (Value.ref (s.heap.objs.size + 1) :: (us ++ dus)) _ _ (WE W σ) rm (I2.env0.make C us []) hb2 r2 hq
  refine wpAny_call (make_map (f := f) I.kIn Mk'.makes Mk'.init (beq_iff_eq.mp Mk'.fn) (codeAny_mono run1 fun r s' hq' => ?_))
  cases r with
  | error e => exact passAt tk σ pins _ _ e s' I2 hq'
  | ok fl =>
    cases fl with
    | ret u =>
      obtain ⟨v, H', I3, rv, ev, q3⟩ := I2.after hq'
      subst ev
      exact ⟨rv, V.ref (s.heap.objs.size + 1), H', I3, rfl, q3⟩
    | next => exact False.elim hq'
    | brk => exact False.elim hq'
    | cont => exact False.elim hq'
/-- C(e, ..) -/
theorem ge_make (Mk' : Mk X.K C f) (Fo : FnP X.prog X.w X.K X.mg X.base k f fd ps (spG c F ps.length)) (hr : Rm (k + 1) X.A) (hb : Binds X.K fd ps dus) (hd : Vals dvs dus) (hD : ∀ μ H, RepL c μ H ds dvs) (tk : Takes X W) (hl : ∀ ε st q st', as ε st = some (.ok q, st') → q.length + ds.length + 1 = ps.length) (hg : Gl X x) (hm : X.mg x = some (.ref C))
    (ha : GA X c W (e :: es) as) (hdb : (x == ("__debug__" : Str)) = false := by decide) (he : starEach (e :: es) X.env = (false, eval e X.env) :: starEach es X.env := by rfl) (hpl : (backTo pos (starEach es X.env)).any (·.1) = false := by rfl) :
    GE X c W (.Call (.Name x p) (e :: es) [] pos) (dMake C F ds as) := by
  refine ⟨fun pins s σ H Q I h => ?_⟩
  obtain ⟨ε, μ, st, r, st', hS, sm, e, fin⟩ := h
  refine wpAny_Call_Name_kw (ld_glob I hg hm ?_ hdb)
  have hT : tL c W as σ H fun vs H1 => ∀ x dx, H1 x = none → H1 dx = none → dx ≠ x → spG c F ps.length (.ref x :: (vs ++ dvs)) (upd (upd H1 dx (.own x)) x (.ins C dx [])) (fun v H2 => v = .non ∧ Q (.ref x) H2) (WE W σ) := by
    rcases bind_inv e with ⟨xs, st1, e1, e2⟩ | ⟨C, fs, e1, rfl⟩
    · refine ⟨ε, μ, st, _, _, hS, sm, e1, fun vs μ1 H1 x1 rl s1 => ?_⟩
      have rl2 := rl.append (hD μ1 H1)
      refine make_sp rl2 s1 ?_ e2 (fin.mono x1)
      rw [← rl2.length, List.length_append]
      exact hl _ _ _ _ e1
    · exact ⟨ε, μ, st, _, _, hS, sm, e1, fin⟩
  refine PySem.W.callWith_K (h₀ := X.base) I.ok.mod.kin Mk'.kp (thn (ha.run pos pins s σ H _ I hT) fun us s1 ⟨vs, H1, I1, rv, q⟩ => ⟨I1.kIn, ?_⟩) he hpl
  exact run_mk Mk' Fo hr hb hd tk I1 rv q
end
end G
namespace G
open PySem PySem.Spec PyProof.Rows L2
section
variable {prog : Program} {w : World} {A : Around} {E : Value → Shared → Prop} {s : Shared}
/-- a turn of a zip over tuples whose last tuple T is still about -/
theorem zipTH_item {z TI TO T i1 i2 l1 l2 : Addr} {f : Bool} {oT : Obj} {k1 k2 : Nat} {xs ys : Array Value} {x y : Value} {Q : Option Value → Shared → Prop} (D : ZipApart z TI TO i1 i2 l1 l2)
    (hz : IsZipHeld s.heap z TI TO T f) (hT : s.heap.get? T = some oT) (hTI : IsPair s.heap TI (.ref i1) (.ref i2))
    (h1 : s.heap.IsTupleIter i1 l1 k1) (h2 : s.heap.IsTupleIter i2 l2 k2) (hl1 : s.heap.IsTuple l1 xs) (hl2 : s.heap.IsTuple l2 ys) (hx : xs[k1]? = some x) (hy : ys[k2]? = some y)
    (hQ : ∀ h', IsZipHeld h' z TI TO T true → h'.IsTupleIter i1 l1 (k1 + 1) → h'.IsTupleIter i2 l2 (k2 + 1) → IsPair h' s.heap.objs.size x y → h'.objs.size = s.heap.objs.size + 1 →
      (∀ c o, c ≠ z → c ≠ i1 → c ≠ i2 → s.heap.get? c = some o → h'.get? c = some o) → Q (some (.ref s.heap.objs.size)) { s with heap := h' }) : wpAny (model prog w) A (pyNext (.ref z)) Q E s := by
  have ty : s.TypeIs (.ref z) "zip" := ⟨_, hz, rfl⟩
  unfold pyNext
  refine wpAny_bind (wpAny_attempt (wpAny_callSpecial?_slot (name := Str.ofString "__next__") ty F.slot_zip_next (wpAny_call_entry F.slot_zip_next ty F.entry_zip_next ?_ (F.args_zip_next_1 _))))
  show wpAny _ _ (field (.ref z) 2 >>= _) _ _ s
  refine wpAny_bind (wpAny_field hz rfl (x := .bool false) rfl (?_ : wpAny _ _ (field (.ref z) 3 >>= _) _ _ s))
  refine wpAny_bind (wpAny_field hz rfl (x := .ref TI) rfl (wpAny_bind (wpAny_seqItems hTI rfl (?_ : wpAny _ _ (Builtin.SmallTypes.ownedTupleIsFree (.ref z) >>= _) _ _ s))))
  refine wpAny_bind (wpAny_tupleHeld_zip hz hT fun g1 hz1 sb1 => ?_)
  simp only [Bool.false_eq_true, if_false]
  refine wpAny_bind ?_
  rw [← Array.forIn_toList]
  simp only [List.forIn_cons, List.forIn_nil]
  refine wpAny_bind (wpAny_bind (wpAny_holding (?_ : wpAny _ _ (Builtin.SmallTypes.nextOf (.ref i1) >>= _) _ _ _)))
  refine wpAny_bind (wpAny_nextOf_tuple_item (s := { s with heap := g1 }) (h1.extBut sb1.extBut D.i1z) (hl1.extBut sb1.extBut D.l1z) hx fun g2 it1 sb2 => wpAny_pure (wpAny_pure ?_))
  refine wpAny_bind (wpAny_bind (wpAny_holding (?_ : wpAny _ _ (Builtin.SmallTypes.nextOf (.ref i2) >>= _) _ _ _)))
  refine wpAny_bind (wpAny_nextOf_tuple_item (s := { s with heap := g2 }) ((h2.extBut sb1.extBut D.i2z).extBut sb2.extBut D.i12.symm) ((hl2.extBut sb1.extBut D.l2z).extBut sb2.extBut D.l2i1) hy fun g3 it2 sb3 => wpAny_pure (wpAny_pure (wpAny_pure ?_)))
  show wpAny _ _ (newTuple [x, y] >>= _) _ _ _
  refine wpAny_bind (wpAny_newTuple ?_)
  have sz : g3.objs.size = s.heap.objs.size := (sb3.1.trans sb2.1).trans sb1.1
  have hz3 : IsZipHeld g3 z TI TO T true := sb3.extBut _ _ D.i2z.symm (sb2.extBut _ _ D.i1z.symm hz1)
  have kp : ∀ c o, c ≠ z → c ≠ i1 → c ≠ i2 → s.heap.get? c = some o → g3.get? c = some o := fun c o a1 a2 a3 e => sb3.extBut _ _ a3 (sb2.extBut _ _ a2 (sb1.extBut _ _ a1 e))
  have it1' := it1.extBut sb3.extBut D.i12
  have hp : IsPair (g3.push { cls := .type "tuple", data := .seq #[x, y] }) g3.objs.size x y := Heap.get?_push_size _ rfl
  have hs4 : (g3.push { cls := .type "tuple", data := .seq #[x, y] }).objs.size = g3.objs.size + 1 := Heap.size_push ..
  refine wpAny_pure ⟨_, rfl, wpAny_pure ?_⟩
  show Q (some (.ref g3.objs.size)) _
  rw [sz] at hp hs4 ⊢
  exact hQ _ (Heap.get?_push_of_some _ hz3) (it1'.at fun o e => Heap.get?_push_of_some _ e) (it2.at fun o e => Heap.get?_push_of_some _ e) hp hs4 fun c o a1 a2 a3 e => Heap.get?_push_of_some _ (kp c o a1 a2 a3 e)
theorem zipTH_end {z TI TO T i1 i2 l1 l2 : Addr} {f : Bool} {oT : Obj} {k1 k2 : Nat} {xs ys : Array Value} {Q : Option Value → Shared → Prop} (hh : A.handled = none) (D : ZipApart z TI TO i1 i2 l1 l2)
    (hz : IsZipHeld s.heap z TI TO T f) (hT : s.heap.get? T = some oT) (hTI : IsPair s.heap TI (.ref i1) (.ref i2))
    (h1 : s.heap.IsTupleIter i1 l1 k1) (h2 : s.heap.IsTupleIter i2 l2 k2) (hl1 : s.heap.IsTuple l1 xs) (hl2 : s.heap.IsTuple l2 ys) (hend : xs[k1]? = none ∨ ys[k2]? = none)
    (hQ : ∀ h', (∀ c o, c ≠ z → c ≠ i1 → c ≠ i2 → s.heap.get? c = some o → h'.get? c = some o) → Q none { s with heap := h' }) : wpAny (model prog w) A (pyNext (.ref z)) Q E s := by
  have ty : s.TypeIs (.ref z) "zip" := ⟨_, hz, rfl⟩
  unfold pyNext
  refine wpAny_bind (wpAny_attempt (wpAny_callSpecial?_slot (name := Str.ofString "__next__") ty F.slot_zip_next (wpAny_call_entry F.slot_zip_next ty F.entry_zip_next ?_ (F.args_zip_next_1 _))))
  show wpAny _ _ (field (.ref z) 2 >>= _) _ _ s
  refine wpAny_bind (wpAny_field hz rfl (x := .bool false) rfl (?_ : wpAny _ _ (field (.ref z) 3 >>= _) _ _ s))
  refine wpAny_bind (wpAny_field hz rfl (x := .ref TI) rfl (wpAny_bind (wpAny_seqItems hTI rfl (?_ : wpAny _ _ (Builtin.SmallTypes.ownedTupleIsFree (.ref z) >>= _) _ _ s))))
  refine wpAny_bind (wpAny_tupleHeld_zip hz hT fun g1 hz1 sb1 => ?_)
  simp only [Bool.false_eq_true, if_false]
  refine wpAny_bind ?_
  rw [← Array.forIn_toList]
  simp only [List.forIn_cons, List.forIn_nil]
  refine wpAny_bind (wpAny_bind (wpAny_holding (?_ : wpAny _ _ (Builtin.SmallTypes.nextOf (.ref i1) >>= _) _ _ _)))
  have stop : ∀ (g : Heap) (e : Addr), (∀ c o, c ≠ z → c ≠ i1 → c ≠ i2 → s.heap.get? c = some o → g.get? c = some o) → (∃ o, g.get? e = some o ∧ o.cls = .type "StopIteration") → True := fun _ _ _ _ => trivial
  cases ex : xs[k1]? with
  | none =>
    refine wpAny_bind (wpAny_nextOf_tuple_end (s := { s with heap := g1 }) hh (h1.extBut sb1.extBut D.i1z) (hl1.extBut sb1.extBut D.l1z) ex fun g2 e sb2 he => ?_)
    obtain ⟨o, ho, hc⟩ := he
    refine wpAny_bind (wpAny_isInstance (T := "StopIteration") (b := true) ⟨o, ho, hc⟩ isSubtype_stop (wpAny_pure ?_))
    exact hQ g2 fun c o a1 a2 _ q => sb2 _ _ a2 (sb1.extBut _ _ a1 q)
  | some x =>
    have ey : ys[k2]? = none := hend.resolve_left (by rw [ex]; exact fun q => nomatch q)
    refine wpAny_bind (wpAny_nextOf_tuple_item (s := { s with heap := g1 }) (h1.extBut sb1.extBut D.i1z) (hl1.extBut sb1.extBut D.l1z) ex fun g2 it1 sb2 => wpAny_pure (wpAny_pure ?_))
    refine wpAny_bind (wpAny_bind (wpAny_holding (?_ : wpAny _ _ (Builtin.SmallTypes.nextOf (.ref i2) >>= _) _ _ _)))
    refine wpAny_bind (wpAny_nextOf_tuple_end (s := { s with heap := g2 }) hh ((h2.extBut sb1.extBut D.i2z).extBut sb2.extBut D.i12.symm) ((hl2.extBut sb1.extBut D.l2z).extBut sb2.extBut D.l2i1) ey fun g3 e sb3 he => ?_)
    obtain ⟨o, ho, hc⟩ := he
    refine wpAny_bind (wpAny_isInstance (T := "StopIteration") (b := true) ⟨o, ho, hc⟩ isSubtype_stop (wpAny_pure ?_))
    exact hQ g3 fun c o a1 a2 a3 q => sb3 _ _ a3 (sb2.extBut _ _ a2 (sb1.extBut _ _ a1 q))
end
theorem argZipT {prog : Program} {w : World} (z TI TO i1 i2 l1 l2 : Addr) (D : ZipApart z TI TO i1 i2 l1 l2) (xs ys : Array Value) :
    PairArg prog w "zip" z [z, TI, TO, i1, i2, l1, l2] [z, TO, i1, i2] (min xs.size ys.size) (fun i k v => xs[i]? = some k ∧ ys[i]? = some v)
      (fun h => IsZip h z TI TO .none ∧ IsPair h TI (.ref i1) (.ref i2) ∧ (∃ a b, IsPair h TO a b) ∧ h.IsTupleIter i1 l1 0 ∧ h.IsTupleIter i2 l2 0 ∧ h.IsTuple l1 xs ∧ h.IsTuple l2 ys) where
  type := fun _ ok => ⟨_, ok.1, rfl⟩
  notDict := by decide
  keep := fun _ _ ⟨hz, hTI, ⟨a, b, hTO⟩, h1, h2, hl1, hl2⟩ kk => ⟨kk _ _ hz, kk _ _ hTI, ⟨a, b, kk _ _ hTO⟩, h1.at fun o e => kk _ o e, h2.at fun o e => kk _ o e, hl1.at fun o e => kk _ o e, hl2.at fun o e => kk _ o e⟩
  there := fun _ ⟨hz, hTI, ⟨a, c, hTO⟩, ⟨o1, h1, _⟩, ⟨o2, h2, _⟩, ⟨o3, hl1, _⟩, ⟨o4, hl2, _⟩⟩ b hb => by
    simp only [List.mem_cons, List.not_mem_nil, or_false] at hb
    rcases hb with q | q | q | q | q | q | q <;> subst q
    · exact ⟨_, hz⟩
    · exact ⟨_, hTI⟩
    · exact ⟨_, hTO⟩
    · exact ⟨_, h1⟩
    · exact ⟨_, h2⟩
    · exact ⟨_, hl1⟩
    · exact ⟨_, hl2⟩
  sub := fun b hb => by
    simp only [List.mem_cons, List.not_mem_nil, or_false] at hb ⊢
    rcases hb with q | q | q | q <;> simp [q]
  noKeys := fun _ _ _ _ hA ok h => getAttrOr_miss_zip ok.1 rfl rfl rfl zip_no_keys (by decide +kernel) hA h
  iter := fun A s d Q E hA ok hd hdf h => by
    obtain ⟨hz, hTI, ⟨a, b, hTO⟩, h1, h2, hl1, hl2⟩ := ok
    simp only [List.mem_cons, List.not_mem_nil, or_false, not_or] at hdf
    obtain ⟨dz, dTI, dTO, di1, di2, dl1, dl2⟩ := hdf
    refine wpAny_pyIter_zip hz (h z [z, TO, i1, i2] (fun i h => IsPair h TI (.ref i1) (.ref i2) ∧ h.IsTupleIter i1 l1 i ∧ h.IsTupleIter i2 l2 i ∧ h.IsTuple l1 xs ∧ h.IsTuple l2 ys ∧
      ((IsZip h z TI TO .none ∧ ∃ a b, IsPair h TO a b) ∨ ∃ T f oT, IsZipHeld h z TI TO T f ∧ h.get? T = some oT ∧ T ≠ z ∧ T ≠ i1 ∧ T ≠ i2 ∧ T ≠ d)) s.heap s.toks ?_ ⟨hTI, h1, h2, hl1, hl2, .inl ⟨hz, a, b, hTO⟩⟩ (fun _ _ e => e) fun b hb => .inl hb)
    refine ⟨fun hm => ?_, fun i g1 g2 st kk => ?_, fun i s1 Q1 E1 hi st hds hQ => ?_, fun s1 Q1 E1 st hQ => ?_⟩
    · simp only [List.mem_cons, List.not_mem_nil, or_false] at hm
      rcases hm with q | q | q | q
      · exact dz q
      · exact dTO q
      · exact di1 q
      · exact di2 q
    · obtain ⟨hTI, h1, h2, hl1, hl2, hz⟩ := st
      refine ⟨kk _ _ (Ne.symm dTI) hTI, h1.at fun o e => kk _ o (Ne.symm di1) e, h2.at fun o e => kk _ o (Ne.symm di2) e, hl1.at fun o e => kk _ o (Ne.symm dl1) e, hl2.at fun o e => kk _ o (Ne.symm dl2) e, hz.imp (fun ⟨q, a, b, q2⟩ => ⟨kk _ _ (Ne.symm dz) q, a, b, kk _ _ (Ne.symm dTO) q2⟩) ?_⟩
      exact fun ⟨T, f, oT, q, q2, r1, r2, r3, r4⟩ => ⟨T, f, oT, kk _ _ (Ne.symm dz) q, kk _ _ r4 q2, r1, r2, r3, r4⟩
    · obtain ⟨hTI, h1, h2, hl1, hl2, hz⟩ := st
      have ex := Array.getElem?_eq_getElem (Nat.lt_of_lt_of_le hi (Nat.min_le_left xs.size ys.size))
      have ey := Array.getElem?_eq_getElem (Nat.lt_of_lt_of_le hi (Nat.min_le_right xs.size ys.size))
      have lt : ∀ {c o}, s1.heap.get? c = some o → s1.heap.objs.size ≠ c := fun e => Nat.ne_of_gt (Heap.lt_size e)
      have n1 : s1.heap.objs.size ≠ i1 := h1.elim fun _ q => lt q.1
      have n2 : s1.heap.objs.size ≠ i2 := h2.elim fun _ q => lt q.1
      have ne4 : ∀ {c}, c ∉ [z, TO, i1, i2] → c ≠ z ∧ c ≠ TO ∧ c ≠ i1 ∧ c ≠ i2 := fun hc => ⟨fun q => hc (by simp [q]), fun q => hc (by simp [q]), fun q => hc (by simp [q]), fun q => hc (by simp [q])⟩
      rcases hz with ⟨hz, a, b, hTO⟩ | ⟨T, f, oT, hz, hT, r1, r2, r3, r4⟩
      · refine RZ.pyNext_zipT_item D hz hTI hTO h1 h2 hl1 hl2 ex ey fun g' a1 a2 a3 a4 a5 a6 hk => ?_
        refine hQ s1.heap.objs.size _ _ g' s1.toks ⟨ex, ey⟩ (.inl ⟨_, a5, rfl, _, rfl⟩) ⟨hk _ _ D.TIz D.TITO D.TIi1 D.TIi2 hTI, a3, a4, hl1.at fun o e => hk _ o D.l1z D.l1TO D.l1i1 D.l1i2 e, hl2.at fun o e => hk _ o D.l2z D.l2TO D.l2i1 D.l2i2 e, .inr ⟨_, false, _, a1, a5, lt hz, n1, n2, Nat.ne_of_gt hds⟩⟩ fun c o hc e => ?_
        obtain ⟨c1, c2, c3, c4⟩ := ne4 hc
        exact hk c o c1 c2 c3 c4 e
      · refine zipTH_item D hz hT hTI h1 h2 hl1 hl2 ex ey fun g' a1 a3 a4 a5 a6 hk => ?_
        refine hQ s1.heap.objs.size _ _ g' s1.toks ⟨ex, ey⟩ (.inl ⟨_, a5, rfl, _, rfl⟩) ⟨hk _ _ D.TIz D.TIi1 D.TIi2 hTI, a3, a4, hl1.at fun o e => hk _ o D.l1z D.l1i1 D.l1i2 e, hl2.at fun o e => hk _ o D.l2z D.l2i1 D.l2i2 e, .inr ⟨T, true, oT, a1, hk _ _ r1 r2 r3 hT, r1, r2, r3, r4⟩⟩ fun c o hc e => ?_
        obtain ⟨c1, c2, c3, c4⟩ := ne4 hc
        exact hk c o c1 c3 c4 e
    · obtain ⟨hTI, h1, h2, hl1, hl2, hz⟩ := st
      have hend : xs[min xs.size ys.size]? = none ∨ ys[min xs.size ys.size]? = none := (Nat.le_total xs.size ys.size).imp (fun q => Array.getElem?_eq_none (by rw [Nat.min_eq_left q]; exact Nat.le_refl _)) fun q => Array.getElem?_eq_none (by rw [Nat.min_eq_right q]; exact Nat.le_refl _)
      have ne4 : ∀ {c}, c ∉ [z, TO, i1, i2] → c ≠ z ∧ c ≠ TO ∧ c ≠ i1 ∧ c ≠ i2 := fun hc => ⟨fun q => hc (by simp [q]), fun q => hc (by simp [q]), fun q => hc (by simp [q]), fun q => hc (by simp [q])⟩
      rcases hz with ⟨hz, a, b, hTO⟩ | ⟨T, f, oT, hz, hT, _⟩
      · refine RZ.pyNext_zipT_end hA D hz hTI hTO h1 h2 hl1 hl2 hend fun g' hk => hQ g' s1.toks fun c o hc e => ?_
        obtain ⟨c1, c2, c3, c4⟩ := ne4 hc
        exact hk c o c1 c2 c3 c4 e
      · refine zipTH_end hA D hz hT hTI h1 h2 hl1 hl2 hend fun g' hk => hQ g' s1.toks fun c o hc e => ?_
        obtain ⟨c1, c2, c3, c4⟩ := ne4 hc
        exact hk c o c1 c3 c4 e

/-- the keys of one tuple, the values of another -/
def zipK : List PV → List PV → Option (List (Key × PV))
  | k :: ks, v :: vs => match asK k, zipK ks vs with
    | some k', some r => some ((k', v) :: r)
    | _, _ => none
  | [], _ => some []
  | _ :: _, [] => some []
def dDictZip (da db : Slo → M PV) : Slo → M PV := fun ε => do
  let x ← da ε
  let y ← db ε
  let xs ← readT x
  let ys ← readT y
  let kvs ← lift (zipK xs ys)
  let n ← newO (.dK (mergeP [] kvs))
  pure (.loc n)
section
variable {X : Cx} {c : Ct} {W : WX} {e e2 : Expr} {da db : Slo → M PV} {p q pos zpos : Pos}
theorem bind_readT {c : Ct} {μ : List Addr} {H : Hp} {α : Type} {x : PV} {v : V} {k : List PV → M α} {st st' : Sto} {r : Out α} (rv : RepV c μ H x v) (h : (readT x >>= k) st = some (r, st')) : ∃ xs a vs, k xs st = some (r, st') ∧ v = .ref a ∧ SqT c.K H a vs ∧ RepL c μ H xs vs := by
  rcases bind_inv h with ⟨xs, st1, e1, e2⟩ | ⟨C, fs, e1, _⟩
  · obtain ⟨ys, a, vs, h1, rfl, h2, h3, h4⟩ := readT_inv rv e1
    cases h1
    exact ⟨xs, a, vs, e2, h2, h3, h4⟩
  · obtain ⟨ys, a, vs, h1, _⟩ := readT_inv rv e1
    cases h1
theorem zipK_ok {P : Program} {w : World} {c : Ct} {μ : List Addr} {H : Hp} : ∀ {xs ys : List PV} {vs ws : List V} {us zs : List Value} {kvs : List (Key × PV)}, RepL c μ H xs vs → RepL c μ H ys ws → Vals vs us → Vals ws zs → zipK xs ys = some kvs →
    ∃ (prs : List (Key × V)) (rs : List (Key × Value)), RepF c μ H kvs prs ∧ KV prs rs ∧ rs.length = min us.length zs.length ∧ ∀ (i : Nat) (key v : Value), us.toArray[i]? = some key → zs.toArray[i]? = some v → ∃ k, rs[i]? = some (k, v) ∧ (mixKind P w).is k key = true
  | [], _, _, _, _, _, _, h1, h2, h3, h4, e => by
    cases h1
    cases h3
    have : ∀ (ys : List PV), zipK [] ys = some [] := fun ys => by unfold zipK; rfl
    rw [this] at e
    cases e
    exact ⟨[], [], .nil, .nil, by simp, fun i key v q => by simp at q⟩
  | _ :: _, [], _, _, _, _, _, h1, h2, h3, h4, e => by
    cases h2
    cases h4
    unfold zipK at e
    cases e
    exact ⟨[], [], .nil, .nil, by simp, fun i key v _ q => by simp at q⟩
  | x :: xs, y :: ys, _, _, _, _, kvs, h1, h2, h3, h4, e => by
    cases h1 with
    | cons a1 a2 =>
      cases h2 with
      | cons b1 b2 =>
        cases h3 with
        | cons c1 c2 =>
          cases h4 with
          | cons d1 d2 =>
            unfold zipK at e
            cases z : asK x with
            | none => rw [z] at e; cases e
            | some k =>
              cases z2 : zipK xs ys with
              | none => rw [z, z2] at e; cases e
              | some r =>
                rw [z, z2] at e
                cases e
                obtain ⟨prs, rs, g1, g2, g3, g4⟩ := zipK_ok (P := P) (w := w) a2 b2 c2 d2 z2
                have := asK_ok a1 z
                subst this
                refine ⟨(k, _) :: prs, (k, _) :: rs, .cons ⟨rfl, b1⟩ g1, .cons ⟨rfl, d1⟩ g2, by simp [g3], fun i key v q1 q2 => ?_⟩
                cases i with
                | zero =>
                  simp at q1 q2
                  subst q1 q2
                  exact ⟨k, by simp, kV_is (P := P) (w := w) c1⟩
                | succ j =>
                  obtain ⟨k', e1, e2⟩ := g4 j key v (by simpa using q1) (by simpa using q2)
                  exact ⟨k', by simpa using e1, e2⟩
/-- dict(zip(e, e2)) of tuples -/
theorem ge_dictZip (hK : c.K = X.K) (hc : X.calm = true) (hg : Gl X "dict") (hm : X.mg "dict" = none) (hg2 : Gl X "zip") (hm2 : X.mg "zip" = none) (ha : GE X c W e da) (hb : GE X c W e2 db)
    (hs : starEach [e, e2] X.env = (false, eval e X.env) :: starEach [e2] X.env := by rfl) (hs2 : starEach [e2] X.env = (false, eval e2 X.env) :: starEach [] X.env := by rfl) (hpl : (backTo zpos (starEach [e2] X.env)).any (·.1) = false := by rfl)
    (he : starEach [.Call (.Name "zip" q) [e, e2] [] zpos] X.env = (false, eval (.Call (.Name "zip" q) [e, e2] [] zpos) X.env) :: starEach [] X.env := by rfl) :
    GE X c W (.Call (.Name "dict" p) [.Call (.Name "zip" q) [e, e2] [] zpos] [] pos) (dDictZip da db) := by
  refine ⟨fun pins s σ H Q I h => ?_⟩
  obtain ⟨ε, μ, st, r, st', hS, sm, eq, fin⟩ := h
  refine wpAny_Call_Name_kw (ld_blt I hg hm PyProof.Rows.boot_dict (PyProof.Rows.callWith_type1 ?_ he rfl))
  rw [he]
  show wpAny _ _ (spliced ((false, eval (.Call (.Name "zip" q) [e, e2] [] zpos) X.env) :: backTo pos (starEach [] X.env))) _ _ s
  have args : PA X [e, e2] (tCons (tD c W da) (tCons (tD c W db) tNil)) := pa_cons ha (pa_cons hb pa_nil hs2) hs
  have hT : tCons (tD c W da) (tCons (tD c W db) tNil) σ H fun vs H1 => ∃ (a b : Addr) (xs ys : List V) (kvs : List (Key × PV)) (px py : List PV) (μ1 : List Addr) (st1 : Sto), vs = [.ref a, .ref b] ∧ SqT X.K H1 a xs ∧ SqT X.K H1 b ys ∧ RepL c μ1 H1 px xs ∧ RepL c μ1 H1 py ys ∧ zipK px py = some kvs ∧ Sim c μ1 H1 st1 ∧
      r = .ok (.loc st1.length) ∧ st' = st1 ++ [.dK (mergeP [] kvs)] ∧ Fin c (RepV c) μ1 H1 r st' Q (fun x y z => W x y σ z) := by
    refine step eq hS sm fin fun x v st1 μ1 H1 e1 x1 rx s1 hS1 fin1 => ?_
    refine step e1 hS1 s1 fin1 fun y w st2 μ2 H2 e2 x2 ry s2 hS2 fin2 => ?_
    obtain ⟨xs, a, vs, e3, rfl, hq1, rl1⟩ := bind_readT (rx.mono x2) e2
    obtain ⟨ys, b, ws, e4, rfl, hq2, rl2⟩ := bind_readT ry e3
    obtain ⟨kvs, e5, e6⟩ := bind_lift e4
    obtain ⟨rfl, rfl⟩ := new_inv e6
    rw [hK] at hq1 hq2
    exact ⟨a, b, vs, ws, kvs, xs, ys, μ2, st2, rfl, hq1, hq2, rl1, rl2, e5, s2, rfl, rfl, fin2⟩
  refine Calls.spliced_cons (Call_ (ld_blt I hg2 hm2 PyProof.Rows.boot_zip (PyProof.Rows.callWith_type1 (thn (args.run zpos pins s σ H _ I hT) fun us s1 h1 => ?_) hs hpl)))
  obtain ⟨vs, H1, I1, r1, a, b, xs, ys, kvs, px, py, μ1, st1, rfl, hq1, hq2, rx, ry, ez, s1', er, es, fin1⟩ := h1
  cases r1 with
  | cons ra rr =>
    cases rr with
    | cons rb rr =>
      cases rr
      cases ra
      cases rb
      obtain ⟨its, rv, p1, hz1⟩ := I1.tuple hq1
      obtain ⟨its2, rv2, p2, hz2⟩ := I1.tuple hq2
      have t1 : s1.heap.IsTuple a its.toArray := p1
      have t2 : s1.heap.IsTuple b its2.toArray := p2
      have la : a < s1.heap.objs.size := t1.elim fun _ z => Heap.lt_size z.1
      have lb : b < s1.heap.objs.size := t2.elim fun _ z => Heap.lt_size z.1
      refine RZ.call_zipT t1 t2 fun h2 hz hTI hTO g1 g2 hsz hk => Calls.spliced_nil ?_
      obtain ⟨prs, rs, k1, k2, k3, k4⟩ := zipK_ok (P := X.prog) (w := X.w) rx ry rv rv2 ez
      have l1 : its.toArray.size = its.length := by simp
      have l2 : its2.toArray.size = its2.length := by simp
      have hlen : rs.length ≤ sizeLine := by
        rw [k3]
        have := rv.length
        exact Nat.le_trans (Nat.min_le_left _ _) (by omega)
      refine call_dict_pairs (s := { s1 with heap := h2 }) (knd := mixKind X.prog X.w) (kvs := rs) (argZipT _ _ _ _ _ a b (PySem.W.ktu_apart s1.heap.objs.size a b la lb) its.toArray its2.toArray) (I1.ok.hd hc) ⟨hz, hTI, ⟨_, _, hTO⟩, g1, g2, t1.at fun o z => hk _ o z, t2.at fun o z => hk _ o z⟩
        ⟨by rw [l1, l2]; exact k3, fun i key v ⟨q1, q2⟩ => k4 i key v q1 q2⟩ (by rw [l1, l2, ← k3]; exact hlen) fun h3 tk hd' kk => ?_
      have old : ∀ b o, s1.heap.get? b = some o → h3.get? b = some o := fun b' o z => by
        have lt : b' < s1.heap.objs.size := Heap.lt_size z
        refine kk b' o (fun hm => ?_) (hk b' o z)
        simp only [List.mem_cons, List.not_mem_nil, or_false] at hm
        rcases hm with q | q | q | q
        · exact Nat.not_lt.mpr (Nat.le_add_right _ _) (q ▸ lt)
        · exact Nat.not_lt.mpr (Nat.le_add_right _ _) (q ▸ lt)
        · exact Nat.lt_irrefl _ (q ▸ lt)
        · exact Nat.not_lt.mpr (Nat.le_add_right _ _) (q ▸ lt)
      have hp : H1 h2.objs.size = none := I1.hok.fresh (by rw [hsz]; omega)
      have hm3 : (h2.objs.size == sysModules) = false := beq_eq_false_iff_ne.mpr (Nat.ne_of_gt (Nat.lt_of_lt_of_le I1.big (by rw [hsz]; omega)))
      have hlk : (mergeK [] prs).length ≤ sizeLine := by
        refine Nat.le_trans (length_mergeK prs []) ?_
        rw [List.length_nil, Nat.zero_add, Paired.length k2]
        exact hlen
      have I2 : Inv X pins σ (upd H1 h2.objs.size (.dK (mergeK [] prs))) { s1 with heap := h3, toks := tk } := I1.laid (t' := tk) old (by rw [hsz]; omega) (show ObjOk X.prog X.w _ _ _ (.dK (mergeK [] prs)) from ⟨hlk, hm3, merged [] rs, KV.merge k2 .nil, hd'⟩)
      subst er es
      have xx : Ext c μ1 H1 (μ1 ++ [h2.objs.size]) (upd H1 h2.objs.size (.dK (mergeK [] prs))) := ext_new hp
      have at_ : (μ1 ++ [h2.objs.size])[st1.length]? = some h2.objs.size := by
        rw [← s1'.len, List.getElem?_append_right (Nat.le_refl _)]
        simp
      exact ⟨.ref h2.objs.size, _, I2, rfl, fin1 _ _ _ xx (.loc at_) (s1'.new hp ⟨_, upd_same, (mergeP_ok .nil k1).mono xx⟩)⟩
end
end G
namespace G
open PySem PySem.Spec PyProof.Rows L2 LamX NdefX

abbrev Ct.at_ (c : Ct) (bs : List Addr) (fs : List (Nat × Addr)) : Ct := { c with bs := bs, fs := fs }
section
variable {c c' : Ct} {μ μ' : List Addr} {H H' : Hp} {st : Sto} {bs : List Addr} {fs : List (Nat × Addr)}
theorem Ext.cg (x : Ext c μ H μ' H') : Ext c' μ H μ' H' := ⟨x.pre, x.tup, x.frz, x.xd⟩
theorem Sim.rb (s : Sim c μ H st) (h : bs <+: μ) : Sim (c.at_ bs fs) μ H st := ⟨s.nd, s.len, s.ob, s.tabs, s.scr, h⟩
theorem Sim.ub (s : Sim (c.at_ bs fs) μ H st) (h : c.bs <+: μ) : Sim c μ H st := ⟨s.nd, s.len, s.ob, s.tabs, s.scr, h⟩
theorem RepX.cg {es : List (Str × PV)} {d : Option Addr} (h : RepX (c.at_ bs fs) μ H es d) : RepX c μ H es d := h
theorem RepX.gc {es : List (Str × PV)} {d : Option Addr} (h : RepX c μ H es d) : RepX (c.at_ bs fs) μ H es d := h
/-- an end in the one, in the other -/
theorem Fin.rb {r : Out PV} {st' : Sto} {Q : VK} {W : XK} (hb : c.bs <+: μ) (f : Fin c (RepV c) μ H r st' Q W) : Fin (c.at_ bs fs) (RepV (c.at_ bs fs)) μ H r st' Q W := by
  cases r with
  | ok a => exact fun y μ' H' x rv s => f y μ' H' x.cg rv (s.ub (hb.trans x.pre))
  | ex C es => exact fun d μ' H' x rv s => f d μ' H' x.cg rv (s.ub (hb.trans x.pre))
theorem Fin.ub {r : Out PV} {st' : Sto} {Q : VK} {W : XK} (hb : bs <+: μ) (f : Fin (c.at_ bs fs) (RepV (c.at_ bs fs)) μ H r st' Q W) : Fin c (RepV c) μ H r st' Q W := by
  cases r with
  | ok a => exact fun y μ' H' x rv s => f y μ' H' x.cg rv (s.rb (hb.trans x.pre))
  | ex C es => exact fun d μ' H' x rv s => f d μ' H' x.cg rv (s.rb (hb.trans x.pre))
end
/-- f, wherever the frame X is: it does what L tells -/
def Act (X : Cx) (c : Ct) (f : Addr) (np : Nat) (L : List PV → M PV) : Prop := ∀ (pins : List (Addr × Obj)) (s : Shared) (σ : L2.St) (H : Hp), Inv X pins σ H s → PySem.W.FnAt f s.heap ∧
  ∀ (us : List Value) (vs : List V) (ps : List PV) (μ : List Addr) (st : Sto) (r : Out PV) (st' : Sto) (Q : VK) (W : WX), Takes X W → vs.length = np → Vals vs us → RepL c μ H ps vs → Sim c μ H st → L ps st = some (r, st') → Fin c (RepV c) μ H r st' Q (fun x y z => W x y σ z) →
    wpAny (model X.prog X.w) X.A (call (.ref f) us) (EP X pins σ Q) X.xe s
theorem hole_inv {α : Type} {o : Option (Option PV)} {m : M α} {st st' : Sto} {r : Out α} (h : (match o with
  | some none => m
  | _ => M.fail) st = some (r, st')) : o = some none ∧ m st = some (r, st') := by
  cases o with
  | none => cases h
  | some p => cases p with
    | none => exact ⟨rfl, h⟩
    | some p => cases h
def dCallL (L : List PV → M PV) (i : Nat) (as : Slo → M (List PV)) : Slo → M PV := fun ε => match ε[i]? with
  | some none => as ε >>= fun xs => L xs
  | _ => M.fail
section
variable {X : Cx} {c : Ct} {W : WX} {f : Addr} {i np : Nat} {L : List PV → M PV} {x : Str} {p pos : Pos} {e : Expr} {es : List Expr} {as : Slo → M (List PV)}
theorem ge_callL (A : Act X (c.at_ c.bs []) f np L) (hcl : (i, f) ∈ c.fs) (tk : Takes X W) (hl : ∀ ε st q st', as ε st = some (.ok q, st') → q.length = np) (hN : X.N[i]? = some x) (hv : Vis X.env.scope x) (ha : GA X c W (e :: es) as)
    (hdb : (x == ("__debug__" : Str)) = false := by decide) (hcd : (x == ("__classdict__" : Str)) = false := by decide)
    (he : starEach (e :: es) X.env = (false, eval e X.env) :: starEach es X.env := by rfl) (hpl : (backTo pos (starEach es X.env)).any (·.1) = false := by rfl) : GE X c W (.Call (.Name x p) (e :: es) [] pos) (dCallL L i as) := by
  refine ⟨fun pins s σ H Q I h => ?_⟩
  obtain ⟨ε, μ, st, r, st', hS, sm, eq, fin⟩ := h
  obtain ⟨hz, eq'⟩ := hole_inv eq
  · skip
    have hs : σ[i]? = some (some (.ref f)) := hS.fn _ hcl hz
    refine wpAny_Call_Name_kw (thn ((pe_var (pos := p) hN hv hdb hcd).run pins s σ H (fun v H1 => v = .ref f ∧ H1 = H) I ⟨.ref f, hs, rfl, rfl⟩) fun u s1 ⟨v, H1, I1, r1, ev, eH⟩ => ?_)
    subst ev
    rw [eH] at I1
    obtain rfl : u = Value.ref f := r1
    have hT : tL c W as σ H fun vs H1 => ∃ ps μ1 st1, RepL c μ1 H1 ps vs ∧ Sim c μ1 H1 st1 ∧ vs.length = np ∧ L ps st1 = some (r, st') ∧ Fin c (RepV c) μ1 H1 r st' Q (fun x y z => W x y σ z) := by
      rcases bind_inv eq' with ⟨xs, st1, e3, e4⟩ | ⟨C, fs, e3, rfl⟩
      · exact ⟨ε, μ, st, _, _, hS, sm, e3, fun vs μ1 H1 x1 rl s1 => ⟨xs, μ1, st1, rl, s1, by rw [← rl.length]; exact hl _ _ _ _ e3, e4, fin.mono x1⟩⟩
      · exact ⟨ε, μ, st, _, _, hS, sm, e3, fin⟩
    refine PySem.W.callWith_F (first := []) (A pins s1 σ H I1).1 (thn (ha.run pos pins s1 σ H _ I1 hT) fun us s2 ⟨vs, H2, I2, rv, ps, μ2, st2, rl, s2', hlen, e5, fin2⟩ => ⟨(A pins s2 σ H2 I2).1, ?_⟩) he hpl
    show wpAny _ _ (call (.ref f) us) _ _ _
    exact (A pins s2 σ H2 I2).2 us vs ps μ2 st2 r st' Q W tk hlen rv rl (s2'.rb s2'.pre) e5 (fin2.rb s2'.pre)
theorem ge_callL0 (A : Act X (c.at_ c.bs []) f 0 L) (hcl : (i, f) ∈ c.fs) (tk : Takes X W) (hN : X.N[i]? = some x) (hv : Vis X.env.scope x)
    (hdb : (x == ("__debug__" : Str)) = false := by decide) (hcd : (x == ("__classdict__" : Str)) = false := by decide) : GE X c W (.Call (.Name x p) [] [] pos) (dCallL L i aNil) := by
  refine ⟨fun pins s σ H Q I h => ?_⟩
  obtain ⟨ε, μ, st, r, st', hS, sm, eq, fin⟩ := h
  obtain ⟨hz, eq'⟩ := hole_inv eq
  · skip
    have hs : σ[i]? = some (some (.ref f)) := hS.fn _ hcl hz
    refine wpAny_Call_Name_kw (thn ((pe_var (pos := p) hN hv hdb hcd).run pins s σ H (fun v H1 => v = .ref f ∧ H1 = H) I ⟨.ref f, hs, rfl, rfl⟩) fun u s1 ⟨v, H1, I1, r1, ev, eH⟩ => ?_)
    subst ev
    rw [eH] at I1
    obtain rfl : u = Value.ref f := r1
    have eL : L [] st = some (r, st') := eq'
    refine PySem.W.callWith_F0 (A pins s1 σ H I1).1 ?_
    exact (A pins s1 σ H I1).2 [] [] [] μ st r st' Q W tk rfl .nil .nil (sm.rb sm.pre) eL (fin.rb sm.pre)
end

theorem among_keep {pos : Pos} {cv : Value} (r : List Value) : ∀ l : List Value, TriplesOk l → codeAmong pos l = some cv → codeAmong pos (l ++ r) = some cv := fun l ht h => by
  fun_induction TriplesOk l with
  | case1 => simp [codeAmong] at h
  | case2 a t b u x rest ih =>
    simp only [List.cons_append, codeAmong] at h ⊢
    split at h
    · next q =>
      rw [if_pos q]
      exact h
    · next q =>
      rw [if_neg q]
      exact ih ht h
  | case3 l h1 h2 => exact ht.elim
/-- all tables bear one name each -/
def OneName (T : List NTab) : Prop := ∀ q ∈ T, ∀ a b, q.2 a b = q.2 0 0
theorem code_ne {c : Addr} {q : Str} (ps : Array Value) : CodeO c q ≠ .tbl ps := codeO_ne ps
section
variable {X : Cx} {pins : List (Addr × Obj)} {σ : L2.St} {H : Hp} {s : Shared}
theorem tabs_of {T : List NTab} (u : OneName T) (h : TabsN T H) : Tabs (T.map fun q => (q.1, q.2 0 0)) H := by
  intro q hq
  obtain ⟨p, hp, rfl⟩ := List.mem_map.mp hq
  obtain ⟨ps, h1, h2, h3⟩ := h p hp
  refine ⟨ps, h1, h2, fun pos cv e => ?_⟩
  obtain ⟨c, e1, e2⟩ := h3 pos cv e
  exact ⟨c, e1, by rw [u p hp] at e2; exact e2⟩
theorem tabs_to {T : List NTab} (u : OneName T) (h : Tabs (T.map fun q => (q.1, q.2 0 0)) H) : TabsN T H := by
  intro p hp
  obtain ⟨ps, h1, h2, h3⟩ := h (p.1, p.2 0 0) (List.mem_map.mpr ⟨p, hp, rfl⟩)
  refine ⟨ps, h1, h2, fun pos cv e => ?_⟩
  obtain ⟨c, e1, e2⟩ := h3 pos cv e
  exact ⟨c, e1, by rw [u p hp]; exact e2⟩
/-- making a lambda: what is known behind it; its code object stands in the maker's table P -/
theorem lam_mk {T : List (Addr × Str)} {c P : Addr} {params : Arguments} {body : Expr} {scope : Scope} {pos : Pos} {E : Value → Shared → Prop} {Q : Value → Shared → Prop} (I : Inv X pins σ H s) (TB : TabB X.base X.mg c P) (hcode : X.env.code = .ref c)
    (hm : (P, X.env.qual ++ "<lambda>") ∈ T) (hu : ∀ p ∈ T, p.1 = P → p.2 = X.env.qual ++ "<lambda>") (hT : Tabs T H) (hdef : defaultsOf params X.env = ([], [])) (hfree : ∀ y ∈ scope.names, y.2 = .free → ∃ c, X.env.cells.lookup y.1 = some c)
    (h : ∀ (f c' : Addr) (pm ctv : Value) (H1 : Hp) (s' : Shared) (ps1 : Array Value), Inv X pins σ H1 s' → ExtN H H1 → Tabs T H1 →
      s'.heap.get? f = some (PySem.W.kla_obj "<lambda>" (X.env.qual ++ "<lambda>") params body scope (cloFrom X.env.cells scope.names []) pm c' ctv) → H1 f = none → H1 P = some (.tbl ps1) → TriplesOk ps1.toList → codeAmong pos ps1.toList = some (.ref c') → Q (.ref f) s') :
    wpAny (model X.prog X.w) X.A (eval (.Lambda params body scope pos) X.env) Q E s := by
  obtain ⟨ps, hP, ht, ha⟩ := hT _ hm
  have bP : s.heap.BuiltinsAt X.mg P := TB.bm.keeps I.bk
  have gP : s.heap.get? P = some { cls := .none, data := .fields ps } := I.hok P _ hP
  refine PySem.W.kla_eval hdef ?_
  cases q : codeAmong pos ps.toList with
  | some cv =>
    obtain ⟨c', rfl, hco⟩ := ha pos cv q
    refine PySem.W.kla_makeFunctionHit (mg := X.mg) (c := c) (P := P) (ps := ps) (closure_ok hfree) I.ok.glob (I.mod.glob.keeps I.bk) hcode (TB.code.keeps I.bk) gP ht q bP fun ctv h' tk kk hge => ?_
    have J : Inv X pins σ H { s with heap := h'.push (PySem.W.kla_obj "<lambda>" (X.env.qual ++ "<lambda>") params body scope (cloFrom X.env.cells scope.names []) ((X.mg "__name__").getD .none) c' ctv), toks := tk } := I.kept fun b o e => Heap.get?_push_of_some _ (kk b o e)
    exact h h'.objs.size c' _ ctv H _ ps J (ExtN.refl H) hT (Heap.get?_push_size _ rfl) (I.hok.fresh hge) hP ht q
  | none =>
    refine PySem.W.kla_makeFunction (mg := X.mg) (c := c) (P := P) (ps := ps) (closure_ok hfree) I.ok.glob (I.mod.glob.keeps I.bk) hcode (TB.code.keeps I.bk) gP ht q TB.gP bP fun c' ctv h' tk kk hge hlt hrec htb => ?_
    obtain ⟨c2, oc, vs, t, e2, hoc, hd, hv⟩ := hrec
    cases e2
    have nC : H c' = none := I.hok.fresh hge
    have hsz : s.heap.objs.size ≤ h'.objs.size := Nat.le_trans hge (Nat.le_of_lt hlt)
    generalize hmore : (#[rawInt pos.line, rawInt pos.col, .ref c'] : Array Value) = more at htb
    have J := inv_table (t' := tk) (more := more) (h' := h'.push (PySem.W.kla_obj "<lambda>" (X.env.qual ++ "<lambda>") params body scope (cloFrom X.env.cells scope.names []) ((X.mg "__name__").getD .none) c' ctv)) I hP (fun b o hb e => Heap.get?_push_of_some _ (kk b o hb e)) (Heap.get?_push_of_some _ htb) hge
      ⟨oc, vs, t, Heap.get?_push_of_some _ hoc, hd, hv⟩
    have atP : upd (upd H P (.tbl (ps ++ more))) c' (CodeO c' (X.env.qual ++ "<lambda>")) P = some (.tbl (ps ++ more)) := by rw [upd_ne (ne_of_none hP nC), upd_same]
    have eL : (ps ++ more).toList = ps.toList ++ [rawInt pos.line, rawInt pos.col, .ref c'] := by
      rw [← hmore]
      simp
    have xN : ExtN H (upd (upd H P (.tbl (ps ++ more))) c' (CodeO c' (X.env.qual ++ "<lambda>"))) := fun b o e nt => by
      have nb : b ≠ P := fun z => nt ps (Option.some.inj (e.symm.trans (z ▸ hP)))
      rw [upd_ne (ne_of_none e nC), upd_ne nb]
      exact e
    have ok3 : TriplesOk (ps ++ more).toList := by rw [eL]; exact PySem.TriplesOk_snoc _ _ _ _ ht
    refine h h'.objs.size c' _ ctv _ _ (ps ++ more) J xN (fun p hp => ?_) (Heap.get?_push_size _ rfl) ?_ atP ok3 (by rw [eL]; exact codeAmong_snoc _ ht q)
    · by_cases hb : p.1 = P
      · rw [hu p hp hb, hb]
        refine ⟨_, atP, ok3, fun p' cv e => ?_⟩
        rw [eL] at e
        rcases among_app _ ht e with z | z
        · obtain ⟨c0, e1, e2⟩ := ha p' cv z
          exact ⟨c0, e1, xN _ _ e2 codeO_ne⟩
        · exact ⟨c', z, upd_same⟩
      · obtain ⟨ps', a1, a2, a3⟩ := hT p hp
        refine ⟨ps', by rw [upd_ne (ne_of_none a1 nC), upd_ne hb]; exact a1, a2, fun p' cv e => ?_⟩
        obtain ⟨c0, e1, e2⟩ := a3 p' cv e
        exact ⟨c0, e1, xN _ _ e2 codeO_ne⟩
    · have n2 : h'.objs.size ≠ P := Nat.ne_of_gt (Nat.lt_of_lt_of_le (Heap.lt_size gP) hsz)
      rw [upd_ne (Nat.ne_of_gt hlt), upd_ne n2]
      exact I.hok.fresh hsz
end
/-- behind the making: places and tuples are as they were -/
theorem Sim.extN {c : Ct} {μ : List Addr} {H H1 : Hp} {st : Sto} (s : Sim c μ H st) (x : ExtN H H1) (t : TabsN c.T H1) : Sim c μ H1 st ∧ Ext c μ H μ H1 := by
  have xx : Ext c μ H μ H1 := ⟨List.prefix_refl _, (fun a vs e => x a _ e (fun _ z => nomatch z)), (fun a o u e => x a _ e (fun _ z => nomatch z)), (fun a u e => x a _ e (fun _ z => nomatch z))⟩
  refine ⟨⟨s.nd, s.len, fun n a ob h1 h2 => ?_, t, ?_, s.pre⟩, xx⟩
  · have q := s.ob n a ob h1 h2
    cases ob with
    | lst xs => obtain ⟨vs, g, r⟩ := q; exact ⟨vs, x a _ g (fun _ z => nomatch z), r.mono xx⟩
    | dK kvs => obtain ⟨vs, g, r⟩ := q; exact ⟨vs, x a _ g (fun _ z => nomatch z), r.mono xx⟩
    | dT kvs => obtain ⟨vs, g, r⟩ := q; exact ⟨vs, x a _ g (fun _ z => nomatch z), r.mono xx⟩
    | ins C fs => obtain ⟨dx, vs, g, r⟩ := q; exact ⟨dx, vs, x a _ g (fun _ z => nomatch z), r.mono xx⟩
    | fK kvs => obtain ⟨od, vs, g, r⟩ := q; exact ⟨od, vs, x a _ g (fun _ z => nomatch z), r.mono xx⟩
    | fT kvs => obtain ⟨od, vs, g, r⟩ := q; exact ⟨od, vs, x a _ g (fun _ z => nomatch z), r.mono xx⟩
  · rcases s.scr with h | ⟨h, hn⟩
    · exact .inl h
    · refine .inr ⟨?_, hn⟩
      rcases h with h | ⟨o, h⟩
      · exact .inl (x _ _ h fun _ z => nomatch z)
      · exact .inr ⟨o, x _ _ h fun _ z => nomatch z⟩
end G
namespace G
open PySem PySem.Spec PyProof.Rows L2 LamX NdefX

def lamD (n : Nat) (d : Slo → M PV) (caps : List PV) : List PV → M PV := fun xs => d (xs.map some ++ (caps.map some ++ List.replicate (n - xs.length - caps.length) none))
theorem RepS.startF {c : Ct} {μ : List Addr} {H : Hp} {N : List Str} {ps cs : List PV} {vs ws : List V} (h : RepL c μ H ps vs) (h' : RepL c μ H cs ws) (hf : c.fs = [] ∧ c.xs = []) : RepS c μ H (ps.map some ++ (cs.map some ++ List.replicate (N.length - ps.length - cs.length) none)) (NdefX.startF N vs (ws.map some)) := by
  unfold NdefX.startF
  have l1 := h.length
  have l2 := h'.length
  refine ⟨by simp [l1, l2], fun i p e => ?_, (by rw [hf.1]; exact fun _ z => nomatch z), (by rw [hf.2]; exact fun _ z => nomatch z)⟩
  by_cases hi : i < ps.length
  · rw [List.getElem?_append_left (by simpa using hi), List.getElem?_map] at e
    cases z : ps[i]? with
    | none => rw [z] at e; cases e
    | some q =>
      rw [z] at e
      cases e
      obtain ⟨v, ev, rv⟩ := h.get z
      refine ⟨v, ?_, rv⟩
      rw [List.getElem?_append_left (by rw [List.length_map, ← l1]; exact hi), List.getElem?_map, ev]
      rfl
  · rw [List.getElem?_append_right (by simpa using Nat.le_of_not_lt hi), List.length_map] at e
    have e0 : (vs.map some).length = ps.length := by rw [List.length_map, l1]
    rw [List.getElem?_append_right (by rw [e0]; exact Nat.le_of_not_lt hi), e0]
    by_cases hj : i - ps.length < cs.length
    · rw [List.getElem?_append_left (by simpa using hj), List.getElem?_map] at e
      cases z : cs[i - ps.length]? with
      | none => rw [z] at e; cases e
      | some q =>
        rw [z] at e
        cases e
        obtain ⟨v, ev, rv⟩ := h'.get z
        refine ⟨v, ?_, rv⟩
        rw [List.getElem?_append_left (by rw [List.length_map, ← l2]; exact hj), List.getElem?_map, ev]
        rfl
    · rw [List.getElem?_append_right (by simpa using Nat.le_of_not_lt hj), List.getElem?_replicate] at e
      split at e <;> cases e
section
variable {X : Cx} {cl : List (Str × Addr)} {fr : List Str} {ws : List (Option V)} {pins : List (Addr × Obj)} {σ : L2.St} {H : Hp} {s : Shared}
theorem cells_lat (C : CellsAt cl fr ws X.s_0.heap X.H_0) (hx : X.ex = []) (I : Inv X pins σ H s) : CellsAt cl fr ws s.heap H := by
  have nx : ∀ b, b ∉ X.ex := fun b z => by rw [hx] at z; cases z
  have kp : ∀ y a, cl.lookup y = some a → ∀ v, X.s_0.heap.IsCell a v → s.heap.IsCell a v := fun y a e v ⟨o, ho, hd⟩ => by
    obtain ⟨sl, q⟩ := I.base.any ho (C.all y a e).1 (nx a)
    exact ⟨_, q, hd⟩
  refine ⟨C.len, fun y a e => ?_, C.inj, fun i y e => ?_⟩
  · obtain ⟨n, v, z⟩ := C.all y a e
    have z2 := z
    obtain ⟨o, ho, _⟩ := z2
    exact ⟨I.base.free a o ho n (nx a), v, kp y a e v z⟩
  · obtain ⟨a, ha, hv⟩ := C.has i y e
    exact ⟨a, ha, fun v ev => by
      obtain ⟨u, r, z⟩ := hv v ev
      exact ⟨u, r, kp y a ha _ z⟩⟩
end
/-- a lambda's words -/
structure LamW where
  qual : Str
  params : Arguments
  body : Expr
  scope : Scope
abbrev LamW.nf (F : LamW) (cl : List (Str × Addr)) (c' : Addr) : NF := ⟨"<lambda>", F.qual, F.params, [], F.scope, cl, c'⟩
/-- its body's derivation, at every frame -/
def LamB (P : Program) (w : World) (K : PySem.W.Frag) (mg : Str → Option Value) (base : Heap) (c : Ct) (k : Nat) (N : List Str) (F : LamW) (d : Slo → M PV) : Prop :=
  ∀ (cl : List (Str × Addr)) (c' f : Addr) (A : Around) (outer : List Env) (s : Shared) (H : Hp) (E : XK), Rm k (A.deeper (envF (F.nf cl c') f s.heap.objs.size)) →
    GE (ncx (CX P w) P w K mg base N (F.nf cl c') f A outer s H E) c (fun cls d _ H => E cls d H) F.body d
section
variable {P : Program} {w : World} {K : PySem.W.Frag} {mg : Str → Option Value} {base : Heap} {c : Ct} {k : Nat} {N ps fr : List Str} {F : LamW} {d : Slo → M PV}
theorem act_lam {X : Cx} {f c' Pt : Addr} {cl : List (Str × Addr)} {pm ctv : Value} {pos : Pos} {ps1 : Array Value} {caps : List PV} {ws : List V} (hP : X.prog = P) (hw : X.w = w) (hKK : X.K = K) (hmg : X.mg = mg) (hbs : X.base = base)
    (hB : LamB P w K mg base c k N F d) (S : NScope N ps fr F.scope) (hex : X.ex = []) (hr : Rm (k + 1) X.A) (hbind : ∀ us : List Value, us.length = ps.length → bindArgs (PySem.W.kla_fn "<lambda>" F.qual F.params F.body F.scope cl pm (.ref c') ctv) ⟨us, []⟩ = pure (ps.zip us))
    (hf : X.s_0.heap.get? f = some (PySem.W.kla_obj "<lambda>" F.qual F.params F.body F.scope cl pm c' ctv)) (hfn : X.H_0 f = none) (hPt : X.H_0 Pt = some (.tbl ps1)) (hok : TriplesOk ps1.toList) (ham : codeAmong pos ps1.toList = some (.ref c')) (hT : ∃ nm, (Pt, nm) ∈ c.T ∧ nm pos.line pos.col = F.qual)
    (C : CellsAt cl fr (ws.map some) X.s_0.heap X.H_0) (rc : RepL c c.bs X.H_0 caps ws) (hfs : c.fs = [] ∧ c.xs = [] := by exact ⟨rfl, rfl⟩) : Act X c f ps.length (lamD N.length d caps) := by
  subst hP hw hKK hmg hbs
  intro pins s σ H I
  have nx : ∀ b, b ∉ X.ex := fun b z => by rw [hex] at z; cases z
  obtain ⟨sl, of1⟩ := I.base.any hf hfn (nx f)
  refine ⟨⟨_, _, _, _, of1⟩, fun us vs pvs μ st r st' Q W tk hl rv rl sm e fin => ?_⟩
  obtain ⟨more, hm⟩ := I.base.tbls Pt ps1 hPt
  obtain ⟨nm, hn1, hn2⟩ := hT
  obtain ⟨ps2, a1, a2, a3⟩ := sm.tabs (Pt, nm) hn1
  have : ps2 = ps1 ++ more := by
    have a1' : H Pt = some (.tbl ps2) := a1
    rw [hm] at a1'
    cases a1'
    rfl
  subst this
  have am2 : codeAmong pos (ps1 ++ more).toList = some (.ref c') := by
    rw [Array.toList_append]
    exact among_keep _ _ hok ham
  obtain ⟨c2, e2, e3⟩ := a3 pos _ am2
  cases e2
  have hrec : s.heap.CodeRec (.ref c') F.qual := by
    have := codeO_at I.hok e3
    rw [← hn2]
    exact this
  have C2 := cells_lat C hex I
  have lim := I.nolimit
  refine wpAny_call (codeAny_mono (R := CR (CX X.prog X.w) X.stack X.prog X.w H s Q (WE W σ)) ?_ fun r s' hq => run_end tk I hq)
  refine PySem.W.kla_callFunE hr.room.depth of1 rfl S.co S.gen rfl hrec ?_
  rw [hbind us (by rw [← rv.length]; exact hl)]
  refine wpAny_pure (wpAny_newFunctionEnv S.nocell (fun ⟨n, _⟩ hy => S.par n (List.of_mem_zip hy).1) (fun h₁ hns hsb => ⟨lim.fresh _ hsb, ?_⟩) S.kind)
  show codeAny _ _ (.expr F.body (envF (F.nf cl c') f s.heap.objs.size)) _ _
  have kp : ∀ b o, s.heap.get? b = some o → h₁.get? b = some o := fun b o z => hsb.extBut b o (Nat.ne_of_lt (Heap.lt_size z)) (Heap.get?_push_of_some _ z)
  have J : Inv (ncx (CX X.prog X.w) X.prog X.w X.K X.mg X.base N (F.nf cl c') f X.A X.stack s H (WE W σ)) [] (startF N vs (ws.map some)) H { s with heap := h₁, toks := s.toks + (ps.zip us).length } := inv_startN S hr.room.hd I.env0 hl rv C2 hns kp
  have rc2 : RepL c μ H caps ws := RepL0.up sm.pre I.base.tups rc
  have hT2 : tD c (fun cls d _ H => WE W σ cls d H) d (startF N vs (ws.map some)) H Q := ⟨_, μ, st, r, st', RepS.startF rl rc2 hfs, sm, e, fin⟩
  refine PySem.W.kla_codeExpr (wpAny_mono ((hB cl c' f X.A X.stack s H (WE W σ) (hr.deeper _)).run [] _ _ H Q J hT2) (fun v s' hq => ?_) fun e s' hq => hq)
  obtain ⟨w', H', J', rv', q⟩ := hq
  exact ⟨w', H', J'.os, J'.bare, J'.base, J'.hok, rv', q⟩
end

/-- the slots' values -/
def capsAt (js : List Nat) (ε : Slo) : Option (List PV) := js.mapM fun j => (ε[j]?).join
/-- a def that holds a function: what it begins with; a hole where the function stands -/
def fnF (n : Nat) (b : SM) (ps : List (Option PV)) : M PV := fun st => match b (ps ++ List.replicate (n - ps.length) none) st with
  | some (.nx _, st') => some (.ok .non, st')
  | some (.rt p, st') => some (.ok p, st')
  | some (.ex C fs _, st') => some (.ex C fs, st')
  | _ => none
def dLam (ng n : Nat) (b : (List PV → M PV) → SM) (d : Slo → M PV) (js : List Nat) (as : Slo → M (List PV)) : Slo → M PV := fun ε => do
  let xs ← as ε
  let caps ← lift (capsAt js ε)
  fnF ng (b (lamD n d caps)) (xs.map some ++ [none])
theorem fn_inF {c : Ct} {N : List Str} {b : SM} {r : Out PV} {μ : List Addr} {H : Hp} {st st' : Sto} {ps : List (Option PV)} {vs : List V} {Q : VK} {E : XK} (ra : RepA c μ H ps vs) (hf : ∀ q ∈ c.fs, vs[q.1]? = some (.ref q.2)) (hx : c.xs = []) (sm : Sim c μ H st) (e : fnF N.length b ps st = some (r, st')) (fin : Fin c (RepV c) μ H r st' Q E) :
    tS c (fun cls d _ H => E cls d H) b { nx := fun _ H' => Q .non H', rt := Q } (start N vs) H := by
  unfold fnF at e
  cases q : b (ps ++ List.replicate (N.length - ps.length) none) st with
  | none => rw [q] at e; cases e
  | some p =>
    obtain ⟨r1, st1⟩ := p
    rw [q] at e
    refine ⟨_, μ, st, r1, st1, RepS.startA (N := N) ra hf hx, sm, q, ?_⟩
    cases r1 with
    | nx ε => cases e; exact fun μ' H' σ x' _ s' => fin .non μ' H' x' .non s'
    | rt p => cases e; exact fun v μ' H' x' rv s' => fin v μ' H' x' rv s'
    | bk ε => cases e
    | ct ε => cases e
    | ex C fs ε => cases e; exact fun d μ' H' σ x' _ rx s' => fin d μ' H' x' rx s'
theorem caps_ok {c : Ct} {μ : List Addr} {H : Hp} {ε : Slo} {σ : L2.St} (hS : RepS c μ H ε σ) : ∀ {js : List Nat} {caps : List PV}, capsAt js ε = some caps → ∃ ws : List V, js.map (slotAt σ) = ws.map some ∧ RepL c μ H caps ws
  | [], _, e => by
    simp [capsAt] at e
    subst e
    exact ⟨[], rfl, .nil⟩
  | j :: js, _, e => by
    unfold capsAt at e
    rw [List.mapM_cons] at e
    cases z : (ε[j]?).join with
    | none => rw [z] at e; cases e
    | some p =>
      cases z2 : js.mapM fun j => (ε[j]?).join with
      | none => rw [z, z2] at e; cases e
      | some r =>
        rw [z, z2] at e
        cases e
        obtain ⟨ws, h1, h2⟩ := caps_ok hS (js := js) z2
        have e3 : ε[j]? = some (some p) := by
          cases y : ε[j]? with
          | none => rw [y] at z; cases z
          | some q =>
            rw [y] at z
            have z' : q = some p := z
            rw [z']
        obtain ⟨v, h3, h4⟩ := hS.at_ j p e3
        refine ⟨v :: ws, ?_, .cons h4 h2⟩
        rw [List.map_cons, List.map_cons, slotAt_of h3, h1]
/-- the def that is handed the function: its body's derivation, by what the function does -/
def TakesFn (P : Program) (w : World) (K : PySem.W.Frag) (mg : Str → Option Value) (base : Heap) (c : Ct) (kg : Nat) (g : Addr) (Ng : List Str) (qg : Str) (sg : Scope) (bg : List Stmt) (i np : Nat) (b : (List PV → M PV) → SM) : Prop :=
  ∀ (cdv : Value) (A : Around) (outer : List Env) (s : Shared) (H : Hp) (E : XK) (f : Addr) (L : List PV → M PV) (bs : List Addr), Rm kg (A.deeper (envOfC qg sg s.heap.objs.size g cdv)) → (∀ pn xe, Act ((cxOf (CX P w) P w K mg base Ng qg sg g cdv A outer s H E).tr pn xe) (c.at_ bs []) f np L) →
    GSs (cxOf (CX P w) P w K mg base Ng qg sg g cdv A outer s H E) (c.at_ bs [(i, f)]) (fun cls d _ H => E cls d H) bg (b L)
section
variable {X : Cx} {c : Ct} {W : WX} {kg kl : Nat} {g cc Pt : Addr} {fdg : FuncData} {x qg a1 : Str} {pg : Arguments} {bg : List Stmt} {sg : Scope} {dvs : List V} {kws : List (Str × V)} {Ng N ps fr as0 : List Str} {js : List Nat} {b : (List PV → M PV) → SM} {F : LamW} {d de : Slo → M PV} {as : Slo → M (List PV)} {e : Expr} {p lpos pos : Pos}
/-- behind the arguments: the lambda made, the def called -/
theorem run_lam {pins : List (Addr × Obj)} {σ : St} {H1 : Hp} {s1 : Shared} {Q : VK} {us : List Value} {vs : List V} {pvs : List PV} {μ1 : List Addr} {ε : Slo} {st1 st' : Sto} {r : Out PV} {caps : List PV} {R : Value → Shared → Prop}
    (Fg : FunD X.K x qg pg bg sg dvs kws g fdg) (Sg : FnScope Ng (as0 ++ [a1]) sg) (hTF : ∀ bs, TakesFn X.prog X.w X.K X.mg X.base (c.at_ bs []) kg g Ng qg sg bg as0.length ps.length b) (hT1 : OneName c.T) (hB : ∀ bs, LamB X.prog X.w X.K X.mg X.base (c.at_ bs []) kl N F d) (S : NScope N ps fr F.scope)
    (hq : F.qual = X.env.qual ++ "<lambda>") (hb : ∀ (cl : List (Str × Addr)) (pm cv ctv : Value) (us : List Value), us.length = ps.length → bindArgs (PySem.W.kla_fn "<lambda>" F.qual F.params F.body F.scope cl pm cv ctv) ⟨us, []⟩ = pure (ps.zip us)) (hbg : L2.Binds X.K fdg (as0 ++ [a1]) [])
    (TB : TabB X.base X.mg cc Pt) (hcode : X.env.code = .ref cc) (hTm : ∃ nm, (Pt, nm) ∈ c.T ∧ nm 0 0 = F.qual) (hTu : ∀ q ∈ c.T, q.1 = Pt → q.2 0 0 = F.qual) (hr : Rm (kg + 1) X.A) (hk : kl + 1 ≤ kg)
    (hfree : ∀ y ∈ F.scope.names, y.2 = .free → X.env.scope.names.lookup y.1 = some .cell ∨ X.env.scope.names.lookup y.1 = some .free) (hfr : ∀ y ∈ fr, (y, NameKind.free) ∈ F.scope.names) (hjs : js.map (fun j => X.N[j]?) = fr.map some) (hdef : defaultsOf F.params X.env = ([], []))
    (tk : Takes X W) (hxs : c.xs = []) (hl : vs.length = as0.length) (I1 : Inv X pins σ H1 s1) (rv : Vals vs us) (rx : RepL c μ1 H1 pvs vs) (hS1 : RepS c μ1 H1 ε σ) (sm1 : Sim c μ1 H1 st1) (ec : capsAt js ε = some caps) (er : fnF Ng.length (b (lamD N.length d caps)) (pvs.map some ++ [none]) st1 = some (r, st')) (fin1 : Fin c (RepV c) μ1 H1 r st' Q (fun x y z => W x y σ z))
    (cont : ∀ (f : Addr) (s2 : Shared), X.K.In s2.heap → wpAny (model X.prog X.w) X.A (call (.ref g) (us ++ [.ref f])) (EP X pins σ Q) X.xe s2 → R (.ref f) s2) :
    wpAny (model X.prog X.w) X.A (eval (.Lambda F.params F.body F.scope lpos) X.env) R X.xe s1 := by
  obtain ⟨oc, od, dV, kV, doc, pm0, an, cdv, ct, osl, rfl, lk, hcd, _, _⟩ := Fg.ex
  obtain ⟨nm, hn1, hn2⟩ := hTm
  have tb1 := tabs_of hT1 sm1.tabs
  have hfr2 : ∀ y ∈ F.scope.names, y.2 = .free → ∃ c, X.env.cells.lookup y.1 = some c := fun y hy z => by
    rcases hfree y hy z with k | k
    · exact I1.ok.has _ (.inl k)
    · exact I1.ok.has _ (.inr k)
  have hm1 : (Pt, X.env.qual ++ "<lambda>") ∈ c.T.map fun q => (q.1, q.2 0 0) := List.mem_map.mpr ⟨(Pt, nm), hn1, by rw [← hq, ← hn2]⟩
  have hu1 : ∀ q ∈ c.T.map fun q => (q.1, q.2 0 0), q.1 = Pt → q.2 = X.env.qual ++ "<lambda>" := fun q hq' hp => by
    obtain ⟨q', h1, rfl⟩ := List.mem_map.mp hq'
    rw [← hq]
    exact hTu q' h1 hp
  refine lam_mk I1 TB hcode hm1 hu1 tb1 hdef hfr2 fun f c' pm ctv H2 s2 ps1 I2 xN tb2 hf hfn hPt hok ham => cont f s2 I2.kIn ?_
  obtain ⟨sm2, x2⟩ := sm1.extN xN (tabs_to hT1 tb2)
  have cp := Caps.made (X := X) (scope := F.scope) (fr := fr) (js := js) I2.ok hfree hfr hjs
  obtain ⟨ws, hws, rws⟩ := caps_ok (hS1.mono x2) ec
  have C0 := cells_of I2 cp
  rw [hws] at C0
  rw [← hq] at hf
  have ev_ : (vs ++ [V.ref f])[as0.length]? = some (.ref f) := by rw [← hl]; simp
  have lu : us.length = as0.length := rv.length.symm.trans hl
  refine wpAny_call (codeAny_mono (R := CR (CX X.prog X.w) X.stack X.prog X.w H2 s2 Q (WE W σ)) ?_ fun r s' hq => run_end tk I2 hq)
  refine run_ofS (N := Ng) (ps := as0 ++ [a1]) (us := us ++ [.ref f]) (vs := vs ++ [.ref f]) lk hcd Sg hr.room I2.env0 ?_ (rv.append (show Vals [V.ref f] [Value.ref f] from .cons rfl .nil)) (by rw [List.length_append, List.length_append, hl]; rfl) fun hr' => ?_
  · have := hbg s2 (us ++ [.ref f]) I2.kIn (by rw [List.append_nil, List.length_append, List.length_append, lu]; rfl)
    rw [List.append_nil] at this
    exact this
  have rm : Rm kg (X.A.deeper (envOfC qg sg s2.heap.objs.size g cdv)) := ⟨hr', hr.gd⟩
  have act : ∀ pn xe, Act ((cxOf (CX X.prog X.w) X.prog X.w X.K X.mg X.base Ng qg sg g cdv X.A X.stack s2 H2 (WE W σ)).tr pn xe) ((c.at_ μ1 []).at_ μ1 []) f ps.length (lamD N.length d caps) := fun pn xe =>
    act_lam (X := (cxOf (CX X.prog X.w) X.prog X.w X.K X.mg X.base Ng qg sg g cdv X.A X.stack s2 H2 (WE W σ)).tr pn xe) rfl rfl rfl rfl rfl (hB μ1) S rfl (rm.mono hk) (hb _ _ _ _) hf hfn hPt hok ham ⟨nm, hn1, (hT1 _ hn1 _ _).trans hn2⟩ C0 rws ⟨rfl, hxs⟩
  refine ⟨_, hTF μ1 cdv X.A X.stack s2 H2 (WE W σ) f (lamD N.length d caps) μ1 rm act, ?_⟩
  have rl2 : RepA (c.at_ μ1 [(as0.length, f)]) μ1 H2 (pvs.map some ++ [none]) (vs ++ [.ref f]) := by
    have ra := (rx.mono x2).repA
    refine ⟨by rw [List.length_append, List.length_append, ra.1]; rfl, fun i p e => ?_⟩
    by_cases hi : i < (pvs.map some).length
    · rw [List.getElem?_append_left hi] at e
      obtain ⟨v, h1, h2⟩ := ra.2 i p e
      exact ⟨v, by rw [List.getElem?_append_left (by rw [← ra.1]; exact hi)]; exact h1, h2⟩
    · rw [List.getElem?_append_right (Nat.le_of_not_lt hi)] at e
      cases z : i - (pvs.map some).length with
      | zero => rw [z] at e; cases e
      | succ m => rw [z] at e; cases e
  refine fn_inF rl2 (fun q hq => ?_) hxs (sm2.rb (List.prefix_refl _)) er ?_
  · have : q = (as0.length, f) := by simpa using hq
    rw [this]
    exact ev_
  · exact Fin.rb (c := c) (bs := μ1) (fs := [(as0.length, f)]) sm1.pre (fin1.mono x2)
theorem ge_lam (Fg : FunD X.K x qg pg bg sg dvs kws g fdg) (Sg : FnScope Ng (as0 ++ [a1]) sg) (hTF : ∀ bs, TakesFn X.prog X.w X.K X.mg X.base (c.at_ bs []) kg g Ng qg sg bg as0.length ps.length b) (hT1 : OneName c.T) (hB : ∀ bs, LamB X.prog X.w X.K X.mg X.base (c.at_ bs []) kl N F d) (S : NScope N ps fr F.scope)
    (hq : F.qual = X.env.qual ++ "<lambda>") (hb : ∀ (cl : List (Str × Addr)) (pm cv ctv : Value) (us : List Value), us.length = ps.length → bindArgs (PySem.W.kla_fn "<lambda>" F.qual F.params F.body F.scope cl pm cv ctv) ⟨us, []⟩ = pure (ps.zip us)) (hbg : L2.Binds X.K fdg (as0 ++ [a1]) [])
    (TB : TabB X.base X.mg cc Pt) (hcode : X.env.code = .ref cc) (hTm : ∃ nm, (Pt, nm) ∈ c.T ∧ nm 0 0 = F.qual) (hTu : ∀ q ∈ c.T, q.1 = Pt → q.2 0 0 = F.qual) (hr : Rm (kg + 1) X.A) (hk : kl + 1 ≤ kg)
    (hfree : ∀ y ∈ F.scope.names, y.2 = .free → X.env.scope.names.lookup y.1 = some .cell ∨ X.env.scope.names.lookup y.1 = some .free) (hfr : ∀ y ∈ fr, (y, NameKind.free) ∈ F.scope.names) (hjs : js.map (fun j => X.N[j]?) = fr.map some) (hdef : defaultsOf F.params X.env = ([], []))
    (tk : Takes X W) (hxs : c.xs = []) (hl : as0.length = 1) (hg : Gl X x) (hm : X.mg x = some (.ref g)) (ha : GE X c W e de) (hdb : (x == ("__debug__" : Str)) = false := by decide)
    (he : starEach [e, .Lambda F.params F.body F.scope lpos] X.env = (false, eval e X.env) :: (false, eval (.Lambda F.params F.body F.scope lpos) X.env) :: starEach [] X.env := by rfl)
    (he2 : starEach [.Lambda F.params F.body F.scope lpos] X.env = (false, eval (.Lambda F.params F.body F.scope lpos) X.env) :: starEach [] X.env := by rfl) :
    GE X c W (.Call (.Name x p) [e, .Lambda F.params F.body F.scope lpos] [] pos) (dLam Ng.length N.length b d js (aCons de aNil)) := by
  refine ⟨fun pins s σ H Q I h => ?_⟩
  obtain ⟨ε, μ, st, r, st', hS, sm, eq, fin⟩ := h
  refine wpAny_Call_Name_kw (ld_glob I hg hm ?_ hdb)
  refine PySem.W.callWith_K (h₀ := X.base) I.ok.mod.kin Fg.kp ?_ (by rw [he, he2]) (by rw [he2]; rfl)
  rw [he]
  show wpAny _ _ (spliced ((false, eval e X.env) :: (false, eval (.Lambda F.params F.body F.scope lpos) X.env) :: [])) _ _ s
  have eq0 : (de ε >>= fun x => (lift (capsAt js ε) >>= fun caps => fnF Ng.length (b (lamD N.length d caps)) ([x].map some ++ [none]) : M PV)) st = some (r, st') := by
    have e1 : ((de ε >>= fun x => (pure [x] : M (List PV))) >>= fun xs => (lift (capsAt js ε) >>= fun caps => fnF Ng.length (b (lamD N.length d caps)) (xs.map some ++ [none]) : M PV)) st = some (r, st') := eq
    rw [bind_run, bind_run] at e1
    rw [bind_run]
    cases z : de ε st with
    | none => rw [z] at e1; exact e1
    | some q =>
      obtain ⟨o, st1⟩ := q
      rw [z] at e1
      cases o with
      | ok a => exact e1
      | ex C fs => exact e1
  have hT : tD c W de σ H fun v H1 => ∃ (pv : PV) (μ1 : List Addr) (st1 : Sto) (caps : List PV), RepV c μ1 H1 pv v ∧ RepS c μ1 H1 ε σ ∧ Sim c μ1 H1 st1 ∧ capsAt js ε = some caps ∧ fnF Ng.length (b (lamD N.length d caps)) ([pv].map some ++ [none]) st1 = some (r, st') ∧ Fin c (RepV c) μ1 H1 r st' Q (fun x y z => W x y σ z) := by
    refine step eq0 hS sm fin fun pv v st1 μ1 H1 e1 x1 rx s1 hS1 fin1 => ?_
    obtain ⟨caps, ec, e2⟩ := bind_lift e1
    exact ⟨pv, μ1, st1, caps, rx, hS1, s1, ec, e2, fin1⟩
  refine Calls.spliced_cons (thn (ha.run pins s σ H _ I hT) fun u s1 ⟨v, H1, I1, rv, pv, μ1, st1, caps, rx, hS1, sm1, ec, er, fin1⟩ => ?_)
  refine Calls.spliced_cons (run_lam (us := [u]) (vs := [v]) (pvs := [pv]) Fg Sg hTF hT1 hB S hq hb hbg TB hcode hTm hTu hr hk hfree hfr hjs hdef tk hxs (by rw [hl]; rfl) I1 (.cons rv .nil) (.cons rx .nil) hS1 sm1 ec er fin1 fun f s2 kin w => ?_)
  exact Calls.spliced_nil ⟨kin, w⟩
theorem ge_lam0 (Fg : FunD X.K x qg pg bg sg dvs kws g fdg) (Sg : FnScope Ng ([] ++ [a1]) sg) (hTF : ∀ bs, TakesFn X.prog X.w X.K X.mg X.base (c.at_ bs []) kg g Ng qg sg bg ([] : List Str).length ps.length b) (hT1 : OneName c.T) (hB : ∀ bs, LamB X.prog X.w X.K X.mg X.base (c.at_ bs []) kl N F d) (S : NScope N ps fr F.scope)
    (hq : F.qual = X.env.qual ++ "<lambda>") (hb : ∀ (cl : List (Str × Addr)) (pm cv ctv : Value) (us : List Value), us.length = ps.length → bindArgs (PySem.W.kla_fn "<lambda>" F.qual F.params F.body F.scope cl pm cv ctv) ⟨us, []⟩ = pure (ps.zip us)) (hbg : L2.Binds X.K fdg ([] ++ [a1]) [])
    (TB : TabB X.base X.mg cc Pt) (hcode : X.env.code = .ref cc) (hTm : ∃ nm, (Pt, nm) ∈ c.T ∧ nm 0 0 = F.qual) (hTu : ∀ q ∈ c.T, q.1 = Pt → q.2 0 0 = F.qual) (hr : Rm (kg + 1) X.A) (hk : kl + 1 ≤ kg)
    (hfree : ∀ y ∈ F.scope.names, y.2 = .free → X.env.scope.names.lookup y.1 = some .cell ∨ X.env.scope.names.lookup y.1 = some .free) (hfr : ∀ y ∈ fr, (y, NameKind.free) ∈ F.scope.names) (hjs : js.map (fun j => X.N[j]?) = fr.map some) (hdef : defaultsOf F.params X.env = ([], []))
    (tk : Takes X W) (hxs : c.xs = []) (hg : Gl X x) (hm : X.mg x = some (.ref g)) (hdb : (x == ("__debug__" : Str)) = false := by decide)
    (he2 : starEach [.Lambda F.params F.body F.scope lpos] X.env = (false, eval (.Lambda F.params F.body F.scope lpos) X.env) :: starEach [] X.env := by rfl) :
    GE X c W (.Call (.Name x p) [.Lambda F.params F.body F.scope lpos] [] pos) (dLam Ng.length N.length b d js aNil) := by
  refine ⟨fun pins s σ H Q I h => ?_⟩
  obtain ⟨ε, μ, st, r, st', hS, sm, eq, fin⟩ := h
  refine wpAny_Call_Name_kw (ld_glob I hg hm ?_ hdb)
  refine PySem.W.callWith_K (h₀ := X.base) I.ok.mod.kin Fg.kp ?_ he2 rfl
  rw [he2]
  show wpAny _ _ (spliced ((false, eval (.Lambda F.params F.body F.scope lpos) X.env) :: [])) _ _ s
  have eq0 : (lift (capsAt js ε) >>= fun caps => fnF Ng.length (b (lamD N.length d caps)) (([] : List PV).map some ++ [none]) : M PV) st = some (r, st') := eq
  obtain ⟨caps, ec, er⟩ := bind_lift eq0
  refine Calls.spliced_cons (run_lam (us := []) (vs := []) (pvs := []) Fg Sg hTF hT1 hB S hq hb hbg TB hcode hTm hTu hr hk hfree hfr hjs hdef tk hxs rfl I .nil .nil hS sm ec er fin fun f s2 kin w => ?_)
  exact Calls.spliced_nil ⟨kin, w⟩
end
end G
namespace G
open PySem PySem.Spec PyProof.Rows L2 LamX NdefX

section
variable {P : Program} {w : World} {K : PySem.W.Frag} {mg mb : Str → Option Value} {k : Nat} {fa a : Addr} {cs : List (Addr × Addr)} {fd : FuncData} {x : Str} {sp : Sp} {s1 : Shared} {vs : List Value} {ns : List Int}
/-- the abstract heap at the law's call, told apart: the tables, the script perhaps -/
structure At0 (cs : List (Addr × Addr)) (K : PySem.W.Frag) (a : Addr) (ns : List Int) (P : Program) (w : World) (h : Heap) (H : Hp) : Prop where
  tb : ∀ p ∈ cs, H p.2 = some (.tbl #[])
  of : ∀ b, H b = none ∨ b ∈ cs.map (·.2) ∨ ∃ o xs, H b = some (.frz o (.lst xs))
  sq : SqL K H a (ns.map V.int)
  ok : HOk P w H h
  on : ∀ b, H b ≠ none → b = a ∨ b ∈ cs.map (·.2)
  ka : H a ≠ none → K.lookup a = none
theorem law_at (KX : K.In s1.heap) (hns : s1.heap.Ns mainGlobals mg) (hb : s1.heap.Ns builtinsNs mb) (hbb : ∀ x : Str, x ≠ "__name__" → mb x = bootBuiltins x) (hlim : s1.heap.NoLimit) (hg : s1.gens = #[])
    (hT : ∀ p ∈ cs, s1.heap.get? p.2 = some { cls := .none, data := .fields #[] }) (nT : ∀ p ∈ cs, K.lookup p.2 = none) (C : ∀ p ∈ cs, PySem.W.CodeHd s1.heap p.1 p.2)
    (hbm : ∃ (bm : Addr) (ob : Obj), mg "__builtins__" = some (.ref bm) ∧ bm ≠ builtinsNs ∧ s1.heap.get? bm = some ob ∧ ob.cls = .type "module" ∧ ob.dict = some builtinsNs ∧ ob.data = .plain)
    (ha : s1.heap.get? a = some { cls := .type "list", data := .seq vs.toArray }) (hr : Room k callerA)
    (F : ∀ base : Heap, K.In base → base.Ns mainGlobals mg → (∀ p ∈ cs, TabB base mg p.1 p.2) → FnP P w K mg base k fa fd [x] sp) (hbind : ∀ (s : Shared) (u : Value), BindsTo s fd ⟨[u], []⟩ [(x, u)]) (H : Hp) (H0 : At0 cs K a ns P w s1.heap H)
    (hsp : sp [.ref a] H (fun v _ => v = .bl true) fun _ _ _ => False) :
    codeAny (model P w) callerA (.call (.ref fa) ⟨[.ref a], []⟩) (fun r s' => r = .ok (.ret (.bool true)) ∧ OldK s1.heap s'.heap ∧ s'.os = s1.os ∧ AllBare s'.gens) s1 := by
  obtain ⟨eT, eO, eS, eok, eon, eka⟩ := H0
  have tabAt : ∀ b, b ∈ cs.map (·.2) → s1.heap.get? b = some { cls := .none, data := .fields #[] } := fun b hb => (List.mem_map.mp hb).elim fun p hp => hp.2 ▸ hT p hp.1
  -- what is neither a list nor an empty table is not tracked
  have un0 : ∀ {b : Addr} {o : Obj}, s1.heap.get? b = some o → (∀ us n, o.data ≠ .seq us n) → o.data ≠ .fields #[] → H b = none := fun {b o} e d1 d2 => Classical.byContradiction fun nn => by
    rcases eon b nn with q | q
    · rw [q, ha] at e
      cases e
      exact d1 _ _ rfl
    · rw [tabAt b q] at e
      cases e
      exact d2 rfl
  have ns0 : ∀ {b : Addr} {m : Str → Option Value}, s1.heap.Ns b m → (hidT s1.heap H).Ns b m := fun {b m} ⟨o, es, ep, e, d, r⟩ => ⟨o, es, ep, hidT_get e (un0 e (fun _ _ q => nomatch d.symm.trans q) fun q => nomatch d.symm.trans q), d, r⟩
  have K0 : K.In (hidT s1.heap H) := fun b o e => hidT_get (KX b o e) (Classical.byContradiction fun nn => by
    rcases eon b nn with q | q
    · subst q
      rw [eka nn] at e
      cases e
    · obtain ⟨p, hp, ep⟩ := List.mem_map.mp q
      rw [← ep, nT p hp] at e
      cases e)
  have M0 : L2.Mod K mg (hidT s1.heap H) := ⟨K0, ns0 hns, ⟨mb, ns0 hb, hbb⟩, hlim.elim fun mc q => ⟨mc, ns0 q.1, q.2⟩⟩
  have TB0 : ∀ p ∈ cs, TabB (hidT s1.heap H) mg p.1 p.2 := fun p hp => by
    refine ⟨?_, ?_, fun z => ?_⟩
    · obtain ⟨o, us, fl, tf, fg, tg, iF, tx, tt, e1, r1, r2⟩ := C p hp
      refine ⟨o, us, fl, tf, fg, tg, iF, tx, tt, hidT_get e1 (un0 e1 (fun _ _ q => nomatch r2.1.symm.trans q) fun q => ?_), r1, r2⟩
      have q2 := r2.1.symm.trans q
      cases q2
      have q3 := r2.2.1
      simp at q3
    · obtain ⟨bm, ob, b1, b2, b3, b4, b5, b6⟩ := hbm
      have d1 : ∀ us n, ob.data ≠ .seq us n := fun _ _ q => nomatch b6.symm.trans q
      have d2 : ob.data ≠ .fields #[] := fun q => nomatch b6.symm.trans q
      refine ⟨bm, ob, b1, b2, fun q => ?_, fun q => ?_, hidT_get b3 (un0 b3 d1 d2), b4, b5, b6⟩
      · obtain ⟨o, es, ep, e, hd, _⟩ := hns
        rw [q, e] at b3
        cases b3
        exact nomatch b6.symm.trans hd
      · rw [q, hT p hp] at b3
        cases b3
        exact d2 rfl
    · obtain ⟨o, es, ep, e, hd, _⟩ := hns
      rw [z, hT p hp] at e
      cases e
      cases hd
  have E0 : Env0 P w K mg (hidT s1.heap H) callerA [] s1 H := ⟨rfl, M0, fun b o e => of_hidT e, Nat.le_of_eq (hidT_size _ _), trivial, (fun b q => nomatch (show b ∈ ([] : List Addr) from q)), eok, .of_eq hg⟩
  have go := (F _ K0 (ns0 hns) TB0).run callerA [] s1 H ⟨[.ref a], []⟩ [.ref a] [.ref a] (fun v _ => v = .bl true) (fun _ _ _ => False) ⟨hr, rfl⟩ E0 (hbind s1 (.ref a)) (.cons rfl .nil) hsp
  refine codeAny_mono go fun r s' hq => ?_
  match r, hq with
  | .error e, hq =>
    obtain ⟨_, _, _, _, _, _, _, _, _, _, _, _, z⟩ := (show CX P w [] H s1 (fun _ _ _ => False) e s' from hq)
    exact z.elim
  | .ok .next, hq => exact hq.elim
  | .ok .brk, hq => exact hq.elim
  | .ok .cont, hq => exact hq.elim
  | .ok (.ret u), hq =>
    obtain ⟨v, H', eos, ebare, un, ok', rv, ev⟩ := hq
    subst ev
    obtain rfl : u = Value.bool true := rv
    have same : ∀ b o, b ∉ cs.map (·.2) → s1.heap.get? b = some o → s'.heap.get? b = some o := fun b o nb e => by
      rcases eO b with q | q | ⟨ob, xs, q⟩
      · exact un.keep b o e q (fun z => nomatch (show b ∈ ([] : List Addr) from z)) (fun z => nomatch z)
      · exact absurd q nb
      · have h1 := (eok b _ q).1
        rw [e] at h1
        cases h1
        exact (ok' b _ (un.frzs b _ _ q)).1
    have more : ∀ p ∈ cs, ∃ ms : Array Value, s'.heap.get? p.2 = some { cls := .none, data := .fields ms } := fun p hp => (un.tbls p.2 #[] (eT p hp)).elim fun ms z => ⟨_, ok' p.2 _ z⟩
    refine ⟨rfl, ⟨fun b o e => ?_, fun b o e => ?_⟩, eos, ebare⟩
    · by_cases nb : b ∈ cs.map (·.2)
      · obtain ⟨p, hp, rfl⟩ := List.mem_map.mp nb
        obtain ⟨ms, hm⟩ := more p hp
        have eo := (hT p hp).symm.trans e
        cases eo
        exact .inr (.inl ⟨((C p hp).tab (hT p hp)).isCodeTable, rfl, #[], ms, rfl, by rw [Array.empty_append]; exact hm⟩)
      · exact .inl (same b o nb e)
    · by_cases nb : b ∈ cs.map (·.2)
      · obtain ⟨p, hp, rfl⟩ := List.mem_map.mp nb
        exact (more p hp).elim fun ms hm => ⟨_, hm⟩
      · exact ⟨o, same b o nb e⟩
/-- both ways that the script may stand -/
theorem at0_ex (KX : K.In s1.heap) (hT : ∀ p ∈ cs, s1.heap.get? p.2 = some { cls := .none, data := .fields #[] }) (ha : s1.heap.get? a = some { cls := .type "list", data := .seq vs.toArray }) (hi : IntsAre vs ns) (hl : ns.length ≤ sizeLine) : ∃ H, At0 cs K a ns P w s1.heap H := by
  have rv := vals_ints hi
  have lv := hi.length
  have tabAt : ∀ b, b ∈ cs.map (·.2) → s1.heap.get? b = some { cls := .none, data := .fields #[] } := fun b hb => (List.mem_map.mp hb).elim fun p hp => hp.2 ▸ hT p hp.1
  have na : a ∉ cs.map (·.2) := fun z => by
    have q := tabAt a z
    rw [ha] at q
    cases q
  have ma : ∀ p ∈ cs, p.2 ∈ cs.map (·.2) := fun p hp => List.mem_map.mpr ⟨p, hp, rfl⟩
  cases hk : K.lookup a with
  | some o =>
    have e := KX a o hk
    rw [ha] at e
    cases e
    refine ⟨fun b => if b ∈ cs.map (·.2) then some (.tbl #[]) else none, fun p hp => if_pos (ma p hp), fun b => ?_, .inr ⟨_, vs.toArray, _, hk, rfl, rfl, rfl, by rw [List.size_toArray, lv]; exact hl, rv⟩, fun b u z => ?_, fun b z => ?_, fun z => absurd (if_neg na) z⟩
    · exact (Classical.em (b ∈ cs.map (·.2))).elim (fun q => .inr (.inl q)) fun q => .inl (if_neg q)
    · by_cases q : b ∈ cs.map (·.2)
      · have z2 := (if_pos q).symm.trans z
        cases z2
        exact tabAt b q
      · have z2 := (if_neg q).symm.trans z
        cases z2
    · exact Classical.byContradiction fun nn => z (if_neg fun q => nn (.inr q))
  | none =>
    refine ⟨fun b => if b = a then some (.frz { cls := .type "list", data := .seq vs.toArray } (.lst (ns.map V.int))) else if b ∈ cs.map (·.2) then some (.tbl #[]) else none, fun p hp => ?_, fun b => ?_, .inl (.inr ⟨_, if_pos rfl⟩), fun b u z => ?_, fun b z => ?_, fun _ => hk⟩
    · have n1 : ¬ p.2 = a := fun q => na (q ▸ ma p hp)
      exact (if_neg n1).trans (if_pos (ma p hp))
    · by_cases q : b = a
      · exact .inr (.inr ⟨_, _, if_pos q⟩)
      · exact (Classical.em (b ∈ cs.map (·.2))).elim (fun q2 => .inr (.inl q2)) fun q2 => .inl ((if_neg q).trans (if_neg q2))
    · by_cases q : b = a
      · have z2 := (if_pos q).symm.trans z
        cases z2
        rw [q]
        exact ⟨ha, by rw [List.length_map]; exact hl, vs, _, rv, ha⟩
      · have z1 := (if_neg q).symm.trans z
        by_cases q2 : b ∈ cs.map (·.2)
        · have z2 := (if_pos q2).symm.trans z1
          cases z2
          exact tabAt b q2
        · have z2 := (if_neg q2).symm.trans z1
          cases z2
    · exact Classical.byContradiction fun nn => z ((if_neg fun q => nn (.inl q)).trans (if_neg fun q => nn (.inr q)))
end
/-- what is known of the law's def at the head's heap -/
def LawG (l : PySem.W.OpenLaw) (w : World) (K : PySem.W.Frag) (k n : Nat) (x : Str) (mg : Str → Option Value) (fa : Addr) (h : Heap) : Prop :=
  ∃ (fd : FuncData) (cs : List (Addr × Addr)), (∀ p ∈ cs, h.get? p.2 = some { cls := .none, data := .fields #[] }) ∧ (∀ p ∈ cs, K.lookup p.2 = none) ∧ (∀ p ∈ cs, PySem.W.CodeHd h p.1 p.2) ∧ (∀ (s : Shared) (u : Value), BindsTo s fd ⟨[u], []⟩ [(x, u)]) ∧
    ∀ (a : Addr) (ns : List Int), ns.length ≤ n → (∀ z ∈ ns, Builtin.Int.intBits z ≤ 1048576) → ∃ sp : Sp, (∀ H : Hp, (∀ p ∈ cs, H p.2 = some (.tbl #[])) → SqL K H a (ns.map V.int) → sp [.ref a] H (fun v _ => v = .bl true) fun _ _ _ => False) ∧
      ∀ base : Heap, K.In base → base.Ns mainGlobals mg → (∀ p ∈ cs, TabB base mg p.1 p.2) → FnP l.prog w K mg base k fa fd [x] sp
theorem walk_g {l : PySem.W.OpenLaw} {n k : Nat} {q : Program} {loose : List Str} {XP : (Str → Option Value) → Heap → Prop} {YP : World → Heap → Prop} {d : DefRec} {x : Str} (hn : l.most = some n) (hn2 : n ≤ sizeLine) (hdf : d.params.defaults = []) (hr : Room k callerA)
    (F : ∀ (w : World) (mg : Str → Option Value) (fa : Addr) (h : Heap), YP w h → h.Ns mainGlobals mg → mg d.name = some (.ref fa) → ∃ K : PySem.W.Frag, K.In h ∧ LawG l w K k n x mg fa h) : PySem.W.WalkO q loose XP YP l.row.toRowW d [] (fun f vs => PySem.call f vs) := by
  refine Att.attach_callB hn hdf fun w s0 s1 mg mb fa o pm cd doc a vs ns Gd Y ho hd hcd hmg hobj hints hlen hbits hg => ?_
  obtain ⟨K, KX, fd, cs, h1, h2, h3, h4, h5⟩ := F w mg fa _ Y Gd.T.g hmg
  obtain ⟨sp, h6, h7⟩ := h5 a ns hlen hbits
  obtain ⟨H, H0⟩ := at0_ex (P := l.prog) (w := w) (cs := cs) KX h1 hobj hints (Nat.le_trans hlen hn2)
  exact law_at KX Gd.T.g Gd.T.b Gd.T.builtins Gd.T.nolimit hg h1 h2 h3 Gd.T.bmain hobj hr h7 h4 H H0 (h6 H H0.tb H0.sq)
end G
namespace G
open PySem PySem.Spec PyProof.Rows L2 LamX NdefX

theorem tupMul1 (l : Addr) (items : Array Value) (n : Nat) (dd : Option Addr) (sl : Array (Option Value)) (u : Tok) :
    Meets (Builtin.«tuple.__mul__» ⟨[.ref l, .int 1 u], []⟩) (fun _ R s => s.heap.get? l = some { cls := .type "tuple", dict := dd, data := .seq items n, slots := sl } ∧ R (.ok (.ret (Value.ref l))) s) := by
  refine .of_wp fun prog w A R s h => ?_
  obtain ⟨hp, g, d, tk, os⟩ := s
  obtain ⟨hl, h⟩ := h
  have f1 := AutoSeq1.idx_int
  have c1 : (items.isEmpty || (1 : Int) == 1) = true := by simp
  wp_walk using AutoSeq1.wpAny_loadPart' hl
  repeat (first
    | (refine wpAny_ite_false (by decide) ?_; wp_walk using AutoSeq1.wpAny_loadPart' hl)
    | (rw [if_pos c1]; wp_walk using AutoSeq1.wpAny_loadPart' hl)
    | (simp only [c1, if_true]; wp_walk using AutoSeq1.wpAny_loadPart' hl))
  all_goals first
    | exact ⟨_, rfl, h⟩
    | skip

def rRep1 (K : PySem.W.Frag) : R2 := fun x y H Q => ∃ l xs, x = .ref l ∧ y = .int 1 ∧ SqT K H l xs ∧ Q (.ref l) H
theorem op_rep1 {X : Cx} : OpR X (binaryOp .Mult) (rRep1 X.K) := by
  intro pins s σ H x y v u Q I rx ry h
  obtain ⟨l, xs, rfl, rfl, hT, q⟩ := h
  cases rx
  obtain ⟨t, rfl⟩ := ry
  obtain ⟨its, r, ⟨⟨cls, dd, data, sl⟩, ho, hc, n, hd⟩, hs⟩ := I.tuple hT
  simp only at hc hd
  subst hc hd
  have tT : s.TypeIs (.ref l) "tuple" := ⟨_, ho, rfl⟩
  have m1 := int_rmul_tuple 1 t l its.toArray n dd sl
  have m2 := tupMul1 l its.toArray n dd sl t
  exact wpAny_binaryOp_repeat_ref (T := "tuple") (U := "int") (by decide) tT (fun s' => typeIs_int s' 1 t) noFill_tuple_mul F.fills_int_mul F.slot_int_rmul repeat_tuple F.slot_int_index.lookup
    (call_meets F.slot_int_rmul (typeIs_int s 1 t) F.entry_int_rmul (F.args_int_rmul_2 _ _) m1 ⟨ho, rfl, tT, call_meets F.slot_tuple_mul tT F.entry_tuple_mul (F.args_tuple_mul_2 _ _) m2 ⟨ho, .ref l, H, I, rfl, q⟩⟩)
def fMulT (x y : PV) : M PV := match x, y with
  | .tup xs, .int k => if k = 1 then pure (.tup xs) else do
    need (!xs.isEmpty && decide (2 ≤ k ∧ k ≤ 1000 ∧ xs.length ≤ 1000))
    pure (.tup (List.replicate k.toNat xs).flatten)
  | x, y => fMul x y
def rMulX (K : PySem.W.Frag) : R2 := fun x y H Q => rMulAll x y H Q ∨ rRepT K x y H Q ∨ rRep1 K x y H Q
theorem op_mulX {X : Cx} : OpR X (binaryOp .Mult) (rMulX X.K) := op_mulAll.or (op_repT.or op_rep1)
theorem ops_mulT {c : Ct} : OpS c (rMulX c.K) fMulT := by
  intro μ H st x y v w Q W rr st' rx ry s e fin
  unfold fMulT at e
  split at e
  · split at e
    · next hk =>
      subst hk
      obtain ⟨rfl, rfl⟩ := pure_inv e
      have rx0 := rx
      cases rx with
      | tup h1 h2 =>
        cases ry
        exact .inr (.inr ⟨_, _, rfl, rfl, .inl (.inl h1), fin _ μ H .refl rx0 s⟩)
    · obtain ⟨b, e2⟩ := need_inv2 e
      obtain ⟨rfl, rfl⟩ := pure_inv e2
      rw [Bool.and_eq_true, decide_eq_true_eq] at b
      obtain ⟨b0, b1, b2, b3⟩ := b
      cases rx with
      | tup h1 h2 =>
        cases ry
        refine .inr (.inl ⟨_, _, _, rfl, rfl, .inl (.inl h1), ?_, b1, b2, by rw [← h2.length]; exact b3, fun p hp => fin_tup hp (h2.rep _) s fin⟩)
        rintro rfl
        cases h2
        cases b0
  · exact .inl (ops_mul μ H st _ _ v w Q W rr st' rx ry s e fin)

/-- what is known at the top: the hook's facts of K, the namespace, the tables' makers -/
structure Top (fa : List He.Fa) (fn : List He.DefD) (ts : List He.Tab) (tf : List He.Defn) (ex : PySem.W.Frag → Bool) (w : World) (h base : Heap) (mg : Str → Option Value) (K : PySem.W.Frag) : Prop where
  kin : K.In base
  ns : base.Ns mainGlobals mg
  c : He.SaysX fa fn ts tf ex w h K
  tabs : ∀ p ∈ tf, TabB base mg (He.cT K p).1 (He.cT K p).2
/-- the constants of a derivation: the tables with their lambdas' names, the script -/
abbrev ctOf (tf : List (He.Defn × Str)) (K : PySem.W.Frag) (sa : Addr) (ns : List Int) (bs : List Addr) : Ct := ⟨K, tf.map fun p => ((He.cT K p.1).2, fun _ _ => p.2), sa, ns, bs, [], []⟩
theorem ct_one {tf : List (He.Defn × Str)} {K : PySem.W.Frag} {sa : Addr} {ns : List Int} {cl : List Addr} : OneName (ctOf tf K sa ns cl).T := by
  intro q hq a b
  obtain ⟨p, _, rfl⟩ := List.mem_map.mp hq
  rfl
theorem code_is {K : PySem.W.Frag} {x qual : Str} {params : Arguments} {body : List Stmt} {scope : Scope} {dvs : List V} {kws : List (Str × V)} {p : He.Defn} {fd : FuncData} (F : FunD K x qual params body scope dvs kws (He.fAd K p) fd) : fd.code = .ref (He.cT K p).1 := by
  obtain ⟨oc, od, dV, kV, doc, pm, an, cdv, ct, osl, rfl, lk, hcd, _, _⟩ := F.ex
  obtain ⟨c, rfl⟩ := He.codeIn_ref hcd
  have e := He.codeOf_eq lk (c := c) rfl
  show Value.ref c = .ref (He.codeOf K p)
  rw [e]
section
variable {X : Cx} {c : Ct} {W : WX} {x : Str} {pos : Pos}
theorem ge_gint {i : Int} (hg : Gl X x) (h : ∃ t, X.mg x = some (.int i t)) (hd : (x == ("__debug__" : Str)) = false := by decide) : GE X c W (.Name x pos) (dC (.int i)) := by
  obtain ⟨t, h⟩ := h
  exact ge_glob hg h (v := .int i) ⟨t, rfl⟩ (fun _ _ => .int i) hd
theorem ge_gstr {i : Str} (hg : Gl X x) (h : ∃ t, X.mg x = some (.str i t)) (hd : (x == ("__debug__" : Str)) = false := by decide) : GE X c W (.Name x pos) (dC (.str i)) := by
  obtain ⟨t, h⟩ := h
  exact ge_glob hg h (v := .str i) ⟨t, rfl⟩ (fun _ _ => .str i) hd
/-- a tuple of the top: simple things -/
theorem ge_gtup {ps : List PV} {vs : List V} (hK : c.K = X.K) (hg : Gl X x) (hm : X.mg x = some (.ref (He.ga X.K x))) (ht : SqT X.K (fun _ => none) (He.ga X.K x) vs) (hr : ∀ μ H, RepL c μ H ps vs) (hd : (x == ("__debug__" : Str)) = false := by decide) : GE X c W (.Name x pos) (dC (.ktup ps)) := by
  refine ge_glob hg hm (v := .ref (He.ga X.K x)) rfl (fun μ H => ?_) hd
  refine .ktup ?_ (hr μ H)
  rw [hK]
  rcases ht with h | h
  · rcases h with h | ⟨o, h⟩ <;> cases h
  · exact h
end
/-- a def known by its name, with its datum -/
structure Cal (P : Program) (w : World) (K : PySem.W.Frag) (mg : Str → Option Value) (base : Heap) (c : Ct) (k : Nat) (x : Str) (D : He.DefD) (ps : List Str) (F : List PV → M PV) : Prop where
  ex : ∃ fd, Fn P w K mg base c k x (He.fAd K D.at_) fd ps F ∧ FunD K D.name D.qual D.params D.body D.scope (D.dvs K) (D.kws K) (He.fAd K D.at_) fd
section
variable {X : Cx} {c : Ct} {W : WX} {k j : Nat} {D : He.DefD} {ps ks : List Str} {F : List PV → M PV} {x : Str} {p pos : Pos} {e : Expr} {es : List Expr} {kws : List Keyword} {as aks : Slo → M (List PV)} {ix : List Nat} {n : Nat}
theorem Fn.mono {P : Program} {w : World} {K : PySem.W.Frag} {mg : Str → Option Value} {base : Heap} {f : Addr} {fd : FuncData} (h : Fn P w K mg base c k x f fd ps F) (hk : k ≤ j) : Fn P w K mg base c j x f fd ps F := ⟨⟨h.ok.len, fun A outer s H args us vs Q E hr => h.ok.run A outer s H args us vs Q E (hr.mono hk)⟩, h.mg, h.kp⟩
/-- f(e, ..): every parameter is written -/
theorem ge_cal (C : Cal X.prog X.w X.K X.mg X.base c k x D ps F) (hd : D.dfl = []) (hb : ∀ (kV doc pm : Value) (an : Option Addr) (cdv ct : Value) (us : List Value), us.length = ps.length → bindArgs (PySem.W.fnOf D.name D.qual D.params D.body D.scope .none kV doc pm an cdv ct) ⟨us, []⟩ = pure (ps.zip us)) (hr : Rm j X.A) (hk : k ≤ j) (tk : Takes X W)
    (hl : ∀ ε st q st', as ε st = some (.ok q, st') → q.length = ps.length) (hg : Gl X x) (ha : GA X c W (e :: es) as) (hdb : (x == ("__debug__" : Str)) = false := by decide) (he : starEach (e :: es) X.env = (false, eval e X.env) :: starEach es X.env := by rfl) (hpl : (backTo pos (starEach es X.env)).any (·.1) = false := by rfl) :
    GE X c W (.Call (.Name x p) (e :: es) [] pos) (dCall F [] as) := by
  obtain ⟨fd, Fo, Fu⟩ := C.ex
  have e0 : D.dvs X.K = [] := by unfold He.DefD.dvs; rw [hd]; rfl
  rw [e0] at Fu
  exact ge_call (Fo.mono hk) hr (Fu.bindsN hb) .nil (fun _ _ => .nil) tk (fun ε st q st' h => by simpa using hl ε st q st' h) hg ha hdb he hpl
/-- f(k = v, ..) -/
theorem ge_calK0 (C : Cal X.prog X.w X.K X.mg X.base c k x D ps F) (hd : D.dfl = []) (hb : ∀ (kV doc pm : Value) (an : Option Addr) (cdv ct : Value) (us ws : List Value), us.length = 0 → ws.length = ks.length → bindArgs (PySem.W.fnOf D.name D.qual D.params D.body D.scope .none kV doc pm an cdv ct) ⟨us, ks.zip ws⟩ = pure (ps.zip (pick ix (us ++ ws ++ []))))
    (hr : Rm j X.A) (hk : k ≤ j) (tk : Takes X W) (hl : ∀ xs : List V, xs.length = ks.length → (pick ix xs).length = ps.length) (hg : Gl X x) (hkw : GK X c W kws aks)
    (hall : (backToKw pos (keywordEach kws X.env)).all (·.1.isSome) = true := by rfl) (hks : (backToKw pos (keywordEach kws X.env)).filterMap (·.1) = ks := by rfl)
    (hdb : (x == ("__debug__" : Str)) = false := by decide) (hpl : ((backTo pos (starEach [] X.env)).any (·.1) || (backToKw pos (keywordEach kws X.env)).any (·.1.isNone)) = false := by rfl) :
    GE X c W (.Call (.Name x p) [] kws pos) (dCallK F 0 ks.length ix [] aNil aks) := by
  obtain ⟨fd, Fo, Fu⟩ := C.ex
  have e0 : D.dvs X.K = [] := by unfold He.DefD.dvs; rw [hd]; rfl
  rw [e0] at Fu
  exact ge_callK0 (Fo.mono hk) hr (bf0 Fu hb) (fun _ _ => .nil) tk (fun xs h => hl xs (by simpa using h)) hg hkw hall hks hdb hpl
/-- the promise of a def of the top -/
theorem cal_of {P : Program} {w : World} {K : PySem.W.Frag} {mg : Str → Option Value} {base : Heap} {b : SM} {N : List Str} (hm : mg x = some (.ref (He.fAd K D.at_))) (hF : ∃ fd, FunD K D.name D.qual D.params D.body D.scope (D.dvs K) (D.kws K) (He.fAd K D.at_) fd) (S : FnScope N ps D.scope)
    (hb : ∀ (fd : FuncData) (cdv : Value) (A : Around) (outer : List Env) (s : Shared) (H : Hp) (E : XK), cdv = .ref (He.cT K D.at_).1 → Rm k (A.deeper (envOfC D.qual D.scope s.heap.objs.size (He.fAd K D.at_) cdv)) →
      GSs (cxOf (CX P w) P w K mg base N D.qual D.scope (He.fAd K D.at_) cdv A outer s H E) c (fun cls d _ H => E cls d H) D.body b) (hfs : c.fs = [] ∧ c.xs = [] := by exact ⟨rfl, rfl⟩) : Cal P w K mg base c (k + 1) x D ps (fnD N.length ps.length b) := by
  obtain ⟨fd, F⟩ := hF
  refine ⟨fd, ⟨fn_g F S (fun cdv A outer s H E e hr => hb fd cdv A outer s H E (e.symm.trans (code_is F)) hr) hfs, hm, F.kp⟩, F⟩
theorem Rm.u65 {k : Nat} {A : Around} (r : Rm k A) : A.units + 65 < cLine := by have := r.room.un; omega
theorem Rm.u64 {k : Nat} {A : Around} (r : Rm k A) : A.units + 64 < cLine := by have := r.room.un; omega
theorem Rm.u1 {k : Nat} {A : Around} (r : Rm k A) : A.units + 1 < cLine := by have := r.room.un; omega
theorem Rm.u101 {k : Nat} {A : Around} (r : Rm k A) : A.units + 101 < cLine := by have := r.room.un; omega
/-- in a block nothing is let out -/
theorem tk0 {X : Cx} : Takes X W0 := L2.takes0
end
end G
namespace G
open PySem PySem.Spec PyProof.Rows L2 LamX NdefX
theorem nx_gN {i : Nat} : nxOnly (gN i) := fun _ _ _ _ _ h => .inl (gN_nx h)
theorem nx_gSb {o i : Slo → M PV} : nxOnly (gSb o i) := fun _ _ _ _ _ h => gSb_nx h
theorem nx_gsNil {ps : List PV} {ε : Slo} {st st' : Sto} {r : SR} (h : gsNil ps ε st = some (r, st')) : ∃ ε', r = .nx ε' := by
  cases ps with
  | nil => cases h; exact ⟨_, rfl⟩
  | cons _ _ => cases h
theorem nx_gsCons {g : TM} {gs : List PV → SM} (h1 : ∀ p ε st r st', g p ε st = some (r, st') → ∃ ε', r = .nx ε') (h2 : ∀ ps ε st r st', gs ps ε st = some (r, st') → ∃ ε', r = .nx ε') {ps : List PV} {ε : Slo} {st st' : Sto} {r : SR} (h : gsCons g gs ps ε st = some (r, st')) : ∃ ε', r = .nx ε' := by
  cases ps with
  | nil => cases h
  | cons p ps =>
    have e' : sSeq (g p) (gs ps) ε st = some (r, st') := h
    unfold sSeq at e'
    cases q : g p ε st with
    | none => rw [q] at e'; cases e'
    | some w =>
      obtain ⟨r1, st1⟩ := w
      obtain ⟨ε1, rfl⟩ := h1 _ _ _ _ _ q
      rw [q] at e'
      exact h2 _ _ _ _ _ e'
theorem nx_gTu {gs : List PV → SM} (h2 : ∀ ps ε st r st', gs ps ε st = some (r, st') → ∃ ε', r = .nx ε') : nxOnly (gTu gs) := fun p ε st r st' h => by
  rcases eS_inv h with ⟨a, st1, _, h1⟩ | ⟨C, fs, _, rfl⟩
  · exact .inl (h2 _ _ _ _ _ h1)
  · exact .inr ⟨C, fs, _, rfl⟩
/-- the same for a target within a target -/
theorem nx_gTu' {gs : List PV → SM} (h2 : ∀ ps ε st r st', gs ps ε st = some (r, st') → ∃ ε', r = .nx ε') : ∀ p ε st r st', gTu gs p ε st = some (r, st') → ∃ ε', r = .nx ε' := fun p ε st r st' h => by
  rcases eS_inv h with ⟨a, st1, _, h1⟩ | ⟨C, fs, h1, rfl⟩
  · exact h2 _ _ _ _ _ h1
  · exfalso
    have h1' : readS p st = some (Out.ex C fs, st') := h1
    unfold readS at h1'
    cases p with
    | tup xs => cases h1'
    | ktup xs => cases h1'
    | scr xs => cases h1'
    | loc n =>
      obtain ⟨_, _, e, _⟩ := getL_inv h1'
      cases e
    | _ => cases h1'
theorem nx_gN' {i : Nat} : ∀ p ε st r st', gN i p ε st = some (r, st') → ∃ ε', r = .nx ε' := fun _ _ _ _ _ h => gN_nx h
theorem tab_u {tf : List (He.Defn × Str)} {K : PySem.W.Frag} {sa : Addr} {ns : List Int} {bs : List Addr} {p : He.Defn} {q : Str} (nd : (tf.map fun p => (He.cT K p.1).2).Nodup) (hm : (p, q) ∈ tf) : ∀ r ∈ (ctOf tf K sa ns bs).T, r.1 = (He.cT K p).2 → r.2 0 0 = q := by
  intro r hr e
  obtain ⟨p', hp, rfl⟩ := List.mem_map.mp hr
  have e' : (He.cT K p'.1).2 = (He.cT K p).2 := e
  obtain ⟨i, hi⟩ := List.getElem?_of_mem hp
  obtain ⟨j, hj⟩ := List.getElem?_of_mem hm
  have hi2 : (tf.map fun p => (He.cT K p.1).2)[i]? = some (He.cT K p'.1).2 := by rw [List.getElem?_map, hi]; rfl
  have hj2 : (tf.map fun p => (He.cT K p.1).2)[j]? = some (He.cT K p).2 := by rw [List.getElem?_map, hj]; rfl
  rw [← e'] at hj2
  have il := (List.getElem?_eq_some_iff.mp hi2).1
  have jl := (List.getElem?_eq_some_iff.mp hj2).1
  have : i = j := (List.getElem_inj nd).mp ((List.getElem?_eq_some_iff.mp hi2).2.trans (List.getElem?_eq_some_iff.mp hj2).2.symm)
  subst this
  rw [hi] at hj
  cases hj
  rfl
theorem tab_m {tf : List (He.Defn × Str)} {K : PySem.W.Frag} {sa : Addr} {ns : List Int} {bs : List Addr} {p : He.Defn} {q : Str} (hm : (p, q) ∈ tf) : ∃ nm, ((He.cT K p).2, nm) ∈ (ctOf tf K sa ns bs).T ∧ nm 0 0 = q := ⟨fun _ _ => q, List.mem_map.mpr ⟨(p, q), hm, rfl⟩, rfl⟩
theorem bt_isinstance : bootBuiltins "isinstance" = some (.builtin "isinstance") := by decide +kernel
theorem bt_len : bootBuiltins "len" = some (.builtin "len") := by decide +kernel
theorem bt_abs : bootBuiltins "abs" = some (.builtin "abs") := by decide +kernel
theorem bt_max : bootBuiltins "max" = some (.builtin "max") := by decide +kernel
theorem bt_min : bootBuiltins "min" = some (.builtin "min") := by decide +kernel
theorem bt_sum : bootBuiltins "sum" = some (.builtin "sum") := by decide +kernel
theorem bt_all : bootBuiltins "all" = some (.builtin "all") := by decide +kernel
theorem bt_any : bootBuiltins "any" = some (.builtin "any") := by decide +kernel
theorem bt_sorted : bootBuiltins "sorted" = some (.builtin "sorted") := by decide +kernel
theorem bt_repr : bootBuiltins "repr" = some (.builtin "repr") := by decide +kernel
theorem bt_divmod : bootBuiltins "divmod" = some (.builtin "divmod") := by decide +kernel
theorem bt_int : bootBuiltins "int" = some (.type "int") := by decide +kernel
theorem bt_bool : bootBuiltins "bool" = some (.type "bool") := by decide +kernel
theorem bt_str : bootBuiltins "str" = some (.type "str") := by decide +kernel
theorem bt_tuple : bootBuiltins "tuple" = some (.type "tuple") := by decide +kernel
theorem bt_list : bootBuiltins "list" = some (.type "list") := by decide +kernel
theorem bt_dict : bootBuiltins "dict" = some (.type "dict") := by decide +kernel
/-- an own class of which things may be told -/
def insB (K : PySem.W.Frag) (x : Str) : Bool :=
  decide (PySem.W.findIn K (.ref (He.ga K x)) "__class__" = some (some (.builtin "object.__class__"))) && decide (PySem.W.specialIn K (.builtin "object.__class__") "__get__" = some (some (.builtin "getset_descriptor.__get__"))) &&
    decide (PySem.W.takesIn K (.builtin "object.__class__") = some true) && decide (PySem.W.mroIn K (He.ga K x) (.type "object") = some true)
theorem insB_ok {K : PySem.W.Frag} {x : Str} (cl : Cls K (He.ga K x)) (h : insB K x = true) : C8.InsC K (He.ga K x) := by
  unfold insB at h
  simp only [Bool.and_eq_true, decide_eq_true_eq] at h
  obtain ⟨⟨⟨h1, h2⟩, h3⟩, h4⟩ := h
  exact ⟨cl, h1, h2, h3, h4, if_pos (beq_self_eq_true _)⟩
end G
namespace G
open PySem PySem.Spec PyProof.Rows L2 LamX NdefX
/-- what is known of the def by its datum -/
abbrev Fd (K : PySem.W.Frag) (D : He.DefD) (fd : FuncData) : Prop := FunD K D.name D.qual D.params D.body D.scope (D.dvs K) (D.kws K) (He.fAd K D.at_) fd
/-- a method of the top's class -/
structure CalM (P : Program) (w : World) (K : PySem.W.Frag) (mg : Str → Option Value) (base : Heap) (c : Ct) (k : Nat) (D : He.DefD) (ps : List Str) (F : List PV → M PV) : Prop where
  ex : ∃ fd, FnP P w K mg base k (He.fAd K D.at_) fd ps (spG c F ps.length) ∧ Fd K D fd
/-- a def that is handed a function -/
abbrev TakesD (P : Program) (w : World) (K : PySem.W.Frag) (mg : Str → Option Value) (base : Heap) (c : Ct) (k : Nat) (D : He.DefD) (N : List Str) (i np : Nat) (b : (List PV → M PV) → SM) : Prop := TakesFn P w K mg base c k (He.fAd K D.at_) N D.qual D.scope D.body i np b
section
variable {P : Program} {w : World} {K : PySem.W.Frag} {mg : Str → Option Value} {base : Heap} {X : Cx} {c : Ct} {W : WX} {k j : Nat} {D : He.DefD} {ps ks N : List Str} {F : List PV → M PV} {x : Str} {p pos : Pos} {e : Expr} {es : List Expr} {kws : List Keyword} {as aks : Slo → M (List PV)} {ix : List Nat} {n : Nat} {dvs : List V} {ds : List PV}
theorem calM_of {b : SM} (hF : ∃ fd, Fd K D fd) (S : FnScope N ps D.scope)
    (hb : ∀ (fd : FuncData) (cdv : Value) (A : Around) (outer : List Env) (s : Shared) (H : Hp) (E : XK), cdv = .ref (He.cT K D.at_).1 → Rm k (A.deeper (envOfC D.qual D.scope s.heap.objs.size (He.fAd K D.at_) cdv)) →
      GSs (cxOf (CX P w) P w K mg base N D.qual D.scope (He.fAd K D.at_) cdv A outer s H E) c (fun cls d _ H => E cls d H) D.body b) (hfs : c.fs = [] ∧ c.xs = [] := by exact ⟨rfl, rfl⟩) : CalM P w K mg base c (k + 1) D ps (fnD N.length ps.length b) := by
  obtain ⟨fd, F⟩ := hF
  exact ⟨fd, fn_g F S (fun cdv A outer s H E e hr => hb fd cdv A outer s H E (e.symm.trans (code_is F)) hr) hfs, F⟩
/-- C(e, ..) -/
theorem ge_mk (C : CalM X.prog X.w X.K X.mg X.base c k D ps F) (Mk' : Mk X.K (He.ga X.K x) (He.fAd X.K D.at_)) (hb : ∀ fd, Fd X.K D fd → ∃ dus, Vals dvs dus ∧ Binds X.K fd ps dus) (hD : ∀ μ H, RepL c μ H ds dvs) (hr : Rm j X.A) (hk : k + 1 ≤ j) (tk : Takes X W)
    (hl : ∀ ε st q st', as ε st = some (.ok q, st') → q.length + ds.length + 1 = ps.length) (hg : Gl X x) (hm : X.mg x = some (.ref (He.ga X.K x))) (ha : GA X c W (e :: es) as) (hdb : (x == ("__debug__" : Str)) = false := by decide) (he : starEach (e :: es) X.env = (false, eval e X.env) :: starEach es X.env := by rfl) (hpl : (backTo pos (starEach es X.env)).any (·.1) = false := by rfl) :
    GE X c W (.Call (.Name x p) (e :: es) [] pos) (dMake (He.ga X.K x) F ds as) := by
  obtain ⟨fd, Fo, Fu⟩ := C.ex
  obtain ⟨dus, h1, h2⟩ := hb fd Fu
  exact ge_make Mk' Fo (hr.mono hk) h2 h1 hD tk hl hg hm ha hdb he hpl
/-- f(e, ..): the last parameters by their defaults -/
theorem ge_calD (C : Cal X.prog X.w X.K X.mg X.base c k x D ps F) (hb : ∀ fd, Fd X.K D fd → ∃ dus, Vals dvs dus ∧ Binds X.K fd ps dus) (hD : ∀ μ H, RepL c μ H ds dvs) (hr : Rm j X.A) (hk : k ≤ j) (tk : Takes X W)
    (hl : ∀ ε st q st', as ε st = some (.ok q, st') → q.length + ds.length = ps.length) (hg : Gl X x) (ha : GA X c W (e :: es) as) (hdb : (x == ("__debug__" : Str)) = false := by decide) (he : starEach (e :: es) X.env = (false, eval e X.env) :: starEach es X.env := by rfl) (hpl : (backTo pos (starEach es X.env)).any (·.1) = false := by rfl) :
    GE X c W (.Call (.Name x p) (e :: es) [] pos) (dCall F ds as) := by
  obtain ⟨fd, Fo, Fu⟩ := C.ex
  obtain ⟨dus, h1, h2⟩ := hb fd Fu
  exact ge_call (Fo.mono hk) hr h2 h1 hD tk hl hg ha hdb he hpl
theorem takes_d {b : (List PV → M PV) → SM} {i np : Nat}
    (hb : ∀ (cdv : Value) (A : Around) (outer : List Env) (s : Shared) (H : Hp) (E : XK) (f : Addr) (L : List PV → M PV) (bs : List Addr), Rm k (A.deeper (envOfC D.qual D.scope s.heap.objs.size (He.fAd K D.at_) cdv)) → (∀ pn xe, Act ((cxOf (CX P w) P w K mg base N D.qual D.scope (He.fAd K D.at_) cdv A outer s H E).tr pn xe) (c.at_ bs []) f np L) →
      GSs (cxOf (CX P w) P w K mg base N D.qual D.scope (He.fAd K D.at_) cdv A outer s H E) (c.at_ bs [(i, f)]) (fun cls d _ H => E cls d H) D.body (b L)) : TakesD P w K mg base c k D N i np b := hb
/-- the promises beside a function at hand -/
theorem FnP.fs {f : Addr} {fd : FuncData} {np : Nat} {fs : List (Nat × Addr)} (h : FnP P w K mg base k f fd ps (spG c F np)) : FnP P w K mg base k f fd ps (spG (c.at_ c.bs fs) F np) := by
  refine ⟨fun vs H Q E q => h.len vs H Q E ?_, fun A outer s H args us vs Q E hr e0 hbd r q => h.run A outer s H args us vs Q E hr e0 hbd r ?_⟩
  · obtain ⟨hl, pvs, μ, st, r, st', rl, sm, e, fin⟩ := q
    exact ⟨hl, pvs, μ, st, r, st', rl, sm.ub sm.pre, e, Fin.ub sm.pre fin⟩
  · obtain ⟨hl, pvs, μ, st, r, st', rl, sm, e, fin⟩ := q
    exact ⟨hl, pvs, μ, st, r, st', rl, sm.ub sm.pre, e, Fin.ub sm.pre fin⟩
theorem Cal.fs {fs : List (Nat × Addr)} (h : Cal P w K mg base c k x D ps F) : Cal P w K mg base (c.at_ c.bs fs) k x D ps F := by
  obtain ⟨fd, h1, h2⟩ := h.ex
  exact ⟨fd, ⟨h1.ok.fs, h1.mg, h1.kp⟩, h2⟩
theorem CalM.fs {fs : List (Nat × Addr)} (h : CalM P w K mg base c k D ps F) : CalM P w K mg base (c.at_ c.bs fs) k D ps F := by
  obtain ⟨fd, h1, h2⟩ := h.ex
  exact ⟨fd, h1.fs, h2⟩
end
section
variable {fa : List He.Fa} {fn : List He.DefD} {ts : List He.Tab} {tf : List He.Defn} {ex : PySem.W.Frag → Bool} {h : Heap} {tfn : List (He.Defn × Str)} {sa : Addr} {ns : List Int} {bs : List Addr} {at_ : He.Defn}
variable {X : Cx} {W : WX} {kg kl j : Nat} {D : He.DefD} {x a0 a1 : Str} {Ng N ps fr : List Str} {js : List Nat} {b : (List PV → M PV) → SM} {F : LamW} {d de : Slo → M PV} {e : Expr} {p lpos pos : Pos}
/-- g(e, lambda ..) in the def at at_ -/
theorem ge_lamC (T : Top fa fn ts tf ex X.w h X.base X.mg X.K) (hF : ∃ fd, Fd X.K D fd) (hd : D.dfl = []) (hx : D.name = x) (hgb : ∀ (kV doc pm : Value) (an : Option Addr) (cdv ct : Value) (us : List Value), us.length = [a0, a1].length → bindArgs (PySem.W.fnOf D.name D.qual D.params D.body D.scope .none kV doc pm an cdv ct) ⟨us, []⟩ = pure ([a0, a1].zip us))
    (Sg : FnScope Ng [a0, a1] D.scope) (hTF : ∀ bs, TakesD X.prog X.w X.K X.mg X.base (ctOf tfn X.K sa ns bs) kg D Ng 1 ps.length b) (hB : ∀ bs, LamB X.prog X.w X.K X.mg X.base (ctOf tfn X.K sa ns bs) kl N F d) (S : NScope N ps fr F.scope) (htf : tf = tfn.map (·.1)) (hat : (at_, F.qual) ∈ tfn)
    (hnd : (tfn.map fun p => (He.cT X.K p.1).2).Nodup) (hq : F.qual = X.env.qual ++ "<lambda>") (hb : ∀ (cl : List (Str × Addr)) (pm cv ctv : Value) (us : List Value), us.length = ps.length → bindArgs (PySem.W.kla_fn "<lambda>" F.qual F.params F.body F.scope cl pm cv ctv) ⟨us, []⟩ = pure (ps.zip us))
    (hcode : X.env.code = .ref (He.cT X.K at_).1) (hr : Rm j X.A) (hj : kg + 1 ≤ j) (hk : kl + 1 ≤ kg) (hfree : ∀ y ∈ F.scope.names, y.2 = .free → X.env.scope.names.lookup y.1 = some .cell ∨ X.env.scope.names.lookup y.1 = some .free) (hfr : ∀ y ∈ fr, (y, NameKind.free) ∈ F.scope.names) (hjs : js.map (fun j => X.N[j]?) = fr.map some)
    (hdef : defaultsOf F.params X.env = ([], [])) (tk : Takes X W) (hg : Gl X x) (hm : X.mg x = some (.ref (He.fAd X.K D.at_))) (ha : GE X (ctOf tfn X.K sa ns bs) W e de) (hdb : (x == ("__debug__" : Str)) = false := by decide)
    (he : starEach [e, .Lambda F.params F.body F.scope lpos] X.env = (false, eval e X.env) :: (false, eval (.Lambda F.params F.body F.scope lpos) X.env) :: starEach [] X.env := by rfl)
    (he2 : starEach [.Lambda F.params F.body F.scope lpos] X.env = (false, eval (.Lambda F.params F.body F.scope lpos) X.env) :: starEach [] X.env := by rfl) :
    GE X (ctOf tfn X.K sa ns bs) W (.Call (.Name x p) [e, .Lambda F.params F.body F.scope lpos] [] pos) (dLam Ng.length N.length b d js (aCons de aNil)) := by
  subst hx
  obtain ⟨fd, Fu⟩ := hF
  have e0 : D.dvs X.K = [] := by unfold He.DefD.dvs; rw [hd]; rfl
  unfold Fd at Fu
  rw [e0] at Fu
  have hin : at_ ∈ tf := by rw [htf]; exact List.mem_map.mpr ⟨_, hat, rfl⟩
  exact ge_lam (c := ctOf tfn X.K sa ns bs) (js := js) (as0 := [a0]) Fu Sg hTF ct_one hB S hq hb (Fu.bindsN hgb) (T.tabs at_ hin) hcode (tab_m hat) (tab_u hnd hat) (hr.mono hj) hk hfree hfr hjs hdef tk rfl rfl hg hm ha hdb he he2
/-- g(lambda ..) -/
theorem ge_lamC0 (T : Top fa fn ts tf ex X.w h X.base X.mg X.K) (hF : ∃ fd, Fd X.K D fd) (hd : D.dfl = []) (hx : D.name = x) (hgb : ∀ (kV doc pm : Value) (an : Option Addr) (cdv ct : Value) (us : List Value), us.length = [a1].length → bindArgs (PySem.W.fnOf D.name D.qual D.params D.body D.scope .none kV doc pm an cdv ct) ⟨us, []⟩ = pure ([a1].zip us))
    (Sg : FnScope Ng [a1] D.scope) (hTF : ∀ bs, TakesD X.prog X.w X.K X.mg X.base (ctOf tfn X.K sa ns bs) kg D Ng 0 ps.length b) (hB : ∀ bs, LamB X.prog X.w X.K X.mg X.base (ctOf tfn X.K sa ns bs) kl N F d) (S : NScope N ps fr F.scope) (htf : tf = tfn.map (·.1)) (hat : (at_, F.qual) ∈ tfn)
    (hnd : (tfn.map fun p => (He.cT X.K p.1).2).Nodup) (hq : F.qual = X.env.qual ++ "<lambda>") (hb : ∀ (cl : List (Str × Addr)) (pm cv ctv : Value) (us : List Value), us.length = ps.length → bindArgs (PySem.W.kla_fn "<lambda>" F.qual F.params F.body F.scope cl pm cv ctv) ⟨us, []⟩ = pure (ps.zip us))
    (hcode : X.env.code = .ref (He.cT X.K at_).1) (hr : Rm j X.A) (hj : kg + 1 ≤ j) (hk : kl + 1 ≤ kg) (hfree : ∀ y ∈ F.scope.names, y.2 = .free → X.env.scope.names.lookup y.1 = some .cell ∨ X.env.scope.names.lookup y.1 = some .free) (hfr : ∀ y ∈ fr, (y, NameKind.free) ∈ F.scope.names) (hjs : js.map (fun j => X.N[j]?) = fr.map some)
    (hdef : defaultsOf F.params X.env = ([], [])) (tk : Takes X W) (hg : Gl X x) (hm : X.mg x = some (.ref (He.fAd X.K D.at_))) (hdb : (x == ("__debug__" : Str)) = false := by decide)
    (he2 : starEach [.Lambda F.params F.body F.scope lpos] X.env = (false, eval (.Lambda F.params F.body F.scope lpos) X.env) :: starEach [] X.env := by rfl) :
    GE X (ctOf tfn X.K sa ns bs) W (.Call (.Name x p) [.Lambda F.params F.body F.scope lpos] [] pos) (dLam Ng.length N.length b d js aNil) := by
  subst hx
  obtain ⟨fd, Fu⟩ := hF
  have e0 : D.dvs X.K = [] := by unfold He.DefD.dvs; rw [hd]; rfl
  unfold Fd at Fu
  rw [e0] at Fu
  have hin : at_ ∈ tf := by rw [htf]; exact List.mem_map.mpr ⟨_, hat, rfl⟩
  exact ge_lam0 (c := ctOf tfn X.K sa ns bs) (js := js) Fu Sg hTF ct_one hB S hq hb (Fu.bindsN hgb) (T.tabs at_ hin) hcode (tab_m hat) (tab_u hnd hat) (hr.mono hj) hk hfree hfr hjs hdef tk rfl hg hm hdb he2
end
end G
namespace G
open PySem PySem.Spec PyProof.Rows L2

/-- over ValueError, by own classes, kept in the written part -/
def oexB (K : PySem.W.Frag) (C : Addr) : Bool := match K.lookup C with
  | some ⟨.type "type", _, .cls cd, sl⟩ => (match cd.mro, sl.toList with
    | .ref C' :: bm, [_, _, _, _, some (.builtin n), _] => C' == C && (n == "ValueError.__new__" && (!cd.hasDel && (cd.hasDict && (PySem.HandSPX.refsVE bm && (He.eqO (PySem.W.findIn K (.ref C) "__setattr__") (some (some (.builtin "object.__setattr__"))) &&
      (decide (PySem.W.subIn K (.ref C) (.type "BaseException") = some true) && (decide (PySem.W.typeIn K (.ref C) = some (.type "type")) && PySem.W.keepIn K (.ref C))))))))
    | _, _ => false)
  | _ => false
theorem oexB_ok {K : PySem.W.Frag} {C : Addr} (q : oexB K C = true) : OexC K C := by
  unfold oexB at q
  split at q
  · rename_i dd cd sl ho
    split at q
    · rename_i C' bm k0 k1 k2 k3 n k5 hm hs
      simp only [Bool.and_eq_true, beq_iff_eq, Bool.not_eq_true', decide_eq_true_eq] at q
      obtain ⟨rfl, rfl, hdel, hdict, hbm, hsa, hx, ht, hk⟩ := q
      obtain ⟨nm, bs, mro, ns, qn, hd, sn, sub, ab, col, del⟩ := cd
      dsimp only at hm hdel hdict
      subst hm hdel hdict
      have hsl : sl = #[k0, k1, k2, k3, some (.builtin "ValueError.__new__"), k5] := by
        obtain ⟨l⟩ := sl
        simp only at hs
        rw [hs]
      subst hsl
      exact ⟨⟨nm, qn, ns, bs, bm, sn, sub, ab, col, dd, k0, k1, k2, k3, k5, ho, hbm⟩, He.eqO_ok hsa, hx, ht, hk⟩
    · cases q
  · cases q

def sRaise (C : Addr) (f : Str) (d : Slo → M PV) : SM := eS d fun v ε st => some (.ex C [(f, v)] ε, st)
/-- what the class says: its own __init__ stores its one argument as f -/
structure ExI (P : Program) (w : World) (K : PySem.W.Frag) (mg : Str → Option Value) (base : Heap) (C : Addr) (f : Str) (fI : Addr) : Prop where
  T : OexC K C
  nof : PySem.W.findIn K (.ref C) f = some none
  ini : PySem.W.findIn K (.ref C) "__init__" = some (some (.ref fI))
  ty : PySem.W.typeIn K (.ref fI) = some (.type "function")
  run : ∃ fd, FnOk P w K mg base CX0 1 fI fd ["self", f] (fun vs H Q _ => ∃ a v, vs = [.ref a, v] ∧ H a = some (exo a C none) ∧ ∀ dx, H dx = none → dx ≠ a → Q .non (upd (upd H dx (exd dx [(f, v)])) a (exo a C (some dx)))) ∧ Binds K fd ["self", f] []
theorem exI_of {P : Program} {w : World} {K : PySem.W.Frag} {mg : Str → Option Value} {base : Heap} {C fI : Addr} {f qual : Str} {params : Arguments} {scope : Scope} {p1 p2 p3 p4 : Pos} {kws : List (Str × V)} (T : OexC K C) (nof : PySem.W.findIn K (.ref C) f = some none)
    (ini : PySem.W.findIn K (.ref C) "__init__" = some (some (.ref fI))) (ty : PySem.W.typeIn K (.ref fI) = some (.type "function"))
    (F : ∃ fd, FunD K "__init__" qual params [.Assign [.Attribute (.Name "self" p1) f p2] (.Name f p3) p4] scope [] kws fI fd) (S : FnScope ["self", f] ["self", f] scope) (v0 : Vis scope "self") (v1 : Vis scope f) (d1 : (f == ("__debug__" : Str)) = false) (d2 : (f == ("__classdict__" : Str)) = false)
    (hb : ∀ (kV doc pm : Value) (an : Option Addr) (cdv ct : Value) (us : List Value), us.length = (["self", f] : List Str).length → bindArgs (PySem.W.fnOf "__init__" qual params [.Assign [.Attribute (.Name "self" p1) f p2] (.Name f p3) p4] scope .none kV doc pm an cdv ct) ⟨us, []⟩ = pure ((["self", f] : List Str).zip us)) : ExI P w K mg base C f fI := by
  obtain ⟨fd, F⟩ := F
  refine ⟨T, nof, ini, ty, fd, F.ok (k := 0) S (fun vs H Q E ⟨a, v, e, _⟩ => by rw [e]; rfl) (fun cdv A outer s H vs Q E hr ⟨a, v, ev, ha, q⟩ => ?_), F.bindsN hb⟩
  subst ev
  refine ⟨_, pss_one (ps_ost (pe_var (i := 0) rfl v0) (pe_var (i := 1) rfl v1 d1 d2)), ?_⟩
  exact ⟨v, rfl, .ref a, rfl, a, C, rfl, T, nof, .inl ⟨ha, fun dx hd hne => q dx hd hne⟩⟩
section
variable {X : Cx} {c : Ct} {W : WX} {j : Nat} {C fI : Addr} {x f : Str} {e : Expr} {d : Slo → M PV} {p pos pos2 : Pos}
theorem gs_raise (hc : X.calm = true) (E : ExI X.prog X.w X.K X.mg X.base C f fI) (hr : Rm j X.A) (hj : 2 ≤ j) (tk : Takes X W) (hg : Gl X x) (hm : X.mg x = some (.ref C)) (ha : GE X c W e d) (hdb : (x == ("__debug__" : Str)) = false := by decide)
    (he : starEach [e] X.env = (false, eval e X.env) :: starEach [] X.env := by rfl) : GS X c W (.Raise (some (.Call (.Name x p) [e] [] pos)) none pos2) (sRaise C f d) := by
  obtain ⟨fd, Fo, hb⟩ := E.run
  refine (ps_raise hc tk (pmk_oex E.T E.ini E.ty Fo (hr.room.mono hj) hb .nil pass0 hg hm (pa_cons ha pa_nil he) hdb he rfl)).imp ?_
  rintro D σ H ⟨ε, μ, st, r, st', hS, s, eq, fin⟩
  refine stepS eq hS s fin fun v y st1 μ1 H1 e1 x1 rv s1 hS1 fin1 => ?_
  cases e1
  refine ⟨by show 1 ≤ 1000; omega, fun a ha => ⟨a, y, rfl, upd_same, fun dx hd hne => ⟨rfl, dx, [(f, y)], upd_same, ?_, ?_, ?_⟩⟩⟩
  · rw [upd_ne hne, upd_same]
  · rw [upd_ne hne] at hd
    exact hd
  · have hd1 : H1 dx = none := by rw [upd_ne hne] at hd; exact hd
    have eH : upd (del (upd (upd (upd H1 a (exo a C none)) dx (exd dx [(f, y)])) a (exo a C (some dx))) a) dx (.xd [(f, y)]) = upd H1 dx (.xd [(f, y)]) := by
      funext b
      by_cases h1 : b = dx
      · subst h1; rw [upd_same, upd_same]
      · rw [upd_ne h1, upd_ne h1]
        by_cases h2 : b = a
        · subst h2; rw [del_same]; exact ha.symm
        · rw [del_ne h2, upd_ne h2, upd_ne h1, upd_ne h2]
    rw [eH]
    have xx : Ext c μ1 H1 μ1 (upd H1 dx (.xd [(f, y)])) := ext_tup hd1
    exact fin1 (some dx) μ1 _ σ xx (hS1.mono xx) (.inr ⟨dx, [(f, y)], rfl, upd_same, .cons ⟨rfl, rv.mono xx⟩ .nil⟩) (s1.tuple hd1)
end

abbrev Hd := Value × Option Nat × (Addr → Value → Option Addr → TS)
def wTries (K : PySem.W.Frag) (Wout : WX) (D : Ends) : List Hd → WX
  | [] => Wout
  | (c, oi, ts) :: r => fun cls d σ H => ∃ b, PySem.W.exmOne K cls c = some b ∧ (b = true → ∀ a, H a = none → (match oi with
      | none => ts a cls d D σ H
      | some i => ts a cls d { nx := fun σ' H' => D.nx (σ'.set i none) H', rt := D.rt, bk := fun σ' H' => D.bk (σ'.set i none) H', ct := fun σ' H' => D.ct (σ'.set i none) H' } (σ.set i (some (.ref a))) H)) ∧ (b = false → wTries K Wout D r cls d σ H)
inductive HdsN (X : Cx) : List ExceptHandler → List Hd → Prop
  | nil : HdsN X [] []
  | one {x : Str} {c : Value} {ts : Addr → Value → Option Addr → TS} {b₀ : Stmt} {suite : List Stmt} {np pos' : Pos} {hds : List ExceptHandler} {l : List Hd} (hc : Names X x c)
      (hsu : ∀ (a : Addr) (oe : Obj) (cls : Value) (d : Option Addr) (pn : List (Addr × Obj)), Zc cls d oe → (∃ vs, oe.data = .fields vs) → PSs (X.suite a ((a, oe) :: pn)) (b₀ :: suite) (ts a cls d)) (r : HdsN X hds l) :
      HdsN X (.ExceptHandler (some (.Name x np)) none (b₀ :: suite) pos' :: hds) ((c, none, ts) :: l)
  | as_ {x n : Str} {i : Nat} {c : Value} {ts : Addr → Value → Option Addr → TS} {b₀ : Stmt} {suite : List Stmt} {np pos' : Pos} {hds : List ExceptHandler} {l : List Hd} (hN : X.N.Nodup) (hi : X.N[i]? = some n) (hln : X.env.kindOf n = some .local) (hc : Names X x c)
      (hsu : ∀ (a : Addr) (oe : Obj) (cls : Value) (d : Option Addr) (pn : List (Addr × Obj)), Zc cls d oe → (∃ vs, oe.data = .fields vs) → PSs (X.suite a ((a, oe) :: pn)) (b₀ :: suite) (ts a cls d)) (r : HdsN X hds l) :
      HdsN X (.ExceptHandler (some (.Name x np)) (some n) (b₀ :: suite) pos' :: hds) ((c, some i, ts) :: l)
section
variable {X : Cx} {body : List Stmt} {h₀ : ExceptHandler} {hds : List ExceptHandler} {l : List Hd} {pos : Pos} {tb : WX → TS} {Wout : WX}
theorem ps_tries (hs : X.stack = X.env :: X.outer) (hf : X.env.frame = some X.env.locals) (tk : Takes X Wout)
    (hb : ∀ (W : WX) (pn : List (Addr × Obj)) (xe : Value → Shared → Prop), Takes (X.tr pn xe) W → PassesOwn (model X.prog X.w) X.A X.env xe → PSs (X.tr pn xe) body (tb W))
    (hh : HdsN X (h₀ :: hds) l) : PS X (.Try body (h₀ :: hds) [] [] pos) (fun D σ H => tb (wTries X.K Wout D l) D σ H) := by
  refine ⟨fun pins s σ H D I h => ?_⟩
  have ok := I.ok
  have hfr : X.A.frames = some (X.env :: X.outer) := by rw [ok.frames, hs]
  refine wpAny_Try_except ?_
  refine wpAny_mono ((hb (wTries X.K Wout D l) (X.pn ++ pins) (fun e s₁ => wpAny (model X.prog X.w) X.A (noteFrame e X.env) (fun _ s₂ => wpAny (model X.prog X.w) X.A (setFlight e none) (fun _ s₃ =>
    wpAny (model X.prog X.w) X.A (handleBy e X.env (h₀ :: hds)) (SP X pins D) X.xe s₃) X.xe s₂) X.xe s₁) (fun u s' xx => ?_) PassesOwn.looking).run [] s σ H D (I.toTry _) h) (fun f s1 hsp => ?_) (fun e s1 he => he)
  · -- the catch
    obtain ⟨a, B, sI, pins', σ', H', cls, d, rfl, J', nb, up, sky, na, os, ag, w⟩ := xx
    have J : Inv X pins σ' H' sI := J'.ofTry ok
    have sky' : Sky B (X.env :: X.outer) a (Zc cls d) X.env.locals s'.heap := by rw [← hs]; exact sky
    show wpAny (model X.prog X.w) X.A (noteFrame (.ref a) X.env) _ _ _
    refine Sky.land Zc.steady hfr hf sky' fun h3 fl3 up3 => ?_
    have J3 : Inv X pins σ' H' { s' with heap := h3 } := J.landed nb fl3.1 (up.trans up3) os ag
    obtain ⟨oe3, vs3, he3, hz3, hd3⟩ := fl3.there
    have notFr : ∀ {h : Heap} {o : Obj} {vs : Array Value}, h.FunFrames B (X.env :: X.outer) → h.get? a = some o → o.data = .fields vs → a ∉ frs (X.env :: X.outer) := fun {h o vs} ff e dd hm => by
      obtain ⟨_, o', e', hnf⟩ := ff.mem hm
      rw [e] at e'; cases e'
      exact hnf _ dd
    have nfr := notFr fl3.2.2.1 he3 hd3
    have nL : a ≠ X.env.locals := fun z => nfr (List.mem_filterMap.mpr ⟨X.env, List.mem_cons_self, by rw [hf, z]⟩)
    have nF : a ∉ X.fs := fun hm => by
      obtain ⟨e, he, q⟩ := List.mem_filterMap.mp hm
      exact nfr (List.mem_filterMap.mpr ⟨e, List.mem_cons_of_mem _ he, q⟩)
    have S3 := J3.suite he3 hd3 na nL nF
    have tst : ∀ {x : Str} {c : Value} {np : Pos}, Names X x c → ∀ {Q : Value → Shared → Prop} {E : Value → Shared → Prop}, Q c { s' with heap := h3 } → wpAny (model X.prog X.w) (X.A.mark (some (.ref a))) (eval (.Name x np) X.env) Q E { s' with heap := h3 } := fun {x c np} hc {Q E} q => by
      obtain ⟨hg, hdbg, hm | ⟨hm, hv, hnn⟩⟩ := hc
      · exact ld_glob (X := X.suite a ((a, oe3) :: (X.pn ++ pins))) S3 hg hm q hdbg
      · exact ld_blt (X := X.suite a ((a, oe3) :: (X.pn ++ pins))) S3 hg hm hv q hnn hdbg
    have LT : PySem.W.Looks (model X.prog X.w) h3 (typeOf (.ref a)) cls := fun A Q E s k q => wpAny_typeOf_ref (k _ _ he3) (by rw [hz3.1]; exact q)
    have go : ∀ {hds' : List ExceptHandler} {l' : List Hd}, HdsN X hds' l' → wTries X.K Wout D l' cls d σ' H' →
        wpAny (model X.prog X.w) X.A (handleBy (.ref a) X.env hds') (SP X pins D) X.xe { s' with heap := h3 } := by
      intro hds' l' hk
      induction hk with
      | nil =>
        intro w
        refine wpAny_handleBy_nil ?_
        obtain ⟨k1, k2, k3, oe, vs, T, oT, ts', he, hz, hd, h1, hr⟩ := id fl3
        unfold PySem.passOn
        refine wpAny_bind (wpAny_field he hd h1 ?_)
        rw [if_neg (show ¬ ((Value.ref T == Value.none) = true) from by simp)]
        have fin : wpAny (model X.prog X.w) X.A (setFlight (.ref a) X.env.frame) (fun _ s4 => wpAny (model X.prog X.w) X.A (throw (.ref a) : Sem Flow) (SP X pins D) X.xe s4) X.xe { s' with heap := h3 } := by
          rw [hf]
          refine HandSPX.setFlight_upZ fl3 fun h4 hh4 up4 => wpAny_throw (tk _ _ ?_)
          exact ⟨a, B, sI, pins, σ', H', cls, d, rfl, J, nb, (up.trans up3).trans up4, .inr (.inr (by rw [hs]; exact hh4)), na, os, ag, w⟩
        first
          | exact wpAny_bind (wpAny_pure (wpAny_bind fin))
          | exact wpAny_bind fin
      | @one x c ts b₀ suite np pos' hds2 l2 hc hsu r ih =>
        intro w
        obtain ⟨b, hb1, hyes, hno⟩ := w
        refine wpAny_handleBy_cons (codeAny_handlers_test ?_) (by intro q; cases q)
        have LM := PySem.W.exm_one (M := model X.prog X.w) (J3.kIn) LT hb1
        refine tst hc (LM.here ?_)
        cases b with
        | true =>
          refine codeAny_handlers_suite ?_
          refine HandSPX.lands_againZ fl3 fun h4 fl4 up4 => ?_
          have J4 : Inv X pins σ' H' { s' with heap := h4 } := J.landed nb fl4.1 ((up.trans up3).trans up4) os ag
          obtain ⟨oe4, vs4, he4, hz4, hd4⟩ := fl4.there
          have S4 := J4.suite he4 hd4 na nL nF
          refine wpAny_mono ((hsu a oe4 cls d (X.pn ++ pins) hz4 ⟨_, hd4⟩).run [] _ _ H' _ S4 (hyes rfl a na)) (fun f s6 hsp => ?_) (fun _ _ z => False.elim z)
          cases f with
          | next =>
            obtain ⟨σ6, H6, S6, q6⟩ := hsp
            exact ⟨_, _, S6.unsuite ok, q6⟩
          | brk =>
            obtain ⟨σ6, H6, S6, q6⟩ := hsp
            exact ⟨_, _, S6.unsuite ok, q6⟩
          | cont =>
            obtain ⟨σ6, H6, S6, q6⟩ := hsp
            exact ⟨_, _, S6.unsuite ok, q6⟩
          | ret u =>
            obtain ⟨v6, σ6, H6, S6, r6, q6⟩ := hsp
            exact ⟨_, _, _, S6.unsuite ok, r6, q6⟩
        | false =>
          show wpAny _ X.A (handleBy (.ref a) X.env hds2) _ _ _
          exact ih (hno rfl)
      | @as_ x n i c ts b₀ suite np pos' hds2 l2 hN hi hln hc hsu r ih =>
        intro w
        obtain ⟨b, hb1, hyes, hno⟩ := w
        refine wpAny_handleBy_cons (codeAny_handlers_test ?_) (by intro q; cases q)
        have LM := PySem.W.exm_one (M := model X.prog X.w) (J3.kIn) LT hb1
        refine tst hc (LM.here ?_)
        cases b with
        | true =>
          refine codeAny_handlers_suite_as ?_
          refine HandSPX.lands_againZ fl3 fun h4 fl4 up4 => ?_
          have J4 : Inv X pins σ' H' { s' with heap := h4 } := J.landed nb fl4.1 ((up.trans up3).trans up4) os ag
          obtain ⟨oe4, vs4, he4, hz4, hd4⟩ := fl4.there
          have S4 := J4.suite he4 hd4 na nL nF
          refine store_ok (X := X.suite a ((a, oe4) :: (X.pn ++ pins))) (v := .ref a) S4 hN hi (.inl hln) rfl (fun s5 S5 => ?_) (.inr hln)
          refine wpAny_mono ((hsu a oe4 cls d (X.pn ++ pins) hz4 ⟨_, hd4⟩).run [] s5 _ H' _ S5 (hyes rfl a na)) (fun f s6 hsp => ?_) (fun _ _ z => False.elim z)
          have end_ : ∀ {σ6 : St} {H6 : Hp} {Q : Shared → Prop}, Inv (X.suite a ((a, oe4) :: (X.pn ++ pins))) [] σ6 H6 s6 → (∀ s7, Inv X pins (σ6.set i none) H6 s7 → Q s7) →
              wpAny (model X.prog X.w) X.A (do bindName X.env n .none; unbindBehindTheSuite X.env n pos') (fun _ s7 => Q s7) X.xe s6 := fun {σ6 H6 Q} S6 hq => gone_ok (S6.unsuite ok) hN hi hln hq
          cases f with
          | next =>
            obtain ⟨σ6, H6, S6, q6⟩ := hsp
            exact end_ S6 fun s7 J7 => ⟨_, _, J7, q6⟩
          | brk =>
            obtain ⟨σ6, H6, S6, q6⟩ := hsp
            exact end_ S6 fun s7 J7 => ⟨_, _, J7, q6⟩
          | cont =>
            obtain ⟨σ6, H6, S6, q6⟩ := hsp
            exact end_ S6 fun s7 J7 => ⟨_, _, J7, q6⟩
          | ret u =>
            obtain ⟨v6, σ6, H6, S6, r6, q6⟩ := hsp
            exact end_ S6 fun s7 J7 => ⟨_, _, _, J7, r6, q6⟩
        | false =>
          show wpAny _ X.A (handleBy (.ref a) X.env hds2) _ _ _
          exact ih (hno rfl)
    exact go hh w
  · cases f with
    | next =>
      obtain ⟨σ', H', J', q⟩ := hsp
      exact wpAny_execs_nil ⟨σ', H', J'.ofTry ok, q⟩
    | brk =>
      obtain ⟨σ', H', J', q⟩ := hsp
      exact ⟨σ', H', J'.ofTry ok, q⟩
    | cont =>
      obtain ⟨σ', H', J', q⟩ := hsp
      exact ⟨σ', H', J'.ofTry ok, q⟩
    | ret u =>
      obtain ⟨v, σ', H', J', r, q⟩ := hsp
      exact ⟨v, σ', H', J'.ofTry ok, r, q⟩
end
end G
namespace G
open PySem PySem.Spec PyProof.Rows L2
abbrev Ct.wx (c : Ct) (q : XI) : Ct := { c with xs := [q] }
section
variable {c : Ct} {q : XI} {μ μ' : List Addr} {H H' : Hp} {st : Sto}
theorem Sim.wx (s : Sim c μ H st) : Sim (c.wx q) μ H st := ⟨s.nd, s.len, s.ob, s.tabs, s.scr, s.pre⟩
theorem Sim.nw (s : Sim (c.wx q) μ H st) : Sim c μ H st := ⟨s.nd, s.len, s.ob, s.tabs, s.scr, s.pre⟩
theorem RepS.wx {ε : Slo} {σ : L2.St} (h : RepS c μ H ε σ) (hx : RepX c μ H q.fs q.d) (hi : ∀ p ∈ c.fs, p.1 ≠ q.i) : RepS (c.wx q) μ H (ε.set q.i none) (σ.set q.i (some (.ref q.a))) := by
  refine ⟨by simp [h.len], fun j p e => ?_, fun p hp e => ?_, fun p hp => ?_⟩
  · by_cases hj : q.i = j
    · subst hj
      by_cases hl : q.i < ε.length
      · rw [List.getElem?_set_self hl] at e; cases e
      · rw [List.getElem?_eq_none (by simpa using hl)] at e; cases e
    · rw [List.getElem?_set_ne hj] at e ⊢
      exact h.at_ j p e
  · have hj : q.i ≠ p.1 := fun z => hi p hp z.symm
    rw [List.getElem?_set_ne hj] at e ⊢
    exact h.fn p hp e
  · have : p = q := by simpa using hp
    subst this
    refine ⟨fun e => ?_, hx⟩
    have hl : p.i < ε.length := by
      have := (List.getElem?_eq_some_iff.mp e).1
      simpa using this
    exact List.getElem?_set_self (by rw [← h.len]; exact hl)
theorem RepS.nw {ε : Slo} {σ : L2.St} (h : RepS (c.wx q) μ H ε σ) (hi : ∀ p ∈ c.fs, p.1 ≠ q.i) (hx : c.xs = []) : RepS c μ H (ε.set q.i none) (σ.set q.i none) := by
  refine ⟨by simp [h.len], fun j p e => ?_, fun p hp e => ?_, (by rw [hx]; exact fun _ z => nomatch z)⟩
  · by_cases hj : q.i = j
    · subst hj
      by_cases hl : q.i < ε.length
      · rw [List.getElem?_set_self hl] at e; cases e
      · rw [List.getElem?_eq_none (by simpa using hl)] at e; cases e
    · rw [List.getElem?_set_ne hj] at e ⊢
      exact h.at_ j p e
  · have hj : q.i ≠ p.1 := fun z => hi p hp z.symm
    rw [List.getElem?_set_ne hj] at e ⊢
    exact h.fn p hp e
end
/-- a clause: its name's slot, whether it takes a class, its suite -/
structure HdD where
  oi : Option Nat
  mt : Addr → Option Bool
  su : Addr → List (Str × PV) → SM
def hdEnd (oi : Option Nat) : Option (SR × Sto) → Option (SR × Sto)
  | some (.nx ε2, st2) => some (.nx (match oi with | none => ε2 | some i => ε2.set i none), st2)
  | some (.bk ε2, st2) => some (.bk (match oi with | none => ε2 | some i => ε2.set i none), st2)
  | some (.ct ε2, st2) => some (.ct (match oi with | none => ε2 | some i => ε2.set i none), st2)
  | some (.rt p, st2) => some (.rt p, st2)
  | _ => none
def hdS : List HdD → Addr → List (Str × PV) → SM
  | [], C, fs => fun ε st => some (.ex C fs ε, st)
  | h :: r, C, fs => fun ε st => match h.mt C with
    | none => none
    | some false => hdS r C fs ε st
    | some true => hdEnd h.oi (h.su C fs (match h.oi with | none => ε | some i => ε.set i none) st)
def sTry (b : SM) (hs : List HdD) : SM := fun ε st => match b ε st with
  | some (.ex C fs ε1, st1) => hdS hs C fs ε1 st1
  | r => r
inductive HdsG (X : Cx) (c : Ct) : List ExceptHandler → List HdD → Prop
  | nil : HdsG X c [] []
  | one {x : Str} {cv : Value} {mt : Addr → Option Bool} {su : Addr → List (Str × PV) → SM} {b₀ : Stmt} {suite : List Stmt} {np pos' : Pos} {hds : List ExceptHandler} {l : List HdD} (hc : Names X x cv) (hm : ∀ C b, mt C = some b → PySem.W.exmOne X.K (.ref C) cv = some b)
      (hsu : ∀ (a : Addr) (oe : Obj) (C : Addr) (d : Option Addr) (pn : List (Addr × Obj)) (fs : List (Str × PV)), Zc (.ref C) d oe → (∃ vs, oe.data = .fields vs) → GSs (X.suite a ((a, oe) :: pn)) c W0 (b₀ :: suite) (su C fs)) (r : HdsG X c hds l) :
      HdsG X c (.ExceptHandler (some (.Name x np)) none (b₀ :: suite) pos' :: hds) (⟨none, mt, su⟩ :: l)
  | as_ {x n : Str} {i : Nat} {cv : Value} {mt : Addr → Option Bool} {su : Addr → List (Str × PV) → SM} {b₀ : Stmt} {suite : List Stmt} {np pos' : Pos} {hds : List ExceptHandler} {l : List HdD} (hN : X.N.Nodup) (hi : X.N[i]? = some n) (hln : X.env.kindOf n = some .local) (hfi : ∀ q ∈ c.fs, q.1 ≠ i) (hc : Names X x cv) (hm : ∀ C b, mt C = some b → PySem.W.exmOne X.K (.ref C) cv = some b)
      (hsu : ∀ (a : Addr) (oe : Obj) (C : Addr) (d : Option Addr) (pn : List (Addr × Obj)) (fs : List (Str × PV)), Zc (.ref C) d oe → (∃ vs, oe.data = .fields vs) → GSs (X.suite a ((a, oe) :: pn)) (c.wx ⟨i, a, C, fs, d⟩) W0 (b₀ :: suite) (su C fs)) (r : HdsG X c hds l) :
      HdsG X c (.ExceptHandler (some (.Name x np)) (some n) (b₀ :: suite) pos' :: hds) (⟨some i, mt, su⟩ :: l)
section
variable {X : Cx} {c : Ct} {W : WX} {body : List Stmt} {h₀ : ExceptHandler} {hds : List ExceptHandler} {hs : List HdD} {pos : Pos} {b : SM}
/-- the clauses, as the rule wants them -/
theorem hds_of (hx : c.xs = []) : ∀ {hds : List ExceptHandler} {hs : List HdD}, HdsG X c hds hs → ∃ l, HdsN X hds l ∧ ∀ (D : Ends) (C : Addr) (fs : List (Str × PV)) (ε1 : Slo) (st1 : Sto) (r : SR) (st' : Sto) (d : Option Addr) (μ : List Addr) (H : Hp) (σ : L2.St),
    hdS hs C fs ε1 st1 = some (r, st') → FinS c μ H r st' D W → RepS c μ H ε1 σ → RepX c μ H fs d → Sim c μ H st1 → wTries X.K W D l (.ref C) d σ H
  | _, _, .nil => ⟨[], .nil, fun D C fs ε1 st1 r st' d μ H σ e fin hS hX s => by
    cases e
    exact fin d μ H σ .refl hS hX s⟩
  | _, _, .one (cv := cv) (mt := mt) (su := su) hc hm hsu r => by
    obtain ⟨l, h1, h2⟩ := hds_of hx r
    refine ⟨(cv, none, fun a cls d => fun D σ H => ∃ C fs, cls = .ref C ∧ tS c W0 (su C fs) D σ H) :: l, .one hc (fun a oe cls d pn hz hf => ⟨fun pins s σ H D I ⟨C, fs, e, q⟩ => by subst e; exact (hsu a oe C d pn fs hz hf).run pins s σ H D I q⟩) h1, ?_⟩
    intro D C fs ε1 st1 r st' d μ H σ e fin hS hX s
    have e : (match mt C with
      | none => none
      | some false => hdS _ C fs ε1 st1
      | some true => hdEnd none (su C fs ε1 st1)) = some (r, st') := e
    cases q : mt C with
    | none => rw [q] at e; cases e
    | some bb =>
      rw [q] at e
      refine ⟨bb, hm C bb q, fun z a ha => ?_, fun z => ?_⟩
      · subst z
        refine ⟨C, fs, rfl, ?_⟩
        have e' : hdEnd none (su C fs ε1 st1) = some (r, st') := e
        cases y : su C fs ε1 st1 with
        | none => rw [y] at e'; cases e'
        | some p =>
          obtain ⟨r1, st2⟩ := p
          rw [y] at e'
          cases r1 with
          | ex C2 fs2 ε2 => cases e'
          | nx ε2 => cases e'; exact ⟨ε1, μ, st1, _, _, hS, s, y, fin⟩
          | bk ε2 => cases e'; exact ⟨ε1, μ, st1, _, _, hS, s, y, fin⟩
          | ct ε2 => cases e'; exact ⟨ε1, μ, st1, _, _, hS, s, y, fin⟩
          | rt p => cases e'; exact ⟨ε1, μ, st1, _, _, hS, s, y, fin⟩
      · subst z
        exact h2 D C fs ε1 st1 r st' d μ H σ e fin hS hX s
  | _, _, .as_ (i := i) (cv := cv) (mt := mt) (su := su) hN hi hln hfi hc hm hsu r => by
    obtain ⟨l, h1, h2⟩ := hds_of hx r
    refine ⟨(cv, some i, fun a cls d => fun D σ H => ∃ C fs, cls = .ref C ∧ tS (c.wx ⟨i, a, C, fs, d⟩) W0 (su C fs) D σ H) :: l, .as_ hN hi hln hc (fun a oe cls d pn hz hf => ⟨fun pins s σ H D I ⟨C, fs, e, q⟩ => by subst e; exact (hsu a oe C d pn fs hz hf).run pins s σ H D I q⟩) h1, ?_⟩
    intro D C fs ε1 st1 r st' d μ H σ e fin hS hX s
    have e : (match mt C with
      | none => none
      | some false => hdS _ C fs ε1 st1
      | some true => hdEnd (some i) (su C fs (ε1.set i none) st1)) = some (r, st') := e
    cases q : mt C with
    | none => rw [q] at e; cases e
    | some bb =>
      rw [q] at e
      refine ⟨bb, hm C bb q, fun z a ha => ?_, fun z => ?_⟩
      · subst z
        refine ⟨C, fs, rfl, ?_⟩
        have e' : hdEnd (some i) (su C fs (ε1.set i none) st1) = some (r, st') := e
        have hS2 : RepS (c.wx ⟨i, a, C, fs, d⟩) μ H (ε1.set i none) (σ.set i (some (.ref a))) := hS.wx (q := ⟨i, a, C, fs, d⟩) hX hfi
        cases y : su C fs (ε1.set i none) st1 with
        | none => rw [y] at e'; cases e'
        | some p =>
          obtain ⟨r1, st2⟩ := p
          rw [y] at e'
          cases r1 with
          | ex C2 fs2 ε2 => cases e'
          | nx ε2 => cases e'; exact ⟨_, μ, st1, _, _, hS2, s.wx, y, fun μ' H' σ' x' rs s' => fin μ' H' _ x'.cg (rs.nw (q := ⟨i, a, C, fs, d⟩) hfi hx) s'.nw⟩
          | bk ε2 => cases e'; exact ⟨_, μ, st1, _, _, hS2, s.wx, y, fun μ' H' σ' x' rs s' => fin μ' H' _ x'.cg (rs.nw (q := ⟨i, a, C, fs, d⟩) hfi hx) s'.nw⟩
          | ct ε2 => cases e'; exact ⟨_, μ, st1, _, _, hS2, s.wx, y, fun μ' H' σ' x' rs s' => fin μ' H' _ x'.cg (rs.nw (q := ⟨i, a, C, fs, d⟩) hfi hx) s'.nw⟩
          | rt p => cases e'; exact ⟨_, μ, st1, _, _, hS2, s.wx, y, fun v μ' H' x' rv s' => fin v μ' H' x'.cg rv s'.nw⟩
      · subst z
        exact h2 D C fs ε1 st1 r st' d μ H σ e fin hS hX s
theorem gs_try (hs1 : X.stack = X.env :: X.outer) (hf : X.env.frame = some X.env.locals) (tk : Takes X W) (hx : c.xs = [])
    (hb : ∀ (W : WX) (pn : List (Addr × Obj)) (xe : Value → Shared → Prop), Takes (X.tr pn xe) W → PassesOwn (model X.prog X.w) X.A X.env xe → GSs (X.tr pn xe) c W body b)
    (hh : HdsG X c (h₀ :: hds) hs) : GS X c W (.Try body (h₀ :: hds) [] [] pos) (sTry b hs) := by
  obtain ⟨l, h1, h2⟩ := hds_of (W := W) hx hh
  refine (ps_tries hs1 hf tk (tb := fun W => tS c W b) hb h1).imp ?_
  rintro D σ H ⟨ε, μ, st, r, st', hS, s, e, fin⟩
  have e' : (match b ε st with
    | some (.ex C fs ε1, st1) => hdS hs C fs ε1 st1
    | r => r) = some (r, st') := e
  cases q : b ε st with
  | none => rw [q] at e'; cases e'
  | some p =>
    obtain ⟨r1, st1⟩ := p
    rw [q] at e'
    cases r1 with
    | ex C fs ε1 => exact ⟨ε, μ, st, _, _, hS, s, q, fun d μ' H' σ' x' rs rx s' => h2 D C fs ε1 st1 r st' d μ' H' σ' e' (fin.mono x') rs rx s'⟩
    | nx ε1 => cases e'; exact ⟨ε, μ, st, _, _, hS, s, q, fin⟩
    | bk ε1 => cases e'; exact ⟨ε, μ, st, _, _, hS, s, q, fin⟩
    | ct ε1 => cases e'; exact ⟨ε, μ, st, _, _, hS, s, q, fin⟩
    | rt p => cases e'; exact ⟨ε, μ, st, _, _, hS, s, q, fin⟩
end
/-- room within a suite -/
structure RmS (A : Around) : Prop where
  un : A.units + 200 < cLine
  gd : A.guards = some []
theorem Rm.suite {k : Nat} {A : Around} (r : Rm k A) (h : Option Value) : RmS (A.mark h) := ⟨by have := r.room.un; show A.units + 200 < _; omega, r.gd⟩
theorem RmS.u65 {A : Around} (r : RmS A) : A.units + 65 < cLine := by have := r.un; omega
theorem RmS.u64 {A : Around} (r : RmS A) : A.units + 64 < cLine := by have := r.un; omega
theorem RmS.u1 {A : Around} (r : RmS A) : A.units + 1 < cLine := by have := r.un; omega
theorem RmS.u101 {A : Around} (r : RmS A) : A.units + 101 < cLine := by have := r.un; omega
/-- e.f, e the exception -/
def dXf (cs : List Addr) (f : Str) (i : Nat) (C : Addr) (fs : List (Str × PV)) : Slo → M PV := fun ε => match ε[i]? with
  | some none => (need (decide (C ∈ cs)) >>= fun _ => lift (fs.lookup f))
  | _ => M.fail
theorem mem_look {β : Type} {C : Addr} {b : β} : ∀ {l : List (Addr × β)}, l.lookup C = some b → (C, b) ∈ l
  | [], e => by cases e
  | (D, b') :: l, e => by
    rw [List.lookup_cons] at e
    cases z : C == D with
    | true =>
      rw [z] at e
      cases e
      rw [beq_iff_eq] at z
      subst z
      exact List.mem_cons_self
    | false =>
      rw [z] at e
      exact List.mem_cons_of_mem _ (mem_look e)
theorem repF_look {c : Ct} {μ : List Addr} {H : Hp} {f : Str} {p : PV} : ∀ {fs : List (Str × PV)} {gs : List (Str × V)}, RepF c μ H fs gs → fs.lookup f = some p → ∃ v, gs.lookup f = some v ∧ RepV c μ H p v
  | [], _, h, e => by cases e
  | (g, q) :: fs, _, h, e => by
    cases h with
    | @cons a b _ t h1 h2 =>
      obtain ⟨e1, e2⟩ := h1
      obtain ⟨g', v⟩ := b
      have e1' : g = g' := e1
      subst e1'
      rw [List.lookup_cons] at e ⊢
      cases z : f == g with
      | true =>
        rw [z] at e
        cases e
        exact ⟨v, rfl, e2⟩
      | false =>
        rw [z] at e
        exact repF_look h2 e
section
variable {X : Cx} {c : Ct} {W : WX} {a C : Addr} {oe : Obj} {d : Option Addr} {pn : List (Addr × Obj)} {i : Nat} {fs : List (Str × PV)} {x n : Str} {p p2 p3 pos : Pos}
theorem pe_exv (hN : X.N[i]? = some x) (hv : Vis X.env.scope x) (hdb : (x == ("__debug__" : Str)) = false := by decide) (hcd : (x == ("__classdict__" : Str)) = false := by decide) : PE (X.suite a ((a, oe) :: pn)) (.Name x p) (tVar i) := pe_var (X := X.suite a ((a, oe) :: pn)) hN hv hdb hcd
/-- class C has attribute f of its own exceptions alone, or not known: one that was stored -/
theorem ge_xf {cs : List Addr} (hT : ∀ D ∈ cs, XfC X.K D ∧ PySem.W.findIn X.K (.ref D) n = some none) (hz : Zc (.ref C) d oe) (hf : ∃ vs, oe.data = .fields vs) (hN : X.N[i]? = some x) (hv : Vis X.env.scope x) (hdb : (x == ("__debug__" : Str)) = false := by decide) (hcd : (x == ("__classdict__" : Str)) = false := by decide)
    (hb : attributeBase (.Name x p) n X.env (eval (.Name x p) X.env) = eval (.Name x p) X.env := by rfl) : GE (X.suite a ((a, oe) :: pn)) (c.wx ⟨i, a, C, fs, d⟩) W (.Attribute (.Name x p) n pos) (dXf cs n i C fs) := by
  refine ⟨fun pins s σ H Q I h => ?_⟩
  obtain ⟨ε, μ, st, r, st', hS, sm, eq, fin⟩ := h
  obtain ⟨hz2, eq1⟩ := hole_inv (m := (need (decide (C ∈ cs)) >>= fun _ => lift (fs.lookup n) : M PV)) eq
  obtain ⟨bC, eq2⟩ := need_inv2 eq1
  obtain ⟨pv, e1, rfl, rfl⟩ := lift_inv eq2
  obtain ⟨T, hno⟩ := hT C (of_decide_eq_true bC)
  obtain ⟨h1, h2⟩ := hS.xc ⟨i, a, C, fs, d⟩ (List.mem_singleton.mpr rfl)
  refine (pe_xf T hno hz hf (pe_exv (oe := oe) (pn := pn) hN hv hdb hcd) hb).run pins s σ H Q I ?_
  refine ⟨.ref a, h1 hz2, rfl, rfl, ?_⟩
  rcases h2 with h2 | ⟨dd, gs, h3, h4, h5⟩
  · rw [show fs = [] from h2.1] at e1
    cases e1
  · obtain ⟨v, h6, h7⟩ := repF_look h5 e1
    exact ⟨dd, gs, v, h3, h4, h6, fin v μ H .refl h7 sm⟩
/-- isinstance(e, T), e the exception: ys the classes of which it is one -/
def dXi (kt : List (Addr × Bool)) (C : Addr) (i : Nat) : Slo → M PV := fun ε => match ε[i]? with
  | some none => (lift (kt.lookup C) >>= fun b => pure (.bl b))
  | _ => M.fail
theorem call_isX (T : ExcC X.K C) (hz : Zc (.ref C) d oe) (hf : ∃ vs, oe.data = .fields vs) : CallR (X.suite a ((a, oe) :: pn)) (.builtin "isinstance") (fun xs H Q => ∃ (cv : V) (cu : Value) (b : Bool), xs = [.ref a, cv] ∧ (∀ u, RelV cv u → u = cu) ∧ PySem.W.kitOne X.K (.ref C) cu = some b ∧ (∀ dd, d = some dd → ∃ gs, H dd = some (.xd gs)) ∧ Q (.bl b) H) := by
  intro pins s σ H xs us Q I r h
  obtain ⟨c, cv, b, rfl, hcv, e, hdx, q⟩ := h
  cases r with
  | cons rx rr =>
    cases rr with
    | cons rt rr =>
      cases rr
      cases rx
      have ec := hcv _ rt
      subst ec
      obtain ⟨hget, _⟩ := I.pin (a, oe) (List.mem_append.mpr (.inl List.mem_cons_self))
      obtain ⟨vs, hv⟩ := hf
      have J : ∃ od, PySem.W.InstAt s.heap a oe C od := by
        cases d with
        | none =>
          refine ⟨none, hget, hz.1, by unfold PySem.W.notCls; rw [hv] <;> rfl, ?_⟩
          rw [hz.2]
          trivial
        | some dd =>
          obtain ⟨gs, hg⟩ := hdx dd rfl
          have hx : ObjOk X.prog X.w H s.heap dd (.xd gs) := I.hok dd _ hg
          obtain ⟨mA, hns, hr⟩ := hx
          obtain ⟨od, ho, hl⟩ := lookIn_ns hns
          exact ⟨some od, hget, hz.1, by unfold PySem.W.notCls; rw [hv] <;> rfl, by rw [hz.2]; exact ho⟩
      obtain ⟨od, J⟩ := J
      have hcl : (PySem.W.clsIn X.K C).isSome = true := by
        obtain ⟨cd, hc, _⟩ := PySem.W.any_some T.hd
        rw [hc]
        rfl
      exact PySem.W.kia_one (PySem.W.kitx_exc hcl T.hg T.hk T.hs T.ha T.hn T.ht T.hm) I.kIn J e (fun z => nomatch z) fun tk => ⟨.bl b, H, I.kept (t' := tk) fun _ _ z => z, rfl, q⟩
theorem ge_xi {isl : Str} {T : Str} {cu : Value} {cv : V} {kt : List (Addr × Bool)} (hk : ∀ q ∈ kt, ExcC X.K q.1 ∧ PySem.W.kitOne X.K (.ref q.1) cu = some q.2) (hcv : ∀ u, RelV cv u → u = cu) (hT : PE (X.suite a ((a, oe) :: pn)) (.Name T p2) (tC cv)) (hz : Zc (.ref C) d oe) (hf : ∃ vs, oe.data = .fields vs) (hN : X.N[i]? = some x) (hv : Vis X.env.scope x)
    (hg : Gl X isl) (hm : X.mg isl = none) (hvi : bootBuiltins isl = some (.builtin "isinstance")) (hdb : (x == ("__debug__" : Str)) = false := by decide) (hcd : (x == ("__classdict__" : Str)) = false := by decide) (hn : isl ≠ "__name__" := by decide) (hdb2 : (isl == ("__debug__" : Str)) = false := by decide)
    (he : starEach [.Name x p, .Name T p2] X.env = (false, eval (.Name x p) X.env) :: starEach [.Name T p2] X.env := by rfl) (he2 : starEach [.Name T p2] X.env = (false, eval (.Name T p2) X.env) :: starEach [] X.env := by rfl) (hpl : (backTo pos (starEach [.Name T p2] X.env)).any (·.1) = false := by rfl) :
    GE (X.suite a ((a, oe) :: pn)) (c.wx ⟨i, a, C, fs, d⟩) W (.Call (.Name isl p3) [.Name x p, .Name T p2] [] pos) (dXi kt C i) := by
  refine ⟨fun pins s σ H Q I h => ?_⟩
  obtain ⟨ε, μ, st, r, st', hS, sm, eq, fin⟩ := h
  obtain ⟨hz2, eq2⟩ := hole_inv (m := (lift (kt.lookup C) >>= fun b => pure (.bl b) : M PV)) eq
  obtain ⟨b, e1, e2⟩ := bind_lift eq2
  obtain ⟨rfl, rfl⟩ := pure_inv e2
  obtain ⟨hC, hko⟩ := hk (C, b) (mem_look e1)
  obtain ⟨h1, h2⟩ := hS.xc ⟨i, a, C, fs, d⟩ (List.mem_singleton.mpr rfl)
  refine (pe_callB (X := X.suite a ((a, oe) :: pn)) (call_isX (oe := oe) (pn := pn) hC hz hf) hg hm hvi (pa_cons (pe_exv (oe := oe) (pn := pn) hN hv hdb hcd) (pa_cons hT pa_nil he2) he) hn hdb2 he hpl).run pins s σ H Q I ?_
  refine ⟨.ref a, h1 hz2, cv, cu, b, rfl, hcv, hko, fun dd e => ?_, fin (.bl b) μ H .refl (.bl b) sm⟩
  rcases h2 with h2 | ⟨dd', gs, h3, h4, h5⟩
  · have h2' : d = none := h2.2
    rw [h2'] at e; cases e
  · have h3' : d = some dd' := h3
    rw [h3'] at e; cases e
    exact ⟨gs, h4⟩
end
end G
namespace G
open PySem PySem.Spec PyProof.Rows L2 LamX NdefX

def fIsX (C : Addr) (ls : List String) (x : PV) : M PV := fun st => match x with
  | .loc n => (match st[n]? with
    | some (.ins C' _) => if C' = C then some (.ok (.bl true), st) else none
    | _ => (tyN x >>= fun a => need (decide (a ∈ ls)) >>= fun _ => pure (.bl false) : M PV) st)
  | _ => (tyN x >>= fun a => need (decide (a ∈ ls)) >>= fun _ => pure (.bl false) : M PV) st
def kinB (K : PySem.W.Frag) (C : Addr) (ls : List String) : Bool := ls.all fun T => decide (PySem.W.kitOne K (.type T) (.ref C) = some false)
section
variable {X : Cx} {c : Ct} {W : WX} {e : Expr} {d : Slo → M PV} {p p2 pos : Pos}
theorem ge_isX {C : Addr} {ls : List String} {x isl : Str} (hK : c.K = X.K) (ic : C8.InsC X.K C) (hk : kinB X.K C ls = true) (hg : Gl X isl) (hm : X.mg isl = none) (hgC : Gl X x) (hmC : X.mg x = some (.ref C)) (ha : GE X c W e d)
    (hvi : bootBuiltins isl = some (.builtin "isinstance")) (hn : isl ≠ "__name__" := by decide) (hdb : (isl == ("__debug__" : Str)) = false := by decide) (hdb2 : (x == ("__debug__" : Str)) = false := by decide)
    (he : starEach [e, .Name x p2] X.env = (false, eval e X.env) :: starEach [.Name x p2] X.env := by rfl) (he2 : starEach [.Name x p2] X.env = (false, eval (.Name x p2) X.env) :: starEach [] X.env := by rfl) (hpl : (backTo pos (starEach [.Name x p2] X.env)).any (·.1) = false := by rfl) :
    GE X c W (.Call (.Name isl p) [e, .Name x p2] [] pos) (dUn (fIsX C ls) d) := by
  have hT : PE X (.Name x p2) (tC (.ref C)) := pe_glob hgC hmC rfl hdb2
  refine (pe_callB call_isi hg hm hvi (pa_cons ha (pa_cons hT pa_nil he2) he) hn hdb he hpl).imp ?_
  rintro σ H Q ⟨ε, μ, st, r, st', hS, s, e, fin⟩
  refine step e hS s fin fun x v st1 μ1 H1 e1 x1 rx s1 hS1 fin1 => ?_
  have other : (tyN x >>= fun a => need (decide (a ∈ ls)) >>= fun _ => pure (.bl false) : M PV) st1 = some (r, st') → rIsi X.K [v, .ref C] H1 Q := fun e1 => by
    rcases bind_inv e1 with ⟨a, st2, e2, e3⟩ | ⟨C, fs, e2, _⟩
    · obtain ⟨a', h1, rfl, ty⟩ := tyN_ok rx s1 e2
      cases h1
      obtain ⟨b, e4⟩ := need_inv2 e3
      obtain ⟨rfl, rfl⟩ := pure_inv e4
      rw [hK] at ty
      exact ⟨v, .ref C, _, _, false, rfl, .own C, ty, of_decide_eq_true (List.all_eq_true.mp hk a (of_decide_eq_true b)), fin1 (.bl false) μ1 H1 .refl (.bl false) s1⟩
    · obtain ⟨_, h1, _⟩ := tyN_ok rx s1 e2
      cases h1
  cases x with
  | loc n =>
    have e2 : (match st1[n]? with
      | some (.ins C' _) => if C' = C then some (Out.ok (PV.bl true), st1) else none
      | _ => (tyN (.loc n) >>= fun a => need (decide (a ∈ ls)) >>= fun _ => pure (.bl false) : M PV) st1) = some (r, st') := e1
    cases q : st1[n]? with
    | none => rw [q] at e2; exact other e2
    | some ob =>
      rw [q] at e2
      cases ob with
      | ins C' fs =>
        obtain ⟨a, rfl, ha, so⟩ := s1.at_loc q rx
        obtain ⟨dx, gs, g, rf⟩ := so
        have e3 : (if C' = C then some (Out.ok (PV.bl true), st1) else none) = some (r, st') := e2
        by_cases hC : C' = C
        · subst hC
          rw [if_pos rfl] at e3
          cases e3
          exact ⟨.ref a, .ref C', _, _, true, rfl, .own C', .base (TyOf.ins g ic.cl ic.ha ic.hn ic.htk ic.hm), ic.me, fin1 (.bl true) μ1 H1 .refl (.bl true) s1⟩
        · rw [if_neg hC] at e3; cases e3
      | _ => exact other e2
  | _ => exact other e1
end

def rSortedST (K : PySem.W.Frag) : List V → Hp → VK → Prop := fun vs H Q => ∃ (a : Addr) (xs : List Str), vs = [V.ref a] ∧ SqT K H a (xs.map V.str) ∧ xs.length < 64 ∧
  ∀ (ys : List Str) (p : Addr), ys.Perm xs → sortedS ys = true → H p = none → Q (.ref p) (upd H p (.lst (ys.map V.str)))
section
variable {prog : Program} {w : World} {A : Around} {E : Value → Shared → Prop} {s : Shared}
theorem collect_tup {l : Addr} {o : Obj} {vs : List Value} {n : Nat} {Q : List Value → Shared → Prop} (ho : s.heap.get? l = some o) (hc : o.cls = .type "tuple") (hd : o.data = .seq vs.toArray n) (hsz : vs.length ≤ sizeLine)
    (h : Q vs { s with heap := (s.heap.push (seqObj "list" #[] 0)).update s.heap.objs.size (Obj.mapSeq (· ++ vs.toArray)) }) : wpAny (model prog w) A (collect (.ref l)) Q E s := by
  unfold collect
  refine wpAny_bind (wpAny_runValue (codeAny_builtin entry_proto_collect' ?_))
  show wpAny _ _ (do again (.builtin "list.__iadd__" ⟨[← newList [], .ref l], []⟩)) _ _ s
  refine wpAny_bind (wpAny_newList (wpAny_pure ⟨Code.quiet_builtin _ (by decide +kernel), codeAny_builtin entry_list_iadd' ?_⟩))
  show wpAny _ _ (Builtin.List.listExtendWith (.ref s.heap.objs.size) (.ref l) (.ref s.heap.objs.size)) _ _ { s with heap := s.heap.push (seqObj "list" #[] 0) }
  unfold Builtin.List.listExtendWith
  have hp : (s.heap.push (seqObj "list" #[] 0)).get? l = some o := Heap.get?_push_of_some _ ho
  refine wpAny_bind (wpAny_typeOf (T := "tuple") ⟨o, hp, hc⟩ ?_)
  have ht : (Value.type "tuple" == Value.type "tuple") = true := by rfl
  rw [if_pos (by rw [ht]; simp)]
  refine wpAny_bind (listItems_at hp hd ?_)
  refine wpAny_bind (listItems_at (xs := #[]) (n := 0) (Heap.get?_push_size _ rfl) rfl ?_)
  rw [if_neg (by simp)]
  refine wpAny_bind (listUpdate_at (xs := #[]) (n := 0) (Heap.get?_push_size _ rfl) rfl ?_ (Nat.zero_le _) (by show (#[] ++ vs.toArray).size ≤ sizeLine + 1; simp only [Array.size_append, List.size_toArray, List.length_nil]; omega))
  refine wpAny_pure ?_
  refine wpAny_bind (wpAny_load (get?_update_seq (Heap.get?_push_size _ rfl) _) ?_)
  show wpAny _ _ (pure ((#[] : Array Value) ++ vs.toArray).toList) Q E _
  rw [show ((#[] : Array Value) ++ vs.toArray).toList = vs by simp]
  exact wpAny_pure h
theorem sorted_tup {l : Addr} {o : Obj} {vs : List Value} {n : Nat} {ss : List Str} {Q : Value → Shared → Prop} (ho : s.heap.get? l = some o) (hc : o.cls = .type "tuple") (hd : o.data = .seq vs.toArray n) (hS : StrsAre vs ss) (h64 : vs.length < 64)
    (h : ∀ (out : Array Value) (ss' : List Str), StrsAre out.toList ss' → ss'.Perm ss → sortedS ss' = true → Q (.ref (s.heap.objs.size + 1)) { s with heap := sortedAll s.heap vs out }) :
    wpAny (model prog w) A (call (.builtin "sorted") [.ref l]) Q E s := by
  have hL : vs.length ≤ sizeLine := by rw [sizeLine_eq]; omega
  refine Calls.call_function_entry kind_sorted plain_sorted entry_sorted (args_sorted1 _) ?_
  unfold Builtin.«sorted»
  refine wpAny_bind (m := checkCount "sorted" 1 1 _) (wpAny_pure ?_)
  refine wpAny_bind (collect_tup ho hc hd hL ?_)
  refine wpAny_bind (wpAny_newList ?_)
  have hz : ((s.heap.push (seqObj "list" #[] 0)).update s.heap.objs.size (Obj.mapSeq (· ++ vs.toArray))).objs.size = s.heap.objs.size + 1 := by
    rw [Heap.size_update, size_push']
  have hoL : (((s.heap.push (seqObj "list" #[] 0)).update s.heap.objs.size (Obj.mapSeq (· ++ vs.toArray))).push (seqObj "list" vs.toArray 0)).get? (s.heap.objs.size + 1) = some (seqObj "list" vs.toArray 0) := by
    rw [← hz]; exact Heap.get?_push_size _ rfl
  show wpAny _ _ _ _ _ { s with heap := ((s.heap.push (seqObj "list" #[] 0)).update s.heap.objs.size (Obj.mapSeq (· ++ vs.toArray))).push (seqObj "list" vs.toArray 0) }
  rw [hz]
  refine wpAny_bind (wpAny_holding (wpAny_call_entry slot_list_sort ⟨_, hoL, rfl⟩ entry_list_sort (list_sort_treeK strKind_oneLt hoL hS.keysOf (fun v₁ v₂ rest e => keyKind_strs (by rw [← e]; exact hS)) h64 fun st' a1 a2 => ⟨_, rfl, ?_⟩) (args_list_sort _)))
  obtain ⟨ss', h1, h2, h3⟩ := sorted_out_str hS a1 a2
  exact wpAny_pure ⟨_, rfl, h _ ss' h1 h2 h3⟩
end
theorem cr_sortedST {X : Cx} : CallR X (.builtin "sorted") (rSortedST X.K) := by
  intro pins s σ H vs us Q I r h
  obtain ⟨a, xs, rfl, hs, h64, q⟩ := h
  obtain ⟨its, rv, ⟨o, ho, hc, n, hd⟩, hz⟩ := I.tuple hs
  rw [Vals.ref1 r]
  have hl0 := rv.length
  rw [List.length_map] at hl0
  refine sorted_tup ho hc hd rv.strs (by rw [← hl0]; exact h64) fun out ys h1 h2 h3 => ?_
  obtain ⟨ep, he'⟩ := PyProof.Rows.sortedAll_at s.heap its out
  have hlen : (ys.map V.str).length ≤ sizeLine := by rw [List.length_map, h2.length_eq, sizeLine_eq]; omega
  exact ⟨.ref _, upd H (s.heap.objs.size + 1) (.lst (ys.map V.str)), I.laid (t' := s.toks) (fun _ _ => PyProof.Rows.sortedAll_old) (Nat.le_succ _) ⟨hlen, out.toList, ep, vals_of_strs h1, he'⟩, rfl, q ys _ h2 h3 (I.hok.fresh (Nat.le_succ _))⟩
def fSortedX (ps : List PV) : M PV := match ps with
  | [.tup xs] => do
    let ss ← lift (xs.mapM asStr)
    need (decide (ss.length < 64))
    (do let n ← newO (.lst ((srtS ss).map PV.str)); pure (.loc n))
  | ps => fSorted ps
theorem cb_sortedX {c : Ct} : CbS c (fun vs H Q => (rSortedS c.K vs H Q ∨ rSortedI c.K vs H Q) ∨ rSortedST c.K vs H Q) fSortedX := by
  intro μ H st rr st' ps vs Q W rl s e fin
  unfold fSortedX at e
  split at e
  · obtain ⟨v, rfl, rv⟩ := rl1 rl
    obtain ⟨ss, q, e2⟩ := bind_lift e
    obtain ⟨b, e3⟩ := need_inv2 e2
    obtain ⟨rfl, rfl⟩ := new_inv e3
    cases rv with
    | tup h1 h2 =>
      have := mapM_inv asStr_ok h2 q
      subst this
      refine .inr ⟨_, ss, rfl, SqT.of h1, of_decide_eq_true b, fun ys p hp hs hn => ?_⟩
      have : ys = srtS ss := sort_unique (fun a b => leS_antisymm) (hp.trans (srtS_perm ss).symm) (sortedS_le hs) (srtS_le ss)
      subst this
      exact fin_lst hn (RepL0.strs _) s fin
  · exact .inl (cb_sorted μ H st rr st' ps vs Q W rl s e fin)

theorem nx_gSb' {o i : Slo → M PV} (ho : ∀ ε st C fs st', o ε st ≠ some (.ex C fs, st')) (hi : ∀ ε st C fs st', i ε st ≠ some (.ex C fs, st')) : ∀ p ε st r st', gSb o i p ε st = some (r, st') → ∃ ε', r = .nx ε' := fun p ε st r st' h => by
  rcases eS_inv h with ⟨a, st1, _, h1⟩ | ⟨C, fs, h1, _⟩
  · rcases eS_inv h1 with ⟨b, st2, _, h2⟩ | ⟨C, fs, h2, _⟩
    · rcases eS_inv h2 with ⟨_, st3, _, h3⟩ | ⟨C, fs, h3, _⟩
      · cases h3
        exact ⟨_, rfl⟩
      · exfalso
        revert h3
        show setI a b p st2 = some (.ex C fs, st') → False
        intro h3
        unfold setI at h3
        split at h3
        · rcases bind_inv h3 with ⟨ob, st4, g1, g2⟩ | ⟨C', fs', g1, _⟩
          · split at g2
            · split at g2
              · obtain ⟨_, _, g3⟩ := bind_lift g2
                cases g3
              · cases g2
            · obtain ⟨_, _, g3⟩ := bind_lift g2
              cases g3
          · obtain ⟨_, _, g2, _⟩ := getO_inv g1
            cases g2
        · cases h3
    · exact absurd h2 (hi _ _ _ _ _)
  · exact absurd h1 (ho _ _ _ _ _)
theorem ne_dVar {i : Nat} : ∀ ε st C fs st', dVar i ε st ≠ some (.ex C fs, st') := fun ε st C fs st' h => by
  obtain ⟨_, _, h2, _⟩ := lift_inv (show lift (ε[i]?).join st = some (.ex C fs, st') from h)
  cases h2
theorem ne_dC {v : PV} : ∀ ε st C fs st', dC v ε st ≠ some (.ex C fs, st') := fun ε st C fs st' h => by cases h

/-- the i-th default of the def at f is () -/
def dflB (K : PySem.W.Frag) (f : Str × Option Str) (i : Nat) : Bool := match K.lookup (He.dflAt f i K) with
  | some o => (match o.data with
    | .seq its _ => its.toList.isEmpty && decide (o.cls = .type "tuple")
    | _ => false)
  | none => false
theorem dflB_ok {K : PySem.W.Frag} {f : Str × Option Str} {i : Nat} (h : dflB K f i = true) : KTup K (He.dflAt f i K) [] := by
  unfold dflB at h
  split at h
  · rename_i o ho
    split at h
    · rename_i its n hd
      obtain ⟨h1, h2⟩ := Bool.and_eq_true_iff.mp h
      have e : its.toList = [] := List.isEmpty_iff.mp h1
      have e2 : its = #[] := by
        obtain ⟨l⟩ := its
        simp only at e
        rw [e]
      exact ⟨o, its, n, ho, of_decide_eq_true h2, hd, by rw [e2]; exact Nat.zero_le _, by rw [e]; exact .nil⟩
    · cases h
  · cases h
def exmL (K : PySem.W.Frag) (D : Addr) (l : List (Str × Bool)) : Bool := l.all fun q => decide (PySem.W.exmOne K (.ref (He.ga K q.1)) (.ref D) = some q.2)
def mtOf (A : Str → Addr) (l : List (Str × Bool)) : Addr → Option Bool := fun C => (l.map fun q => (A q.1, q.2)).lookup C
theorem exmL_ok {K : PySem.W.Frag} {D : Addr} {l : List (Str × Bool)} (h : exmL K D l = true) : ∀ C b, mtOf (He.ga K) l C = some b → PySem.W.exmOne K (.ref C) (.ref D) = some b := fun C b e => by
  obtain ⟨q, hq, e2⟩ := List.mem_map.mp (mem_look e)
  cases e2
  exact of_decide_eq_true (List.all_eq_true.mp h q hq)
def excB (K : PySem.W.Frag) (C : Addr) : Bool := decide (PySem.W.findIn K (.ref C) "__getattribute__" = some (some (.builtin "BaseException.__getattribute__"))) && (decide (PySem.W.findIn K (.ref C) "__getattr__" = some none) && (decide (PySem.W.subIn K (.ref C) (.type "BaseException") = some true) && (PySem.W.hasDictIn K C &&
  (decide (PySem.W.findIn K (.ref C) "__class__" = some (some (.builtin "object.__class__"))) && (decide (PySem.W.specialIn K (.builtin "object.__class__") "__get__" = some (some (.builtin "getset_descriptor.__get__"))) && (decide (PySem.W.takesIn K (.builtin "object.__class__") = some true) && decide (PySem.W.mroIn K C (.type "object") = some true)))))))
theorem excB_ok {K : PySem.W.Frag} {C : Addr} (h : excB K C = true) : ExcC K C := by
  unfold excB at h
  simp only [Bool.and_eq_true, decide_eq_true_eq] at h
  obtain ⟨h1, h2, h3, h4, h5, h6, h7, h8⟩ := h
  exact ⟨h1, h2, h3, h4, h5, h6, h7, h8⟩
def kitL (K : PySem.W.Frag) (cu : Value) (l : List (Str × Bool)) : Bool := l.all fun q => excB K (He.ga K q.1) && decide (PySem.W.kitOne K (.ref (He.ga K q.1)) cu = some q.2)
def ktOf (A : Str → Addr) (l : List (Str × Bool)) : List (Addr × Bool) := l.map fun q => (A q.1, q.2)
theorem kitL_ok {K : PySem.W.Frag} {cu : Value} {l : List (Str × Bool)} (h : kitL K cu l = true) : ∀ q ∈ ktOf (He.ga K) l, ExcC K q.1 ∧ PySem.W.kitOne K (.ref q.1) cu = some q.2 := fun q hq => by
  obtain ⟨q', hq', rfl⟩ := List.mem_map.mp hq
  obtain ⟨h1, h2⟩ := Bool.and_eq_true_iff.mp (List.all_eq_true.mp h q' hq')
  exact ⟨excB_ok h1, of_decide_eq_true h2⟩
def xfL (K : PySem.W.Frag) (f : Str) (l : List Str) : Bool := l.all fun q => xfB K (He.ga K q) && decide (PySem.W.findIn K (.ref (He.ga K q)) f = some none)
theorem xfL_ok {K : PySem.W.Frag} {f : Str} {l : List Str} (h : xfL K f l = true) : ∀ D ∈ l.map (He.ga K), XfC K D ∧ PySem.W.findIn K (.ref D) f = some none := fun D hD => by
  obtain ⟨q, hq, rfl⟩ := List.mem_map.mp hD
  obtain ⟨h1, h2⟩ := Bool.and_eq_true_iff.mp (List.all_eq_true.mp h q hq)
  exact ⟨xfB_ok h1, of_decide_eq_true h2⟩
def eiB (K : PySem.W.Frag) (x f : Str) : Bool := oexB K (He.ga K x) && (decide (PySem.W.findIn K (.ref (He.ga K x)) f = some none) && (decide (PySem.W.findIn K (.ref (He.ga K x)) "__init__" = some (some (.ref (He.fAd K (x, some "__init__"))))) && decide (PySem.W.typeIn K (.ref (He.fAd K (x, some "__init__"))) = some (.type "function"))))
theorem eiB_ok {K : PySem.W.Frag} {x f : Str} (h : eiB K x f = true) : OexC K (He.ga K x) ∧ PySem.W.findIn K (.ref (He.ga K x)) f = some none ∧ PySem.W.findIn K (.ref (He.ga K x)) "__init__" = some (some (.ref (He.fAd K (x, some "__init__")))) ∧ PySem.W.typeIn K (.ref (He.fAd K (x, some "__init__"))) = some (.type "function") := by
  unfold eiB at h
  simp only [Bool.and_eq_true, decide_eq_true_eq] at h
  exact ⟨oexB_ok h.1, h.2.1, h.2.2.1, h.2.2.2⟩
end G
namespace G
open PySem PySem.Spec PyProof.Rows
/-- m ends with a value, and then Q -/
def ev {α : Type} (m : M α) (st : Sto) (Q : α → Sto → Prop) : Prop := ∃ a st', m st = some (.ok a, st') ∧ Q a st'
def evS (s : SM) (ε : Slo) (st : Sto) (Q : SR → Sto → Prop) : Prop := ∃ r st', s ε st = some (r, st') ∧ Q r st'
section
variable {α β : Type} {st st1 st2 : Sto} {ε : Slo}
theorem ev.mono {m : M α} {Q Q' : α → Sto → Prop} (h : ev m st Q) (i : ∀ a st', Q a st' → Q' a st') : ev m st Q' := by
  obtain ⟨a, st', e, q⟩ := h
  exact ⟨a, st', e, i _ _ q⟩
theorem evS.mono {s : SM} {Q Q' : SR → Sto → Prop} (h : evS s ε st Q) (i : ∀ r st', Q r st' → Q' r st') : evS s ε st Q' := by
  obtain ⟨a, st', e, q⟩ := h
  exact ⟨a, st', e, i _ _ q⟩
theorem ev_pure {a : α} {Q : α → Sto → Prop} : ev (pure a) st Q ↔ Q a st := by
  constructor
  · rintro ⟨b, st', e, q⟩
    cases e
    exact q
  · exact fun q => ⟨_, _, rfl, q⟩
theorem ev_bind {m : M α} {k : α → M β} {Q : β → Sto → Prop} : ev (m >>= k) st Q ↔ ev m st fun a st1 => ev (k a) st1 Q := by
  constructor
  · rintro ⟨b, st', e, q⟩
    rcases bind_inv e with ⟨a, st1, e1, e2⟩ | ⟨C, fs, e1, e2⟩
    · exact ⟨a, st1, e1, b, st', e2, q⟩
    · cases e2
  · rintro ⟨a, st1, e1, b, st', e2, q⟩
    exact ⟨b, st', by rw [bind_ok e1]; exact e2, q⟩
theorem ev_fail {Q : α → Sto → Prop} : ev (M.fail : M α) st Q ↔ False := ⟨fun ⟨_, _, e, _⟩ => (nomatch e), False.elim⟩
theorem ev_lift {o : Option α} {Q : α → Sto → Prop} : ev (lift o) st Q ↔ ∃ a, o = some a ∧ Q a st := by
  cases o with
  | none => exact ⟨fun ⟨_, _, e, _⟩ => (nomatch e), fun ⟨_, e, _⟩ => (nomatch e)⟩
  | some a =>
    refine ⟨fun h => ⟨a, rfl, ev_pure.mp h⟩, fun ⟨b, e, q⟩ => ?_⟩
    cases e
    exact ev_pure.mpr q
theorem ev_liftS {a : α} {Q : α → Sto → Prop} : ev (lift (some a)) st Q ↔ Q a st := ev_pure
theorem ev_need {b : Bool} {Q : Unit → Sto → Prop} : ev (need b) st Q ↔ b = true ∧ Q () st := by
  cases b with
  | false => exact ⟨fun ⟨_, _, e, _⟩ => (nomatch e), fun ⟨e, _⟩ => (nomatch e)⟩
  | true => exact ⟨fun h => ⟨rfl, ev_pure.mp h⟩, fun h => ev_pure.mpr h.2⟩
theorem ev_getO {n : Nat} {Q : Ob → Sto → Prop} : ev (getO n) st Q ↔ ∃ o, st[n]? = some o ∧ Q o st := by
  constructor
  · rintro ⟨o, st', e, q⟩
    obtain ⟨o', e1, e2, rfl⟩ := getO_inv e
    cases e2
    exact ⟨_, e1, q⟩
  · rintro ⟨o, e, q⟩
    refine ⟨o, st, ?_, q⟩
    unfold getO
    rw [e]
theorem ev_getL {n : Nat} {Q : List PV → Sto → Prop} : ev (getL n) st Q ↔ ∃ xs, st[n]? = some (.lst xs) ∧ Q xs st := by
  constructor
  · rintro ⟨o, st', e, q⟩
    obtain ⟨xs, e1, e2, rfl⟩ := getL_inv e
    cases e2
    exact ⟨_, e1, q⟩
  · rintro ⟨o, e, q⟩
    refine ⟨o, st, ?_, q⟩
    unfold getL
    rw [e]
theorem ev_setO {n : Nat} {o : Ob} {Q : Unit → Sto → Prop} : ev (setO n o) st Q ↔ Q () (st.set n o) := ⟨fun ⟨_, _, e, q⟩ => by cases e; exact q, fun q => ⟨_, _, rfl, q⟩⟩
theorem ev_newO {o : Ob} {Q : Nat → Sto → Prop} : ev (newO o) st Q ↔ Q st.length (st ++ [o]) := ⟨fun ⟨_, _, e, q⟩ => by cases e; exact q, fun q => ⟨_, _, rfl, q⟩⟩
theorem ev_newL {xs : List PV} {Q : PV → Sto → Prop} : ev (newL xs) st Q ↔ xs.length ≤ 16777216 ∧ Q (.loc st.length) (st ++ [.lst xs]) := by
  unfold newL
  rw [ev_bind, ev_need, ev_bind, ev_newO, ev_pure, decide_eq_true_eq]
theorem ev_getD {x : PV} {Q : PyData → Sto → Prop} : ev (getD x) st Q ↔ ∃ d, toD st 60 x = some d ∧ shp d = true ∧ Q d st := by
  constructor
  · rintro ⟨o, st', e, q⟩
    obtain ⟨d, e1, e2, e3, rfl⟩ := getD_inv e
    cases e3
    exact ⟨_, e1, e2, q⟩
  · rintro ⟨d, e1, e2, q⟩
    refine ⟨d, st, ?_, q⟩
    unfold getD
    rw [e1]
    exact if_pos e2
variable {Q : PV → Sto → Prop} {QB : Bool → Sto → Prop} {QL : List PV → Sto → Prop} {QI : Option Int → Sto → Prop}
theorem ev_dVar {i : Nat} : ev (dVar i ε) st Q ↔ ∃ p, ε[i]? = some (some p) ∧ Q p st := by
  unfold dVar
  rw [ev_lift]
  cases h : ε[i]? with
  | none => exact ⟨fun ⟨_, e, _⟩ => (nomatch e), fun ⟨_, e, _⟩ => (nomatch e)⟩
  | some o =>
    refine ⟨fun ⟨p, e, q⟩ => ⟨p, ?_, q⟩, fun ⟨p, e, q⟩ => ⟨p, ?_, q⟩⟩
    · have : o = some p := e
      rw [this]
    · cases e
      rfl
theorem ev_dC {p : PV} : ev (dC p ε) st Q ↔ Q p st := ev_pure
theorem ev_aNil : ev (aNil ε) st QL ↔ QL [] st := ev_pure
variable {d e t : Slo → M PV} {ds : Slo → M (List PV)} {b b' : Slo → M Bool}
theorem ev_aCons : ev (aCons d ds ε) st QL ↔ ev (d ε) st fun x st1 => ev (ds ε) st1 fun xs st2 => QL (x :: xs) st2 := by
  unfold aCons
  rw [ev_bind]
  simp only [ev_bind, ev_pure]
theorem ev_dTup : ev (dTup ds ε) st Q ↔ ev (ds ε) st fun xs st1 => xs.length ≤ 16777216 ∧ Q (.tup xs) st1 := by
  unfold dTup
  simp only [ev_bind, ev_pure, ev_need, decide_eq_true_eq]
theorem ev_dLst : ev (dLst ds ε) st Q ↔ ev (ds ε) st fun xs st1 => xs.length ≤ 16777216 ∧ Q (.loc st1.length) (st1 ++ [.lst xs]) := by
  unfold dLst
  simp only [ev_bind, ev_newL]
theorem ev_dBin {f : PV → PV → M PV} : ev (dBin f d e ε) st Q ↔ ev (d ε) st fun x st1 => ev (e ε) st1 fun y st2 => ev (f x y) st2 Q := by
  unfold dBin
  simp only [ev_bind]
theorem ev_dUn {f : PV → M PV} : ev (dUn f d ε) st Q ↔ ev (d ε) st fun x st1 => ev (f x) st1 Q := by
  unfold dUn
  simp only [ev_bind]
theorem ev_asB {p : PV} : ev (asB p) st QB ↔ ∃ k, p = .bl k ∧ QB k st := by
  cases p with
  | bl k =>
    refine ⟨fun h => ⟨k, rfl, ev_pure.mp h⟩, fun ⟨k', e, q⟩ => ?_⟩
    cases e
    exact ev_pure.mpr q
  | _ => exact ⟨fun h => (ev_fail.mp h).elim, fun ⟨_, e, _⟩ => nomatch e⟩
theorem ev_asBb {k : Bool} : ev (asB (.bl k)) st QB ↔ QB k st := ev_pure
theorem ev_dB : ev (dB d ε) st QB ↔ ev (d ε) st fun x st1 => ev (asB x) st1 QB := by
  unfold dB
  simp only [ev_bind]
theorem ev_dChain {f g : PV → PV → M PV} : ev (dChain f g d e t ε) st Q ↔ ev (d ε) st fun x st1 => ev (e ε) st1 fun y st2 => ev (f x y) st2 fun z st3 => ev (asB z) st3 fun k st4 => ev (if k = true then (t ε >>= fun w => g y w) else pure (.bl false)) st4 Q := by
  unfold dChain
  simp only [ev_bind]
theorem ev_bAnd : ev (bAnd b b' ε) st QB ↔ ev (b ε) st fun k st1 => ev (if k = true then b' ε else pure false) st1 QB := by
  unfold bAnd
  simp only [ev_bind]
theorem ev_bOr : ev (bOr b b' ε) st QB ↔ ev (b ε) st fun k st1 => ev (if k = true then pure true else b' ε) st1 QB := by
  unfold bOr
  simp only [ev_bind]
theorem ev_bNot : ev (bNot b ε) st QB ↔ ev (b ε) st fun k st1 => QB (!k) st1 := by
  unfold bNot
  simp only [ev_bind, ev_pure]
theorem ev_vAnd : ev (vAnd d e ε) st Q ↔ ev (d ε) st fun x st1 => ev (asB x) st1 fun k st2 => ev (if k = true then e ε else pure (.bl false)) st2 Q := by
  unfold vAnd
  simp only [ev_bind]
theorem ev_vOr : ev (vOr d e ε) st Q ↔ ev (d ε) st fun x st1 => ev (asB x) st1 fun k st2 => ev (if k = true then pure (.bl true) else e ε) st2 Q := by
  unfold vOr
  simp only [ev_bind]
theorem ev_vNot : ev (vNot d ε) st Q ↔ ev (d ε) st fun x st1 => ev (asB x) st1 fun k st2 => Q (.bl (!k)) st2 := by
  unfold vNot
  simp only [ev_bind, ev_pure]
theorem ev_dIf : ev (dIf b d e ε) st Q ↔ ev (b ε) st fun k st1 => ev (if k = true then d ε else e ε) st1 Q := by
  unfold dIf
  simp only [ev_bind]
theorem ev_dTr : ev (dTr d ε) st QB ↔ ev (d ε) st fun x st1 => ev (tru x) st1 QB := by
  unfold dTr
  simp only [ev_bind]
theorem ev_oNone : ev (oNone ε) st QI ↔ QI none st := ev_pure
theorem ev_oSome : ev (oSome d ε) st QI ↔ ev (d ε) st fun x st1 => ∃ i, x = .int i ∧ QI (some i) st1 := by
  unfold oSome
  rw [ev_bind]
  have : ∀ (x : PV) (st1 : Sto), ev (match x with | .int i => pure (some i) | _ => M.fail : M (Option Int)) st1 QI ↔ ∃ i, x = .int i ∧ QI (some i) st1 := fun x st1 => by
    cases x with
    | int i => exact ⟨fun h => ⟨i, rfl, ev_pure.mp h⟩, fun ⟨j, e, q⟩ => by cases e; exact ev_pure.mpr q⟩
    | _ => exact ⟨fun h => (ev_fail.mp h).elim, fun ⟨_, e, _⟩ => nomatch e⟩
  exact ⟨fun h => h.mono fun x st1 q => (this x st1).mp q, fun h => h.mono fun x st1 q => (this x st1).mpr q⟩
theorem ev_dSl {lo hi : Slo → M (Option Int)} : ev (dSl d lo hi ε) st Q ↔ ev (d ε) st fun x st1 => ev (lo ε) st1 fun l st2 => ev (hi ε) st2 fun h st3 => ev (fSl x l h) st3 Q := by
  unfold dSl
  simp only [ev_bind]
theorem ev_dCall {F : List PV → M PV} {dv : List PV} : ev (dCall F dv ds ε) st Q ↔ ev (ds ε) st fun xs st1 => ev (F (xs ++ dv)) st1 Q := by
  unfold dCall
  simp only [ev_bind]
theorem ev_dCallK {F : List PV → M PV} {n m : Nat} {ix : List Nat} {dv : List PV} {as aks : Slo → M (List PV)} : ev (dCallK F n m ix dv as aks ε) st Q ↔ ev (as ε) st fun xs st1 => ev (aks ε) st1 fun ys st2 => (xs.length = n ∧ ys.length = m) ∧ ev (F (pick ix (xs ++ ys ++ dv))) st2 Q := by
  unfold dCallK
  simp only [ev_bind, ev_need, decide_eq_true_eq]
theorem ev_dCB {f : List PV → M PV} : ev (dCB f ds ε) st Q ↔ ev (ds ε) st fun xs st1 => ev (f xs) st1 Q := by
  unfold dCB
  simp only [ev_bind]
theorem ev_dBM {f : PV → List PV → M PV} {ty : PV → Sto → Bool} : ev (dBM f ty d ds ε) st Q ↔ ev (d ε) st fun x st1 => ty x st1 = true ∧ ev (ds ε) st1 fun xs st2 => ev (f x xs) st2 Q := by
  have key : ∀ (x : PV) (st1 : Sto), ev (fun st => if ty x st = true then (ds ε >>= fun xs => f x xs : M PV) st else none : M PV) st1 Q ↔ ty x st1 = true ∧ ev (ds ε) st1 fun xs st2 => ev (f x xs) st2 Q := fun x st1 => by
    rw [← ev_bind]
    by_cases h : ty x st1 = true
    · refine ⟨fun ⟨a, s, e, q⟩ => ⟨h, a, s, ?_, q⟩, fun ⟨_, a, s, e, q⟩ => ⟨a, s, ?_, q⟩⟩
      · have e' : (if ty x st1 = true then (ds ε >>= fun xs => f x xs : M PV) st1 else none) = some (.ok a, s) := e
        rw [if_pos h] at e'
        exact e'
      · show (if ty x st1 = true then (ds ε >>= fun xs => f x xs : M PV) st1 else none) = some (.ok a, s)
        rw [if_pos h]
        exact e
    · refine ⟨fun ⟨a, s, e, q⟩ => ?_, fun e => absurd e.1 h⟩
      have e' : (if ty x st1 = true then (ds ε >>= fun xs => f x xs : M PV) st1 else none) = some (.ok a, s) := e
      rw [if_neg h] at e'
      cases e'
  have e0 : ev (dBM f ty d ds ε) st Q ↔ ev (d ε) st fun x st1 => ev (fun st => if ty x st = true then (ds ε >>= fun xs => f x xs : M PV) st else none : M PV) st1 Q := ev_bind
  rw [e0]
  exact ⟨fun h => h.mono fun x st1 q => (key x st1).mp q, fun h => h.mono fun x st1 q => (key x st1).mpr q⟩
end
section
variable {st : Sto} {ε : Slo} {Q : SR → Sto → Prop} {a b : SM}
theorem evS_eS {α : Type} {m : Slo → M α} {k : α → SM} : (ev (m ε) st fun x st1 => evS (k x) ε st1 Q) → evS (eS m k) ε st Q := by
  rintro ⟨x, st1, e, r, st', e2, q⟩
  exact ⟨r, st', by rw [eS_ok e]; exact e2, q⟩
theorem evS_next : Q (.nx ε) st → evS sNext ε st Q := fun q => ⟨_, _, rfl, q⟩
/-- then b -/
def thn2 (b : SM) (Q : SR → Sto → Prop) : SR → Sto → Prop := fun r st => match r with
  | .nx ε => evS b ε st Q
  | r => Q r st
theorem thn2_nx : thn2 b Q (.nx ε) st ↔ evS b ε st Q := Iff.rfl
theorem thn2_rt {p : PV} : thn2 b Q (.rt p) st ↔ Q (.rt p) st := Iff.rfl
theorem thn2_bk : thn2 b Q (.bk ε) st ↔ Q (.bk ε) st := Iff.rfl
theorem thn2_ct : thn2 b Q (.ct ε) st ↔ Q (.ct ε) st := Iff.rfl
theorem sSeq_run : sSeq a b ε st = (match a ε st with
  | some (.nx ε', st1) => b ε' st1
  | r => r) := rfl
theorem evS_seq : evS a ε st (thn2 b Q) → evS (sSeq a b) ε st Q := by
  rintro ⟨r, st1, e, q⟩
  unfold evS
  rw [sSeq_run, e]
  cases r with
  | nx ε1 =>
    obtain ⟨r2, st2, e2, q2⟩ := q
    exact ⟨r2, st2, e2, q2⟩
  | rt p => exact ⟨_, st1, rfl, q⟩
  | bk p => exact ⟨_, st1, rfl, q⟩
  | ct p => exact ⟨_, st1, rfl, q⟩
  | ex C fs p => exact ⟨_, st1, rfl, q⟩
theorem evS_if {t : Slo → M Bool} : (ev (t ε) st fun k st1 => evS (if k = true then a else b) ε st1 Q) → evS (sIf t a b) ε st Q := evS_eS
theorem evS_ret {d : Slo → M PV} : (ev (d ε) st fun p st1 => Q (.rt p) st1) → evS (sRet d) ε st Q := fun h => evS_eS (h.mono fun p st1 q => ⟨_, _, rfl, q⟩)
theorem evS_retN : Q (.rt .non) st → evS sRetN ε st Q := fun q => ⟨_, _, rfl, q⟩
theorem evS_break : Q (.bk ε) st → evS sBreak ε st Q := fun q => ⟨_, _, rfl, q⟩
theorem evS_cont : Q (.ct ε) st → evS sCont ε st Q := fun q => ⟨_, _, rfl, q⟩
theorem evS_expr {d : Slo → M PV} : (ev (d ε) st fun _ st1 => Q (.nx ε) st1) → evS (sExpr d) ε st Q := fun h => evS_eS (h.mono fun p st1 q => evS_next q)
theorem evS_asg {d : Slo → M PV} {g : TM} : (ev (d ε) st fun p st1 => evS (g p) ε st1 Q) → evS (sAsg d g) ε st Q := evS_eS
theorem evS_gN {i : Nat} {p : PV} : Q (.nx (ε.set i (some p))) st → evS (gN i p) ε st Q := fun q => ⟨_, _, rfl, q⟩
theorem evS_gTu {gs : List PV → SM} {p : PV} : (ev (readS p) st fun xs st1 => evS (gs xs) ε st1 Q) → evS (gTu gs p) ε st Q := fun h => evS_eS (m := fun _ => readS p) h
theorem evS_gsNil : Q (.nx ε) st → evS (gsNil []) ε st Q := fun q => ⟨_, _, rfl, q⟩
theorem evS_gsCons {g : TM} {gs : List PV → SM} {p : PV} {ps : List PV} : evS (g p) ε st (thn2 (gs ps) Q) → evS (gsCons g gs (p :: ps)) ε st Q := fun h => evS_seq (a := g p) (b := gs ps) h
theorem evS_par {i j : Nat} {ds : Slo → M (List PV)} : (ev (ds ε) st fun ps st1 => ∃ p q, ps = [p, q] ∧ Q (.nx ((ε.set i (some p)).set j (some q))) st1) → evS (sPar i j ds) ε st Q := fun h => evS_eS (h.mono fun ps st1 ⟨p, q, e, h⟩ => by subst e; exact ⟨_, _, rfl, h⟩)
/-- a def: its body's end -/
theorem ev_fn {n np : Nat} {b : SM} {ps : List PV} {Q : PV → Sto → Prop} (hl : ps.length = np) (h : evS b (ps.map some ++ List.replicate (n - np) none) st fun r st' => match r with
    | .nx _ => Q .non st'
    | .rt p => Q p st'
    | _ => False) : ev (fnD n np b ps) st Q := by
  obtain ⟨r, st', e, q⟩ := h
  unfold ev fnD
  rw [if_pos hl, e]
  cases r with
  | nx ε => exact ⟨_, _, rfl, q⟩
  | rt p => exact ⟨_, _, rfl, q⟩
  | bk ε => exact q.elim
  | ct ε => exact q.elim
  | ex C fs ε => exact q.elim
end
/-- all places but those of S are as they were -/
structure Keep (S : List Nat) (st st' : Sto) : Prop where
  len : st.length ≤ st'.length
  at_ : ∀ i < st.length, i ∉ S → st'[i]? = st[i]?
section
variable {S S' : List Nat} {st st1 st2 : Sto}
theorem Keep.refl : Keep S st st := ⟨Nat.le_refl _, fun _ _ _ => rfl⟩
theorem Keep.trans (a : Keep S st st1) (b : Keep S st1 st2) : Keep S st st2 := ⟨Nat.le_trans a.len b.len, fun i h n => (b.at_ i (Nat.lt_of_lt_of_le h a.len) n).trans (a.at_ i h n)⟩
theorem Keep.mono (a : Keep S st st1) (h : ∀ i ∈ S, i < st.length → i ∈ S') : Keep S' st st1 := ⟨a.len, fun i hi n => a.at_ i hi fun z => n (h i z hi)⟩
theorem Keep.any (a : Keep [] st st1) : Keep S st st1 := a.mono fun _ h => nomatch h
theorem Keep.app {t : Sto} : Keep S st (st ++ t) := ⟨by simp, fun i h _ => List.getElem?_append_left h⟩
theorem Keep.set {i : Nat} {o : Ob} (h : i ∈ S) : Keep S st (st.set i o) := ⟨by simp, fun j _ n => List.getElem?_set_ne fun z => n (by rw [← z]; exact h)⟩
/-- a place that is newer than what is looked at -/
theorem Keep.setNew {i : Nat} {o : Ob} (a : Keep S st st1) (h : st.length ≤ i) : Keep S st (st1.set i o) := ⟨by simpa using a.len, fun j hj n => by rw [List.getElem?_set_ne (by omega)]; exact a.at_ j hj n⟩
theorem Keep.appR {t : Sto} (a : Keep S st st1) : Keep S st (st1 ++ t) := a.trans .app
theorem Keep.appL {t : Sto} (a : Keep S (st ++ t) st1) : Keep S st st1 := Keep.trans .app a
theorem Keep.get (a : Keep S st st1) {i : Nat} {o : Ob} (e : st[i]? = some o) (n : i ∉ S) : st1[i]? = some o := by
  rw [a.at_ i (List.getElem?_eq_some_iff.mp e).1 n]
  exact e
theorem Keep.lt {i : Nat} (a : Keep S st st1) (h : i < st.length) : i < st1.length := Nat.lt_of_lt_of_le h a.len
end
theorem get_lt {st : Sto} {i : Nat} {o : Ob} (e : st[i]? = some o) : i < st.length := (List.getElem?_eq_some_iff.mp e).1
theorem get_new {st : Sto} {o : Ob} : (st ++ [o])[st.length]? = some o := by simp
theorem get_old {st t : Sto} {i : Nat} {o : Ob} (e : st[i]? = some o) : (st ++ t)[i]? = some o := by rw [List.getElem?_append_left (get_lt e)]; exact e
end G
namespace G
open PySem PySem.Spec PyProof.Rows L2
section
variable {st : Sto} {ε : Slo} {Q : PV → Sto → Prop} {QB : Bool → Sto → Prop} {QL : List PV → Sto → Prop} {QI : Option Int → Sto → Prop} {QR : Src → Sto → Prop}
theorem lawfulStr : ∀ a b : Str, (a == b) = decide (a = b) := fun a b => by
  cases h : decide (a = b) with
  | true => rw [decide_eq_true_eq] at h; subst h; exact beq_self_eq_true _
  | false =>
    rw [decide_eq_false_iff_not] at h
    exact beq_eq_false_iff_ne.mpr h
theorem eqv_int {i j : Int} : PyData.eqv (.int i) (.int j) = decide (i = j) := by
  show (i == j) = _
  cases h : decide (i = j) with
  | true => rw [decide_eq_true_eq] at h; subst h; exact beq_self_eq_true _
  | false => rw [decide_eq_false_iff_not] at h; exact beq_eq_false_iff_ne.mpr h
theorem eqv_str {a b : Str} : PyData.eqv (.str a) (.str b) = decide (a = b) := lawfulStr a b
theorem eqv_tup {a b : List PyData} : PyData.eqv (.tuple a) (.tuple b) = PyData.eqvAll a b := by rw [PyData.eqv]
theorem eqv_lst {a b : List PyData} : PyData.eqv (.list a) (.list b) = PyData.eqvAll a b := by rw [PyData.eqv]
theorem eqv_nil : PyData.eqvAll [] [] = true := by rw [PyData.eqvAll]
theorem eqv_nilc {a : PyData} {r : List PyData} : PyData.eqvAll [] (a :: r) = false := by rw [PyData.eqvAll]
theorem eqv_cnil {a : PyData} {r : List PyData} : PyData.eqvAll (a :: r) [] = false := by rw [PyData.eqvAll]
theorem eqv_cons {a b : PyData} {r s : List PyData} : PyData.eqvAll (a :: r) (b :: s) = (PyData.eqv a b && PyData.eqvAll r s) := by rw [PyData.eqvAll]
theorem toD_int {n : Nat} {i : Int} : toD st (n + 1) (.int i) = some (.int i) := rfl
theorem toD_str {n : Nat} {i : Str} : toD st (n + 1) (.str i) = some (.str i) := rfl
theorem toD_bl {n : Nat} {i : Bool} : toD st (n + 1) (.bl i) = some (.bool i) := rfl
theorem toD_non {n : Nat} : toD st (n + 1) .non = some .none := rfl
theorem mapMd {f : PV → Option PyData} : ∀ {xs : List PV} {ds : List PyData}, Paired (fun x d => f x = some d) xs ds → xs.mapM f = some ds
  | [], [], _ => by simp
  | x :: xs, d :: ds, .cons h r => by
    rw [List.mapM_cons, h, mapMd r]
    rfl
theorem toD_tup {n : Nat} {xs : List PV} {ds : List PyData} (h : Paired (fun x d => toD st n x = some d) xs ds) : toD st (n + 1) (.tup xs) = some (.tuple ds) := by
  show (xs.mapM (toD st n)).map PyData.tuple = _
  rw [mapMd h]
  rfl
theorem toD_ktup {n : Nat} {xs : List PV} {ds : List PyData} (h : Paired (fun x d => toD st n x = some d) xs ds) : toD st (n + 1) (.ktup xs) = some (.tuple ds) := by
  show (xs.mapM (toD st n)).map PyData.tuple = _
  rw [mapMd h]
  rfl
theorem toD_lst {n m : Nat} {xs : List PV} {ds : List PyData} (e : st[m]? = some (.lst xs)) (h : Paired (fun x d => toD st n x = some d) xs ds) : toD st (n + 1) (.loc m) = some (.list ds) := by
  unfold toD
  rw [e]
  show (xs.mapM (toD st n)).map PyData.list = _
  rw [mapMd h]
  rfl
theorem all2_map {α : Type} {f : α → PV} {g : α → PyData} {n : Nat} : ∀ {l : List α}, (∀ a ∈ l, toD st n (f a) = some (g a)) → Paired (fun x d => toD st n x = some d) (l.map f) (l.map g)
  | [], _ => .nil
  | a :: l, h => .cons (h a List.mem_cons_self) (all2_map fun b hb => h b (List.mem_cons_of_mem _ hb))
theorem ev_fEq {x y : PV} : ev (fEq x y) st Q ↔ ∃ d, toD st 60 x = some d ∧ shp d = true ∧ ∃ e, toD st 60 y = some e ∧ shp e = true ∧ Q (.bl (PyData.eqv d e)) st := by
  unfold fEq
  simp only [ev_bind, ev_getD, ev_pure]
theorem ev_fNe {x y : PV} : ev (fNe x y) st Q ↔ ∃ d, toD st 60 x = some d ∧ shp d = true ∧ ∃ e, toD st 60 y = some e ∧ shp e = true ∧ Q (.bl (!PyData.eqv d e)) st := by
  unfold fNe
  simp only [ev_bind, ev_getD, ev_pure]
theorem shaped_int {i : Int} : shp (.int i) = true := rfl
theorem shaped_str {a : Str} : shp (.str a) = true := rfl
theorem ev_eqS {a b : Str} : ev (fEq (.str a) (.str b)) st Q ↔ Q (.bl (decide (a = b))) st := by
  rw [ev_fEq]
  constructor
  · rintro ⟨d, e1, _, e, e2, _, q⟩
    cases e1
    cases e2
    rw [eqv_str] at q
    exact q
  · intro q
    exact ⟨_, rfl, rfl, _, rfl, rfl, by rw [eqv_str]; exact q⟩
theorem ev_neS {a b : Str} : ev (fNe (.str a) (.str b)) st Q ↔ Q (.bl (!decide (a = b))) st := by
  rw [ev_fNe]
  constructor
  · rintro ⟨d, e1, _, e, e2, _, q⟩
    cases e1
    cases e2
    rw [eqv_str] at q
    exact q
  · intro q
    exact ⟨_, rfl, rfl, _, rfl, rfl, by rw [eqv_str]; exact q⟩
theorem ev_neII {i j : Int} : ev (fNe (.int i) (.int j)) st Q ↔ Q (.bl (!decide (i = j))) st := by
  rw [ev_fNe]
  constructor
  · rintro ⟨d, e1, _, e, e2, _, q⟩
    cases e1
    cases e2
    rw [eqv_int] at q
    exact q
  · intro q
    exact ⟨_, rfl, rfl, _, rfl, rfl, by rw [eqv_int]; exact q⟩
theorem ev_eqII {i j : Int} : ev (fEq (.int i) (.int j)) st Q ↔ Q (.bl (decide (i = j))) st := by
  rw [ev_fEq]
  constructor
  · rintro ⟨d, e1, _, e, e2, _, q⟩
    cases e1
    cases e2
    rw [eqv_int] at q
    exact q
  · intro q
    exact ⟨_, rfl, rfl, _, rfl, rfl, by rw [eqv_int]; exact q⟩
theorem ev_eqSS {a b : Str} (ha : PyData.strOk a = true) (hb : PyData.strOk b = true) : ev (fEq (.str a) (.str b)) st Q ↔ Q (.bl (decide (a = b))) st := by
  rw [ev_fEq]
  constructor
  · rintro ⟨d, e1, _, e, e2, _, q⟩
    cases e1
    cases e2
    rw [eqv_str] at q
    exact q
  · intro q
    exact ⟨_, rfl, rfl, _, rfl, rfl, by rw [eqv_str]; exact q⟩
theorem ev_neSS {a b : Str} (ha : PyData.strOk a = true) (hb : PyData.strOk b = true) : ev (fNe (.str a) (.str b)) st Q ↔ Q (.bl (!decide (a = b))) st := by
  rw [ev_fNe]
  constructor
  · rintro ⟨d, e1, _, e, e2, _, q⟩
    cases e1
    cases e2
    rw [eqv_str] at q
    exact q
  · intro q
    exact ⟨_, rfl, rfl, _, rfl, rfl, by rw [eqv_str]; exact q⟩
theorem ev_isN {neg : Bool} {x : PV} : ev (fIsN neg x .non) st Q ↔ Q (.bl (if neg = true then !isNone x else isNone x)) st := ev_pure
theorem ev_addII {i j : Int} : ev (fAdd (.int i) (.int j)) st Q ↔ Q (.int (i + j)) st := ev_pure
theorem ev_addTT {a b : List PV} : ev (fAdd (.tup a) (.tup b)) st Q ↔ a.length + b.length ≤ 16777216 ∧ Q (.tup (a ++ b)) st := by
  unfold fAdd
  simp only [ev_bind, ev_need, ev_pure, decide_eq_true_eq]
theorem ev_addLL {m n : Nat} {a b : List PV} (h1 : st[m]? = some (.lst a)) (h2 : st[n]? = some (.lst b)) : ev (fAdd (.loc m) (.loc n)) st Q ↔ (a ++ b).length ≤ 16777216 ∧ Q (.loc st.length) (st ++ [.lst (a ++ b)]) := by
  unfold fAdd
  simp only [ev_bind, ev_getL, ev_newL, h1, h2, Option.some.injEq, Ob.lst.injEq, exists_eq_left']
theorem ev_subII {i j : Int} : ev (fSub (.int i) (.int j)) st Q ↔ Q (.int (i - j)) st := ev_pure
theorem ev_mulII {i j : Int} : ev (fMulT (.int i) (.int j)) st Q ↔ (small64 i || small64 j) = true ∧ Q (.int (i * j)) st := by
  unfold fMulT fMul
  simp only [ev_bind, ev_need, ev_pure]
theorem ev_divII {i j : Int} : ev (fDiv (.int i) (.int j)) st Q ↔ (decide (0 < j) && decide (j < 1073741824)) = true ∧ Q (.int (i / j)) st := by
  unfold fDiv
  simp only [ev_bind, ev_need, ev_pure]
theorem ev_modII {i j : Int} : ev (fMod (.int i) (.int j)) st Q ↔ 0 < j ∧ Q (.int (i % j)) st := by
  unfold fMod
  simp only [ev_bind, ev_need, ev_pure, decide_eq_true_eq]
theorem ev_powII {i j : Int} : ev (fPow (.int i) (.int j)) st Q ↔ (decide (0 ≤ j) && decide (j ≤ 1000) && decide (i.natAbs < 2 ^ 64)) = true ∧ Q (.int (i ^ j.toNat)) st := by
  unfold fPow
  simp only [ev_bind, ev_need, ev_pure]
theorem ev_neg {i : Int} : ev (fNeg (.int i)) st Q ↔ Q (.int (-i)) st := ev_pure
theorem ev_cmpII {p : Int → Int → Bool} {q : Str → Str → Bool} {i j : Int} : ev (fCmp p q (.int i) (.int j)) st Q ↔ Q (.bl (p i j)) st := ev_pure
theorem ev_cmpSS {p : Int → Int → Bool} {q : Str → Str → Bool} {i j : Str} : ev (fCmp p q (.str i) (.str j)) st Q ↔ Q (.bl (q i j)) st := ev_pure
theorem ev_truB {k : Bool} : ev (tru (.bl k)) st QB ↔ QB k st := ev_pure
theorem ev_ixT {xs : List PV} {i : Int} : ev (fIx (.tup xs) (.int i)) st Q ↔ ∃ a, atI xs i = some a ∧ Q a st := ev_lift
theorem ev_ixK {xs : List PV} {i : Int} : ev (fIx (.ktup xs) (.int i)) st Q ↔ ∃ a, atI xs i = some a ∧ Q a st := ev_lift
theorem ev_ixL {n : Nat} {xs : List PV} {i : Int} (h : st[n]? = some (.lst xs)) : ev (fIx (.loc n) (.int i)) st Q ↔ ∃ a, atI xs i = some a ∧ Q a st := by
  unfold fIx
  rw [ev_bind, ev_getO]
  constructor
  · rintro ⟨o, e, q⟩
    rw [h] at e
    cases e
    exact ev_lift.mp q
  · intro q
    exact ⟨_, h, ev_lift.mpr q⟩
theorem ev_ixD {n : Nat} {kvs : List (Key × PV)} {p : PV} {k : Key} (h : st[n]? = some (.dK kvs)) (hp : asK p = some k) : ev (fIx (.loc n) p) st Q ↔ ∃ a, valP kvs k = some a ∧ Q a st := by
  unfold fIx
  rw [ev_bind, ev_getO]
  constructor
  · rintro ⟨o, e, q⟩
    rw [h] at e
    cases e
    have q' : ev (lift (dLook (.dK kvs) p) >>= fun r => lift r) st Q := q
    rw [ev_bind, ev_lift] at q'
    obtain ⟨r, e1, q2⟩ := q'
    rw [show dLook (.dK kvs) p = (asK p).map (valP kvs) from rfl, hp] at e1
    cases e1
    exact ev_lift.mp q2
  · intro q
    refine ⟨_, h, ?_⟩
    show ev (lift (dLook (.dK kvs) p) >>= fun r => lift r) st Q
    rw [ev_bind, ev_lift]
    exact ⟨valP kvs k, by rw [show dLook (.dK kvs) p = (asK p).map (valP kvs) from rfl, hp]; rfl, ev_lift.mpr q⟩
theorem ev_fld {n : Nat} {C : Addr} {f : Str} {fs : List (Str × PV)} (h : st[n]? = some (.ins C fs)) : ev (fFld C f (.loc n)) st Q ↔ ∃ a, fs.lookup f = some a ∧ Q a st := by
  unfold fFld
  rw [ev_bind, ev_getO]
  constructor
  · rintro ⟨o, e, q⟩
    rw [h] at e
    cases e
    have q' : ev (need (decide (C = C)) >>= fun _ => lift (fs.lookup f)) st Q := q
    rw [ev_bind, ev_need] at q'
    exact ev_lift.mp q'.2
  · intro q
    refine ⟨_, h, ?_⟩
    show ev (need (decide (C = C)) >>= fun _ => lift (fs.lookup f)) st Q
    rw [ev_bind, ev_need]
    exact ⟨decide_eq_true rfl, ev_lift.mpr q⟩
theorem ev_slT {xs : List PV} {lo hi : Option Int} : ev (fSl (.tup xs) lo hi) st Q ↔ Q (.tup (cutP xs lo hi)) st := ev_pure
theorem ev_slL {n : Nat} {xs : List PV} {lo hi : Option Int} (h : st[n]? = some (.lst xs)) : ev (fSl (.loc n) lo hi) st Q ↔ (cutP xs lo hi).length ≤ 16777216 ∧ Q (.loc st.length) (st ++ [.lst (cutP xs lo hi)]) := by
  unfold fSl
  simp only [ev_bind, ev_getL, ev_newL, h, Option.some.injEq, Ob.lst.injEq, exists_eq_left']
theorem ev_slS {ns : List Int} {lo hi : Option Int} : ev (fSl (.scr ns) lo hi) st Q ↔ (cutP (ns.map .int) lo hi).length ≤ 16777216 ∧ Q (.loc st.length) (st ++ [.lst (cutP (ns.map .int) lo hi)]) := by
  show ev (newL (cutP (ns.map .int) lo hi)) st Q ↔ _
  rw [ev_newL]
theorem ev_ixS {ns : List Int} {i : Int} {n : Nat} : True := trivial
theorem ev_readST {xs : List PV} : ev (readS (.tup xs)) st QL ↔ QL xs st := ev_pure
theorem ev_readSK {xs : List PV} : ev (readS (.ktup xs)) st QL ↔ QL xs st := ev_pure
theorem ev_readTT {xs : List PV} : ev (readT (.tup xs)) st QL ↔ QL xs st := ev_pure
theorem ev_readTK {xs : List PV} : ev (readT (.ktup xs)) st QL ↔ QL xs st := ev_pure
theorem ev_readLL {n : Nat} {xs : List PV} (h : st[n]? = some (.lst xs)) : ev (readL (.loc n)) st QL ↔ QL xs st := by
  show ev (getL n) st QL ↔ _
  rw [ev_getL]
  constructor
  · rintro ⟨ys, e, q⟩
    rw [h] at e
    cases e
    exact q
  · exact fun q => ⟨_, h, q⟩
theorem ev_readSL {n : Nat} {xs : List PV} (h : st[n]? = some (.lst xs)) : ev (readS (.loc n)) st QL ↔ QL xs st := ev_readLL h
theorem ev_lenT {xs : List PV} : ev (fLen [.tup xs]) st Q ↔ Q (.int xs.length) st := ev_pure
theorem ev_lenK {xs : List PV} : ev (fLen [.ktup xs]) st Q ↔ Q (.int xs.length) st := ev_pure
theorem ev_lenC {ns : List Int} : ev (fLen [.scr ns]) st Q ↔ Q (.int ns.length) st := by
  show ev (pure (PV.int (ns.map PV.int).length)) st Q ↔ _
  rw [ev_pure, List.length_map]
theorem ev_lenS {s : Str} : ev (fLen [.str s]) st Q ↔ s.length ≤ sizeLine ∧ Q (.int s.length) st := by
  show ev (need (decide (s.length ≤ sizeLine)) >>= fun _ => pure (PV.int s.length)) st Q ↔ _
  rw [ev_bind, ev_need, ev_pure, decide_eq_true_eq]
theorem ev_lenL {n : Nat} {xs : List PV} (h : st[n]? = some (.lst xs)) : ev (fLen [.loc n]) st Q ↔ Q (.int xs.length) st := by
  show ev (getL n >>= fun xs => pure (PV.int xs.length)) st Q ↔ _
  rw [ev_bind, ev_getL]
  constructor
  · rintro ⟨ys, e, q⟩
    rw [h] at e
    cases e
    exact ev_pure.mp q
  · exact fun q => ⟨_, h, ev_pure.mpr q⟩
theorem ev_abs {i : Int} : ev (fAbs [.int i]) st Q ↔ Q (.int (if i < 0 then -i else i)) st := ev_pure
theorem ev_intI {i : Int} : ev (fInt [.int i]) st Q ↔ Q (.int i) st := ev_pure
theorem ev_max2 {i j : Int} : ev (fMax [.int i, .int j]) st Q ↔ Q (.int (if j > i then j else i)) st := ev_pure
theorem ev_min2 {i j : Int} : ev (fMin [.int i, .int j]) st Q ↔ Q (.int (if j < i then j else i)) st := ev_pure
theorem mapM_asBl {l : List Bool} : (l.map PV.bl).mapM asBl = some l := by
  induction l with
  | nil => simp
  | cons a l ih => rw [List.map_cons, List.mapM_cons, ih]; rfl
theorem mapM_asI {l : List Int} : (l.map PV.int).mapM asI = some l := by
  induction l with
  | nil => simp
  | cons a l ih => rw [List.map_cons, List.mapM_cons, ih]; rfl
theorem mapM_asStr {l : List Str} : (l.map PV.str).mapM asStr = some l := by
  induction l with
  | nil => simp
  | cons a l ih => rw [List.map_cons, List.mapM_cons, ih]; rfl
theorem ev_all {n : Nat} {l : List Bool} (h : st[n]? = some (.lst (l.map PV.bl))) : ev (fAll [.loc n]) st Q ↔ Q (.bl (l.all id)) st := by
  show ev (readL (.loc n) >>= fun xs => lift (xs.mapM asBl) >>= fun ns => pure (.bl (ns.all id))) st Q ↔ _
  rw [ev_bind, ev_readLL h, ev_bind, mapM_asBl, ev_liftS, ev_pure]
theorem ev_any {n : Nat} {l : List Bool} (h : st[n]? = some (.lst (l.map PV.bl))) : ev (fAny [.loc n]) st Q ↔ Q (.bl (l.any id)) st := by
  show ev (readL (.loc n) >>= fun xs => lift (xs.mapM asBl) >>= fun ns => pure (.bl (ns.any id))) st Q ↔ _
  rw [ev_bind, ev_readLL h, ev_bind, mapM_asBl, ev_liftS, ev_pure]
theorem ev_sum {n : Nat} {l : List Int} (h : st[n]? = some (.lst (l.map PV.int))) : ev (fSum [.loc n]) st Q ↔ Q (.int l.sum) st := by
  show ev (readL (.loc n) >>= fun xs => lift (xs.mapM asI) >>= fun ns => pure (.int ns.sum)) st Q ↔ _
  rw [ev_bind, ev_readLL h, ev_bind, mapM_asI, ev_liftS, ev_pure]
theorem ev_tupleL {n : Nat} {xs : List PV} (h : st[n]? = some (.lst xs)) : ev (fTuple [.loc n]) st Q ↔ Q (.tup xs) st := by
  show ev (readL (.loc n) >>= fun xs => pure (.tup xs)) st Q ↔ _
  rw [ev_bind, ev_readLL h, ev_pure]
theorem ev_tupleT {xs : List PV} : ev (fTuple [.tup xs]) st Q ↔ Q (.tup xs) st := ev_pure
theorem ev_sortS {n : Nat} {l : List Str} (h : st[n]? = some (.lst (l.map PV.str))) : ev (fSorted [.loc n]) st Q ↔ l.length < 64 ∧ Q (.loc st.length) (st ++ [.lst ((srtS l).map PV.str)]) := by
  show ev (readL (.loc n) >>= fun xs => _) st Q ↔ _
  rw [ev_bind, ev_readLL h]
  simp only [mapM_asStr]
  rw [ev_bind, ev_need, ev_bind, ev_newO, ev_pure, decide_eq_true_eq]
theorem ev_append {n : Nat} {xs : List PV} {y : PV} (h : st[n]? = some (.lst xs)) : ev (mAppend (.loc n) [y]) st Q ↔ xs.length < sizeLine ∧ Q .non (st.set n (.lst (xs ++ [y]))) := by
  unfold mAppend
  simp only [ev_bind, ev_getL, ev_need, ev_setO, ev_pure, h, Option.some.injEq, Ob.lst.injEq, exists_eq_left', decide_eq_true_eq]
theorem ev_popAt {n : Nat} {xs : List PV} {i : Int} (h : st[n]? = some (.lst xs)) (h0 : 0 ≤ i) (h1 : i < xs.length) (hs : xs.length < 1000) : ev (mPop (.loc n) [.int i]) st Q ↔ ∃ y, xs[i.toNat]? = some y ∧ Q y (st.set n (.lst (xs.eraseIdx i.toNat))) := by
  have e : seqIndex? i xs.length = some i.toNat := by
    unfold seqIndex?
    have : ¬ i < 0 := by omega
    simp [this, h1, h0] <;> omega
  unfold mPop
  simp only [ev_bind, ev_getL, ev_need, ev_setO, ev_pure, ev_lift, h, Option.some.injEq, Ob.lst.injEq, exists_eq_left', decide_eq_true_eq, e]
  constructor
  · rintro ⟨_, y, h1, q⟩
    exact ⟨y, h1, q⟩
  · rintro ⟨y, h1, q⟩
    exact ⟨by omega, y, h1, q⟩
theorem isLst_of {n : Nat} {xs : List PV} (h : st[n]? = some (.lst xs)) : isLst (.loc n) st = true := by
  show (lstAt st n).isSome = true
  unfold lstAt
  rw [h]
  rfl
theorem ev_isi {T : String} {x : PV} : ev (fIsi T x) st Q ↔ ev (tyN x) st fun a st1 => ∃ b, kitB a T = some b ∧ Q (.bl b) st1 := by
  unfold fIsi
  simp only [ev_bind, ev_lift, ev_pure]
theorem kit_ii : kitB "int" "int" = some true := by decide +kernel
theorem kit_ib : kitB "int" "bool" = some false := by decide +kernel
theorem kit_ss : kitB "str" "str" = some true := by decide +kernel
theorem kit_tt : kitB "tuple" "tuple" = some true := by decide +kernel
theorem ev_isiII {i : Int} : ev (fIsi "int" (.int i)) st Q ↔ Q (.bl true) st := by
  rw [ev_isi, tyN, ev_pure, kit_ii]
  simp
theorem ev_isiIB {i : Int} : ev (fIsi "bool" (.int i)) st Q ↔ Q (.bl false) st := by
  rw [ev_isi, tyN, ev_pure, kit_ib]
  simp
theorem ev_isiSS {i : Str} : ev (fIsi "str" (.str i)) st Q ↔ Q (.bl true) st := by
  rw [ev_isi, tyN, ev_pure, kit_ss]
  simp
theorem ev_isiTT {i : List PV} : ev (fIsi "tuple" (.tup i)) st Q ↔ Q (.bl true) st := by
  rw [ev_isi, tyN, ev_pure, kit_tt]
  simp
theorem ev_isC {C : Addr} {n : Nat} {fs : List (Str × PV)} (h : st[n]? = some (.ins C fs)) : ev (fIsC C (.loc n)) st Q ↔ Q (.bl true) st := by
  unfold fIsC
  rw [ev_bind, ev_getO]
  constructor
  · rintro ⟨o, e, q⟩
    rw [h] at e
    cases e
    have q' : ev (need (decide (C = C)) >>= fun _ => pure (.bl true)) st Q := q
    rw [ev_bind, ev_need, ev_pure] at q'
    exact q'.2
  · intro q
    refine ⟨_, h, ?_⟩
    show ev (need (decide (C = C)) >>= fun _ => pure (.bl true)) st Q
    rw [ev_bind, ev_need, ev_pure]
    exact ⟨decide_eq_true rfl, q⟩
variable {d e f : Slo → M PV}
theorem ev_dSrc : ev (dSrc d ε) st QR ↔ ev (d ε) st fun p st1 => ev (srcOf p) st1 QR := by
  unfold dSrc
  rw [ev_bind]
theorem ev_srcT {xs : List PV} : ev (srcOf (.tup xs)) st QR ↔ QR (.fix xs) st := ev_pure
theorem ev_srcK {xs : List PV} : ev (srcOf (.ktup xs)) st QR ↔ QR (.fix xs) st := ev_pure
theorem ev_srcL {n : Nat} {xs : List PV} (h : st[n]? = some (.lst xs)) : ev (srcOf (.loc n)) st QR ↔ QR (.live n) st := by
  have e : (srcOf (.loc n)) st = some (.ok (.live n), st) := by
    show (match lstAt st n with
      | some _ => some (Out.ok (Src.live n), st)
      | none => none) = _
    unfold lstAt
    rw [h]
  unfold ev
  rw [e]
  constructor
  · rintro ⟨a, s, e1, q⟩
    cases e1
    exact q
  · exact fun q => ⟨_, _, rfl, q⟩
theorem ev_rng1 : ev (dRng1 d ε) st QR ↔ ev (d ε) st fun p st1 => ∃ r, rng1 p = some r ∧ QR (.fix r) st1 := by
  unfold dRng1
  simp only [ev_bind, ev_lift, ev_pure]
theorem rng1_int {i : Int} (h : -(2 ^ 62) ≤ i ∧ i < 2 ^ 62) : rng1 (.int i) = some (rngP 0 i.toNat) := by
  show (if big62 i = true then _ else _) = _
  rw [if_pos]
  unfold big62
  exact decide_eq_true h
theorem ev_enm : ev (dEnm d ε) st QR ↔ ev (d ε) st fun p st1 => ev (srcEnm p) st1 QR := by
  unfold dEnm
  simp only [ev_bind]
theorem ev_enmT {xs : List PV} : ev (srcEnm (.tup xs)) st QR ↔ QR (.fix (xs.mapIdx fun i x => PV.tup [.int i, x])) st := by
  show ev (lift (some _) >>= fun r => pure (Src.fix r)) st QR ↔ _
  rw [ev_bind, ev_liftS, ev_pure]
theorem ev_dictZip : ev (dDictZip d e ε) st Q ↔ ev (d ε) st fun x st1 => ev (e ε) st1 fun y st2 => ev (readT x) st2 fun xs st3 => ev (readT y) st3 fun ys st4 => ∃ kvs, zipK xs ys = some kvs ∧ Q (.loc st4.length) (st4 ++ [.dK (mergeP [] kvs)]) := by
  unfold dDictZip
  simp only [ev_bind, ev_lift, ev_newO, ev_pure]
theorem ev_setF {C : Addr} {f : Str} {n : Nat} {v : PV} {fs : List (Str × PV)} {QU : Unit → Sto → Prop} (h : st[n]? = some (.ins C fs)) : ev (setF C f (.loc n) v) st QU ↔ fs.length < 1000 ∧ QU () (st.set n (.ins C (putG f v fs))) := by
  unfold setF
  rw [ev_bind, ev_getO]
  constructor
  · rintro ⟨o, e, q⟩
    rw [h] at e
    cases e
    have q' : ev (need (decide (C = C) && decide (fs.length < 1000)) >>= fun _ => setO n (.ins C (putG f v fs))) st QU := q
    rw [ev_bind, ev_need, ev_setO, Bool.and_eq_true, decide_eq_true_eq, decide_eq_true_eq] at q'
    exact ⟨q'.1.2, q'.2⟩
  · intro q
    refine ⟨_, h, ?_⟩
    show ev (need (decide (C = C) && decide (fs.length < 1000)) >>= fun _ => setO n (.ins C (putG f v fs))) st QU
    rw [ev_bind, ev_need, ev_setO, Bool.and_eq_true, decide_eq_true_eq, decide_eq_true_eq]
    exact ⟨⟨rfl, q.1⟩, q.2⟩
theorem ev_setIL {n : Nat} {xs : List PV} {k : Int} {v : PV} {QU : Unit → Sto → Prop} (h : st[n]? = some (.lst xs)) : ev (setI (.loc n) (.int k) v) st QU ↔ ∃ j, ixN xs.length k = some j ∧ QU () (st.set n (.lst (xs.set j v))) := by
  unfold setI
  rw [ev_bind, ev_getO]
  constructor
  · rintro ⟨o, e, q⟩
    rw [h] at e
    cases e
    have q' : ev (lift (ixN xs.length k) >>= fun j => setO n (.lst (xs.set j v))) st QU := q
    rw [ev_bind, ev_lift] at q'
    obtain ⟨j, e1, q2⟩ := q'
    exact ⟨j, e1, ev_setO.mp q2⟩
  · rintro ⟨j, e1, q⟩
    refine ⟨_, h, ?_⟩
    show ev (lift (ixN xs.length k) >>= fun j => setO n (.lst (xs.set j v))) st QU
    rw [ev_bind, ev_lift]
    exact ⟨j, e1, ev_setO.mpr q⟩
end
section
variable {st : Sto} {ε : Slo} {Q : SR → Sto → Prop}
theorem evS_gSb {o i : Slo → M PV} {v : PV} : (ev (o ε) st fun x st1 => ev (i ε) st1 fun y st2 => ev (setI x y v) st2 fun _ st3 => Q (.nx ε) st3) → evS (gSb o i v) ε st Q := fun h => evS_eS (h.mono fun x st1 h => evS_eS (h.mono fun y st2 h => evS_eS (m := fun _ => setI x y v) (h.mono fun _ st3 q => evS_next q)))
theorem evS_fld {C : Addr} {f : Str} {o d : Slo → M PV} : (ev (d ε) st fun v st1 => ev (o ε) st1 fun x st2 => ev (setF C f x v) st2 fun _ st3 => Q (.nx ε) st3) → evS (sFldS C f o d) ε st Q := fun h => evS_eS (h.mono fun v st1 h => evS_eS (h.mono fun x st2 h => evS_eS (m := fun _ => setF C f x v) (h.mono fun _ st3 q => evS_next q)))
/-- a loop over what is fixed: I holds ahead of each turn -/
theorem evS_for {d : Slo → M Src} {g : TM} {b : SM} (I : Nat → Slo → Sto → Prop) (hd : ev (d ε) st fun s st1 => ∃ xs, s = .fix xs ∧ I 0 ε st1 ∧ (∀ i x ε2 st2, xs[i]? = some x → I i ε2 st2 → evS (g x) ε2 st2 (thn2 b fun r st3 => match r with
    | .nx ε3 => I (i + 1) ε3 st3
    | .ct ε3 => I (i + 1) ε3 st3
    | .bk ε3 => Q (.nx ε3) st3
    | r => Q r st3)) ∧ ∀ ε2 st2, I xs.length ε2 st2 → Q (.nx ε2) st2) : evS (sFor d g b) ε st Q := by
  refine evS_eS (hd.mono fun s st1 h => ?_)
  obtain ⟨xs, rfl, h0, hs, he⟩ := h
  have go : ∀ (m i : Nat) (ε2 : Slo) (st2 : Sto), i + m = xs.length → I i ε2 st2 → ∃ r st3, forS (.fix xs) (fun x => sSeq (g x) b) m i ε2 st2 = some (r, st3) ∧ Q r st3 := by
    intro m
    induction m with
    | zero =>
      intro i ε2 st2 hi h
      have e : (Src.fix xs).draw i st2 = some none := by
        show some xs[i]? = _
        rw [List.getElem?_eq_none (by omega)]
      refine ⟨_, _, forS_stop e, he _ _ ?_⟩
      have : i = xs.length := by omega
      rw [← this]
      exact h
    | succ m ih =>
      intro i ε2 st2 hi h
      have hlt : i < xs.length := by omega
      have e : (Src.fix xs).draw i st2 = some (some xs[i]) := by
        show some xs[i]? = _
        rw [List.getElem?_eq_getElem hlt]
      rw [forS_go e]
      obtain ⟨r, st3, e2, q⟩ := evS_seq (hs i xs[i] ε2 st2 (List.getElem?_eq_getElem hlt) h)
      rw [e2]
      cases r with
      | nx ε3 => exact ih (i + 1) ε3 st3 (by omega) q
      | ct ε3 => exact ih (i + 1) ε3 st3 (by omega) q
      | bk ε3 => exact ⟨_, _, rfl, q⟩
      | rt p => exact ⟨_, _, rfl, q⟩
      | ex C fs ε3 => exact ⟨_, _, rfl, q⟩
  obtain ⟨r, st3, e, q⟩ := go xs.length 0 ε st1 (by omega) h0
  exact ⟨r, st3, e, q⟩
end
section
variable {st : Sto} {ε : Slo}
/-- a comprehension over what is fixed: place n is new, I tells the items so far and the rest of the store -/
theorem ev_lc {d : Slo → M Src} {g : TM} {t : Slo → M Bool} {e : Slo → M PV} {vs : List Nat} {Q : PV → Sto → Prop} (hd : ev (d ε) st fun s st1 => ∃ (xs : List PV) (I : Nat → List PV → Sto → Prop), s = .fix xs ∧ xs.length ≤ 16777216 ∧ I 0 [] (st1 ++ [.lst []]) ∧
    (∀ i x acc st2, xs[i]? = some x → st1.length < st2.length → st2[st1.length]? = some (.lst acc) → acc.length ≤ i → I i acc st2 → evS (g x) (wipeP ε vs) st2 fun r st3 => ∃ ε3, r = .nx ε3 ∧ ev (t ε3) st3 fun k st4 => if k = true then ev (e ε3) st4 fun y st5 => st5[st1.length]? = some (.lst acc) ∧ I (i + 1) (acc ++ [y]) (st5.set st1.length (.lst (acc ++ [y]))) else st4[st1.length]? = some (.lst acc) ∧ I (i + 1) acc st4) ∧
    ∀ acc st2, st2[st1.length]? = some (.lst acc) → I xs.length acc st2 → Q (.loc st1.length) st2) : ev (dLc d g t e vs ε) st Q := by
  unfold dLc
  rw [ev_bind]
  refine hd.mono fun s st1 h => ?_
  obtain ⟨xs, I, rfl, hl, h0, hs, he⟩ := h
  refine ev_bind.mpr (ev_newO.mpr ?_)
  have go : ∀ (m i : Nat) (acc : List PV) (st2 : Sto), i + m = xs.length → st1.length < st2.length → st2[st1.length]? = some (.lst acc) → acc.length ≤ i → I i acc st2 → ∃ st3 acc', lcGo (.fix xs) g t e st1.length (wipeP ε vs) m i st2 = some st3 ∧ st3[st1.length]? = some (.lst acc') ∧ I xs.length acc' st3 := by
    intro m
    induction m with
    | zero =>
      intro i acc st2 hi hlt ha hal h
      have e1 : (Src.fix xs).draw i st2 = some none := by
        show some xs[i]? = _
        rw [List.getElem?_eq_none (by omega)]
      refine ⟨st2, acc, ?_, ha, ?_⟩
      · unfold lcGo
        rw [e1]
      · have : i = xs.length := by omega
        rw [← this]
        exact h
    | succ m ih =>
      intro i acc st2 hi hlt2 ha hal h
      have hlt : i < xs.length := by omega
      have e1 : (Src.fix xs).draw i st2 = some (some xs[i]) := by
        show some xs[i]? = _
        rw [List.getElem?_eq_getElem hlt]
      obtain ⟨r, st3, e2, ε3, rfl, k, st4, e3, q⟩ := hs i xs[i] acc st2 (List.getElem?_eq_getElem hlt) hlt2 ha hal h
      have step : ∃ st5 acc', lcStep t e st1.length ε3 st3 = some (.ok (), st5) ∧ st1.length < st5.length ∧ st5[st1.length]? = some (.lst acc') ∧ acc'.length ≤ i + 1 ∧ I (i + 1) acc' st5 := by
        unfold lcStep
        cases k with
        | true =>
          rw [if_pos rfl] at q
          obtain ⟨y, st5, e4, h5, q⟩ := q
          refine ⟨st5.set st1.length (.lst (acc ++ [y])), acc ++ [y], ?_, ?_, ?_, ?_, q⟩
          · rw [bind_ok e3, if_pos rfl, bind_ok e4]
            have : ev (addL st1.length y) st5 fun u st6 => u = () ∧ st6 = st5.set st1.length (.lst (acc ++ [y])) := by
              unfold addL
              rw [ev_bind, ev_getL]
              refine ⟨acc, h5, ?_⟩
              rw [ev_bind, ev_need, ev_setO, decide_eq_true_eq]
              refine ⟨?_, rfl, rfl⟩
              rw [sizeLine_eq]
              omega
            obtain ⟨u, st6, e6, _, e7⟩ := this
            rw [e6, e7]
          · rw [List.length_set]
            exact get_lt h5
          · rw [List.getElem?_set_self (get_lt h5)]
          · rw [List.length_append, List.length_singleton]
            omega
        | false =>
          have q' := q
          rw [if_neg (by decide)] at q'
          refine ⟨st4, acc, ?_, get_lt q'.1, q'.1, by omega, q'.2⟩
          rw [bind_ok e3, if_neg (by decide)]
          rfl
      obtain ⟨st5, acc', e4, h6, h7, h8, h9⟩ := step
      obtain ⟨st6, acc2, e5, h10, h11⟩ := ih (i + 1) acc' st5 (by omega) h6 h7 h8 h9
      refine ⟨st6, acc2, ?_, h10, h11⟩
      unfold lcGo
      rw [e1]
      show (match g xs[i] (wipeP ε vs) st2 with
        | some (.nx ε2, st2) => match lcStep t e st1.length ε2 st2 with
          | some (.ok _, st3) => lcGo (.fix xs) g t e st1.length (wipeP ε vs) m (i + 1) st3
          | _ => none
        | _ => none) = some st6
      rw [e2]
      show (match lcStep t e st1.length ε3 st3 with
          | some (.ok _, st3) => lcGo (.fix xs) g t e st1.length (wipeP ε vs) m (i + 1) st3
          | _ => none) = some st6
      rw [e4]
      exact e5
  obtain ⟨st3, acc, e1, h1, h2⟩ := go xs.length 0 [] (st1 ++ [.lst []]) (by omega) (by simp) get_new (by simp) h0
  refine ⟨.loc st1.length, st3, ?_, he acc st3 h1 h2⟩
  show (match lcGo (.fix xs) g t e st1.length (wipeP ε vs) xs.length 0 (st1 ++ [.lst []]) with
    | some st' => some (Out.ok (PV.loc st1.length), st')
    | none => none) = _
  rw [e1]
end
end G
namespace G
open PySem PySem.Spec PyProof.Rows L2
theorem ev_iff {α : Type} {m : M α} {st st' : Sto} {v : α} (h : ev m st fun a s => a = v ∧ s = st') {Q : α → Sto → Prop} : ev m st Q ↔ Q v st' := by
  obtain ⟨a, s, e, rfl, rfl⟩ := h
  constructor
  · rintro ⟨b, s', e', q⟩
    rw [e] at e'
    cases e'
    exact q
  · exact fun q => ⟨_, _, e, q⟩
theorem ixN30 : ixN 3 0 = some 0 := by decide
theorem ixN31 : ixN 3 1 = some 1 := by decide
theorem ixN32 : ixN 3 2 = some 2 := by decide
theorem atI_nat {α : Type} {xs : List α} {i : Nat} (h : i < xs.length) : atI xs (i : Int) = some xs[i] := by
  have : ixN xs.length (i : Int) = some i := by
    unfold ixN
    rw [if_pos (by omega), if_pos (by omega)]
    simp
  unfold atI
  rw [this]
  exact List.getElem?_eq_getElem h
section
variable {α : Type} {a b c d e : α} {r : List α}
theorem atI0 : atI (a :: r) 0 = some a := atI_nat (xs := a :: r) (i := 0) (by simp)
theorem atI1 : atI (a :: b :: r) 1 = some b := atI_nat (xs := a :: b :: r) (i := 1) (by simp)
theorem atI2 : atI (a :: b :: c :: r) 2 = some c := atI_nat (xs := a :: b :: c :: r) (i := 2) (by simp)
theorem atI3 : atI (a :: b :: c :: d :: r) 3 = some d := atI_nat (xs := a :: b :: c :: d :: r) (i := 3) (by simp)
theorem atI4 : atI (a :: b :: c :: d :: e :: r) 4 = some e := atI_nat (xs := a :: b :: c :: d :: e :: r) (i := 4) (by simp)
theorem atI_last {xs : List α} {x : α} : atI (xs ++ [x]) (-1) = some x := by
  have : ixN (xs ++ [x]).length (-1) = some xs.length := by
    unfold ixN
    rw [if_neg (by decide), if_pos (by simp; omega), List.length_append, List.length_singleton]
    congr 1
    omega
  unfold atI
  rw [this]
  simp
end
theorem get_set {st : Sto} {m : Nat} {o : Ob} (h : st[m]? = some o) (o' : Ob) : (st.set m o')[m]? = some o' := List.getElem?_set_self (get_lt h)
theorem map_erase {α β : Type} (f : α → β) : ∀ (l : List α) (i : Nat), (l.map f).eraseIdx i = (l.eraseIdx i).map f
  | [], _ => rfl
  | a :: l, 0 => rfl
  | a :: l, i + 1 => by
    show f a :: (l.map f).eraseIdx i = f a :: (l.eraseIdx i).map f
    rw [map_erase f l i]
theorem erase_perm {α : Type} {x : α} : ∀ {l : List α} {i : Nat}, l[i]? = some x → (x :: l.eraseIdx i).Perm l
  | [], i, h => by cases h
  | a :: l, 0, h => by
    cases h
    exact .refl _
  | a :: l, i + 1, h => by
    have h' : l[i]? = some x := h
    exact (List.Perm.swap a x _).trans ((erase_perm h').cons a)
theorem srtS_lt {l : List Str} (h : l.Nodup) : (srtS l).Pairwise fun a b => sLt a b = true := by
  have nd : (srtS l).Nodup := (srtS_perm l).nodup_iff.mpr h
  refine List.Pairwise.imp₂ (R := leS) (S := (· ≠ ·)) (fun a b h1 h2 => ?_) (srtS_le l) nd
  by_cases z : sLt a b = true
  · exact z
  · exact absurd (leS_antisymm h1 (by unfold sLt at z; unfold leS; simpa using z)) h2
theorem rngP_get {k : Nat} {i : Nat} {x : PV} (h : (rngP 0 k)[i]? = some x) : i < k ∧ x = .int i := by
  unfold rngP at h
  have hi : i < k := by
    have := (List.getElem?_eq_some_iff.mp h).1
    simpa using this
  rw [List.getElem?_map, List.getElem?_range hi] at h
  cases h
  exact ⟨hi, by simp⟩
theorem rngP_len {k : Nat} : (rngP 0 k).length = k := by
  unfold rngP
  simp
end G
namespace G
open PySem PySem.Spec PyProof.Rows L2
/-- α's things as values, as data; k: how deep -/
structure En {α : Type} [DecidableEq α] (p : α → PV) (d : α → PyData) (k : Nat) : Prop where
  to : ∀ (st : Sto) (a : α) (j : Nat), k ≤ j → toD st (j + 1) (p a) = some (d a)
  dep : ∀ a, (d a).depth ≤ k
  eq : ∀ a b, PyData.eqv (d a) (d b) = decide (a = b)
section
variable {α β γ δ : Type} [DecidableEq α] [DecidableEq β] [DecidableEq γ] [DecidableEq δ] {p : α → PV} {d : α → PyData} {k j : Nat} {q : β → PV} {e : β → PyData} {k2 : Nat} {r : γ → PV} {f : γ → PyData} {k3 : Nat}
theorem En.mono (h : En p d k) (i : k ≤ j) : En p d j := ⟨fun st a l hl => h.to st a l (Nat.le_trans i hl), fun a => Nat.le_trans (h.dep a) i, h.eq⟩
theorem en_int : En PV.int PyData.int 0 := ⟨fun _ _ _ _ => rfl, fun _ => Nat.le_refl _, fun _ _ => eqv_int⟩
theorem en_str : En PV.str PyData.str 0 := ⟨fun _ _ _ _ => rfl, fun _ => by rw [PyData.depth]; exact Nat.le_refl _, fun _ _ => eqv_str⟩
theorem depthAll_map {l : List α} (h : ∀ a, (d a).depth ≤ k) : PyData.depthAll (l.map d) ≤ k := by
  induction l with
  | nil => rw [List.map_nil, PyData.depthAll]; exact Nat.zero_le _
  | cons a l ih => rw [List.map_cons, PyData.depthAll]; exact Nat.max_le.mpr ⟨h a, ih⟩
theorem eqvAll_map2 (h : ∀ a b, PyData.eqv (d a) (d b) = decide (a = b)) : ∀ l m : List α, PyData.eqvAll (l.map d) (m.map d) = decide (l = m)
  | [], [] => by rw [List.map_nil, eqv_nil]; simp
  | [], b :: m => by rw [List.map_nil, List.map_cons, eqv_nilc]; simp
  | a :: l, [] => by rw [List.map_nil, List.map_cons, eqv_cnil]; simp
  | a :: l, b :: m => by
    rw [List.map_cons, List.map_cons, eqv_cons, h, eqvAll_map2 h l m]
    simp [Bool.decide_and]
theorem En.list (h : En p d k) : En (fun l : List α => .tup (l.map p)) (fun l => .tuple (l.map d)) (k + 1) :=
  ⟨fun st l j hj => by
    obtain ⟨j', rfl⟩ : ∃ j', j = j' + 1 := ⟨j - 1, by omega⟩
    exact toD_tup (all2_map fun a _ => h.to st a j' (by omega)), fun l => by rw [PyData.depth]; exact Nat.succ_le_succ (depthAll_map h.dep), fun l m => by rw [eqv_tup]; exact eqvAll_map2 h.eq l m⟩
/-- a row of things of several kinds -/
structure EnR {α : Type} [DecidableEq α] (P : α → List PV) (D : α → List PyData) (k : Nat) : Prop where
  to : ∀ (st : Sto) (a : α) (j : Nat), k ≤ j → Paired (fun x d => toD st (j + 1) x = some d) (P a) (D a)
  dep : ∀ a, PyData.depthAll (D a) ≤ k
  eq : ∀ a b, PyData.eqvAll (D a) (D b) = decide (a = b)
theorem EnR.one (h : En p d k) : EnR (fun x : α => [p x]) (fun x => [d x]) k :=
  ⟨fun st a j hj => .cons (h.to st a j hj) .nil, fun a => by
    simp only [PyData.depthAll]
    have := h.dep a
    omega, fun a b => by rw [eqv_cons, eqv_nil, h.eq, Bool.and_true]⟩
theorem EnR.cons {P : β → List PV} {D : β → List PyData} (h : En p d k) (h2 : EnR P D k2) (hk : k ≤ j) (hk2 : k2 ≤ j) : EnR (fun x : α × β => p x.1 :: P x.2) (fun x => d x.1 :: D x.2) j :=
  ⟨fun st x l hl => .cons (h.to st _ l (by omega)) (h2.to st _ l (by omega)), fun x => by
    simp only [PyData.depthAll]
    have := h.dep x.1
    have := h2.dep x.2
    omega, fun x y => by
    rw [eqv_cons, h.eq, h2.eq, ← Bool.decide_and]
    exact decide_eq_decide.mpr ⟨fun z => Prod.ext z.1 z.2, fun z => by subst z; exact ⟨rfl, rfl⟩⟩⟩
theorem En.tup {P : α → List PV} {D : α → List PyData} (h : EnR P D k) : En (fun x : α => .tup (P x)) (fun x => .tuple (D x)) (k + 1) :=
  ⟨fun st x j hj => by
    obtain ⟨j', rfl⟩ : ∃ j', j = j' + 1 := ⟨j - 1, by omega⟩
    exact toD_tup (h.to st x j' (by omega)), fun x => by rw [PyData.depth]; exact Nat.succ_le_succ (h.dep x), fun x y => by rw [eqv_tup]; exact h.eq x y⟩
theorem En.shaped (h : En p d k) (hk : k ≤ 64) {a : α} : shp (d a) = true := by
  unfold shp
  rw [decide_eq_true_eq]
  exact Nat.le_trans (h.dep a) hk
variable {st : Sto} {Q : PV → Sto → Prop}
theorem En.ev_eq (h : En p d k) (hk : k ≤ 50) {a b : α} : ev (fEq (p a) (p b)) st Q ↔ Q (.bl (decide (a = b))) st := by
  rw [ev_fEq]
  have e1 := h.to st a 59 (by omega)
  have e2 := h.to st b 59 (by omega)
  constructor
  · rintro ⟨x, g1, _, y, g2, _, q⟩
    rw [e1] at g1
    rw [e2] at g2
    cases g1
    cases g2
    rw [h.eq] at q
    exact q
  · intro q
    exact ⟨_, e1, h.shaped (by omega), _, e2, h.shaped (by omega), by rw [h.eq]; exact q⟩
theorem En.ev_ne (h : En p d k) (hk : k ≤ 50) {a b : α} : ev (fNe (p a) (p b)) st Q ↔ Q (.bl (!decide (a = b))) st := by
  rw [ev_fNe]
  have e1 := h.to st a 59 (by omega)
  have e2 := h.to st b 59 (by omega)
  constructor
  · rintro ⟨x, g1, _, y, g2, _, q⟩
    rw [e1] at g1
    rw [e2] at g2
    cases g1
    cases g2
    rw [h.eq] at q
    exact q
  · intro q
    exact ⟨_, e1, h.shaped (by omega), _, e2, h.shaped (by omega), by rw [h.eq]; exact q⟩
theorem En.any (h : En p d k) {a : α} : ∀ l : List α, ((l.map d).any fun z => PyData.eqv z (d a)) = decide (a ∈ l)
  | [] => by simp
  | b :: l => by
    rw [List.map_cons, List.any_cons, h.any l, h.eq, ← Bool.decide_or]
    exact decide_eq_decide.mpr ⟨fun z => z.elim (fun z => by rw [z]; exact List.mem_cons_self) fun z => List.mem_cons_of_mem _ z, fun z => (List.mem_cons.mp z).imp Eq.symm id⟩
theorem En.ev_inD (h : En p d k) {neg : Bool} {y : PV} {e : PyData} (l : List α) (he : e = .tuple (l.map d) ∨ e = .list (l.map d)) (hy : toD st 60 y = some e) (hk : k ≤ 49) {a : α} : ev (inD neg (p a) y) st Q ↔ Q (.bl (nb neg (decide (a ∈ l)))) st := by
  have e1 := h.to st a 59 (by omega)
  have sh : shp e = true := by
    unfold shp
    have l2 : PyData.depthAll (l.map d) ≤ k := depthAll_map h.dep
    rcases he with rfl | rfl
    · rw [PyData.depth, decide_eq_true_eq]
      omega
    · rw [PyData.depth, decide_eq_true_eq]
      omega
  unfold inD
  rw [ev_bind, ev_getD]
  constructor
  · rintro ⟨x, g1, _, q⟩
    rw [e1] at g1
    cases g1
    rw [ev_bind, ev_getD] at q
    obtain ⟨y, g2, _, q⟩ := q
    rw [hy] at g2
    cases g2
    rcases he with rfl | rfl
    · have q' := ev_pure.mp q
      rw [h.any l] at q'
      exact q'
    · have q' := ev_pure.mp q
      rw [h.any l] at q'
      exact q'
  · intro q
    refine ⟨_, e1, h.shaped (by omega), ?_⟩
    rw [ev_bind, ev_getD]
    refine ⟨_, hy, sh, ?_⟩
    rcases he with rfl | rfl
    · refine ev_pure.mpr ?_
      rw [h.any l]
      exact q
    · refine ev_pure.mpr ?_
      rw [h.any l]
      exact q
theorem En.ev_inT (h : En p d k) {neg : Bool} (l : List α) (hk : k ≤ 49) {a : α} : ev (fIn neg (p a) (.tup (l.map p))) st Q ↔ Q (.bl (nb neg (decide (a ∈ l)))) st :=
  h.ev_inD (neg := neg) (Q := Q) l (.inl rfl) (h.list.to st l 59 (by omega)) hk
theorem En.ev_inK (h : En p d k) {neg : Bool} (l : List α) (hk : k ≤ 49) {a : α} : ev (fIn neg (p a) (.ktup (l.map p))) st Q ↔ Q (.bl (nb neg (decide (a ∈ l)))) st :=
  h.ev_inD (neg := neg) (Q := Q) l (.inl rfl) (toD_ktup (all2_map fun b _ => h.to st b 58 (by omega))) hk
theorem En.ev_inL (h : En p d k) {neg : Bool} {n : Nat} (l : List α) (hn : st[n]? = some (.lst (l.map p))) (hk : k ≤ 49) {a : α} : ev (fIn neg (p a) (.loc n)) st Q ↔ Q (.bl (nb neg (decide (a ∈ l)))) st := by
  have key := h.ev_inD (neg := neg) (Q := Q) (a := a) (y := .loc n) l (.inr rfl) (toD_lst hn (all2_map fun b _ => h.to st b 58 (by omega))) hk
  rw [← key]
  unfold fIn
  rw [ev_bind, ev_getO]
  constructor
  · rintro ⟨o, e, q⟩
    rw [hn] at e
    cases e
    exact q
  · exact fun q => ⟨_, hn, q⟩
/-- a list at a place against a new one -/
theorem En.ev_eqL (h : En p d k) {m n : Nat} {l l' : List α} (hm : st[m]? = some (.lst (l.map p))) (hn : st[n]? = some (.lst (l'.map p))) (hk : k ≤ 49) : ev (fEq (.loc m) (.loc n)) st Q ↔ Q (.bl (decide (l = l'))) st := by
  rw [ev_fEq]
  have e1 : toD st 60 (.loc m) = some (.list (l.map d)) := toD_lst hm (all2_map fun b _ => h.to st b 58 (by omega))
  have e2 : toD st 60 (.loc n) = some (.list (l'.map d)) := toD_lst hn (all2_map fun b _ => h.to st b 58 (by omega))
  have sh : ∀ l : List α, shp (.list (l.map d)) = true := fun l => by
    unfold shp
    have l2 : PyData.depthAll (l.map d) ≤ k := depthAll_map h.dep
    rw [PyData.depth, decide_eq_true_eq]
    omega
  constructor
  · rintro ⟨x, g1, _, y, g2, _, q⟩
    rw [e1] at g1
    rw [e2] at g2
    cases g1
    cases g2
    rw [eqv_lst, eqvAll_map2 h.eq] at q
    exact q
  · intro q
    exact ⟨_, e1, sh l, _, e2, sh l', by rw [eqv_lst, eqvAll_map2 h.eq]; exact q⟩
end
end G
namespace G
open PySem PySem.Spec PyProof.Rows L2
section
variable {κ : Type} [DecidableEq κ]
theorem valP_cons {a : κ} {v : PV} {l : List (κ × PV)} {k : κ} : valP ((a, v) :: l) k = if a = k then some v else valP l k := by
  unfold valP
  rw [List.find?_cons]
  by_cases h : a = k
  · rw [if_pos h, decide_eq_true h]
    rfl
  · rw [if_neg h, decide_eq_false h]
theorem valP_nil {k : κ} : valP ([] : List (κ × PV)) k = none := rfl
theorem valP_app {l m : List (κ × PV)} {k : κ} : valP (l ++ m) k = (valP l k).or (valP m k) := by
  induction l with
  | nil => rfl
  | cons q l ih =>
    obtain ⟨a, v⟩ := q
    rw [List.cons_append, valP_cons, valP_cons]
    by_cases h : a = k
    · rw [if_pos h, if_pos h]
      rfl
    · rw [if_neg h, if_neg h, ih]
theorem valP_none {l : List (κ × PV)} {k : κ} (h : (l.any fun q => decide (q.1 = k)) = false) : valP l k = none := by
  induction l with
  | nil => rfl
  | cons q l ih =>
    obtain ⟨a, v⟩ := q
    rw [List.any_cons, Bool.or_eq_false_iff] at h
    rw [valP_cons, if_neg (of_decide_eq_false h.1), ih h.2]
theorem valP_map {l : List (κ × PV)} {k k' : κ} {v : PV} : valP (l.map fun q => if q.1 = k then (q.1, v) else q) k' = if k = k' then (valP l k').map (fun _ => v) else valP l k' := by
  induction l with
  | nil => simp [valP_nil]
  | cons q l ih =>
    obtain ⟨a, u⟩ := q
    rw [List.map_cons, valP_cons]
    by_cases h : a = k
    · subst h
      rw [if_pos rfl, valP_cons, ih]
      by_cases h2 : a = k'
      · rw [if_pos h2, if_pos h2, if_pos h2]
        rfl
      · rw [if_neg h2, if_neg h2, if_neg h2, if_neg h2]
    · rw [if_neg h, valP_cons, ih]
      by_cases h2 : a = k'
      · rw [if_pos h2, if_pos h2, if_neg fun z => h (h2.trans z.symm)]
      · rw [if_neg h2, if_neg h2]
theorem valP_put {l : List (κ × PV)} {k k' : κ} {v : PV} : valP (putP l k v) k' = if k = k' then some v else valP l k' := by
  unfold putP
  cases h : l.any fun q => decide (q.1 = k) with
  | true =>
    rw [if_pos rfl, valP_map]
    by_cases h2 : k = k'
    · rw [if_pos h2, if_pos h2]
      subst h2
      cases e : valP l k with
      | some w => rfl
      | none =>
        exfalso
        obtain ⟨q, hq, e2⟩ := List.any_eq_true.mp h
        have : ∀ l : List (κ × PV), q ∈ l → valP l k ≠ none := fun l => by
          induction l with
          | nil => intro z; cases z
          | cons p l ih =>
            intro z
            obtain ⟨a, u⟩ := p
            rw [valP_cons]
            by_cases h3 : a = k
            · rw [if_pos h3]
              simp
            · rw [if_neg h3]
              rcases List.mem_cons.mp z with z | z
              · subst z
                exact absurd (of_decide_eq_true e2) h3
              · exact ih z
        exact this l hq e
    · rw [if_neg h2, if_neg h2]
  | false =>
    rw [if_neg (by decide), valP_app]
    by_cases h2 : k = k'
    · subst h2
      rw [valP_none h, valP_cons, if_pos rfl, if_pos rfl]
      rfl
    · rw [valP_cons, if_neg h2, if_neg h2, valP_nil]
      cases valP l k' <;> rfl
end
theorem mergeP_has {P : PV → Prop} {k : Key} : ∀ (kvs acc : List (Key × PV)), (∀ q ∈ kvs, P q.2) → ((∃ q ∈ kvs, q.1 = k) ∨ ∃ v, valP acc k = some v ∧ P v) → ∃ v, valP (mergeP acc kvs) k = some v ∧ P v
  | [], acc, _, h => h.elim (fun ⟨_, z, _⟩ => nomatch z) id
  | q :: r, acc, hp, h => by
    refine mergeP_has r (putP acc q.1 q.2) (fun x hx => hp x (List.mem_cons_of_mem _ hx)) ?_
    by_cases e : q.1 = k
    · exact .inr ⟨q.2, by rw [valP_put, if_pos e], hp q List.mem_cons_self⟩
    · rcases h with ⟨x, hx, ex⟩ | ⟨v, ev, pv⟩
      · rcases List.mem_cons.mp hx with z | z
        · subst z
          exact absurd ex e
        · exact .inl ⟨x, z, ex⟩
      · exact .inr ⟨v, by rw [valP_put, if_neg e]; exact ev, pv⟩
theorem mapM_some {α β : Type} {f : α → Option β} {g : α → β} : ∀ {l : List α}, (∀ a ∈ l, f a = some (g a)) → l.mapM f = some (l.map g)
  | [], _ => by simp
  | a :: l, h => by
    rw [List.mapM_cons, h a List.mem_cons_self, mapM_some fun b hb => h b (List.mem_cons_of_mem _ hb)]
    rfl
theorem ev_yes {st : Sto} {ε : Slo} {QB : Bool → Sto → Prop} : ev (tYesP ε) st QB ↔ QB true st := ev_pure
theorem zip_snoc {α β γ : Type} (f : α → β → γ) : ∀ {l : List α} {m : List β} {x : α} {y : β}, l[m.length]? = some x → List.zipWith f l (m ++ [y]) = List.zipWith f l m ++ [f x y]
  | [], m, _, _, h => by simp at h
  | a :: l, [], _, _, h => by
    cases h
    simp
  | a :: l, b :: m, x, y, h => by
    have h' : l[m.length]? = some x := h
    show f a b :: List.zipWith f l (m ++ [y]) = f a b :: (List.zipWith f l m ++ [f x y])
    rw [zip_snoc f h']
section
variable {st : Sto} {Q : PV → Sto → Prop}
theorem ev_dictL {n : Nat} {xs : List PV} {kvs : List (Key × PV)} (h : st[n]? = some (.lst xs)) (hk : xs.mapM pairK = some kvs) : ev (fDictL [.loc n]) st Q ↔ Q (.loc st.length) (st ++ [.dK (mergeP [] kvs)]) := by
  show ev (readL (.loc n) >>= fun xs => lift (xs.mapM pairK) >>= fun kvs => newO (.dK (mergeP [] kvs)) >>= fun n => pure (.loc n)) st Q ↔ _
  rw [ev_bind, ev_readLL h, ev_bind, hk, ev_liftS, ev_bind, ev_newO, ev_pure]
end
/-- a comprehension whose tests and items lay only new things -/
theorem ev_lcF {st : Sto} {ε : Slo} {d : Slo → M Src} {g : TM} {t : Slo → M Bool} {e : Slo → M PV} {vs : List Nat} {Q : PV → Sto → Prop} (hd : ev (d ε) st fun s st1 => ∃ (xs : List PV) (p : PV → Bool) (F : PV → PV), s = .fix xs ∧ xs.length ≤ 16777216 ∧
    (∀ x ∈ xs, ∀ st2, Keep [] st1 st2 → evS (g x) (wipeP ε vs) st2 fun r st3 => ∃ ε3, r = .nx ε3 ∧ Keep [] st2 st3 ∧ ev (t ε3) st3 fun k st4 => k = p x ∧ Keep [] st3 st4 ∧ (k = true → ev (e ε3) st4 fun y st5 => y = F x ∧ Keep [] st4 st5)) ∧
    ∀ st2, st2[st1.length]? = some (.lst ((xs.filter p).map F)) → Keep [] st1 st2 → Q (.loc st1.length) st2) : ev (dLc d g t e vs ε) st Q := by
  refine ev_lc (hd.mono fun s st1 h => ?_)
  obtain ⟨xs, p, F, rfl, hl, hs, he⟩ := h
  refine ⟨xs, fun i acc st2 => acc = ((xs.take i).filter p).map F ∧ Keep [] st1 st2, rfl, hl, ⟨by simp, .app⟩, ?_, ?_⟩
  · rintro i x acc st2 hx hlt hac hal ⟨rfl, kp⟩
    have htk : xs.take (i + 1) = xs.take i ++ [x] := by
      rw [List.take_succ, hx]
      rfl
    refine (hs x (List.mem_of_getElem? hx) st2 kp).mono fun r st3 ⟨ε3, er, kp3, h⟩ => ⟨ε3, er, h.mono fun k st4 ⟨ek, kp4, h2⟩ => ?_⟩
    have h4 := (kp3.trans kp4).get hac (fun z => nomatch z)
    cases k with
    | true =>
      rw [if_pos rfl]
      refine (h2 rfl).mono fun y st5 ⟨ey, kp5⟩ => ⟨kp5.get h4 (fun z => nomatch z), ?_, ?_⟩
      · rw [htk, List.filter_append, List.map_append, ey]
        simp [← ek]
      · exact (((kp.trans kp3).trans kp4).trans kp5).setNew (Nat.le_refl _)
    | false =>
      rw [if_neg (by decide)]
      refine ⟨h4, ?_, (kp.trans kp3).trans kp4⟩
      rw [htk, List.filter_append]
      simp [← ek]
  · rintro acc st2 hac ⟨rfl, kp⟩
    rw [List.take_length] at hac
    exact he st2 hac kp
/-- .. without tests -/
theorem ev_lcM {st : Sto} {ε : Slo} {d : Slo → M Src} {g : TM} {e : Slo → M PV} {vs : List Nat} {Q : PV → Sto → Prop} (hd : ev (d ε) st fun s st1 => ∃ (xs : List PV) (F : PV → PV), s = .fix xs ∧ xs.length ≤ 16777216 ∧
    (∀ x ∈ xs, ∀ st2, Keep [] st1 st2 → evS (g x) (wipeP ε vs) st2 fun r st3 => ∃ ε3, r = .nx ε3 ∧ Keep [] st2 st3 ∧ ev (e ε3) st3 fun y st5 => y = F x ∧ Keep [] st3 st5) ∧
    ∀ st2, st2[st1.length]? = some (.lst (xs.map F)) → Keep [] st1 st2 → Q (.loc st1.length) st2) : ev (dLc d g tYesP e vs ε) st Q := by
  refine ev_lcF (hd.mono fun s st1 h => ?_)
  obtain ⟨xs, F, rfl, hl, hs, he⟩ := h
  refine ⟨xs, fun _ => true, F, rfl, hl, fun x hx st2 kp => (hs x hx st2 kp).mono fun r st3 ⟨ε3, er, kp3, h⟩ => ⟨ε3, er, kp3, ev_yes.mpr ⟨rfl, .refl, fun _ => h⟩⟩, fun st2 h kp => ?_⟩
  rw [List.filter_eq_self.mpr (fun _ _ => rfl)] at h
  exact he st2 h kp
end G
namespace G
open PySem PySem.Spec PyProof.Rows L2
theorem nc0 : ((0 : Nat) : Int) = 0 := rfl
theorem nc1 : ((1 : Nat) : Int) = 1 := rfl
theorem nc2 : ((2 : Nat) : Int) = 2 := rfl
theorem nc3 : ((3 : Nat) : Int) = 3 := rfl
theorem nc4 : ((4 : Nat) : Int) = 4 := rfl
theorem nc5 : ((5 : Nat) : Int) = 5 := rfl
theorem nc6 : ((6 : Nat) : Int) = 6 := rfl
theorem nc7 : ((7 : Nat) : Int) = 7 := rfl
theorem nc8 : ((8 : Nat) : Int) = 8 := rfl
theorem nc9 : ((9 : Nat) : Int) = 9 := rfl
theorem Keep.pre {st st' : Sto} (k : Keep [] st st') : st <+: st' := by
  refine List.prefix_iff_eq_take.mpr (List.ext_getElem? fun i => ?_)
  by_cases h : i < st.length
  · rw [List.getElem?_take_of_lt h, k.at_ i h (fun z => nomatch z)]
  · rw [List.getElem?_eq_none (Nat.le_of_not_lt h), List.getElem?_eq_none]
    rw [List.length_take]
    omega
section
variable {st : Sto} {ε : Slo} {Q : PV → Sto → Prop}
theorem ev_lam {ng k : Nat} {b : (List PV → M PV) → SM} {d : Slo → M PV} {as : Slo → M (List PV)} {js : List Nat} : ev (dLam ng k b d js as ε) st Q ↔ ev (as ε) st fun xs st1 => ∃ caps, capsAt js ε = some caps ∧ ev (fnF ng (b (lamD k d caps)) (xs.map some ++ [none])) st1 Q := by
  unfold dLam
  simp only [ev_bind, ev_lift]
theorem ev_fnF {n : Nat} {b : SM} {ps : List (Option PV)} {Q : PV → Sto → Prop} (h : evS b (ps ++ List.replicate (n - ps.length) none) st fun r st' => match r with
    | .nx _ => Q .non st'
    | .rt p => Q p st'
    | _ => False) : ev (fnF n b ps) st Q := by
  obtain ⟨r, st', e, q⟩ := h
  unfold ev fnF
  rw [e]
  cases r with
  | nx ε => exact ⟨_, _, rfl, q⟩
  | rt p => exact ⟨_, _, rfl, q⟩
  | bk ε => exact q.elim
  | ct ε => exact q.elim
  | ex C fs ε => exact q.elim
theorem ev_callL {L : List PV → M PV} {i : Nat} {as : Slo → M (List PV)} (hi : ε[i]? = some none) : ev (dCallL L i as ε) st Q ↔ ev (as ε) st fun xs st1 => ev (L xs) st1 Q := by
  have e : dCallL L i as ε = (as ε >>= fun xs => L xs) := by
    unfold dCallL
    rw [hi]
  rw [e, ev_bind]
end
end G
namespace G
open PySem PySem.Spec PyProof.Rows L2
/-- data that can be shown: how deep, how heavy -/
structure Shw (d : PyData) (k w : Nat) : Prop where
  dep : d.depth ≤ k
  wt : d.weight ≤ w
  lv : d.leavesShort 13 = true
  sh : d.showable = true
structure ShwL (ds : List PyData) (k w : Nat) : Prop where
  dep : PyData.depthAll ds ≤ k
  wt : PyData.weightAll ds ≤ w
  lv : PyData.leavesShortAll 13 ds = true
  sh : PyData.showableAll ds = true
theorem Shw.mono {d : PyData} {k w k' w' : Nat} (h : Shw d k w) (hk : k ≤ k') (hw : w ≤ w') : Shw d k' w' := ⟨Nat.le_trans h.dep hk, Nat.le_trans h.wt hw, h.lv, h.sh⟩
theorem ShwL.mono {d : List PyData} {k w k' w' : Nat} (h : ShwL d k w) (hk : k ≤ k') (hw : w ≤ w') : ShwL d k' w' := ⟨Nat.le_trans h.dep hk, Nat.le_trans h.wt hw, h.lv, h.sh⟩
theorem shw_non : Shw .none 0 0 := ⟨Nat.le_refl _, Nat.le_refl _, rfl, rfl⟩
theorem shw_bl {b : Bool} : Shw (.bool b) 0 0 := ⟨Nat.le_refl _, Nat.le_refl _, rfl, rfl⟩
theorem log_small {n : Nat} (h : n < 10 ^ 12) : n.log2 ≤ 40 := by
  by_cases z : n = 0
  · subst z
    decide
  · have := (Nat.log2_lt z (k := 41)).mpr (Nat.lt_of_lt_of_le h (by decide))
    omega
theorem shw_int {i : Int} (h0 : 0 ≤ i) (h1 : i < 10 ^ 12) : Shw (.int i) 0 41 := by
  have hn : i.natAbs < 10 ^ 12 := by omega
  have hl := log_small hn
  refine ⟨Nat.le_refl _, ?_, ?_, ?_⟩
  · rw [PyData.weight]
    split <;> omega
  · rw [PyData.leavesShort, decide_eq_true_eq, PyData.shown]
    exact Nat.le_trans (toString_length_le h0 (k := 12) (by decide) h1) (by decide)
  · rw [PyData.showable, decide_eq_true_eq]
    omega
def chOk (s : Str) : Bool := s.cps.toList.all fun c => decide (c < 16 ^ 8)
theorem shw_str {s : Str} (h : chOk s = true) : Shw (.str s) 0 s.length := ⟨Nat.le_refl _, Nat.le_refl _, h, rfl⟩
theorem ShwL.nil {k : Nat} : ShwL [] k 0 := ⟨Nat.zero_le _, Nat.le_refl _, rfl, rfl⟩
theorem ShwL.cons {d : PyData} {ds : List PyData} {k w k' w' : Nat} (h : Shw d k w) (h' : ShwL ds k' w') : ShwL (d :: ds) (max k k') (w + 1 + w') := by
  refine ⟨?_, ?_, ?_, ?_⟩
  · rw [PyData.depthAll]
    have := h.dep
    have := h'.dep
    omega
  · rw [PyData.weightAll]
    have := h.wt
    have := h'.wt
    omega
  · rw [PyData.leavesShortAll, h.lv, h'.lv]
    rfl
  · rw [PyData.showableAll, h.sh, h'.sh]
    rfl
theorem ShwL.map {α : Type} {f : α → PyData} {l : List α} {k w : Nat} (h : ∀ a ∈ l, Shw (f a) k w) : ShwL (l.map f) k (l.length * (w + 1)) := by
  induction l with
  | nil => exact ShwL.nil.mono (Nat.le_refl _) (Nat.zero_le _)
  | cons a l ih =>
    rw [List.map_cons]
    refine (ShwL.cons (h a List.mem_cons_self) (ih fun b hb => h b (List.mem_cons_of_mem _ hb))).mono (by omega) ?_
    rw [List.length_cons, Nat.succ_mul]
    omega
theorem ShwL.lst {ds : List PyData} {k w : Nat} (h : ShwL ds k w) : Shw (.list ds) (k + 1) w := ⟨by rw [PyData.depth]; exact Nat.succ_le_succ h.dep, by rw [PyData.weight]; exact h.wt, by rw [PyData.leavesShort]; exact h.lv, by rw [PyData.showable]; exact h.sh⟩
theorem ShwL.tup {ds : List PyData} {k w : Nat} (h : ShwL ds k w) : Shw (.tuple ds) (k + 1) w := ⟨by rw [PyData.depth]; exact Nat.succ_le_succ h.dep, by rw [PyData.weight]; exact h.wt, by rw [PyData.leavesShort]; exact h.lv, by rw [PyData.showable]; exact h.sh⟩
section
variable {st : Sto} {Q : PV → Sto → Prop}
theorem ev_reprL {x : PV} {ds : List PyData} {k w : Nat} (hx : toD st 60 x = some (.list ds)) (h : Shw (.list ds) k w) (hk : k ≤ 60) (hw : w ≤ 1048576) : ev (fRepr [x]) st Q ↔ Q (.str (PyData.shown (.list ds))) st := by
  refine ev_iff ?_
  show ev (getD x >>= fun d => _) st _
  rw [ev_bind, ev_getD]
  refine ⟨_, hx, decide_eq_true (Nat.le_trans h.dep (by omega)), ?_⟩
  rw [ev_bind, ev_need]
  refine ⟨?_, ev_pure.mpr ⟨rfl, rfl⟩⟩
  have h1 := PyData.shown_fits (by decide) (by decide) h.lv (Nat.le_trans h.wt (Nat.le_trans hw (by decide)))
  have h2 := h.dep
  simp only [h.sh, h1, decide_true, Bool.and_true, Bool.true_and, decide_eq_true_eq]
  omega
theorem ev_reprT {x : PV} {ds : List PyData} {k w : Nat} (hx : toD st 60 x = some (.tuple ds)) (h : Shw (.tuple ds) k w) (hk : k ≤ 60) (hw : w ≤ 1048576) : ev (fRepr [x]) st Q ↔ Q (.str (PyData.shown (.tuple ds))) st := by
  refine ev_iff ?_
  show ev (getD x >>= fun d => _) st _
  rw [ev_bind, ev_getD]
  refine ⟨_, hx, decide_eq_true (Nat.le_trans h.dep (by omega)), ?_⟩
  rw [ev_bind, ev_need]
  refine ⟨?_, ev_pure.mpr ⟨rfl, rfl⟩⟩
  have h1 := PyData.shown_fits (by decide) (by decide) h.lv (Nat.le_trans h.wt (Nat.le_trans hw (by decide)))
  have h2 := h.dep
  simp only [h.sh, h1, decide_true, Bool.and_true, Bool.true_and, decide_eq_true_eq]
  omega
theorem pick10 {a b : PV} : pick [1, 0] [a, b] = [b, a] := rfl
end
end G
namespace G
open PySem PySem.Spec PyProof.Rows L2
/-- s draws xs from st -/
def Dws (s : Src) (st : Sto) (xs : List PV) : Prop := (∀ i, s.draw i st = some xs[i]?) ∧ xs.length ≤ s.many st
/-- .. as long as nothing old is changed -/
def DwK (s : Src) (st : Sto) (xs : List PV) : Prop := ∀ st2, Keep [] st st2 → Dws s st2 xs
theorem dws_fix {st : Sto} {xs : List PV} : Dws (.fix xs) st xs := ⟨fun _ => rfl, Nat.le_refl _⟩
theorem lstAt_of {st : Sto} {n : Nat} {xs : List PV} (h : st[n]? = some (.lst xs)) : lstAt st n = some xs := by
  unfold lstAt
  rw [h]
theorem dws_live {st : Sto} {n : Nat} {xs : List PV} (h : st[n]? = some (.lst xs)) : Dws (.live n) st xs := by
  refine ⟨fun i => ?_, ?_⟩
  · show (match lstAt st n with
      | some xs => some xs[i]?
      | none => none) = _
    rw [lstAt_of h]
  · show xs.length ≤ ((lstAt st n).getD []).length
    rw [lstAt_of h]
    exact Nat.le_refl _
theorem dws_enm {st : Sto} {n : Nat} {xs : List PV} (h : st[n]? = some (.lst xs)) : Dws (.enm n) st (xs.mapIdx fun i x => PV.tup [.int i, x]) := by
  refine ⟨fun i => ?_, ?_⟩
  · show (match lstAt st n with
      | some xs => some (xs[i]?.map fun x => PV.tup [.int i, x])
      | none => none) = _
    rw [lstAt_of h, List.getElem?_mapIdx]
  · show _ ≤ ((lstAt st n).getD []).length
    rw [lstAt_of h, List.length_mapIdx]
    exact Nat.le_refl _
theorem dwk_fix {st : Sto} {xs : List PV} : DwK (.fix xs) st xs := fun _ _ => dws_fix
theorem dwk_live {st : Sto} {n : Nat} {xs : List PV} (h : st[n]? = some (.lst xs)) : DwK (.live n) st xs := fun _ k => dws_live (k.get h (fun z => nomatch z))
theorem dwk_enm {st : Sto} {n : Nat} {xs : List PV} (h : st[n]? = some (.lst xs)) : DwK (.enm n) st (xs.mapIdx fun i x => PV.tup [.int i, x]) := fun _ k => dws_enm (k.get h (fun z => nomatch z))
theorem DwK.now {s : Src} {st : Sto} {xs : List PV} (h : DwK s st xs) : Dws s st xs := h st .refl
section
variable {st : Sto} {ε : Slo}
/-- a loop: I holds ahead of each turn -/
theorem evS_forD {d : Slo → M Src} {g : TM} {b : SM} {Q : SR → Sto → Prop} (I : Nat → Slo → Sto → Prop) (hd : ev (d ε) st fun s st1 => ∃ xs, (∀ i ε2 st2, I i ε2 st2 → Dws s st2 xs) ∧ I 0 ε st1 ∧ (∀ i x ε2 st2, xs[i]? = some x → I i ε2 st2 → evS (g x) ε2 st2 (thn2 b fun r st3 => match r with
    | .nx ε3 => I (i + 1) ε3 st3
    | .ct ε3 => I (i + 1) ε3 st3
    | .bk ε3 => Q (.nx ε3) st3
    | r => Q r st3)) ∧ ∀ ε2 st2, I xs.length ε2 st2 → Q (.nx ε2) st2) : evS (sFor d g b) ε st Q := by
  refine evS_eS (hd.mono fun s st1 h => ?_)
  obtain ⟨xs, dw, h0, hs, he⟩ := h
  have go : ∀ (m i j : Nat) (ε2 : Slo) (st2 : Sto), i + m = xs.length → m ≤ j → I i ε2 st2 → ∃ r st3, forS s (fun x => sSeq (g x) b) j i ε2 st2 = some (r, st3) ∧ Q r st3 := by
    intro m
    induction m with
    | zero =>
      intro i j ε2 st2 hi hj h
      have e : s.draw i st2 = some none := by
        rw [(dw i ε2 st2 h).1 i, List.getElem?_eq_none (by omega)]
      refine ⟨_, _, forS_stop e, he _ _ ?_⟩
      have : i = xs.length := by omega
      rw [← this]
      exact h
    | succ m ih =>
      intro i j ε2 st2 hi hj h
      have hlt : i < xs.length := by omega
      have e : s.draw i st2 = some (some xs[i]) := by
        rw [(dw i ε2 st2 h).1 i, List.getElem?_eq_getElem hlt]
      obtain ⟨j', rfl⟩ : ∃ j', j = j' + 1 := ⟨j - 1, by omega⟩
      rw [forS_go e]
      obtain ⟨r, st3, e2, q⟩ := evS_seq (hs i xs[i] ε2 st2 (List.getElem?_eq_getElem hlt) h)
      rw [e2]
      cases r with
      | nx ε3 => exact ih (i + 1) j' ε3 st3 (by omega) (by omega) q
      | ct ε3 => exact ih (i + 1) j' ε3 st3 (by omega) (by omega) q
      | bk ε3 => exact ⟨_, _, rfl, q⟩
      | rt p => exact ⟨_, _, rfl, q⟩
      | ex C fs ε3 => exact ⟨_, _, rfl, q⟩
  obtain ⟨r, st3, e, q⟩ := go xs.length 0 (s.many st1) ε st1 (by omega) (dw 0 ε st1 h0).2 h0
  exact ⟨r, st3, e, q⟩
/-- a comprehension: place n is new, I tells the items so far and the rest of the store -/
theorem ev_lcD {d : Slo → M Src} {g : TM} {t : Slo → M Bool} {e : Slo → M PV} {vs : List Nat} {Q : PV → Sto → Prop} (hd : ev (d ε) st fun s st1 => ∃ (xs : List PV) (I : Nat → List PV → Sto → Prop), (∀ i acc st2, st1.length < st2.length → I i acc st2 → Dws s st2 xs) ∧ xs.length ≤ 16777216 ∧ I 0 [] (st1 ++ [.lst []]) ∧
    (∀ i x acc st2, xs[i]? = some x → st1.length < st2.length → st2[st1.length]? = some (.lst acc) → acc.length ≤ i → I i acc st2 → evS (g x) (wipeP ε vs) st2 fun r st3 => ∃ ε3, r = .nx ε3 ∧ ev (t ε3) st3 fun k st4 => if k = true then ev (e ε3) st4 fun y st5 => st5[st1.length]? = some (.lst acc) ∧ I (i + 1) (acc ++ [y]) (st5.set st1.length (.lst (acc ++ [y]))) else st4[st1.length]? = some (.lst acc) ∧ I (i + 1) acc st4) ∧
    ∀ acc st2, st2[st1.length]? = some (.lst acc) → I xs.length acc st2 → Q (.loc st1.length) st2) : ev (dLc d g t e vs ε) st Q := by
  unfold dLc
  rw [ev_bind]
  refine hd.mono fun s st1 h => ?_
  obtain ⟨xs, I, dw, hl, h0, hs, he⟩ := h
  refine ev_bind.mpr (ev_newO.mpr ?_)
  have go : ∀ (m i j : Nat) (acc : List PV) (st2 : Sto), i + m = xs.length → m ≤ j → st1.length < st2.length → st2[st1.length]? = some (.lst acc) → acc.length ≤ i → I i acc st2 → ∃ st3 acc', lcGo s g t e st1.length (wipeP ε vs) j i st2 = some st3 ∧ st3[st1.length]? = some (.lst acc') ∧ I xs.length acc' st3 := by
    intro m
    induction m with
    | zero =>
      intro i j acc st2 hi hj hlt ha hal h
      have e1 : s.draw i st2 = some none := by
        rw [(dw i acc st2 hlt h).1 i, List.getElem?_eq_none (by omega)]
      refine ⟨st2, acc, ?_, ha, ?_⟩
      · unfold lcGo
        rw [e1]
      · have : i = xs.length := by omega
        rw [← this]
        exact h
    | succ m ih =>
      intro i j acc st2 hi hj hlt2 ha hal h
      have hlt : i < xs.length := by omega
      have e1 : s.draw i st2 = some (some xs[i]) := by
        rw [(dw i acc st2 hlt2 h).1 i, List.getElem?_eq_getElem hlt]
      obtain ⟨j', rfl⟩ : ∃ j', j = j' + 1 := ⟨j - 1, by omega⟩
      obtain ⟨r, st3, e2, ε3, rfl, k, st4, e3, q⟩ := hs i xs[i] acc st2 (List.getElem?_eq_getElem hlt) hlt2 ha hal h
      have step : ∃ st5 acc', lcStep t e st1.length ε3 st3 = some (.ok (), st5) ∧ st1.length < st5.length ∧ st5[st1.length]? = some (.lst acc') ∧ acc'.length ≤ i + 1 ∧ I (i + 1) acc' st5 := by
        unfold lcStep
        cases k with
        | true =>
          rw [if_pos rfl] at q
          obtain ⟨y, st5, e4, h5, q⟩ := q
          refine ⟨st5.set st1.length (.lst (acc ++ [y])), acc ++ [y], ?_, ?_, ?_, ?_, q⟩
          · rw [bind_ok e3, if_pos rfl, bind_ok e4]
            have : ev (addL st1.length y) st5 fun u st6 => u = () ∧ st6 = st5.set st1.length (.lst (acc ++ [y])) := by
              unfold addL
              rw [ev_bind, ev_getL]
              refine ⟨acc, h5, ?_⟩
              rw [ev_bind, ev_need, ev_setO, decide_eq_true_eq]
              refine ⟨?_, rfl, rfl⟩
              rw [sizeLine_eq]
              omega
            obtain ⟨u, st6, e6, _, e7⟩ := this
            rw [e6, e7]
          · rw [List.length_set]
            exact get_lt h5
          · rw [List.getElem?_set_self (get_lt h5)]
          · rw [List.length_append, List.length_singleton]
            omega
        | false =>
          have q' := q
          rw [if_neg (by decide)] at q'
          refine ⟨st4, acc, ?_, get_lt q'.1, q'.1, by omega, q'.2⟩
          rw [bind_ok e3, if_neg (by decide)]
          rfl
      obtain ⟨st5, acc', e4, h6, h7, h8, h9⟩ := step
      obtain ⟨st6, acc2, e5, h10, h11⟩ := ih (i + 1) j' acc' st5 (by omega) (by omega) h6 h7 h8 h9
      refine ⟨st6, acc2, ?_, h10, h11⟩
      unfold lcGo
      rw [e1]
      show (match g xs[i] (wipeP ε vs) st2 with
        | some (.nx ε2, st2) => match lcStep t e st1.length ε2 st2 with
          | some (.ok _, st3) => lcGo s g t e st1.length (wipeP ε vs) j' (i + 1) st3
          | _ => none
        | _ => none) = some st6
      rw [e2]
      show (match lcStep t e st1.length ε3 st3 with
          | some (.ok _, st3) => lcGo s g t e st1.length (wipeP ε vs) j' (i + 1) st3
          | _ => none) = some st6
      rw [e4]
      exact e5
  have dw0 := (dw 0 [] (st1 ++ [.lst []]) (by simp) h0).2
  obtain ⟨st3, acc, e1, h1, h2⟩ := go xs.length 0 (s.many (st1 ++ [.lst []])) [] (st1 ++ [.lst []]) (by omega) dw0 (by simp) get_new (by simp) h0
  refine ⟨.loc st1.length, st3, ?_, he acc st3 h1 h2⟩
  show (match lcGo s g t e st1.length (wipeP ε vs) (s.many (st1 ++ [.lst []])) 0 (st1 ++ [.lst []]) with
    | some st' => some (Out.ok (PV.loc st1.length), st')
    | none => none) = _
  rw [e1]
/-- a comprehension whose tests and items lay only new things -/
theorem ev_lcK {d : Slo → M Src} {g : TM} {t : Slo → M Bool} {e : Slo → M PV} {vs : List Nat} {Q : PV → Sto → Prop} (hd : ev (d ε) st fun s st1 => ∃ (xs : List PV) (p : PV → Bool) (F : PV → PV), DwK s st1 xs ∧ xs.length ≤ 16777216 ∧
    (∀ x ∈ xs, ∀ st2, Keep [] st1 st2 → evS (g x) (wipeP ε vs) st2 fun r st3 => ∃ ε3, r = .nx ε3 ∧ Keep [] st2 st3 ∧ ev (t ε3) st3 fun k st4 => k = p x ∧ Keep [] st3 st4 ∧ (k = true → ev (e ε3) st4 fun y st5 => y = F x ∧ Keep [] st4 st5)) ∧
    ∀ st2, st2[st1.length]? = some (.lst ((xs.filter p).map F)) → Keep [] st1 st2 → Q (.loc st1.length) st2) : ev (dLc d g t e vs ε) st Q := by
  refine ev_lcD (hd.mono fun s st1 h => ?_)
  obtain ⟨xs, p, F, dw, hl, hs, he⟩ := h
  refine ⟨xs, fun i acc st2 => acc = ((xs.take i).filter p).map F ∧ Keep [] st1 st2, fun i acc st2 _ h => dw st2 h.2, hl, ⟨by simp, .app⟩, ?_, ?_⟩
  · rintro i x acc st2 hx hlt hac hal ⟨rfl, kp⟩
    have htk : xs.take (i + 1) = xs.take i ++ [x] := by
      rw [List.take_succ, hx]
      rfl
    refine (hs x (List.mem_of_getElem? hx) st2 kp).mono fun r st3 ⟨ε3, er, kp3, h⟩ => ⟨ε3, er, h.mono fun k st4 ⟨ek, kp4, h2⟩ => ?_⟩
    have h4 := (kp3.trans kp4).get hac (fun z => nomatch z)
    cases k with
    | true =>
      rw [if_pos rfl]
      refine (h2 rfl).mono fun y st5 ⟨ey, kp5⟩ => ⟨kp5.get h4 (fun z => nomatch z), ?_, ?_⟩
      · rw [htk, List.filter_append, List.map_append, ey]
        simp [← ek]
      · exact (((kp.trans kp3).trans kp4).trans kp5).setNew (Nat.le_refl _)
    | false =>
      rw [if_neg (by decide)]
      refine ⟨h4, ?_, (kp.trans kp3).trans kp4⟩
      rw [htk, List.filter_append]
      simp [← ek]
  · rintro acc st2 hac ⟨rfl, kp⟩
    rw [List.take_length] at hac
    exact he st2 hac kp
/-- .. without tests -/
theorem ev_lcN {d : Slo → M Src} {g : TM} {e : Slo → M PV} {vs : List Nat} {Q : PV → Sto → Prop} (hd : ev (d ε) st fun s st1 => ∃ (xs : List PV) (F : PV → PV), DwK s st1 xs ∧ xs.length ≤ 16777216 ∧
    (∀ x ∈ xs, ∀ st2, Keep [] st1 st2 → evS (g x) (wipeP ε vs) st2 fun r st3 => ∃ ε3, r = .nx ε3 ∧ Keep [] st2 st3 ∧ ev (e ε3) st3 fun y st5 => y = F x ∧ Keep [] st3 st5) ∧
    ∀ st2, st2[st1.length]? = some (.lst (xs.map F)) → Keep [] st1 st2 → Q (.loc st1.length) st2) : ev (dLc d g tYesP e vs ε) st Q := by
  refine ev_lcK (hd.mono fun s st1 h => ?_)
  obtain ⟨xs, F, dw, hl, hs, he⟩ := h
  refine ⟨xs, fun _ => true, F, dw, hl, fun x hx st2 kp => (hs x hx st2 kp).mono fun r st3 ⟨ε3, er, kp3, h⟩ => ⟨ε3, er, kp3, ev_yes.mpr ⟨rfl, .refl, fun _ => h⟩⟩, fun st2 h kp => ?_⟩
  rw [List.filter_eq_self.mpr (fun _ _ => rfl)] at h
  exact he st2 h kp
/-- all([..]) over what stands in the store -/
theorem kAll {xs : List PV} {F : PV → Bool} {d : Slo → M Src} {g : TM} {e : Slo → M PV} {vs : List Nat} (hd : ev (d ε) st fun s st1 => DwK s st1 xs ∧ xs.length ≤ 16777216 ∧
    (∀ x ∈ xs, ∀ st2, Keep [] st1 st2 → evS (g x) (wipeP ε vs) st2 fun r st3 => ∃ ε3, r = .nx ε3 ∧ Keep [] st2 st3 ∧ ev (e ε3) st3 fun y st5 => y = .bl (F x) ∧ Keep [] st3 st5) ∧ Keep [] st st1) : ev (dLc d g tYesP e vs ε) st fun p st' => ev (fAll [p]) st' fun y st2 => y = .bl (xs.all F) ∧ Keep [] st st2 := by
  refine ev_lcN (hd.mono fun s st1 ⟨es, hl, hs, kp⟩ => ⟨xs, fun x => .bl (F x), es, hl, hs, fun st2 h kp2 => ?_⟩)
  have h' : st2[st1.length]? = some (.lst ((xs.map F).map PV.bl)) := by rw [List.map_map]; exact h
  refine (ev_all h').mpr ⟨?_, kp.trans kp2⟩
  rw [List.all_map]
  rfl
end
end G
namespace G
open PySem PySem.Spec PyProof.Rows L2
/-- m ends with an exception, and then Q -/
def evX {α : Type} (m : M α) (st : Sto) (Q : Addr → List (Str × PV) → Sto → Prop) : Prop := ∃ C fs st', m st = some (.ex C fs, st') ∧ Q C fs st'
section
variable {α β : Type} {st st1 : Sto} {ε : Slo} {QX QX' : Addr → List (Str × PV) → Sto → Prop}
theorem evX.mono {m : M α} (h : evX m st QX) (i : ∀ C fs st', QX C fs st' → QX' C fs st') : evX m st QX' := by
  obtain ⟨C, fs, st', e, q⟩ := h
  exact ⟨C, fs, st', e, i _ _ _ q⟩
theorem evX_bindL {m : M α} {k : α → M β} (h : evX m st QX) : evX (m >>= k) st QX := by
  obtain ⟨C, fs, st', e, q⟩ := h
  exact ⟨C, fs, st', by rw [bind_run, e], q⟩
theorem evX_bindR {m : M α} {k : α → M β} (h : ev m st fun a st1 => evX (k a) st1 QX) : evX (m >>= k) st QX := by
  obtain ⟨a, st1, e, C, fs, st', e2, q⟩ := h
  exact ⟨C, fs, st', by rw [bind_ok e]; exact e2, q⟩
variable {d : Slo → M PV} {ds : Slo → M (List PV)}
theorem evX_dCall {F : List PV → M PV} {dv : List PV} (h : ev (ds ε) st fun xs st1 => evX (F (xs ++ dv)) st1 QX) : evX (dCall F dv ds ε) st QX := by
  unfold dCall
  exact evX_bindR h
theorem evX_dCallK {F : List PV → M PV} {n m : Nat} {ix : List Nat} {dv : List PV} {as aks : Slo → M (List PV)} (h : ev (as ε) st fun xs st1 => ev (aks ε) st1 fun ys st2 => (xs.length = n ∧ ys.length = m) ∧ evX (F (pick ix (xs ++ ys ++ dv))) st2 QX) : evX (dCallK F n m ix dv as aks ε) st QX := by
  unfold dCallK
  refine evX_bindR (h.mono fun xs st1 h1 => evX_bindR (h1.mono fun ys st2 h2 => evX_bindR ?_))
  rw [ev_need]
  exact ⟨by simpa using h2.1, h2.2⟩
theorem evX_dCallL {L : List PV → M PV} {i : Nat} {as : Slo → M (List PV)} (hi : ε[i]? = some none) (h : ev (as ε) st fun xs st1 => evX (L xs) st1 QX) : evX (dCallL L i as ε) st QX := by
  have e : dCallL L i as ε = (as ε >>= fun xs => L xs) := by
    unfold dCallL
    rw [hi]
  rw [e]
  exact evX_bindR h
end
section
variable {st : Sto} {ε : Slo} {Q : SR → Sto → Prop} {a b : SM} {QX : Addr → List (Str × PV) → Sto → Prop}
theorem thn2_ex {C : Addr} {fs : List (Str × PV)} : thn2 b Q (.ex C fs ε) st ↔ Q (.ex C fs ε) st := Iff.rfl
theorem evS_eSX {α : Type} {m : Slo → M α} {k : α → SM} (h : evX (m ε) st fun C fs st1 => Q (.ex C fs ε) st1) : evS (eS m k) ε st Q := by
  obtain ⟨C, fs, st1, e, q⟩ := h
  refine ⟨_, st1, ?_, q⟩
  unfold eS
  rw [e]
theorem evS_exprX {d : Slo → M PV} (h : evX (d ε) st fun C fs st1 => Q (.ex C fs ε) st1) : evS (sExpr d) ε st Q := evS_eSX h
theorem evS_retX {d : Slo → M PV} (h : evX (d ε) st fun C fs st1 => Q (.ex C fs ε) st1) : evS (sRet d) ε st Q := evS_eSX h
theorem evS_raise {C : Addr} {f : Str} {d : Slo → M PV} (h : ev (d ε) st fun v st1 => Q (.ex C [(f, v)] ε) st1) : evS (sRaise C f d) ε st Q := evS_eS (h.mono fun p st1 q => ⟨_, _, rfl, q⟩)
theorem evX_fn {n np : Nat} {b : SM} {ps : List PV} (hl : ps.length = np) (h : evS b (ps.map some ++ List.replicate (n - np) none) st fun r st' => match r with
    | .ex C fs _ => QX C fs st'
    | _ => False) : evX (fnD n np b ps) st QX := by
  obtain ⟨r, st', e, q⟩ := h
  unfold evX fnD
  rw [if_pos hl, e]
  cases r with
  | ex C fs ε => exact ⟨_, _, _, rfl, q⟩
  | _ => exact q.elim
theorem evS_try {hs : List HdD} (h : evS b ε st fun r st1 => match r with
    | .ex C fs ε1 => evS (hdS hs C fs) ε1 st1 Q
    | r => Q r st1) : evS (sTry b hs) ε st Q := by
  obtain ⟨r, st1, e, q⟩ := h
  have run : sTry b hs ε st = (match b ε st with
    | some (.ex C fs ε1, st1) => hdS hs C fs ε1 st1
    | r => r) := rfl
  unfold evS
  rw [run, e]
  cases r with
  | ex C fs ε1 => exact q
  | _ => exact ⟨_, _, rfl, q⟩
theorem evS_hd {h : HdD} {hs : List HdD} {C : Addr} {fs : List (Str × PV)} {i : Nat} (hm : h.mt C = some true) (hi : h.oi = some i) (hq : evS (h.su C fs) (ε.set i none) st fun r st' => match r with
    | .rt p => Q (.rt p) st'
    | .nx ε2 => Q (.nx (ε2.set i none)) st'
    | _ => False) : evS (hdS (h :: hs) C fs) ε st Q := by
  obtain ⟨r, st', e, q⟩ := hq
  have run : hdS (h :: hs) C fs ε st = (match h.mt C with
    | none => none
    | some false => hdS hs C fs ε st
    | some true => hdEnd h.oi (h.su C fs (match h.oi with | none => ε | some i => ε.set i none) st)) := rfl
  unfold evS
  rw [run, hm]
  show ∃ r st', hdEnd h.oi _ = some (r, st') ∧ Q r st'
  rw [hi]
  show ∃ r st', hdEnd (some i) (h.su C fs (ε.set i none) st) = some (r, st') ∧ Q r st'
  rw [e]
  cases r with
  | rt p => exact ⟨_, _, rfl, q⟩
  | nx ε2 => exact ⟨_, _, rfl, q⟩
  | _ => exact q.elim
end
section
variable {st : Sto} {ε : Slo} {Q : PV → Sto → Prop}
theorem ev_isXT {C : Addr} {ls : List String} {n : Nat} {fs : List (Str × PV)} (h : st[n]? = some (.ins C fs)) : ev (fIsX C ls (.loc n)) st Q ↔ Q (.bl true) st := by
  refine ev_iff ⟨_, _, ?_, rfl, rfl⟩
  show (match st[n]? with
    | some (.ins C' _) => if C' = C then some (Out.ok (PV.bl true), st) else none
    | _ => _) = _
  rw [h]
  exact if_pos rfl
theorem ev_isXF {C : Addr} {ls : List String} {x : PV} {a : String} (hx : ∀ n, x ≠ .loc n) (ht : tyN x st = some (.ok a, st)) (ha : a ∈ ls) : ev (fIsX C ls x) st Q ↔ Q (.bl false) st := by
  refine ev_iff ⟨_, _, ?_, rfl, rfl⟩
  have e : fIsX C ls x st = (tyN x >>= fun a => need (decide (a ∈ ls)) >>= fun _ => pure (.bl false) : M PV) st := by
    cases x with
    | loc n => exact absurd rfl (hx n)
    | _ => rfl
  rw [e, bind_ok ht, need_bind (decide_eq_true ha)]
  rfl
theorem ev_xi {kt : List (Addr × Bool)} {C : Addr} {i : Nat} {b : Bool} (hi : ε[i]? = some none) (hk : kt.lookup C = some b) : ev (dXi kt C i ε) st Q ↔ Q (.bl b) st := by
  refine ev_iff ⟨_, _, ?_, rfl, rfl⟩
  unfold dXi
  rw [hi, hk]
  rfl
theorem ev_xf {cs : List Addr} {f : Str} {i : Nat} {C : Addr} {fs : List (Str × PV)} {p : PV} (hi : ε[i]? = some none) (hc : C ∈ cs) (hf : fs.lookup f = some p) : ev (dXf cs f i C fs ε) st Q ↔ Q p st := by
  refine ev_iff ⟨_, _, ?_, rfl, rfl⟩
  unfold dXf
  rw [hi]
  show (need (decide (C ∈ cs)) >>= fun _ => lift (fs.lookup f) : M PV) st = _
  rw [need_bind (decide_eq_true hc), hf]
  rfl
theorem ev_divmod {i j : Int} (h : 0 < j) (h2 : j < 1073741824) : ev (fDivmod [.int i, .int j]) st Q ↔ Q (.tup [.int (i / j), .int (i % j)]) st := by
  refine ev_iff ?_
  unfold fDivmod
  simp only [ev_bind, ev_need, ev_pure]
  simp [h, h2]
theorem ev_sortT {xs : List Str} : ev (fSortedX [.tup (xs.map PV.str)]) st Q ↔ xs.length < 64 ∧ Q (.loc st.length) (st ++ [.lst ((srtS xs).map PV.str)]) := by
  have e : (xs.map PV.str).mapM asStr = some xs := by
    induction xs with
    | nil => rfl
    | cons x xs ih => rw [List.map_cons, List.mapM_cons, ih]; rfl
  have e2 : fSortedX [.tup (xs.map PV.str)] = (lift ((xs.map PV.str).mapM asStr) >>= fun ss => need (decide (ss.length < 64)) >>= fun _ => newO (.lst ((srtS ss).map PV.str)) >>= fun n => pure (.loc n)) := rfl
  rw [e2, e, ev_bind, ev_liftS, ev_bind, ev_need, decide_eq_true_eq, ev_bind, ev_newO]
  exact and_congr Iff.rfl ev_pure
/-- a new instance: its __init__'s end -/
theorem ev_mk {C : Addr} {F : List PV → M PV} {as : Slo → M (List PV)} {dv : List PV} (h : ev (as ε) st fun xs st1 => ev (F (.loc st1.length :: (xs ++ dv))) (st1 ++ [.ins C []]) fun y st2 => y = .non ∧ Q (.loc st1.length) st2) : ev (dMake C F dv as ε) st Q := by
  unfold dMake
  refine ev_bind.mpr (h.mono fun xs st1 h1 => ev_bind.mpr (ev_newO.mpr (ev_bind.mpr ?_)))
  refine h1.mono fun y st2 ⟨ey, q⟩ => ?_
  subst ey
  exact ev_pure.mpr q
end
/-- v, and all that was stays -/
def evK (m : M PV) (st : Sto) (v : PV) : Prop := ev m st fun y st' => y = v ∧ Keep [] st st'
theorem evK.use {m : M PV} {st : Sto} {v : PV} {Q : PV → Sto → Prop} (h : evK m st v) (q : ∀ st', Keep [] st st' → Q v st') : ev m st Q := h.mono fun y st' ⟨e, k⟩ => by subst e; exact q st' k
theorem evK_of {m : M PV} {st : Sto} {v : PV} (h : ∀ {Q : PV → Sto → Prop}, ev m st Q ↔ Q v st) : evK m st v := h.mpr ⟨rfl, .refl⟩
end G
namespace G
open PySem PySem.Spec PyProof.Rows L2 LamX NdefX
theorem adjust_back (n : Nat) : Builtin.Slice.sliceAdjust none none (-1) (n : Int) = ((n : Int) - 1, -1) := by
  unfold Builtin.Slice.sliceAdjust
  simp
theorem places_back (n : Nat) : Builtin.Slice.slicePlaces ((n : Int) - 1) (-1) (-1) = n := by
  unfold Builtin.Slice.slicePlaces
  have h1 : ¬ ((-1 : Int) > 0) := by omega
  simp only [h1, if_false]
  split <;> simp <;> omega
theorem fm_at (l : List Value) (g : Nat → Nat) : ∀ n : Nat, (∀ m, m < n → g m < l.length) → (List.range n).filterMap (fun m => l[g m]?) = (List.range n).filterMap (fun m => l[g m]?) := fun _ _ => rfl
theorem back_nat (l : List Value) : ∀ n : Nat, n ≤ l.length → (List.range n).filterMap (fun (m : Nat) => l[l.length - 1 - m]?) = (l.drop (l.length - n)).reverse
  | 0, _ => by simp
  | n + 1, h => by
    rw [List.range_succ, List.filterMap_append, back_nat l n (Nat.le_of_succ_le h)]
    have hi : l.length - (n + 1) < l.length := by omega
    have e1 : l.drop (l.length - (n + 1)) = l[l.length - (n + 1)] :: l.drop (l.length - n) := by
      rw [List.drop_eq_getElem_cons hi]
      congr 2
      omega
    rw [e1, List.reverse_cons]
    congr 1
    have e2 : l.length - 1 - n = l.length - (n + 1) := by omega
    simp only [List.filterMap_cons, List.filterMap_nil, e2, List.getElem?_eq_getElem hi]
theorem pick_back (xs : Array Value) : ((List.range xs.size).filterMap fun (m : Nat) => xs[(((xs.size : Nat) : Int) - 1 + (m : Int) * (-1)).toNat]?).toArray = xs.toList.reverse.toArray := by
  congr 1
  have e : (fun (m : Nat) => xs[(((xs.size : Nat) : Int) - 1 + (m : Int) * (-1)).toNat]?) = fun (m : Nat) => xs.toList[xs.toList.length - 1 - m]? := by
    funext m
    rw [Array.getElem?_toList, Array.length_toList]
    congr 1
    omega
  rw [e]
  have := back_nat xs.toList xs.toList.length (Nat.le_refl _)
  rw [Nat.sub_self, List.drop_zero] at this
  exact this
section
variable {prog : Program} {w : World} {A : Around} {E : Value → Shared → Prop} {s : Shared}
theorem getItem_tuple_back {t sl : Addr} {items : Array Value} {tk : Tok} {Q : Value → Shared → Prop} (ht : IsTup s.heap t items) (hs : s.heap.IsSliceOf sl .none .none (.int (-1) tk))
    (h : Q (.ref s.heap.objs.size) { s with heap := s.heap.push { cls := .type "tuple", data := .seq items.toList.reverse.toArray } }) (hsz : items.size ≤ sizeLine) : wpAny (model prog w) A (getItem (.ref t) (.ref sl)) Q E s := by
  have hok : sizeOk (.seq items.toList.reverse.toArray) := by
    show items.toList.reverse.toArray.size ≤ sizeLine
    rw [List.size_toArray, List.length_reverse, Array.length_toList]
    exact hsz
  obtain ⟨os, hos, hcs, hds⟩ := id hs
  have hTs : s.TypeIs (.ref sl) "slice" := ⟨os, hos, hcs⟩
  unfold getItem
  try with_reducible refine wpAny_holding ?_
  first | refine wpAny_bind (wpAny_pure ?_) | skip
  refine wpAny_bind (wpAny_sequenceKey ht.typeIs (by decide) ?_)
  refine wpAny_bind (wpAny_callSpecial?_slot (name := Str.ofString "__getitem__") ht.typeIs PyProof.Rows.slot_tuple_getitem
    (wpAny_call_entry PyProof.Rows.slot_tuple_getitem ht.typeIs entry_tuple_getitem ?_ (args_tuple_getitem _ _)))
  show wpAny _ _ (Builtin.Tuple.tupleItemsOf (.ref t) >>= _) _ _ s
  refine wpAny_bind (tupleItemsOf_ ht ?_)
  refine wpAny_bind (wpAny_typeOf hTs ?_)
  rw [if_pos (by decide)]
  have ap : ∀ {Q : Int × Int × Nat → Shared → Prop}, Q ((items.size : Int) - 1, -1, items.size) s → wpAny (model prog w) A.in1 (Builtin.Slice.sliceApplied (.ref sl) (pure (items.size : Int))) Q E s := by
    intro Q q
    unfold Builtin.Slice.sliceApplied Builtin.Slice.sliceFields
    refine wpAny_bind (wpAny_bind (wpAny_field hos hds (x := .none) rfl (wpAny_bind (wpAny_field hos hds (x := .none) rfl (wpAny_bind (wpAny_field hos hds (x := .int (-1) tk) rfl (wpAny_pure ?_)))))))
    refine wpAny_bind (slicePart_int ?_)
    show wpAny _ _ (if ((-1 : Int) == 0) = true then _ else _) _ _ s
    rw [if_neg (by decide)]
    refine wpAny_bind (slicePart_none (wpAny_bind (slicePart_none (wpAny_bind (wpAny_pure ?_)))))
    show wpAny _ _ (match Builtin.Slice.sliceAdjust none none (-1) (items.size : Int) with | (lo, hi) => pure (lo, (-1 : Int), Builtin.Slice.slicePlaces lo hi (-1))) _ _ s
    rw [adjust_back]
    show wpAny _ _ (pure ((items.size : Int) - 1, (-1 : Int), Builtin.Slice.slicePlaces ((items.size : Int) - 1) (-1) (-1))) _ _ s
    rw [places_back]
    exact wpAny_pure q
  refine wpAny_bind (ap ?_)
  have hno : ¬ ((((items.size : Int) - 1) == 0 && (-1 : Int) == 1 && items.size == items.size) = true) := by
    intro q
    rw [Bool.and_eq_true, Bool.and_eq_true] at q
    exact absurd (eq_of_beq q.1.2) (by decide)
  show wpAny _ _ (if (((items.size : Int) - 1) == 0 && (-1 : Int) == 1 && items.size == items.size) = true then _ else _) _ _ s
  rw [if_neg hno, pick_back]
  first
    | exact wpAny_bind (m := Builtin.Tuple.tupleExact _) (wpAny_newObj_type (wpAny_pure ⟨_, rfl, wpAny_pure h⟩) hok)
    | exact wpAny_bind (m := Builtin.Tuple.tupleExact _) (wpAny_newObj_type (wpAny_bind (wpAny_pure (wpAny_pure ⟨_, rfl, wpAny_pure h⟩))) hok)
    | exact wpAny_bind (wpAny_bind (m := Builtin.Tuple.tupleExact _) (wpAny_newObj_type (wpAny_pure (wpAny_pure ⟨_, rfl, wpAny_pure h⟩)) hok))
    | exact wpAny_bind (wpAny_bind (m := Builtin.Tuple.tupleExact _) (wpAny_newObj_type (wpAny_pure ⟨_, rfl, wpAny_pure h⟩) hok))
end
/-- e[::-1] -/
def dRev (d k : Slo → M PV) : Slo → M PV := fun ε => do
  let x ← d ε
  let y ← k ε
  match x, y with
  | .tup xs, .int (-1) => pure (.tup xs.reverse)
  | _, _ => M.fail
def tRev (K : PySem.W.Frag) (te : TE) (tk : TO) : TE := fun σ H Q => te σ H fun x H1 => tk σ H1 fun l H2 => ∃ a xs, x = .ref a ∧ l = some (-1) ∧ SqT K H2 a xs ∧ ∀ p, H2 p = none → Q (.ref p) (upd H2 p (.tup xs.reverse))
section
variable {X : Cx} {c : Ct} {W : WX} {e k : Expr} {d dk : Slo → M PV} {p2 pos : Pos}
theorem pe_rev {te : TE} {tk : TO} (he : PE X e te) (hk : PO X (some k) tk) : PE X (.Subscript e (.Slice none none (some k) p2) pos) (tRev X.K te tk) := by
  refine ⟨fun pins s σ H Q I h => ?_⟩
  refine Subscript_ (thn (he.run pins s σ H _ I h) fun v s1 ⟨x, H1, I1, r1, q1⟩ => ?_)
  refine wpAny_Slice ?_
  rw [evalPart_none]
  refine wpAny_pure (wpAny_pure ?_)
  refine thn (hk.run pins s1 σ H1 _ I1 q1) fun vk s3 ⟨l, H3, I3, pk, a, xs, ex, el, hx, q⟩ => ?_
  subst ex el
  cases r1
  cases pk with
  | int i t =>
  have I4 : Inv X pins σ H3 { s3 with heap := s3.heap.push { cls := .type "slice", data := .fields #[.none, .none, .int (-1) t] } } := I3.kept (t' := s3.toks) fun b ob q => Heap.get?_push_of_some _ q
  obtain ⟨its, r, ht, hz⟩ := I4.tuple hx
  have hlen : its.toArray.size = xs.length := by rw [List.size_toArray]; exact r.length.symm
  show wpAny (model X.prog X.w) X.A (subscriptTail e (.Slice none none (some k) p2) (.ref a) (.ref s3.heap.objs.size)) (EP X pins σ Q) X.xe { s3 with heap := s3.heap.push { cls := .type "slice", data := .fields #[.none, .none, .int (-1) t] } }
  refine tail_any (ops := [.ref a, .ref s3.heap.objs.size]) ht.typeIs PyProof.Rows.slot_tuple_getitem.lookup ?_ (by with_unfolding_all rfl)
  refine getItem_tuple_back ht (Heap.IsSliceOf.new ..) ?_ (by rw [hlen]; exact hz)
  refine ⟨.ref _, _, I4.laid (t' := s3.toks) (o := .tup xs.reverse) (fun b ob q => Heap.get?_push_of_some _ q) (Nat.le_refl _) ?_, rfl, q _ (I4.hok.fresh (Nat.le_refl _))⟩
  exact ⟨by rw [List.length_reverse]; exact hz, _, Vals.reverse r, IsTup.new _ _⟩
theorem ge_rev (hK : c.K = X.K) (he : GE X c W e d) (hk : GE X c W k dk) : GE X c W (.Subscript e (.Slice none none (some k) p2) pos) (dRev d dk) := by
  refine (pe_rev he (go_some hk)).imp ?_
  rintro σ H Q ⟨ε, μ, st, rr, st', hS, s, e, fin⟩
  refine step e hS s fin fun x v st1 μ1 H1 e1 x1 rx s1 hS1 fin1 => ?_
  rcases bind_inv e1 with ⟨y, st2, e2, e3⟩ | ⟨C, fs, e2, rfl⟩
  · cases x with
    | tup xs =>
      cases y with
      | int i =>
        by_cases hi : i = -1
        · subst hi
          obtain ⟨rfl, rfl⟩ := pure_inv (show (pure (.tup xs.reverse) : M PV) st2 = _ from e3)
          have e4 : (oSome dk ε) st1 = some (.ok (some (-1)), st') := by
            unfold oSome
            rw [bind_ok e2]
            rfl
          refine ⟨ε, μ1, st1, _, _, hS1, s1, e4, fun l' μ2 H2 x2 rl s2 => ?_⟩
          cases rx with
          | @tup a vs _ h1 h2 =>
            refine ⟨a, vs, rfl, rl.symm, ?_, fun p hp => ?_⟩
            · rw [← hK]
              exact SqT.of (x2.tup _ _ h1)
            · exact fin_tup hp ((h2.mono x2).reverse) s2 (fin1.mono x2)
        · exfalso
          have : (match PV.tup xs, PV.int i with
            | .tup xs, .int (-1) => (pure (.tup xs.reverse) : M PV)
            | _, _ => M.fail) = M.fail := by
            split
            · rename_i h1 h2; cases h2; exact absurd rfl hi
            · rfl
          have e3' : (M.fail : M PV) st2 = some (rr, st') := by rw [← this]; exact e3
          exact fail_inv e3'
      | _ => cases e3
    | _ => cases e3
  · have e4 : (oSome dk ε) st1 = some (.ex C fs, st') := by
      unfold oSome
      rw [bind_run, e2]
    exact ⟨ε, μ1, st1, _, _, hS1, s1, e4, fin1⟩
end
end G
namespace G
open PySem PySem.Spec PyProof.Rows L2 LamX NdefX

def dDct : Slo → M PV := fun _ => do let n ← newO (.dK []); pure (.loc n)
theorem ge_dct {X : Cx} {c : Ct} {W : WX} {pos : Pos} : GE X c W (.Dict [] [] pos) dDct := by
  refine (pe_dnewK (pos := pos)).imp ?_
  rintro σ H Q ⟨ε, μ, st, r, st', hS, s, e, fin⟩ p hp
  have e' : some (Out.ok (PV.loc st.length), st ++ [.dK []]) = some (r, st') := e
  cases e'
  refine fin (.ref p) (μ ++ [p]) _ (ext_new hp) (.loc ?_) (s.new hp ⟨[], upd_same, .nil⟩)
  rw [← s.len]
  simp

def dMakeK (C : Addr) (F : List PV → M PV) (m : Nat) (ix : List Nat) (ds : List PV) (aks : Slo → M (List PV)) : Slo → M PV := fun ε => do
  let ys ← aks ε
  need (decide (ys.length = m))
  let n ← newO (.ins C [])
  let r ← F (.loc n :: pick ix (ys ++ ds))
  match r with
  | .non => pure (.loc n)
  | _ => M.fail
theorem pick_cons {α : Type} (x : α) (l : List α) : ∀ ix : List Nat, pick (0 :: ix.map (· + 1)) (x :: l) = x :: pick ix l := fun ix => by
  unfold pick
  rw [List.filterMap_cons]
  simp only [List.getElem?_cons_zero, List.filterMap_map]
  rfl
section
variable {X : Cx} {c : Ct} {W : WX} {k n : Nat} {f C : Addr} {fd : FuncData} {ps ks : List Str} {F : List PV → M PV} {x : Str} {p pos : Pos} {kws : List Keyword} {aks : Slo → M (List PV)} {ix : List Nat} {ds : List PV} {dvs : List V}
theorem run_mkK {pins : List (Addr × Obj)} {σ : L2.St} {H : Hp} {s : Shared} {Q : VK} {ws : List Value} {zs : List V} (Mk' : Mk X.K C f) (Fo : FnP X.prog X.w X.K X.mg X.base k f fd ps (spG c F ps.length)) (hr : Rm (k + 1) X.A) (hb : BF X.K fd ps 1 ks (0 :: ix.map (· + 1)) dvs) (tk : Takes X W)
    (I : Inv X pins σ H s) (rz : Vals zs ws) (l2 : zs.length = ks.length)
    (h : ∀ x dx, H x = none → H dx = none → dx ≠ x → spG c F ps.length (.ref x :: pick ix (zs ++ dvs)) (upd (upd H dx (.own x)) x (.ins C dx [])) (fun v H2 => v = .non ∧ Q (.ref x) H2) (WE W σ)) : wpAny (model X.prog X.w) X.A (call (.ref C) [] (ks.zip ws)) (EP X pins σ Q) X.xe s := by
  have I2 := Inv.made (C := C) I
  have hq := h (s.heap.objs.size + 1) s.heap.objs.size (I.hok.fresh (Nat.le_add_right _ _)) (I.hok.fresh (Nat.le_refl _)) (Nat.ne_of_lt (Nat.lt_succ_self _))
  obtain ⟨its, rd, bt⟩ := hb
  have r2 : Vals (V.ref (s.heap.objs.size + 1) :: pick ix (zs ++ dvs)) (pick (0 :: ix.map (· + 1)) ([Value.ref (s.heap.objs.size + 1)] ++ ws ++ its)) := by
    have e : ([Value.ref (s.heap.objs.size + 1)] ++ ws ++ its) = Value.ref (s.heap.objs.size + 1) :: (ws ++ its) := rfl
    rw [e, pick_cons]
    exact .cons rfl (Vals.pick (rz.append rd) ix)
  have rm : Rm k (X.A.under (.builtin "type.__call__" ⟨[.ref C], ks.zip ws⟩)) := ⟨hr.room.make C [] (ks.zip ws), by
    have hg := hr.gd
    simp [Around.under, Code.guards, Code.isGuard, guardIds, pushGuards, hg]⟩
  have run1 := Fo.run _ X.stack _ _ ⟨[Value.ref (s.heap.objs.size + 1)], ks.zip ws⟩ _ _ _ (WE W σ) rm (I2.env0.make C [] (ks.zip ws)) (bt _ [Value.ref (s.heap.objs.size + 1)] ws I2.kIn rfl (rz.length.symm.trans l2)) r2 hq
  refine wpAny_call (make_map (f := f) I.kIn Mk'.makes Mk'.init (beq_iff_eq.mp Mk'.fn) (codeAny_mono run1 fun r s' hq' => ?_))
  cases r with
  | error e => exact passAt tk σ pins _ _ e s' I2 hq'
  | ok fl =>
    cases fl with
    | ret u =>
      obtain ⟨v, H', I3, rv, ev, q3⟩ := I2.after hq'
      subst ev
      exact ⟨rv, V.ref (s.heap.objs.size + 1), H', I3, rfl, q3⟩
    | next => exact False.elim hq'
    | brk => exact False.elim hq'
    | cont => exact False.elim hq'
theorem ge_makeK (Mk' : Mk X.K C f) (Fo : FnP X.prog X.w X.K X.mg X.base k f fd ps (spG c F ps.length)) (hr : Rm (k + 1) X.A) (hb : BF X.K fd ps 1 ks (0 :: ix.map (· + 1)) dvs) (hD : ∀ μ H, RepL c μ H ds dvs) (tk : Takes X W) (hl : ∀ xs : List V, xs.length = ks.length + dvs.length → (pick ix xs).length + 1 = ps.length) (hg : Gl X x) (hm : X.mg x = some (.ref C))
    (hkw : GK X c W kws aks) (hall : (backToKw pos (keywordEach kws X.env)).all (·.1.isSome) = true := by rfl) (hks : (backToKw pos (keywordEach kws X.env)).filterMap (·.1) = ks := by rfl) (hdb : (x == ("__debug__" : Str)) = false := by decide)
    (hpl : ((backTo pos (starEach [] X.env)).any (·.1) || (backToKw pos (keywordEach kws X.env)).any (·.1.isNone)) = false := by rfl) : GE X c W (.Call (.Name x p) [] kws pos) (dMakeK C F ks.length ix ds aks) := by
  refine ⟨fun pins s σ H Q I h => ?_⟩
  obtain ⟨ε, μ, st, r, st', hS, sm, e, fin⟩ := h
  refine wpAny_Call_Name_kw (ld_glob I hg hm ?_ hdb)
  have hT : tL c W aks σ H fun zs H2 => zs.length = ks.length ∧ ∀ x dx, H2 x = none → H2 dx = none → dx ≠ x → spG c F ps.length (.ref x :: pick ix (zs ++ dvs)) (upd (upd H2 dx (.own x)) x (.ins C dx [])) (fun v H3 => v = .non ∧ Q (.ref x) H3) (WE W σ) := by
    refine step e hS sm fin fun ys zs st2 μ2 H2 e2 x2 ry s2 hS2 fin2 => ?_
    obtain ⟨b, e3⟩ := need_inv2 e2
    rw [decide_eq_true_eq] at b
    have q2 : zs.length = ks.length := ry.length.symm.trans b
    refine ⟨q2, ?_⟩
    have rl := (ry.append (hD μ2 H2)).pick ix
    exact make_sp rl s2 (hl _ (by rw [List.length_append, q2])) e3 fin2
  refine PySem.W.callWith_KW0 (h₀ := X.base) I.ok.mod.kin Mk'.kp hall ?_ hpl
  refine thn (hkw.run pos pins s σ H _ I hT) fun ws s2 ⟨zs, H2, I2, rz, l2, q2⟩ => ⟨I2.kIn, ?_⟩
  rw [hks]
  exact run_mkK Mk' Fo hr hb tk I2 rz l2 q2
/-- the same by the def's datum -/
theorem ge_mkK {D : He.DefD} {j : Nat} (C : CalM X.prog X.w X.K X.mg X.base c k D ps F) (Mk' : Mk X.K (He.ga X.K x) (He.fAd X.K D.at_)) (hb : ∀ fd, Fd X.K D fd → BF X.K fd ps 1 ks (0 :: ix.map (· + 1)) dvs) (hD : ∀ μ H, RepL c μ H ds dvs) (hr : Rm j X.A) (hk : k + 1 ≤ j) (tk : Takes X W)
    (hl : ∀ xs : List V, xs.length = ks.length + dvs.length → (pick ix xs).length + 1 = ps.length) (hg : Gl X x) (hm : X.mg x = some (.ref (He.ga X.K x))) (hkw : GK X c W kws aks) (hall : (backToKw pos (keywordEach kws X.env)).all (·.1.isSome) = true := by rfl) (hks : (backToKw pos (keywordEach kws X.env)).filterMap (·.1) = ks := by rfl)
    (hdb : (x == ("__debug__" : Str)) = false := by decide) (hpl : ((backTo pos (starEach [] X.env)).any (·.1) || (backToKw pos (keywordEach kws X.env)).any (·.1.isNone)) = false := by rfl) : GE X c W (.Call (.Name x p) [] kws pos) (dMakeK (He.ga X.K x) F ks.length ix ds aks) := by
  obtain ⟨fd, Fo, Fu⟩ := C.ex
  exact ge_makeK Mk' Fo (hr.mono hk) (hb fd Fu) hD tk hl hg hm hkw hall hks hdb hpl
end

def rReprB : List V → Hp → VK → Prop := fun vs H Q => (vs = [.non] ∧ Q (.str "None") H) ∨ (∃ b, vs = [.bl b] ∧ Q (.str (if b then "True" else "False")) H) ∨ (∃ i, vs = [.int i] ∧ i.natAbs.log2 < 1920 ∧ Q (.str (toString i)) H) ∨
  (∃ x, vs = [.str x] ∧ (reprText x).length ≤ sizeLine ∧ Q (.str (reprText x)) H) ∨ ∃ a, vs = [.ref a] ∧ H a = some (.dK []) ∧ Q (.str (dictText [])) H
theorem call_reprB {X : Cx} (hg : X.A.guards = some []) (hu : X.A.units + 101 < cLine) : CallR X (.builtin "repr") rReprB := by
  intro pins s σ H xs us Q I r h
  rcases h with ⟨rfl, q⟩ | ⟨b, rfl, q⟩ | ⟨i, rfl, h1, q⟩ | ⟨x, rfl, h1, q⟩ | ⟨a, rfl, ha, q⟩
  · obtain ⟨u, rfl, ru⟩ := vals1 r
    cases ru
    exact P.repr_of_none ⟨.str _, H, I.tok _, ⟨_, rfl⟩, q⟩
  · obtain ⟨u, rfl, ru⟩ := vals1 r
    cases ru
    refine P.repr_of_bool ⟨.str (if b then "True" else "False"), H, I.tok _, ?_, q⟩
    cases b <;> exact ⟨_, rfl⟩
  · obtain ⟨u, rfl, t, rfl⟩ := vals1 r
    exact P.repr_of_int h1 ⟨.str _, H, I.tok _, ⟨_, rfl⟩, q⟩
  · obtain ⟨u, rfl, t, rfl⟩ := vals1 r
    exact P.repr_of_str ⟨.str _, H, I.tok _, ⟨_, rfl⟩, q⟩ h1
  · obtain ⟨u, rfl, ru⟩ := vals1 r
    obtain rfl : u = Value.ref a := ru
    obtain ⟨_, hsys, vs, kv, o, es, ep, ho, hx, hd, _, hp, _⟩ := I.hok a _ ha
    cases kv
    have he : es.toList = [] := by
      cases hl : es.toList with
      | nil => rfl
      | cons x l => rw [hl] at hp; cases hp
    have rd : Reads s.heap (.ref a) (.dict []) ([a] ++ []) := Reads.dict (as := []) (bs := []) ho hx.1 hd (by rw [he]; exact .nil) (by rw [he]; exact .nil)
    refine repr_of_reads' rd (by decide) (fun _ hm => ?_) hg (by show X.A.units + (_ + 1) < cLine; simp only [PyData.depth, PyData.depthKv]; omega) (fun _ _ z => z) (fun h' u tk hk => ⟨.str _, H, I.kept hk, ⟨u, rfl⟩, q⟩) (by decide +kernel)
    simp only [List.append_nil, List.mem_singleton] at hm
    rw [← hm] at hsys
    simp at hsys
def reprB : List PV → Option (M PV)
  | [.non] => some (pure (.str "None"))
  | [.bl b] => some (pure (.str (if b then "True" else "False")))
  | [.int i] => some (do need (decide (i.natAbs.log2 < 1920)); pure (.str (toString i)))
  | [.str x] => some (do need (decide ((reprText x).length ≤ sizeLine)); pure (.str (reprText x)))
  | [.loc n] => some fun st => match st[n]? with
    | some (.dK []) => some (.ok (.str (dictText [])), st)
    | _ => fRepr [.loc n] st
  | _ => none
def fReprX (ps : List PV) : M PV := match reprB ps with
  | some m => m
  | none => fRepr ps
theorem cb_reprX {c : Ct} : CbS c (fun vs H Q => rReprD c.K vs H Q ∨ rReprB vs H Q) fReprX := by
  intro μ H st rr st' ps vs Q W rl s e fin
  unfold fReprX at e
  cases q : reprB ps with
  | none =>
    rw [q] at e
    exact .inl (cb_repr μ H st rr st' ps vs Q W rl s e fin)
  | some m =>
    rw [q] at e
    unfold reprB at q
    split at q
    · cases q
      obtain ⟨v, rfl, rv⟩ := rl1 rl
      cases rv
      obtain ⟨rfl, rfl⟩ := pure_inv e
      exact .inr (.inl ⟨rfl, fin _ μ H .refl (.str _) s⟩)
    · cases q
      obtain ⟨v, rfl, rv⟩ := rl1 rl
      cases rv
      obtain ⟨rfl, rfl⟩ := pure_inv e
      exact .inr (.inr (.inl ⟨_, rfl, fin _ μ H .refl (.str _) s⟩))
    · cases q
      obtain ⟨v, rfl, rv⟩ := rl1 rl
      cases rv
      obtain ⟨b, e2⟩ := need_inv2 e
      obtain ⟨rfl, rfl⟩ := pure_inv e2
      exact .inr (.inr (.inr (.inl ⟨_, rfl, of_decide_eq_true b, fin _ μ H .refl (.str _) s⟩)))
    · cases q
      obtain ⟨v, rfl, rv⟩ := rl1 rl
      cases rv
      obtain ⟨b, e2⟩ := need_inv2 e
      obtain ⟨rfl, rfl⟩ := pure_inv e2
      exact .inr (.inr (.inr (.inr (.inl ⟨_, rfl, of_decide_eq_true b, fin _ μ H .refl (.str _) s⟩))))
    · cases q
      rename_i n
      have e' : (match st[n]? with
        | some (.dK []) => some (Out.ok (PV.str (dictText [])), st)
        | _ => fRepr [.loc n] st) = some (rr, st') := e
      split at e'
      · rename_i hn
        cases e'
        obtain ⟨v, rfl, rv⟩ := rl1 rl
        obtain ⟨a, rfl, ha, so⟩ := s.at_loc hn rv
        obtain ⟨ws, g, rf⟩ := so
        cases rf
        exact .inr (.inr (.inr (.inr (.inr ⟨a, rfl, g, fin _ μ H .refl (.str _) s⟩))))
      · exact .inl (cb_repr μ H st rr st' _ vs Q W rl s e' fin)
    · cases q
def fStrI (ps : List PV) : M PV := match ps with
  | [.int i] => do need (decide (i.natAbs.log2 < 1920)); pure (.str (toString i))
  | _ => M.fail
theorem cb_strI {c : Ct} : CbS c (fun xs H Q => ∃ i, xs = [.int i] ∧ i.natAbs.log2 < 1920 ∧ Q (.str (toString i)) H) fStrI := by
  intro μ H st rr st' ps vs Q W rl s e fin
  unfold fStrI at e
  split at e
  · obtain ⟨v, rfl, rv⟩ := rl1 rl
    cases rv
    obtain ⟨b, e2⟩ := need_inv2 e
    obtain ⟨rfl, rfl⟩ := pure_inv e2
    exact ⟨_, rfl, of_decide_eq_true b, fin _ μ H .refl (.str _) s⟩
  · cases e
def rTupS : List V → Hp → VK → Prop := fun xs H Q => ∃ x : Str, xs = [.str x] ∧ x.cps.size ≤ sizeLine ∧ ∀ l, H l = none → Q (.ref l) (upd H l (.tup (x.cps.toList.map fun k => V.str ⟨#[k]⟩)))
theorem vals_at : ∀ {l : List V} {us : List Value}, l.length = us.length → (∀ (j : Nat) (y : V) (v : Value), l[j]? = some y → us[j]? = some v → RelV y v) → Vals l us
  | [], [], _, _ => .nil
  | [], _ :: _, h, _ => by cases h
  | _ :: _, [], h, _ => by cases h
  | a :: l, b :: us, h, k => .cons (k 0 _ _ rfl rfl) (vals_at (Nat.succ.inj h) fun j y v h1 h2 => k (j + 1) y v (by simpa using h1) (by simpa using h2))
theorem call_tupS {X : Cx} (hc : X.calm = true) : CallR X (.type "tuple") rTupS := by
  intro pins s σ H xs us Q I r h
  obtain ⟨x, rfl, hz, q⟩ := h
  obtain ⟨u, rfl, t, rfl⟩ := vals1 r
  refine call_tuple_str (I.ok.hd hc) x t (fun h' tk acc hk hi => ?_) hz
  obtain ⟨n1, n2⟩ := hi
  have I1 : Inv X pins σ H { s with heap := h', toks := tk } := I.kept hk
  have rv : Vals (x.cps.toList.map fun k => V.str ⟨#[k]⟩) acc.toList := vals_at (by rw [List.length_map, Array.length_toList, Array.length_toList, n1]) fun j y v h1 h2 => by
    obtain ⟨c, u, e1, e2⟩ := n2 j v (by rw [← Array.getElem?_toList]; exact h2)
    rw [List.getElem?_map, Array.getElem?_toList, e1] at h1
    cases h1
    subst e2
    exact ⟨u, rfl⟩
  have I2 : Inv X pins σ (upd H h'.objs.size (.tup (x.cps.toList.map fun k => V.str ⟨#[k]⟩))) { s with heap := h'.push { cls := .type "tuple", data := .seq acc }, toks := tk } :=
    I1.laid (t' := tk) (fun b o e => Heap.get?_push_of_some _ e) (Nat.le_refl _) (show ObjOk X.prog X.w _ _ _ (.tup _) from ⟨by rw [List.length_map, Array.length_toList]; exact hz, acc.toList, rv, IsTup.new _ _⟩)
  exact ⟨.ref h'.objs.size, _, I2, rfl, q _ (I1.hok.fresh (Nat.le_refl _))⟩
def fTupleX (ps : List PV) : M PV := match ps with
  | [.str x] => do need (decide (x.cps.size ≤ sizeLine)); pure (.tup (chars x))
  | ps => fTuple ps
theorem cb_tupleX {c : Ct} : CbS c (fun xs H Q => (∃ p ys, xs = [.ref p] ∧ ((SqL c.K H p ys ∧ ∀ l, H l = none → Q (.ref l) (upd H l (.tup ys))) ∨ (SqT c.K H p ys ∧ Q (.ref p) H))) ∨ rTupS xs H Q) fTupleX := by
  intro μ H st rr st' ps vs Q W rl s e fin
  unfold fTupleX at e
  split at e
  · obtain ⟨v, rfl, rv⟩ := rl1 rl
    cases rv
    obtain ⟨b, e2⟩ := need_inv2 e
    obtain ⟨rfl, rfl⟩ := pure_inv e2
    rename_i x
    refine .inr ⟨x, rfl, of_decide_eq_true b, fun l hl => fin_tup hl ?_ s fin⟩
    unfold chars
    generalize x.cps.toList = l
    induction l with
    | nil => exact .nil
    | cons k l ih => exact .cons (.str _) ih
  · exact .inl (cb_tuple μ H st rr st' _ vs Q W rl s e fin)
section
variable {X : Cx} {c : Ct} {W : WX} {k j : Nat} {D : He.DefD} {F : List PV → M PV} {x : Str} {p pos : Pos}
/-- f() -/
theorem ge_cal0 (C : Cal X.prog X.w X.K X.mg X.base c k x D [] F) (hd : D.dfl = []) (hb : ∀ (kV doc pm : Value) (an : Option Addr) (cdv ct : Value) (us : List Value), us.length = ([] : List Str).length → bindArgs (PySem.W.fnOf D.name D.qual D.params D.body D.scope .none kV doc pm an cdv ct) ⟨us, []⟩ = pure (([] : List Str).zip us)) (hr : Rm j X.A) (hk : k ≤ j) (tk : Takes X W)
    (hg : Gl X x) (hdb : (x == ("__debug__" : Str)) = false := by decide) : GE X c W (.Call (.Name x p) [] [] pos) (dCall F [] aNil) := by
  obtain ⟨fd, Fo, Fu⟩ := C.ex
  have e0 : D.dvs X.K = [] := by unfold He.DefD.dvs; rw [hd]; rfl
  rw [e0] at Fu
  exact ge_call0 (Fo.mono hk) hr (Fu.bindsN hb) .nil (fun _ _ => .nil) tk rfl hg hdb
end
end G
namespace G
open PySem PySem.Spec PyProof.Rows L2
def dFail : Slo → M PV := fun _ => M.fail
theorem ge_fail {X : Cx} {c : Ct} {W : WX} {e : Expr} : GE X c W e dFail := ⟨fun pins s σ H Q I h => by
  obtain ⟨ε, μ, st, r, st', hS, sm, e, fin⟩ := h
  exact (fail_inv e).elim⟩
/-- the receiver: an instance of C that has no m of its own -/
def recv (C : Addr) (m : Str) (x : PV) : M Nat := match x with
  | .loc n => do
    let ob ← getO n
    match ob with
    | .ins D fs => do
      need (decide (D = C) && (fs.lookup m).isNone)
      pure n
    | _ => M.fail
  | _ => M.fail
def dMeth (C : Addr) (m : Str) (F : List PV → M PV) (ds : List PV) (o : Slo → M PV) (as : Slo → M (List PV)) : Slo → M PV := fun ε => do
  let x ← o ε
  let n ← recv C m x
  let xs ← as ε
  F (.loc n :: (xs ++ ds))
section
variable {X : Cx} {c : Ct} {W : WX} {k j : Nat} {f C : Addr} {fd : FuncData} {D : He.DefD} {ps : List Str} {F : List PV → M PV} {m : Str} {apos pos : Pos} {o e : Expr} {es : List Expr} {od : Slo → M PV} {as : Slo → M (List PV)} {ds : List PV} {dvs : List V} {dus : List Value}
theorem run_m {pins : List (Addr × Obj)} {σ : St} {H : Hp} {s : Shared} {Q : VK} {us : List Value} {vs : List V} (Fo : FnP X.prog X.w X.K X.mg X.base k f fd ps (spG c F ps.length)) (hr : Rm k X.A) (hb : Binds X.K fd ps dus) (hd : Vals dvs dus) (tk : Takes X W)
    (I : Inv X pins σ H s) (r : Vals vs us) (h : spG c F ps.length (vs ++ dvs) H Q (WE W σ)) : wpAny (model X.prog X.w) X.A (call (.ref f) us) (EP X pins σ Q) X.xe s := by
  have r2 : Vals (vs ++ dvs) (us ++ dus) := r.append hd
  have hl : (us ++ dus).length = ps.length := r2.length.symm.trans h.1
  exact wpAny_call (codeAny_mono (Fo.run X.A X.stack s H ⟨us, []⟩ (us ++ dus) (vs ++ dvs) Q (WE W σ) hr I.env0 (hb s us I.kIn hl) r2 h) fun r s' hq => run_end tk I hq)
/-- what the receiver is -/
theorem recv_inv {μ : List Addr} {H : Hp} {st st' : Sto} {x : PV} {v : V} {r : Out Nat} (s : Sim c μ H st) (rx : RepV c μ H x v) (e : recv C m x st = some (r, st')) : ∃ n a dx gs, r = .ok n ∧ st' = st ∧ x = .loc n ∧ v = .ref a ∧ H a = some (.ins C dx gs) ∧ gs.lookup m = none := by
  cases x with
  | loc n =>
    obtain ⟨ob, ho, e2⟩ := bind_getO e
    cases ob with
    | ins D' fs =>
      obtain ⟨h1, h2⟩ := need_inv2 e2
      rw [Bool.and_eq_true, decide_eq_true_eq] at h1
      obtain ⟨rfl, hn⟩ := h1
      obtain ⟨a, rfl, ha', dx, gs, g1, r1⟩ := s.at_loc ho rx
      have q := r1.lookup (f := m)
      cases z : fs.lookup m with
      | some _ => rw [z] at hn; cases hn
      | none =>
        rw [z] at q
        cases y : gs.lookup m with
        | some _ => rw [y] at q; exact q.elim
        | none =>
          obtain ⟨rfl, rfl⟩ := pure_inv h2
          exact ⟨n, a, dx, gs, rfl, rfl, rfl, rfl, g1, y⟩
    | _ => cases e2
  | _ => cases e
theorem bind_recv {α : Type} {μ : List Addr} {H : Hp} {st st' : Sto} {x : PV} {v : V} {r : Out α} {K : Nat → M α} (s : Sim c μ H st) (rx : RepV c μ H x v) (e : (recv C m x >>= K) st = some (r, st')) : ∃ n a dx gs, x = .loc n ∧ v = .ref a ∧ H a = some (.ins C dx gs) ∧ gs.lookup m = none ∧ K n st = some (r, st') := by
  rcases bind_inv e with ⟨n', st1, e1, e2⟩ | ⟨C', fs, e1, rfl⟩
  · obtain ⟨n, a, dx, gs, h1, rfl, rfl, rfl, g, y⟩ := recv_inv s rx e1
    cases h1
    exact ⟨n', a, dx, gs, rfl, rfl, g, y, e2⟩
  · obtain ⟨n, a, dx, gs, h1, _⟩ := recv_inv s rx e1
    cases h1
theorem ge_meth {pl : Sem Bool} (Cm : CalM X.prog X.w X.K X.mg X.base c k D ps F) (hM : Meth X.K C m (He.fAd X.K D.at_)) (hC : Cls X.K C) (hb : ∀ fd, Fd X.K D fd → ∃ dus, Vals dvs dus ∧ Binds X.K fd ps dus) (hD : ∀ μ H, RepL c μ H ds dvs) (hr : Rm j X.A) (hk : k ≤ j) (tk : Takes X W)
    (hl : ∀ ε st q st', as ε st = some (.ok q, st') → q.length + ds.length + 1 = ps.length) (ho : GE X c W o od) (ha : GA X c W (e :: es) as)
    (hst : starEach (e :: es) X.env = (false, eval e X.env) :: starEach es X.env := by rfl) (hpl : (backTo pos (starEach es X.env)).any (·.1) = false := by rfl)
    (ht : eval (.Call (.Attribute o m apos) (e :: es) [] pos) X.env = (do
      let ov ← eval o X.env
      standAt apos.atName
      let (f, first) ← holding [ov] (getMethod ov m pl)
      callWith pos f first (backTo pos (starEach (e :: es) X.env)) (backToKw pos (keywordEach [] X.env))) := by rfl) :
    GE X c W (.Call (.Attribute o m apos) (e :: es) [] pos) (dMeth C m F ds od as) := by
  obtain ⟨fd, Fo, Fu⟩ := Cm.ex
  obtain ⟨dus, hd, hbi⟩ := hb fd Fu
  refine ⟨fun pins s σ H Q I h => ?_⟩
  obtain ⟨ε, μ, st, r, st', hS, sm, eq, fin⟩ := h
  have hT : tD c W od σ H fun x H1 => ∃ a dx fs, x = .ref a ∧ H1 a = some (.ins C dx fs) ∧ fs.lookup m = none ∧ tL c W as σ H1 fun vs H2 => spG c F ps.length ((.ref a :: vs) ++ dvs) H2 Q (WE W σ) := by
    refine step eq hS sm fin fun x v st1 μ1 H1 e1 x1 rx s1 hS1 fin1 => ?_
    obtain ⟨n, a, dx, gs, rfl, rfl, g1, y, h2⟩ := bind_recv s1 rx e1
    refine ⟨a, dx, gs, rfl, g1, y, ?_⟩
    rcases bind_inv h2 with ⟨xs, st2, e2, e3⟩ | ⟨C', fs', e2, rfl⟩
    · refine ⟨ε, μ1, st1, _, _, hS1, s1, e2, fun vs μ2 H2 x2 rl s2 => ?_⟩
      have rl2 := (RepL0.cons (rx.mono x2) rl).append (hD μ2 H2)
      refine fin_call rl2 s2 ?_ (show F ((.loc n :: xs) ++ ds) st2 = some (r, st') from e3) (fin1.mono x2)
      rw [← rl2.length, List.length_append, List.length_cons]
      have := hl _ _ _ _ e2
      omega
    · exact ⟨ε, μ1, st1, _, _, hS1, s1, e2, fin1⟩
  refine PySem.W.methodCall_KW (pl := pl) (thn (ho.run pins s σ H _ I hT) fun u s1 ⟨x, H1, I1, rx, a, dx, fs, ex, ea, l, q⟩ => ?_) ht
  subst ex
  obtain rfl : u = Value.ref a := rx
  refine getmeth_ok I1 ea hC hM l ?_
  refine PySem.W.callWith_K (first := [.ref a]) (h₀ := X.base) I.ok.mod.kin hM.kp (thn (ha.run pos pins s1 σ H1 _ I1 q) fun us s2 ⟨vs, H2, I2, r, q2⟩ => ⟨I2.kIn, ?_⟩) hst hpl
  exact run_m (us := .ref a :: us) (vs := .ref a :: vs) Fo (hr.mono hk) hbi hd tk I2 (.cons rfl r) q2
/-- o.m() -/
theorem ge_meth0 {pl : Sem Bool} (Cm : CalM X.prog X.w X.K X.mg X.base c k D ps F) (hM : Meth X.K C m (He.fAd X.K D.at_)) (hC : Cls X.K C) (hb : ∀ fd, Fd X.K D fd → ∃ dus, Vals dvs dus ∧ Binds X.K fd ps dus) (hD : ∀ μ H, RepL c μ H ds dvs) (hr : Rm j X.A) (hk : k ≤ j) (tk : Takes X W)
    (hl : ds.length + 1 = ps.length) (ho : GE X c W o od)
    (ht : eval (.Call (.Attribute o m apos) [] [] pos) X.env = (do
      let ov ← eval o X.env
      standAt apos.atName
      let (f, first) ← holding [ov] (getMethod ov m pl)
      callWith pos f first (backTo pos (starEach [] X.env)) (backToKw pos (keywordEach [] X.env))) := by rfl) :
    GE X c W (.Call (.Attribute o m apos) [] [] pos) (dMeth C m F ds od aNil) := by
  obtain ⟨fd, Fo, Fu⟩ := Cm.ex
  obtain ⟨dus, hd, hbi⟩ := hb fd Fu
  refine ⟨fun pins s σ H Q I h => ?_⟩
  obtain ⟨ε, μ, st, r, st', hS, sm, eq, fin⟩ := h
  have hT : tD c W od σ H fun x H1 => ∃ a dx fs, x = .ref a ∧ H1 a = some (.ins C dx fs) ∧ fs.lookup m = none ∧ spG c F ps.length ([.ref a] ++ dvs) H1 Q (WE W σ) := by
    refine step eq hS sm fin fun x v st1 μ1 H1 e1 x1 rx s1 hS1 fin1 => ?_
    obtain ⟨n, a, dx, gs, rfl, rfl, g1, y, h2⟩ := bind_recv s1 rx e1
    refine ⟨a, dx, gs, rfl, g1, y, ?_⟩
    have rl2 := (RepL0.cons rx .nil).append (hD μ1 H1)
    refine fin_call rl2 s1 ?_ (show F ([.loc n] ++ ds) st1 = some (r, st') from h2) fin1
    rw [← rl2.length, List.length_append, List.length_cons, List.length_nil]
    omega
  refine PySem.W.methodCall_KW (pl := pl) (thn (ho.run pins s σ H _ I hT) fun u s1 ⟨x, H1, I1, rx, a, dx, fs, ex, ea, l, q⟩ => ?_) ht
  subst ex
  obtain rfl : u = Value.ref a := rx
  refine getmeth_ok I1 ea hC hM l ?_
  exact PySem.W.callWith_K0 (first := [.ref a]) I1.kIn hM.kp (run_m (us := [.ref a]) (vs := [.ref a]) Fo (hr.mono hk) hbi hd tk I1 (.cons rfl .nil) q)
/-- the binding of a def all of whose parameters are given -/
theorem hb_all (hd : D.dfl = []) (hb : ∀ (kV doc pm : Value) (an : Option Addr) (cdv ct : Value) (us : List Value), us.length = ps.length → bindArgs (PySem.W.fnOf D.name D.qual D.params D.body D.scope .none kV doc pm an cdv ct) ⟨us, []⟩ = pure (ps.zip us)) : ∀ fd, Fd X.K D fd → ∃ dus, Vals ([] : List V) dus ∧ Binds X.K fd ps dus := by
  intro fd Fu
  have e0 : D.dvs X.K = [] := by unfold He.DefD.dvs; rw [hd]; rfl
  unfold Fd at Fu
  rw [e0] at Fu
  exact ⟨[], .nil, Fu.bindsN hb⟩
end
def gFld (C : Addr) (f : Str) (o : Slo → M PV) : TM := fun v => eS o fun x => eS (fun _ => setF C f x v) fun _ => sNext
section
variable {X : Cx} {c : Ct} {W : WX} {o : Expr} {od : Slo → M PV} {C : Addr} {f : Str} {pos : Pos}
def tgFld (K : PySem.W.Frag) (to : TE) (f : Str) : TG := fun y σ H Q => to σ H fun x H2 => ∃ a C dx fs, x = .ref a ∧ H2 a = some (.ins C dx fs) ∧ Cls K C ∧ NoAttr K C f ∧ fs.length < 1000 ∧ Q σ (upd H2 a (.ins C dx (putF f y fs)))
theorem pg_fld {to : TE} (ho : PE X o to) (ha : ∀ v, assign (.Attribute o f pos) X.env v = (do
      let ov ← holding [v] (eval o X.env)
      standAt pos.atName
      holding [v, ov] (setAttr ov f v)
      release [v, ov] []) := by intro _; rfl) : PG X (.Attribute o f pos) (tgFld X.K to f) := by
  refine ⟨fun pins s σ H v u Q I r h => ?_⟩
  rw [ha]
  refine wpAny_bind (wpAny_holding (thn (ho.run pins s σ H _ I h) fun ov s1 ⟨x, H1, I1, r1, a, C, dx, fs, ex, ea, c, n, l, q⟩ => ?_))
  subst ex
  obtain rfl : ov = Value.ref a := r1
  refine wpAny_bind (wpAny_standAt (wpAny_bind (wpAny_holding (setattr_ok I1 ea c n l r fun s3 I3 => ?_))))
  exact wpAny_release ⟨σ, _, I3, q⟩
theorem gg_fld (hC : Cls X.K C) (hn : NoAttr X.K C f) (ho : GE X c W o od) (ha : ∀ v, assign (.Attribute o f pos) X.env v = (do
      let ov ← holding [v] (eval o X.env)
      standAt pos.atName
      holding [v, ov] (setAttr ov f v)
      release [v, ov] []) := by intro _; rfl) : GG X c W (.Attribute o f pos) (gFld C f od) := by
  refine (pg_fld ho ha).imp ?_
  rintro v σ H Q ⟨p, ε, μ, st, r, st', rp, hS, s, e, fin⟩
  refine stepS e hS s fin fun y w st2 μ2 H2 e2 x2 ry s2 hS2 fin2 => ?_
  have rx := rp.mono x2
  rcases eS_inv e2 with ⟨z, st3, e3, e4⟩ | ⟨C', fs, e3, _⟩
  · cases e4
    cases y with
    | loc n =>
      obtain ⟨ob, ho, e5⟩ := bind_getO e3
      obtain ⟨a, rfl, ha, so⟩ := s2.at_loc ho ry
      cases ob with
      | ins C' fs =>
        obtain ⟨b, e6⟩ := need_inv2 e5
        rw [Bool.and_eq_true, decide_eq_true_eq, decide_eq_true_eq] at b
        obtain ⟨rfl, hl⟩ := b
        obtain ⟨_, rfl⟩ := setO_inv e6
        obtain ⟨dx, gs, g, rf⟩ := id so
        refine ⟨a, C', dx, gs, rfl, g, hC, hn, by rw [← rf.len]; exact hl, ?_⟩
        have xx : Ext c μ2 H2 μ2 (upd H2 a (.ins C' dx (putF f v gs))) := ext_mut (SimO.mut rfl so)
        exact fin2 μ2 _ σ xx (hS2.mono xx) (s2.put ha ho ⟨dx, _, upd_same, (putG_ok rx rf).mono xx⟩)
      | _ => cases e5
    | _ => cases e3
  · cases y with
    | loc n =>
      obtain ⟨ob, ho, e5⟩ := bind_getO e3
      cases ob with
      | ins C' fs =>
        obtain ⟨b, e6⟩ := need_inv2 e5
        obtain ⟨h, _⟩ := setO_inv e6
        cases h
      | _ => cases e5
    | _ => cases e3
theorem setF_ex {C : Addr} {f : Str} {x v : PV} {st st' : Sto} {C' : Addr} {fs : List (Str × PV)} (e3 : setF C f x v st = some (.ex C' fs, st')) : False := by
  cases x with
  | loc n =>
    obtain ⟨ob, ho, e5⟩ := bind_getO e3
    cases ob with
    | ins C'' fs =>
      obtain ⟨b, e6⟩ := need_inv2 e5
      obtain ⟨h, _⟩ := setO_inv e6
      cases h
    | _ => cases e5
  | _ => cases e3
/-- such a target of a plain name -/
theorem nx_gFld' (ho : ∀ ε st C fs st', od ε st ≠ some (.ex C fs, st')) : ∀ p ε st r st', gFld C f od p ε st = some (r, st') → ∃ ε', r = .nx ε' := fun p ε st r st' h => by
  rcases eS_inv h with ⟨a, st1, _, h1⟩ | ⟨C, fs, h1, _⟩
  · rcases eS_inv h1 with ⟨_, st3, _, h3⟩ | ⟨C, fs, h3, _⟩
    · cases h3
      exact ⟨_, rfl⟩
    · exact (setF_ex h3).elim
  · exact absurd h1 (ho _ _ _ _ _)
theorem nx_gFld : nxOnly (gFld C f od) := fun p ε st r st' h => by
  rcases eS_inv h with ⟨a, st1, _, h1⟩ | ⟨C, fs, _, rfl⟩
  · rcases eS_inv h1 with ⟨_, st3, _, h3⟩ | ⟨C, fs, h3, _⟩
    · cases h3
      exact .inl ⟨_, rfl⟩
    · exact (setF_ex h3).elim
  · exact .inr ⟨C, fs, _, rfl⟩
end
def sPar3 (i j l : Nat) (ds : Slo → M (List PV)) : SM := eS ds fun ps ε st => match ps with
  | [p, q, r] => some (.nx (((ε.set i (some p)).set j (some q)).set l (some r)), st)
  | _ => none
section
variable {X : Cx} {c : Ct} {W : WX}
theorem gs_par3 {i j l : Nat} {x y z : Str} {a b d : Expr} {ds : Slo → M (List PV)} {px py pz pt pos : Pos} {kt k2 pt2} (hc : X.calm = true) (hN : X.N.Nodup) (hi : X.N[i]? = some x) (hj : X.N[j]? = some y) (hl : X.N[l]? = some z) (hij : i ≠ j) (hil : i ≠ l) (hjl : j ≠ l)
    (hx : X.env.scope.names.lookup x = some .local) (hy : X.env.scope.names.lookup y = some .local) (hz : X.env.scope.names.lookup z = some .local) (ha : GA X c W [a, b, d] ds)
    (hw : swappedStores [.Tuple [.Name x px, .Name y py, .Name z pz] kt pt] (.Tuple [a, b, d] k2 pt2) X.env = pure (some [x, y, z]))
    (hs : swapsWithSole [.Tuple [.Name x px, .Name y py, .Name z pz] kt pt] (.Tuple [a, b, d] k2 pt2) pos.line X.env = pure false := by rfl) :
    GS X c W (.Assign [.Tuple [.Name x px, .Name y py, .Name z pz] kt pt] (.Tuple [a, b, d] k2 pt2) pos) (sPar3 i j l ds) := by
  refine (ps_par3 hc hN hi hj hl hij hil hjl hx hy hz ha hw hs).imp ?_
  rintro D σ H ⟨ε, μ, st, r, st', hS, s, e, fin⟩
  refine stepS e hS s fin fun x v st1 μ1 H1 e1 x1 rx s1 hS1 fin1 => ?_
  cases rx with
  | nil => cases e1
  | cons r1 r2 =>
    cases r2 with
    | nil => cases e1
    | cons r3 r4 =>
      cases r4 with
      | nil => cases e1
      | cons r5 r6 =>
        cases r6 with
        | nil =>
          cases e1
          exact ⟨_, _, _, rfl, fin1 μ1 H1 _ .refl (((hS1.set i r1).set j r3).set l r5) s1⟩
        | cons _ _ => cases e1
end
def idxD (d e : PyData) : M PV := match d with
  | .list ds => (match ds.findIdx? (fun z => z.eqv e) with
    | some j => pure (.int j)
    | none => M.fail)
  | _ => M.fail
def mIndex (x : PV) (ps : List PV) : M PV := match ps with
  | [y] => do
    let d ← getD x
    let e ← getD y
    need (SeqAt.shaped d && SeqAt.shaped e)
    idxD d e
  | _ => M.fail
theorem mb_index {c : Ct} : MbS c "list" (rIndexD c.K) mIndex isLst := by
  refine ⟨fun μ H st x v rx s h => lst_ty x v rx s h, fun μ H st rr st' x v ps vs Q W rx rl s e fin => ?_⟩
  unfold mIndex at e
  split at e
  · obtain ⟨y, rfl, ry⟩ := rl1 rl
    obtain ⟨d, hd1, dp, sd, e2⟩ := bind_getD s rx e
    obtain ⟨d', hd2, dp', sd', e3⟩ := bind_getD s ry e2
    clear hd1 hd2 sd sd'
    obtain ⟨b, e3⟩ := need_inv2 e3
    rw [Bool.and_eq_true] at b
    obtain ⟨sd, sd'⟩ := b
    cases d with
    | list ds =>
      have e4 : (match ds.findIdx? (fun z => z.eqv d') with
        | some j => pure (.int j)
        | none => M.fail : M PV) st = some (rr, st') := e3
      cases hj : ds.findIdx? (fun z => z.eqv d') with
      | some j =>
        rw [hj] at e4
        obtain ⟨rfl, rfl⟩ := pure_inv e4
        obtain ⟨hlt, h1, h2⟩ := List.findIdx?_eq_some_iff_getElem.mp hj
        have hv : ∃ a, v = V.ref a := by
          cases dp
          exact ⟨_, rfl⟩
        obtain ⟨a, rfl⟩ := hv
        refine ⟨a, y, d', ds, j, ds[j], rfl, rfl, dp, dp', sd, sd', List.getElem?_eq_getElem hlt, h1, fun m z' hm hz => ?_, fin _ μ H .refl (.int _) s⟩
        have := h2 m hm
        obtain ⟨hlt2, rfl⟩ := List.getElem?_eq_some_iff.mp hz
        simpa using this
      | none => rw [hj] at e4; cases e4
    | _ => cases e3
  · cases e
def dKIn (ks no : List Str) (d : Slo → M PV) : Slo → M PV := fun ε => do
  let x ← d ε
  match x with
  | .str z => if z ∈ ks then pure (.bl true) else if z ∈ no then pure (.bl false) else M.fail
  | _ => M.fail
def dKIx (kvs : List (Str × Int)) (d : Slo → M PV) : Slo → M PV := fun ε => do
  let x ← d ε
  match x with
  | .str z => (match kvs.lookup z with
    | some i => pure (.int i)
    | none => M.fail)
  | _ => M.fail
def noB (K : PySem.W.Frag) (a : Addr) (no : List Str) : Bool := no.all fun z => decide (PySem.W.nsIn K a z = some none)
theorem noB_ok {K : PySem.W.Frag} {a : Addr} {no : List Str} (h : noB K a no = true) : ∀ z ∈ no, PySem.W.nsIn K a z = some none := fun z hz => of_decide_eq_true (List.all_eq_true.mp h z hz)
def kvB (K : PySem.W.Frag) (a : Addr) (kvs : List (Str × Int)) : Bool := He.valsB K a (kvs.map fun q => (q.1, .int q.2))
theorem kvB_ok {K : PySem.W.Frag} {a : Addr} {kvs : List (Str × Int)} (h : kvB K a kvs = true) : ∀ q ∈ kvs, ∃ u, PySem.W.nsIn K a q.1 = some (some u) ∧ RelV (.int q.2) u := fun q hq => He.valsB_ok h (q := (q.1, .int q.2)) (List.mem_map.mpr ⟨q, hq, rfl⟩)
theorem lookup_mem {α : Type} {z : Str} {v : α} : ∀ {l : List (Str × α)}, l.lookup z = some v → (z, v) ∈ l
  | [], h => by cases h
  | (k, w) :: r, h => by
    rw [List.lookup_cons] at h
    cases q : z == k with
    | true =>
      rw [q] at h
      cases h
      rw [show z = k from of_decide_eq_true (by rw [← lawfulStr]; exact q)]
      exact List.mem_cons_self
    | false =>
      rw [q] at h
      exact List.mem_cons_of_mem _ (lookup_mem h)
section
variable {X : Cx} {c : Ct} {W : WX} {a b : Expr} {da : Slo → M PV} {x : Str} {ks no : List Str} {kvs : List (Str × Int)} {p pos : Pos} {ad : Addr}
theorem ge_kin (hD : ∃ es n, KDict X.K X.w ad es n) (hk : ∀ q ∈ kvs, ∃ u, PySem.W.nsIn X.K ad q.1 = some (some u) ∧ RelV (.int q.2) u) (hn : ∀ z ∈ no, PySem.W.nsIn X.K ad z = some none) (hg : Gl X x) (hm : X.mg x = some (.ref ad)) (ha : GE X c W a da) (hd : (x == ("__debug__" : Str)) = false := by decide) (hmk : behindInMarks .In (.Name x p) = false := by rfl) :
    GE X c W (.Compare a [.In] [.Name x p] pos) (dKIn (kvs.map (·.1)) no da) := by
  obtain ⟨es, n, D⟩ := hD
  refine (pe_cmpR (op_in_kd D) ha (pe_glob (v := .ref ad) hg hm rfl hd) hmk).imp ?_
  rintro σ H Q ⟨ε, μ, st, rr, st', hS, s, e, fin⟩
  refine step e hS s fin fun y v st1 μ1 H1 e1 x1 rx s1 hS1 fin1 => ?_
  cases y with
  | str z =>
    cases rx
    have e1' : (if z ∈ kvs.map (·.1) then pure (PV.bl true) else if z ∈ no then pure (.bl false) else M.fail : M PV) st1 = some (rr, st') := e1
    by_cases h1 : z ∈ kvs.map (·.1)
    · rw [if_pos h1] at e1'
      obtain ⟨rfl, rfl⟩ := pure_inv e1'
      obtain ⟨q, hq, rfl⟩ := List.mem_map.mp h1
      obtain ⟨u, hu, _⟩ := hk q hq
      exact ⟨_, _, rfl, rfl, hu, fin1 _ μ1 H1 .refl (.bl _) s1⟩
    · rw [if_neg h1] at e1'
      by_cases h2 : z ∈ no
      · rw [if_pos h2] at e1'
        obtain ⟨rfl, rfl⟩ := pure_inv e1'
        exact ⟨_, _, rfl, rfl, hn z h2, fin1 _ μ1 H1 .refl (.bl _) s1⟩
      · rw [if_neg h2] at e1'
        exact (fail_inv e1').elim
  | _ => cases e1
theorem ix_kd {es : Array DictEntry} {n : Nat} (D : KDict X.K X.w ad es n) : IxR X (fun x y H Q => ∃ (z : Str) (u0 : Value) (v0 : V), x = .ref ad ∧ y = .str z ∧ PySem.W.nsIn X.K ad z = some (some u0) ∧ RelV v0 u0 ∧ Q v0 H) := by
  intro value slice pins s σ H x y v u Q I rx ry h hs
  obtain ⟨z, u0, v0, rfl, rfl, e, r, q⟩ := h
  cases rx
  exact tail_any (kd_type D I) PySem.F.slot_dict_getitem.lookup (op_item_kd D pins s σ H (.ref ad) (.str z) (.ref ad) _ Q I rfl ry ⟨z, u0, v0, rfl, rfl, e, r, q⟩) hs
theorem ge_kix (hD : ∃ es n, KDict X.K X.w ad es n) (hk : ∀ q ∈ kvs, ∃ u, PySem.W.nsIn X.K ad q.1 = some (some u) ∧ RelV (.int q.2) u) (hg : Gl X x) (hm : X.mg x = some (.ref ad)) (ha : GE X c W a da) (hd : (x == ("__debug__" : Str)) = false := by decide) (hs : PlainIx a := by exact fun _ _ => rfl) :
    GE X c W (.Subscript (.Name x p) a pos) (dKIx kvs da) := by
  obtain ⟨es, n, D⟩ := hD
  refine (pe_ix (ix_kd D) (pe_glob (v := .ref ad) hg hm rfl hd) ha hs).imp ?_
  rintro σ H Q ⟨ε, μ, st, rr, st', hS, s, e, fin⟩
  refine step e hS s fin fun y v st1 μ1 H1 e1 x1 rx s1 hS1 fin1 => ?_
  cases y with
  | str z =>
    cases rx
    have e1' : (match kvs.lookup z with
      | some i => pure (.int i)
      | none => M.fail : M PV) st1 = some (rr, st') := e1
    cases hl : kvs.lookup z with
    | none => rw [hl] at e1'; exact (fail_inv e1').elim
    | some i =>
      rw [hl] at e1'
      obtain ⟨rfl, rfl⟩ := pure_inv e1'
      obtain ⟨u, hu, ru⟩ := hk _ (lookup_mem hl)
      exact ⟨z, u, .int i, rfl, rfl, hu, ru, fin1 _ μ1 H1 .refl (.int _) s1⟩
  | _ => cases e1
end
end G
namespace G
open PySem PySem.Spec PyProof.Rows L2 He
open HandSHeadRun (frNat frNat_eq)
/-- addresses that are not among the bits yet -/
def visZ {α : Type} : List Addr → Nat → List Addr → (Nat → List Addr → α) → α
  | [], s, nw, k => k s nw
  | a :: r, s, nw, k => frNat a fun a => match Nat.beq (Nat.land (Nat.shiftRight s a) 1) 0 with
    | false => visZ r s nw k
    | true => frNat (Nat.lor s (Nat.shiftLeft 1 a)) fun s => visZ r s (a :: nw) k
def lvZ (g : Addr → Option Obj) : Nat → List Addr → Nat → List Addr → List Addr
  | 0, _, _, acc => acc
  | n + 1, fr, s, acc => visZ (fr.flatMap fun a => match g a with
    | some o => refsD o
    | none => []) s [] fun s nw => lvZ g n nw s (acc ++ nw)
def asZ (g : Addr → Option Obj) (n : Nat) : List Addr := lvZ g n [mainGlobals] (Nat.shiftLeft 1 mainGlobals) [mainGlobals]
def obsZ (n : Nat) (fa : List Fa) (fn : List DefD) (ts : List Tab) (tf : List Defn) (ex : PySem.W.Frag → Bool) (g : Addr → Option Obj) : AlX := (obsT fa fn ts (frT g (asZ g n)), ex (frT g (asZ g n)) && tabsB g tf (frT g (asZ g n)))
theorem saysX_as {as : List Addr} {fa : List Fa} {fn : List DefD} {ts : List Tab} {tf : List Defn} {ex : PySem.W.Frag → Bool} {w : World} {h : Heap} (e1 : obsT fa fn ts (frT h.get? as) = valT fn ts w)
    (e2 : (ex (frT h.get? as) && tabsB h.get? tf (frT h.get? as)) = true) : SaysX fa fn ts tf ex w h (frT h.get? as) := by
  obtain ⟨h1, h2⟩ := ba e2
  have key : ∀ p ∈ tf, PySem.W.codeHdIn (frT h.get? as) (cT (frT h.get? as) p).1 (cT (frT h.get? as) p).2 = true ∧ ∃ o, h.get? (cT (frT h.get? as) p).2 = some o ∧ emptyTab o = true := fun p hp => by
    obtain ⟨h3, h4⟩ := ba (List.all_eq_true.mp h2 p hp)
    refine ⟨h3, ?_⟩
    cases q : h.get? (cT (frT h.get? as) p).2 with
    | none =>
      rw [q] at h4
      cases h4
    | some o =>
      rw [q] at h4
      exact ⟨o, rfl, h4⟩
  exact ⟨e1, h1, fun p hp => (key p hp).1, fun p hp => by
    obtain ⟨_, o, q, z⟩ := key p hp
    exact frT_none q z, fun p hp => by
    obtain ⟨_, o, q, z⟩ := key p hp
    rw [q, emptyTab_eq z]⟩
def hookZ (n : Nat) (fa : List Fa) (fn : List DefD) (ts : List Tab) (tf : List Defn) (ex : PySem.W.Frag → Bool) : PySem.W.Hook where
  α := AlX
  obs := fun s => obsZ n fa fn ts tf ex s.heap.get?
  val := fun w => valX fn ts w
  says := fun w h => ∃ K : PySem.W.Frag, K.In h ∧ SaysX fa fn ts tf ex w h K
  of := fun _ _ e => ⟨_, frT_in, saysX_as (congrArg (fun z : AlX => z.1) e) (congrArg (fun z : AlX => z.2) e)⟩
  keeps := fun _ _ _ ⟨K, hK, c⟩ k => ⟨K, PySem.W.Frag.In.keeps hK k, ⟨c.t, c.more, c.hd, c.out, fun p hp => k _ _ (c.empty p hp)⟩⟩
theorem obsZ_eq {n : Nat} {fa : List Fa} {fn : List DefD} {ts : List Tab} {tf : List Defn} {ex : PySem.W.Frag → Bool} {g : Addr → Option Obj} {s : Shared} (h : ∀ a, g a = s.heap.get? a) : obsZ n fa fn ts tf ex g = (hookZ n fa fn ts tf ex).obs s := by
  have e : g = s.heap.get? := funext h
  rw [e] <;> rfl
end G
namespace K79
open PySem PySem.Spec PyProof.Rows L2 G
def top (i : Nat) : Stmt := PySem.Challenge.pw_digyears_k79_deeds_of_another_form.main.body.getD i (.Pass ⟨0, 0, 0, 0⟩)
def meth (i j : Nat) : Stmt := (match top i with
  | .ClassDef _ _ _ body _ _ _ _ _ _ _ => body
  | _ => []).getD j (.Pass ⟨0, 0, 0, 0⟩)
def d__law_draw : He.DefD := ⟨("_law_draw", none), "_law_draw", "_law_draw", defArgs (top 110), defBody (top 110), defScope (top 110), [], []⟩
def d__law_pick : He.DefD := ⟨("_law_pick", none), "_law_pick", "_law_pick", defArgs (top 111), defBody (top 111), defScope (top 111), [], []⟩
def d__law_relation : He.DefD := ⟨("_law_relation", none), "_law_relation", "_law_relation", defArgs (top 113), defBody (top 113), defScope (top 113), [], []⟩
def d__law_relations : He.DefD := ⟨("_law_relations", none), "_law_relations", "_law_relations", defArgs (top 114), defBody (top 114), defScope (top 114), [], []⟩
def d__law_spans : He.DefD := ⟨("_law_spans", none), "_law_spans", "_law_spans", defArgs (top 112), defBody (top 112), defScope (top 112), [], []⟩
def d__law_site : He.DefD := ⟨("_law_site", none), "_law_site", "_law_site", defArgs (top 115), defBody (top 115), defScope (top 115), [], []⟩
def d__law_small : He.DefD := ⟨("_law_small", none), "_law_small", "_law_small", defArgs (top 116), defBody (top 116), defScope (top 116), [], []⟩
def d_check_site : He.DefD := ⟨("check_site", none), "check_site", "check_site", defArgs (top 73), defBody (top 73), defScope (top 73), [], []⟩
def d_is_whole : He.DefD := ⟨("is_whole", none), "is_whole", "is_whole", defArgs (top 4), defBody (top 4), defScope (top 4), [], []⟩
def d_is_between : He.DefD := ⟨("is_between", none), "is_between", "is_between", defArgs (top 6), defBody (top 6), defScope (top 6), [], []⟩
def d_is_budget : He.DefD := ⟨("is_budget", none), "is_budget", "is_budget", defArgs (top 55), defBody (top 55), defScope (top 55), [], []⟩
def d_check_budget : He.DefD := ⟨("check_budget", none), "check_budget", "check_budget", defArgs (top 74), defBody (top 74), defScope (top 74), [], []⟩
def d_Bookdd_initdd : He.DefD := ⟨("Book", some "__init__"), "__init__", "Book.__init__", defArgs (meth 107 0), defBody (meth 107 0), defScope (meth 107 0), [.int 0], []⟩
def d_is_row : He.DefD := ⟨("is_row", none), "is_row", "is_row", defArgs (top 11), defBody (top 11), defScope (top 11), [], []⟩
def d_first_wrong : He.DefD := ⟨("first_wrong", none), "first_wrong", "first_wrong", defArgs (top 12), defBody (top 12), defScope (top 12), [], []⟩
def d_is_string : He.DefD := ⟨("is_string", none), "is_string", "is_string", defArgs (top 7), defBody (top 7), defScope (top 7), [], []⟩
def d_is_made_of : He.DefD := ⟨("is_made_of", none), "is_made_of", "is_made_of", defArgs (top 8), defBody (top 8), defScope (top 8), [], []⟩
def d_is_name : He.DefD := ⟨("is_name", none), "is_name", "is_name", defArgs (top 9), defBody (top 9), defScope (top 9), [], []⟩
def d_wrong_layer : He.DefD := ⟨("wrong_layer", none), "wrong_layer", "wrong_layer", defArgs (top 63), defBody (top 63), defScope (top 63), [], []⟩
def d_check_layers : He.DefD := ⟨("check_layers", none), "check_layers", "check_layers", defArgs (top 68), defBody (top 68), defScope (top 68), [], []⟩
def d_check_last : He.DefD := ⟨("check_last", none), "check_last", "check_last", defArgs (top 72), defBody (top 72), defScope (top 72), [], []⟩
def d_is_tuple_of : He.DefD := ⟨("is_tuple_of", none), "is_tuple_of", "is_tuple_of", defArgs (top 10), defBody (top 10), defScope (top 10), [], []⟩
def d_is_kind : He.DefD := ⟨("is_kind", none), "is_kind", "is_kind", defArgs (top 52), defBody (top 52), defScope (top 52), [], []⟩
def d_is_layer : He.DefD := ⟨("is_layer", none), "is_layer", "is_layer", defArgs (top 53), defBody (top 53), defScope (top 53), [], []⟩
def d_is_relation : He.DefD := ⟨("is_relation", none), "is_relation", "is_relation", defArgs (top 57), defBody (top 57), defScope (top 57), [], []⟩
def d_wrong_relation : He.DefD := ⟨("wrong_relation", none), "wrong_relation", "wrong_relation", defArgs (top 64), defBody (top 64), defScope (top 64), [], []⟩
def d_check_relations : He.DefD := ⟨("check_relations", none), "check_relations", "check_relations", defArgs (top 69), defBody (top 69), defScope (top 69), [], []⟩
def d_is_weight : He.DefD := ⟨("is_weight", none), "is_weight", "is_weight", defArgs (top 54), defBody (top 54), defScope (top 54), [], []⟩
def d_is_doubt : He.DefD := ⟨("is_doubt", none), "is_doubt", "is_doubt", defArgs (top 58), defBody (top 58), defScope (top 58), [], []⟩
def d_is_new_doubt : He.DefD := ⟨("is_new_doubt", none), "is_new_doubt", "is_new_doubt", defArgs (top 66), defBody (top 66), defScope (top 66), [], []⟩
def d_wrong_doubt : He.DefD := ⟨("wrong_doubt", none), "wrong_doubt", "wrong_doubt", defArgs (top 65), defBody (top 65), defScope (top 65), [], []⟩
def d_check_doubts : He.DefD := ⟨("check_doubts", none), "check_doubts", "check_doubts", defArgs (top 70), defBody (top 70), defScope (top 70), [], []⟩
def d_is_year : He.DefD := ⟨("is_year", none), "is_year", "is_year", defArgs (top 56), defBody (top 56), defScope (top 56), [], []⟩
def d_is_span : He.DefD := ⟨("is_span", none), "is_span", "is_span", defArgs (top 59), defBody (top 59), defScope (top 59), [], []⟩
def d_is_behind : He.DefD := ⟨("is_behind", none), "is_behind", "is_behind", defArgs (top 61), defBody (top 61), defScope (top 61), [], []⟩
def d_are_spans : He.DefD := ⟨("are_spans", none), "are_spans", "are_spans", defArgs (top 60), defBody (top 60), defScope (top 60), [], []⟩
def d_is_find : He.DefD := ⟨("is_find", none), "is_find", "is_find", defArgs (top 62), defBody (top 62), defScope (top 62), [], []⟩
def d_wrong_find : He.DefD := ⟨("wrong_find", none), "wrong_find", "wrong_find", defArgs (top 67), defBody (top 67), defScope (top 67), [], []⟩
def d_check_finds : He.DefD := ⟨("check_finds", none), "check_finds", "check_finds", defArgs (top 71), defBody (top 71), defScope (top 71), [], []⟩
def d_Sitedd_initdd : He.DefD := ⟨("Site", some "__init__"), "__init__", "Site.__init__", defArgs (meth 76 0), defBody (meth 76 0), defScope (meth 76 0), [.adr (He.dflAt ("Site", some "__init__") 0), .adr (He.dflAt ("Site", some "__init__") 1), .adr (He.dflAt ("Site", some "__init__") 2)], []⟩
def d__law_made : He.DefD := ⟨("_law_made", none), "_law_made", "_law_made", defArgs (top 117), defBody (top 117), defScope (top 117), [], []⟩
def d_has_form : He.DefD := ⟨("has_form", none), "has_form", "has_form", defArgs (top 89), defBody (top 89), defScope (top 89), [], []⟩
def d_is_other : He.DefD := ⟨("is_other", none), "is_other", "is_other", defArgs (top 87), defBody (top 87), defScope (top 87), [], []⟩
def d_is_number : He.DefD := ⟨("is_number", none), "is_number", "is_number", defArgs (top 5), defBody (top 5), defScope (top 5), [.int 0, .non], []⟩
def d_are_right : He.DefD := ⟨("are_right", none), "are_right", "are_right", defArgs (top 88), defBody (top 88), defScope (top 88), [], []⟩
def d_check_deed : He.DefD := ⟨("check_deed", none), "check_deed", "check_deed", defArgs (top 90), defBody (top 90), defScope (top 90), [], []⟩
def d_is_full : He.DefD := ⟨("is_full", none), "is_full", "is_full", defArgs (top 97), defBody (top 97), defScope (top 97), [], []⟩
def d_is_twice : He.DefD := ⟨("is_twice", none), "is_twice", "is_twice", defArgs (top 98), defBody (top 98), defScope (top 98), [], []⟩
def d_lot_of : He.DefD := ⟨("lot_of", none), "lot_of", "lot_of", defArgs (top 92), defBody (top 92), defScope (top 92), [], []⟩
def d_lacks_index : He.DefD := ⟨("lacks_index", none), "lacks_index", "lacks_index", defArgs (top 99), defBody (top 99), defScope (top 99), [], []⟩
def d_state_behind : He.DefD := ⟨("state_behind", none), "state_behind", "state_behind", defArgs (top 96), defBody (top 96), defScope (top 96), [], []⟩
def d_bars_all : He.DefD := ⟨("bars_all", none), "bars_all", "bars_all", defArgs (top 100), defBody (top 100), defScope (top 100), [], []⟩
def d_reason_against : He.DefD := ⟨("reason_against", none), "reason_against", "reason_against", defArgs (top 101), defBody (top 101), defScope (top 101), [], []⟩
def d_check_barred : He.DefD := ⟨("check_barred", none), "check_barred", "check_barred", defArgs (top 102), defBody (top 102), defScope (top 102), [], []⟩
def d_Book_do : He.DefD := ⟨("Book", some "do"), "do", "Book.do", defArgs (meth 107 1), defBody (meth 107 1), defScope (meth 107 1), [], []⟩
def d__law_barred : He.DefD := ⟨("_law_barred", none), "_law_barred", "_law_barred", defArgs (top 118), defBody (top 118), defScope (top 118), [], []⟩
def d__law_odd : He.DefD := ⟨("_law_odd", none), "_law_odd", "_law_odd", defArgs (top 120), defBody (top 120), defScope (top 120), [], []⟩
def d__law_index : He.DefD := ⟨("_law_index", none), "_law_index", "_law_index", defArgs (top 119), defBody (top 119), defScope (top 119), [], []⟩
def d__law_right : He.DefD := ⟨("_law_right", none), "_law_right", "_law_right", defArgs (top 121), defBody (top 121), defScope (top 121), [], []⟩
def d__law_pool : He.DefD := ⟨("_law_pool", none), "_law_pool", "_law_pool", defArgs (top 109), defBody (top 109), defScope (top 109), [], []⟩
def d_law : He.DefD := ⟨("law", none), "law", "law", defArgs (top 122), defBody (top 122), defScope (top 122), [], []⟩
def d_InvalidLayersdd_initdd : He.DefD := ⟨("InvalidLayers", some "__init__"), "__init__", "InvalidLayers.__init__", defArgs (meth 33 0), defBody (meth 33 0), defScope (meth 33 0), [], []⟩
def d_InvalidNumberdd_initdd : He.DefD := ⟨("InvalidNumber", some "__init__"), "__init__", "InvalidNumber.__init__", defArgs (meth 30 0), defBody (meth 30 0), defScope (meth 30 0), [], []⟩
def d_InvalidRelationsdd_initdd : He.DefD := ⟨("InvalidRelations", some "__init__"), "__init__", "InvalidRelations.__init__", defArgs (meth 34 0), defBody (meth 34 0), defScope (meth 34 0), [], []⟩
def d_InvalidDoubtsdd_initdd : He.DefD := ⟨("InvalidDoubts", some "__init__"), "__init__", "InvalidDoubts.__init__", defArgs (meth 35 0), defBody (meth 35 0), defScope (meth 35 0), [], []⟩
def d_InvalidFindsdd_initdd : He.DefD := ⟨("InvalidFinds", some "__init__"), "__init__", "InvalidFinds.__init__", defArgs (meth 36 0), defBody (meth 36 0), defScope (meth 36 0), [], []⟩
def d_InvalidDeeddd_initdd : He.DefD := ⟨("InvalidDeed", some "__init__"), "__init__", "InvalidDeed.__init__", defArgs (meth 37 0), defBody (meth 37 0), defScope (meth 37 0), [], []⟩
def d_Barreddd_initdd : He.DefD := ⟨("Barred", some "__init__"), "__init__", "Barred.__init__", defArgs (meth 38 0), defBody (meth 38 0), defScope (meth 38 0), [], []⟩
def fn : List He.DefD := [d__law_draw, d__law_pick, d__law_relation, d__law_relations, d__law_spans, d__law_site, d__law_small, d_check_site, d_is_whole, d_is_between, d_is_budget, d_check_budget, d_Bookdd_initdd, d_is_row, d_first_wrong, d_is_string, d_is_made_of, d_is_name, d_wrong_layer, d_check_layers, d_check_last, d_is_tuple_of, d_is_kind, d_is_layer, d_is_relation, d_wrong_relation, d_check_relations, d_is_weight, d_is_doubt, d_is_new_doubt, d_wrong_doubt, d_check_doubts, d_is_year, d_is_span, d_is_behind, d_are_spans, d_is_find, d_wrong_find, d_check_finds, d_Sitedd_initdd, d__law_made, d_has_form, d_is_other, d_is_number, d_are_right, d_check_deed, d_is_full, d_is_twice, d_lot_of, d_lacks_index, d_state_behind, d_bars_all, d_reason_against, d_check_barred, d_Book_do, d__law_barred, d__law_odd, d__law_index, d__law_right, d__law_pool, d_law, d_InvalidLayersdd_initdd, d_InvalidNumberdd_initdd, d_InvalidRelationsdd_initdd, d_InvalidDoubtsdd_initdd, d_InvalidFindsdd_initdd, d_InvalidDeeddd_initdd, d_Barreddd_initdd]
def fa : List He.Fa := [.free "divmod", .free "int", .glo "_law_draw", .free "len", .free "max", .free "min", .glo "_law_pick", .free "range", .glo "_law_relation", .free "tuple", .free "sorted", .glo "_law_relations", .glo "_law_spans", .glo "_law_site", .free "isinstance", .free "bool", .glo "is_whole", .glo "is_between", .int "MOST_BUDGET" 99, .glo "is_budget", .glo "check_site", .glo "check_budget", .noat "Book" "site", .noat "Book" "budget", .noat "Book" "deeds", .noat "Book" "past", .noat "Book" "begun", .free "enumerate", .free "str", .free "all", .glo "is_string", .int "LONGEST_NAME" 8, .glo "is_made_of", .str "SMALL_LETTERS" "abcdefghijklmnopqrstuvwxyz", .glo "first_wrong", .glo "is_name", .glo "is_row", .int "MOST_LAYERS" 7, .glo "InvalidLayers", .glo "wrong_layer", .int "MOST_LAST" 20, .glo "InvalidNumber", .glo "KINDS", .glo "is_tuple_of", .int "SIZE_OF_RELATION" 3, .glo "is_kind", .glo "is_layer", .glo "is_relation", .int "MOST_RELATIONS" 16, .glo "InvalidRelations", .glo "wrong_relation", .int "MOST_WEIGHT" 9, .int "SIZE_OF_DOUBT" 4, .glo "is_weight", .glo "is_doubt", .glo "is_new_doubt", .int "MOST_DOUBTS" 4, .glo "InvalidDoubts", .glo "wrong_doubt", .glo "is_year", .glo "is_span", .int "MOST_SPANS" 3, .glo "is_behind", .int "SIZE_OF_FIND" 3, .glo "are_spans", .glo "is_find", .int "MOST_FINDS" 12, .glo "InvalidFinds", .glo "wrong_find", .glo "check_layers", .glo "check_last", .glo "check_relations", .glo "check_doubts", .glo "check_finds", .noat "Site" "layers", .noat "Site" "last", .noat "Site" "relations", .noat "Site" "doubts", .noat "Site" "finds", .glo "Site", .mkr "Site", .glo "SIZES", .glo "is_other", .glo "is_number", .glo "LOTS", .glo "has_form", .glo "InvalidDeed", .glo "are_right", .glo "lot_of", .glo "state_behind", .glo "is_full", .str "FULL" "full", .glo "is_twice", .str "TWICE" "twice", .glo "lacks_index", .str "INDEX" "index", .glo "bars_all", .str "NEVER" "never", .str "SAME" "same", .glo "reason_against", .glo "Barred", .glo "check_deed", .glo "check_barred", .meth "Book" "do", .cls "Book", .glo "DigError", .glo "_law_small", .glo "Book", .mkr "Book", .glo "_law_made", .glo "_law_barred", .free "repr", .glo "_law_odd", .glo "_law_index", .free "abs", .glo "_law_right", .glo "_law_pool", .glo "law", .cls "Site"]
def tfn : List (He.Defn × Str) := [(("wrong_layer", none), "wrong_layer.<locals>.<lambda>"), (("wrong_relation", none), "wrong_relation.<locals>.<lambda>"), (("wrong_doubt", none), "wrong_doubt.<locals>.<lambda>"), (("are_spans", none), "are_spans.<locals>.<lambda>"), (("wrong_find", none), "wrong_find.<locals>.<lambda>")]
def tf : List He.Defn := tfn.map (·.1)
def ts : List He.Tab := [(fun K => He.ga K "SIZES", (["relate", "doubt", "find", "strike", "trust", "budget"] : List PySem.Str))]
def ex (K : PySem.W.Frag) : Bool := decide ((tfn.map fun p => (He.cT K p.1).2).Nodup) && (He.tupB K "KINDS" [.str "above", .str "cuts", .str "same"] && (He.tupB K "LOTS" [.str "relation", .str "doubt", .str "find"] && (insB K "Site" && ((kvB K (He.ga K "SIZES") ([("relate", 4), ("doubt", 5), ("find", 4), ("strike", 3), ("trust", 2), ("budget", 2)] : List (PySem.Str × Int))) && ((noB K (He.ga K "SIZES") (["Budget", ""] : List PySem.Str)) && ((exmL K (He.ga K "Barred") [("InvalidLayers", false), ("InvalidNumber", false), ("InvalidRelations", false), ("InvalidDoubts", false), ("InvalidFinds", false), ("InvalidDeed", false), ("Barred", true)]) && ((xfL K "reason" (["Barred"] : List PySem.Str)) && ((exmL K (He.ga K "InvalidDeed") [("InvalidLayers", false), ("InvalidNumber", false), ("InvalidRelations", false), ("InvalidDoubts", false), ("InvalidFinds", false), ("InvalidDeed", true), ("Barred", false)]) && ((kitL K (.ref (He.ga K "DigError")) [("InvalidLayers", true), ("InvalidNumber", true), ("InvalidRelations", true), ("InvalidDoubts", true), ("InvalidFinds", true), ("InvalidDeed", true), ("Barred", true)]) && ((xfL K "index" (["InvalidLayers", "InvalidRelations", "InvalidDoubts", "InvalidFinds", "InvalidDeed"] : List PySem.Str)) && ((eiB K "InvalidLayers" "index") && ((eiB K "InvalidNumber" "given") && ((eiB K "InvalidRelations" "index") && ((eiB K "InvalidDoubts" "index") && ((eiB K "InvalidFinds" "index") && ((eiB K "InvalidDeed" "index") && ((eiB K "Barred" "reason") && ((decide (((["InvalidLayers", "InvalidNumber", "InvalidRelations", "InvalidDoubts", "InvalidFinds", "InvalidDeed", "Barred"] : List PySem.Str).map (He.ga K)).Nodup))))))))))))))))))))
abbrev R : PySem.W.OpenRow := PySem.W.OpenLaw.row PySem.Challenge.rw_digyears_k79_deeds_of_another_form
abbrev hk : PySem.W.Hook := G.hookZ 6 fa fn ts tf ex
def ob (s : PySem.W.SharedT) : He.AlX := G.obsZ 6 fa fn ts tf ex (HandSHeadRun.getT s)
theorem ob_eq (s : PySem.W.SharedT) : ob s = hk.obs s.abs := G.obsZ_eq (HandSHeadRun.getT_eq s)
def loose : List PySem.Str := (["__name__", "_wall", "SMALL_LETTERS", "LONGEST_NAME", "is_whole", "is_number", "is_between", "is_string"] : List PySem.Str) ++ (["is_made_of", "is_name", "is_tuple_of", "is_row", "first_wrong", "lies_in", "finds_cost", "has"] : List PySem.Str) ++ (["lots_within", "is_wrong_now", "is_within", "Course", "stands", "history_by", "history_with_by", "least_by_years"] : List PySem.Str) ++ (["years_within", "years_by_budget", "DigError", "InvalidNumber", "UnknownLayer", "NotASite", "InvalidLayers", "InvalidRelations"] : List PySem.Str) ++ (["InvalidDoubts", "InvalidFinds", "InvalidDeed", "Barred", "KINDS", "MOST_LAYERS", "MOST_LAST", "MOST_RELATIONS"] : List PySem.Str) ++ (["MOST_DOUBTS", "MOST_FINDS", "MOST_SPANS", "MOST_WEIGHT", "MOST_BUDGET", "SIZE_OF_RELATION", "SIZE_OF_DOUBT", "SIZE_OF_FIND"] : List PySem.Str) ++ (["is_kind", "is_layer", "is_weight", "is_budget", "is_year", "is_relation", "is_doubt", "is_span"] : List PySem.Str) ++ (["are_spans", "is_behind", "is_find", "wrong_layer", "wrong_relation", "wrong_doubt", "is_new_doubt", "wrong_find"] : List PySem.Str) ++ (["check_layers", "check_relations", "check_doubts", "check_finds", "check_last", "check_site", "check_budget", "check_layer"] : List PySem.Str) ++ (["Site", "parts_of", "site_with", "SIZES", "LOTS", "FULL", "TWICE", "INDEX"] : List PySem.Str) ++ (["NEVER", "SAME", "is_other", "are_right", "has_form", "check_deed", "without", "lot_of"] : List PySem.Str) ++ (["struck", "trusted", "site_behind", "state_behind", "is_full", "is_twice", "lacks_index", "bars_all"] : List PySem.Str) ++ (["reason_against", "check_barred", "check_asked", "years_of", "Book", "_law_pool", "_law_draw", "_law_pick"] : List PySem.Str) ++ (["_law_spans", "_law_relation", "_law_relations", "_law_site", "_law_small", "_law_made", "_law_barred", "_law_index"] : List PySem.Str) ++ (["_law_odd", "_law_right"] : List PySem.Str)
theorem run_f (w : World) : HandSHeadRun.RunEq R (PySem.W.view R.prog [122]) hk ob 15000 loose (w.withFollow "special-get-raises" false) := by
  intro os
  kernel_rfl
theorem run_t (w : World) : HandSHeadRun.RunEq R (PySem.W.view R.prog [122]) hk ob 15000 loose (w.withFollow "special-get-raises" true) := by
  intro os
  kernel_rfl
theorem run (w : World) : HandSHeadRun.RunEq R (PySem.W.view R.prog [122]) hk ob 15000 loose w := PySem.W.byRow2 "special-get-raises" (P := fun w => HandSHeadRun.RunEq R (PySem.W.view R.prog [122]) hk ob 15000 loose w) run_f run_t w
end K79
namespace K79
open PySem PySem.Spec PyProof.Rows L2 LamX NdefX G
noncomputable def b__law_draw (A : Str → Addr) (n : Nat) : SM := (sSeq (sIf (dB (dBin fGt (dBin fIx (dVar 0) (dC (.int 1))) (dC (.int 0)))) (sSeq (sAsg (dCB fDivmod (aCons (dBin fIx (dVar 0) (dC (.int 1))) (aCons (dVar 1) aNil))) (gTu (gsCons (gSb (dVar 0) (dC (.int 1))) (gsCons (gN 2) gsNil)))) (sRet (dVar 2))) sNext) (sSeq (sAsg (dBin fAdd (dBin fIx (dVar 0) (dC (.int 2))) (dC (.int 1))) (gSb (dVar 0) (dC (.int 2)))) (sSeq (sAsg (dCB fInt (aCons (dBin fIx (dVar 0) (dC (.int 0))) aNil)) (gN 3)) (sSeq (sAsg (dBin fMod (dCB fInt (aCons (dBin fAdd (dBin fAdd (dBin fMulT (dVar 3) (dBin fAdd (dBin fMod (dVar 3) (dC (.int 20011))) (dC (.int 30011)))) (dBin fMulT (dC (.int 70001)) (dBin fIx (dVar 0) (dC (.int 2))))) (dC (.int 9))) aNil)) (dC (.int 2147482937))) (gSb (dVar 0) (dC (.int 0)))) (sRet (dBin fMod (dCB fInt (aCons (dBin fDiv (dBin fIx (dVar 0) (dC (.int 0))) (dC (.int 128))) aNil)) (dVar 1)))))))
noncomputable def D__law_draw (A : Str → Addr) (n : Nat) : List PV → M PV := fnD 4 2 (b__law_draw A n)
noncomputable def b__law_pick (A : Str → Addr) (n : Nat) : SM := (sRet (dBin fIx (dVar 1) (dCall (D__law_draw A n) [] (aCons (dVar 0) (aCons (dCB fLen (aCons (dVar 1) aNil)) aNil)))))
noncomputable def D__law_pick (A : Str → Addr) (n : Nat) : List PV → M PV := fnD 2 2 (b__law_pick A n)
noncomputable def b__law_relation (A : Str → Addr) (n : Nat) : SM := (sSeq (sAsg (dCall (D__law_draw A n) [] (aCons (dVar 0) (aCons (dCB fLen (aCons (dVar 1) aNil)) aNil))) (gN 2)) (sSeq (sAsg (dBin fMod (dCB fInt (aCons (dBin fAdd (dBin fAdd (dVar 2) (dC (.int 1))) (dCall (D__law_draw A n) [] (aCons (dVar 0) (aCons (dBin fSub (dCB fLen (aCons (dVar 1) aNil)) (dC (.int 1))) aNil)))) aNil)) (dCB fLen (aCons (dVar 1) aNil))) (gN 3)) (sSeq (sIf (dB (dBin fGt (dCall (D__law_draw A n) [] (aCons (dVar 0) (aCons (dC (.int 4)) aNil))) (dC (.int 0)))) (sPar 2 3 (aCons (dCB fMin (aCons (dVar 2) (aCons (dVar 3) aNil))) (aCons (dCB fMax (aCons (dVar 2) (aCons (dVar 3) aNil))) aNil))) sNext) (sRet (dTup (aCons (dCall (D__law_pick A n) [] (aCons (dVar 0) (aCons (dLst (aCons (dC (.str "above")) (aCons (dC (.str "above")) (aCons (dC (.str "cuts")) (aCons (dC (.str "cuts")) (aCons (dC (.str "same")) aNil)))))) aNil))) (aCons (dBin fIx (dVar 1) (dVar 2)) (aCons (dBin fIx (dVar 1) (dVar 3)) aNil))))))))
noncomputable def D__law_relation (A : Str → Addr) (n : Nat) : List PV → M PV := fnD 4 2 (b__law_relation A n)
noncomputable def b__law_relations (A : Str → Addr) (n : Nat) : SM := (sSeq (sAsg (dLst aNil) (gN 3)) (sSeq (sFor (dRng1 (dIf (dB (dBin fGt (dCB fLen (aCons (dVar 1) aNil)) (dC (.int 1)))) (dVar 2) (dC (.int 0)))) (gN 4) (sSeq (sAsg (dCall (D__law_relation A n) [] (aCons (dVar 0) (aCons (dVar 1) aNil))) (gN 5)) (sIf (dB (dBin (fIn true) (dVar 5) (dVar 3))) (sExpr (dBM mAppend isLst (dVar 3) (aCons (dVar 5) aNil))) sNext))) (sRet (dCB fTupleX (aCons (dVar 3) aNil)))))
noncomputable def D__law_relations (A : Str → Addr) (n : Nat) : List PV → M PV := fnD 6 3 (b__law_relations A n)
noncomputable def b__law_spans (A : Str → Addr) (n : Nat) : SM := (sSeq (sPar 2 3 (aCons (dLst aNil) (aCons (dCall (D__law_draw A n) [] (aCons (dVar 0) (aCons (dBin fAdd (dVar 1) (dC (.int 1))) aNil))) aNil))) (sSeq (sFor (dRng1 (dBin fAdd (dC (.int 1)) (dCall (D__law_draw A n) [] (aCons (dVar 0) (aCons (dC (.int 3)) aNil))))) (gN 4) (sIf (dB (dBin fLe (dVar 3) (dVar 1))) (sSeq (sAsg (dCB fMin (aCons (dVar 1) (aCons (dBin fAdd (dVar 3) (dCall (D__law_draw A n) [] (aCons (dVar 0) (aCons (dC (.int 3)) aNil)))) aNil))) (gN 5)) (sSeq (sExpr (dBM mAppend isLst (dVar 2) (aCons (dTup (aCons (dVar 3) (aCons (dVar 5) aNil))) aNil))) (sAsg (dBin fAdd (dBin fAdd (dVar 5) (dC (.int 2))) (dCall (D__law_draw A n) [] (aCons (dVar 0) (aCons (dC (.int 3)) aNil)))) (gN 3)))) sNext)) (sRet (dCB fTupleX (aCons (dVar 2) aNil)))))
noncomputable def D__law_spans (A : Str → Addr) (n : Nat) : List PV → M PV := fnD 6 2 (b__law_spans A n)
noncomputable def b__law_site (A : Str → Addr) (n : Nat) : SM := (sSeq (sAsg (dCB fTupleX (aCons (dCB fSortedX (aCons (dSl (dLst (aCons (dC (.str "ash")) (aCons (dC (.str "brick")) (aCons (dC (.str "clay")) (aCons (dC (.str "floor")) (aCons (dC (.str "hearth")) (aCons (dC (.str "pit")) (aCons (dC (.str "sand")) aNil)))))))) oNone (oSome (dVar 1))) aNil)) aNil)) (gN 4)) (sSeq (sPar 5 6 (aCons (dCall (D__law_relations A n) [] (aCons (dVar 0) (aCons (dVar 4) (aCons (dCall (D__law_draw A n) [] (aCons (dVar 0) (aCons (dBin fAdd (dBin fIx (dVar 3) (dC (.int 0))) (dC (.int 1))) aNil))) aNil)))) (aCons (dLst aNil) aNil))) (sSeq (sFor (dSrc (dCall (D__law_relations A n) [] (aCons (dVar 0) (aCons (dVar 4) (aCons (dCall (D__law_draw A n) [] (aCons (dVar 0) (aCons (dBin fAdd (dBin fIx (dVar 3) (dC (.int 1))) (dC (.int 1))) aNil))) aNil))))) (gN 7) (sExpr (dBM mAppend isLst (dVar 6) (aCons (dBin fAdd (dVar 7) (dTup (aCons (dBin fAdd (dC (.int 1)) (dCall (D__law_draw A n) [] (aCons (dVar 0) (aCons (dC (.int 4)) aNil)))) aNil))) aNil)))) (sSeq (sAsg (dLst aNil) (gN 8)) (sSeq (sFor (dRng1 (dCall (D__law_draw A n) [] (aCons (dVar 0) (aCons (dBin fAdd (dBin fIx (dVar 3) (dC (.int 2))) (dC (.int 1))) aNil)))) (gN 9) (sExpr (dBM mAppend isLst (dVar 8) (aCons (dTup (aCons (dCall (D__law_pick A n) [] (aCons (dVar 0) (aCons (dVar 4) aNil))) (aCons (dCall (D__law_spans A n) [] (aCons (dVar 0) (aCons (dVar 2) aNil))) (aCons (dBin fAdd (dC (.int 1)) (dCall (D__law_draw A n) [] (aCons (dVar 0) (aCons (dC (.int 4)) aNil)))) aNil)))) aNil)))) (sRet (dTup (aCons (dVar 4) (aCons (dVar 2) (aCons (dVar 5) (aCons (dCB fTupleX (aCons (dVar 6) aNil)) (aCons (dCB fTupleX (aCons (dVar 8) aNil)) aNil))))))))))))
noncomputable def D__law_site (A : Str → Addr) (n : Nat) : List PV → M PV := fnD 10 4 (b__law_site A n)
noncomputable def b__law_small (A : Str → Addr) (n : Nat) : SM := (sSeq (sAsg (dBin fAdd (dC (.int 1)) (dCall (D__law_draw A n) [] (aCons (dVar 0) (aCons (dC (.int 4)) aNil)))) (gN 1)) (sRet (dCall (D__law_site A n) [] (aCons (dVar 0) (aCons (dVar 1) (aCons (dBin fAdd (dC (.int 1)) (dCall (D__law_draw A n) [] (aCons (dVar 0) (aCons (dIf (dB (dBin fLt (dVar 1) (dC (.int 4)))) (dC (.int 5)) (dC (.int 4))) aNil)))) (aCons (dTup (aCons (dC (.int 4)) (aCons (dC (.int 2)) (aCons (dC (.int 5)) aNil)))) aNil)))))))
noncomputable def D__law_small (A : Str → Addr) (n : Nat) : List PV → M PV := fnD 2 1 (b__law_small A n)
noncomputable def b_check_site (A : Str → Addr) (n : Nat) : SM := (sIf (bNot (dTr (dUn (fIsC (A "Site")) (dVar 0)))) sNever sNext)
noncomputable def D_check_site (A : Str → Addr) (n : Nat) : List PV → M PV := fnD 1 1 (b_check_site A n)
noncomputable def b_is_whole (A : Str → Addr) (n : Nat) : SM := (sRet (vAnd (dUn (fIsi "int") (dVar 0)) (vNot (dUn (fIsi "bool") (dVar 0)))))
noncomputable def D_is_whole (A : Str → Addr) (n : Nat) : List PV → M PV := fnD 1 1 (b_is_whole A n)
noncomputable def b_is_between (A : Str → Addr) (n : Nat) : SM := (sRet (vAnd (dCall (D_is_whole A n) [] (aCons (dVar 0) aNil)) (dChain fLe fLe (dVar 1) (dVar 0) (dVar 2))))
noncomputable def D_is_between (A : Str → Addr) (n : Nat) : List PV → M PV := fnD 3 3 (b_is_between A n)
noncomputable def b_is_budget (A : Str → Addr) (n : Nat) : SM := (sRet (dCall (D_is_between A n) [] (aCons (dVar 0) (aCons (dC (.int 0)) (aCons (dC (.int 99)) aNil)))))
noncomputable def D_is_budget (A : Str → Addr) (n : Nat) : List PV → M PV := fnD 1 1 (b_is_budget A n)
noncomputable def b_check_budget (A : Str → Addr) (n : Nat) : SM := (sIf (bNot (dTr (dCall (D_is_budget A n) [] (aCons (dVar 0) aNil)))) sNever sNext)
noncomputable def D_check_budget (A : Str → Addr) (n : Nat) : List PV → M PV := fnD 1 1 (b_check_budget A n)
noncomputable def b_Bookdd_initdd (A : Str → Addr) (n : Nat) : SM := (sSeq (sExpr (dCall (D_check_site A n) [] (aCons (dVar 1) aNil))) (sSeq (sExpr (dCall (D_check_budget A n) [] (aCons (dVar 2) aNil))) (sSeq (sFldS (A "Book") "site" (dVar 0) (dVar 1)) (sSeq (sFldS (A "Book") "budget" (dVar 0) (dVar 2)) (sSeq (sFldS (A "Book") "deeds" (dVar 0) (dTup aNil)) (sSeq (sFldS (A "Book") "past" (dVar 0) (dLst aNil)) (sFldS (A "Book") "begun" (dVar 0) (dTup (aCons (dVar 1) (aCons (dVar 2) aNil))))))))))
noncomputable def D_Bookdd_initdd (A : Str → Addr) (n : Nat) : List PV → M PV := fnD 3 3 (b_Bookdd_initdd A n)
noncomputable def b_is_row (A : Str → Addr) (n : Nat) : SM := (sRet (vAnd (dUn (fIsi "tuple") (dVar 0)) (dChain fLe fLe (dVar 1) (dCB fLen (aCons (dVar 0) aNil)) (dVar 2))))
noncomputable def D_is_row (A : Str → Addr) (n : Nat) : List PV → M PV := fnD 3 3 (b_is_row A n)
noncomputable def b_first_wrong (A : Str → Addr) (n : Nat) (L : List PV → M PV) : SM := (sSeq (sFor (dEnm (dVar 0)) (gTu (gsCons (gN 2) (gsCons (gN 3) gsNil))) (sIf (bNot (dTr (dCallL L 1 (aCons (dVar 3) (aCons (dSl (dVar 0) oNone (oSome (dVar 2))) aNil))))) (sRet (dVar 2)) sNext)) (sRet (dC .non)))
noncomputable def b_is_string (A : Str → Addr) (n : Nat) : SM := (sRet (dUn (fIsi "str") (dVar 0)))
noncomputable def D_is_string (A : Str → Addr) (n : Nat) : List PV → M PV := fnD 1 1 (b_is_string A n)
noncomputable def b_is_made_of (A : Str → Addr) (n : Nat) : SM := (sRet (vAnd (dBin fNe (dVar 0) (dC (.str ""))) (dCB fAll (aCons (dLc (dSrc (dVar 0)) (gN 2) tYesP (dBin (fIn false) (dVar 2) (dVar 1)) [2]) aNil))))
noncomputable def D_is_made_of (A : Str → Addr) (n : Nat) : List PV → M PV := fnD 3 2 (b_is_made_of A n)
noncomputable def b_is_name (A : Str → Addr) (n : Nat) : SM := (sRet (vAnd (dCall (D_is_string A n) [] (aCons (dVar 0) aNil)) (vAnd (dBin fLe (dCB fLen (aCons (dVar 0) aNil)) (dC (.int 8))) (dCall (D_is_made_of A n) [] (aCons (dVar 0) (aCons (dC (.str "abcdefghijklmnopqrstuvwxyz")) aNil))))))
noncomputable def D_is_name (A : Str → Addr) (n : Nat) : List PV → M PV := fnD 1 1 (b_is_name A n)
noncomputable def dl_wrong_layer_0 (A : Str → Addr) (n : Nat) : Slo → M PV := (vAnd (dCall (D_is_name A n) [] (aCons (dVar 0) aNil)) (vOr (dBin fEq (dVar 1) (dTup aNil)) (dBin fLt (dBin fIx (dVar 1) (dUn fNeg (dC (.int 1)))) (dVar 0))))
noncomputable def b_wrong_layer (A : Str → Addr) (n : Nat) : SM := (sRet (dLam 4 2 (b_first_wrong A n) (dl_wrong_layer_0 A n) [] (aCons (dVar 0) aNil)))
noncomputable def D_wrong_layer (A : Str → Addr) (n : Nat) : List PV → M PV := fnD 1 1 (b_wrong_layer A n)
noncomputable def b_check_layers (A : Str → Addr) (n : Nat) : SM := (sSeq (sIf (bNot (dTr (dCall (D_is_row A n) [] (aCons (dVar 0) (aCons (dC (.int 1)) (aCons (dC (.int 7)) aNil)))))) (sRaise (A "InvalidLayers") "index" (dC .non)) sNext) (sSeq (sAsg (dCall (D_wrong_layer A n) [] (aCons (dVar 0) aNil)) (gN 1)) (sIf (dB (dBin (fIsN true) (dVar 1) (dC .non))) (sRaise (A "InvalidLayers") "index" (dVar 1)) sNext)))
noncomputable def D_check_layers (A : Str → Addr) (n : Nat) : List PV → M PV := fnD 2 1 (b_check_layers A n)
noncomputable def b_check_last (A : Str → Addr) (n : Nat) : SM := (sIf (bNot (dTr (dCall (D_is_between A n) [] (aCons (dVar 0) (aCons (dC (.int 1)) (aCons (dC (.int 20)) aNil)))))) (sRaise (A "InvalidNumber") "given" (dVar 0)) sNext)
noncomputable def D_check_last (A : Str → Addr) (n : Nat) : List PV → M PV := fnD 1 1 (b_check_last A n)
noncomputable def b_is_tuple_of (A : Str → Addr) (n : Nat) : SM := (sRet (vAnd (dUn (fIsi "tuple") (dVar 0)) (dBin fEq (dCB fLen (aCons (dVar 0) aNil)) (dVar 1))))
noncomputable def D_is_tuple_of (A : Str → Addr) (n : Nat) : List PV → M PV := fnD 2 2 (b_is_tuple_of A n)
noncomputable def b_is_kind (A : Str → Addr) (n : Nat) : SM := (sRet (vAnd (dCall (D_is_string A n) [] (aCons (dVar 0) aNil)) (dBin (fIn false) (dVar 0) (dC (.ktup [.str "above", .str "cuts", .str "same"])))))
noncomputable def D_is_kind (A : Str → Addr) (n : Nat) : List PV → M PV := fnD 1 1 (b_is_kind A n)
noncomputable def b_is_layer (A : Str → Addr) (n : Nat) : SM := (sRet (vAnd (dCall (D_is_string A n) [] (aCons (dVar 1) aNil)) (dBin (fIn false) (dVar 1) (dVar 0))))
noncomputable def D_is_layer (A : Str → Addr) (n : Nat) : List PV → M PV := fnD 2 2 (b_is_layer A n)
noncomputable def b_is_relation (A : Str → Addr) (n : Nat) : SM := (sSeq (sIf (bOr (bNot (dTr (dCall (D_is_tuple_of A n) [] (aCons (dVar 1) (aCons (dC (.int 3)) aNil))))) (bNot (dTr (dCall (D_is_kind A n) [] (aCons (dBin fIx (dVar 1) (dC (.int 0))) aNil))))) (sRet (dC (.bl false))) sNext) (sRet (vAnd (dCall (D_is_layer A n) [] (aCons (dVar 0) (aCons (dBin fIx (dVar 1) (dC (.int 1))) aNil))) (vAnd (dCall (D_is_layer A n) [] (aCons (dVar 0) (aCons (dBin fIx (dVar 1) (dC (.int 2))) aNil))) (dBin fNe (dBin fIx (dVar 1) (dC (.int 1))) (dBin fIx (dVar 1) (dC (.int 2))))))))
noncomputable def D_is_relation (A : Str → Addr) (n : Nat) : List PV → M PV := fnD 2 2 (b_is_relation A n)
noncomputable def dl_wrong_relation_0 (A : Str → Addr) (n : Nat) : Slo → M PV := (vAnd (dCall (D_is_relation A n) [] (aCons (dVar 2) (aCons (dVar 0) aNil))) (dBin (fIn true) (dVar 0) (dVar 1)))
noncomputable def b_wrong_relation (A : Str → Addr) (n : Nat) : SM := (sRet (dLam 4 3 (b_first_wrong A n) (dl_wrong_relation_0 A n) [0] (aCons (dVar 1) aNil)))
noncomputable def D_wrong_relation (A : Str → Addr) (n : Nat) : List PV → M PV := fnD 2 2 (b_wrong_relation A n)
noncomputable def b_check_relations (A : Str → Addr) (n : Nat) : SM := (sSeq (sIf (bNot (dTr (dCall (D_is_row A n) [] (aCons (dVar 1) (aCons (dC (.int 0)) (aCons (dC (.int 16)) aNil)))))) (sRaise (A "InvalidRelations") "index" (dC .non)) sNext) (sSeq (sAsg (dCall (D_wrong_relation A n) [] (aCons (dVar 0) (aCons (dVar 1) aNil))) (gN 2)) (sIf (dB (dBin (fIsN true) (dVar 2) (dC .non))) (sRaise (A "InvalidRelations") "index" (dVar 2)) sNext)))
noncomputable def D_check_relations (A : Str → Addr) (n : Nat) : List PV → M PV := fnD 3 2 (b_check_relations A n)
noncomputable def b_is_weight (A : Str → Addr) (n : Nat) : SM := (sRet (dCall (D_is_between A n) [] (aCons (dVar 0) (aCons (dC (.int 1)) (aCons (dC (.int 9)) aNil)))))
noncomputable def D_is_weight (A : Str → Addr) (n : Nat) : List PV → M PV := fnD 1 1 (b_is_weight A n)
noncomputable def b_is_doubt (A : Str → Addr) (n : Nat) : SM := (sSeq (sIf (bNot (dTr (dCall (D_is_tuple_of A n) [] (aCons (dVar 1) (aCons (dC (.int 4)) aNil))))) (sRet (dC (.bl false))) sNext) (sRet (vAnd (dCall (D_is_relation A n) [] (aCons (dVar 0) (aCons (dSl (dVar 1) oNone (oSome (dC (.int 3)))) aNil))) (dCall (D_is_weight A n) [] (aCons (dBin fIx (dVar 1) (dC (.int 3))) aNil)))))
noncomputable def D_is_doubt (A : Str → Addr) (n : Nat) : List PV → M PV := fnD 2 2 (b_is_doubt A n)
noncomputable def b_is_new_doubt (A : Str → Addr) (n : Nat) : SM := (sRet (dBin (fIn true) (dSl (dVar 0) oNone (oSome (dC (.int 3)))) (dLc (dSrc (dVar 1)) (gN 2) tYesP (dSl (dVar 2) oNone (oSome (dC (.int 3)))) [2])))
noncomputable def D_is_new_doubt (A : Str → Addr) (n : Nat) : List PV → M PV := fnD 3 2 (b_is_new_doubt A n)
noncomputable def dl_wrong_doubt_0 (A : Str → Addr) (n : Nat) : Slo → M PV := (vAnd (dCall (D_is_doubt A n) [] (aCons (dVar 2) (aCons (dVar 0) aNil))) (dCall (D_is_new_doubt A n) [] (aCons (dVar 0) (aCons (dVar 1) aNil))))
noncomputable def b_wrong_doubt (A : Str → Addr) (n : Nat) : SM := (sRet (dLam 4 3 (b_first_wrong A n) (dl_wrong_doubt_0 A n) [0] (aCons (dVar 1) aNil)))
noncomputable def D_wrong_doubt (A : Str → Addr) (n : Nat) : List PV → M PV := fnD 2 2 (b_wrong_doubt A n)
noncomputable def b_check_doubts (A : Str → Addr) (n : Nat) : SM := (sSeq (sIf (bNot (dTr (dCall (D_is_row A n) [] (aCons (dVar 1) (aCons (dC (.int 0)) (aCons (dC (.int 4)) aNil)))))) (sRaise (A "InvalidDoubts") "index" (dC .non)) sNext) (sSeq (sAsg (dCall (D_wrong_doubt A n) [] (aCons (dVar 0) (aCons (dVar 1) aNil))) (gN 2)) (sIf (dB (dBin (fIsN true) (dVar 2) (dC .non))) (sRaise (A "InvalidDoubts") "index" (dVar 2)) sNext)))
noncomputable def D_check_doubts (A : Str → Addr) (n : Nat) : List PV → M PV := fnD 3 2 (b_check_doubts A n)
noncomputable def b_is_year (A : Str → Addr) (n : Nat) : SM := (sRet (dCall (D_is_between A n) [] (aCons (dVar 1) (aCons (dC (.int 0)) (aCons (dVar 0) aNil)))))
noncomputable def D_is_year (A : Str → Addr) (n : Nat) : List PV → M PV := fnD 2 2 (b_is_year A n)
noncomputable def b_is_span (A : Str → Addr) (n : Nat) : SM := (sSeq (sIf (bOr (bNot (dTr (dCall (D_is_tuple_of A n) [] (aCons (dVar 1) (aCons (dC (.int 2)) aNil))))) (bOr (bNot (dTr (dCall (D_is_year A n) [] (aCons (dVar 0) (aCons (dBin fIx (dVar 1) (dC (.int 0))) aNil))))) (bNot (dTr (dCall (D_is_year A n) [] (aCons (dVar 0) (aCons (dBin fIx (dVar 1) (dC (.int 1))) aNil))))))) (sRet (dC (.bl false))) sNext) (sRet (dBin fLe (dBin fIx (dVar 1) (dC (.int 0))) (dBin fIx (dVar 1) (dC (.int 1))))))
noncomputable def D_is_span (A : Str → Addr) (n : Nat) : List PV → M PV := fnD 2 2 (b_is_span A n)
noncomputable def b_is_behind (A : Str → Addr) (n : Nat) : SM := (sRet (vAnd (dCall (D_is_span A n) [] (aCons (dVar 0) (aCons (dVar 1) aNil))) (vOr (dBin fEq (dVar 2) (dTup aNil)) (dBin fGe (dBin fIx (dVar 1) (dC (.int 0))) (dBin fAdd (dBin fIx (dBin fIx (dVar 2) (dUn fNeg (dC (.int 1)))) (dC (.int 1))) (dC (.int 2)))))))
noncomputable def D_is_behind (A : Str → Addr) (n : Nat) : List PV → M PV := fnD 3 3 (b_is_behind A n)
noncomputable def dl_are_spans_0 (A : Str → Addr) (n : Nat) : Slo → M PV := (dCall (D_is_behind A n) [] (aCons (dVar 2) (aCons (dVar 0) (aCons (dVar 1) aNil))))
noncomputable def b_are_spans (A : Str → Addr) (n : Nat) : SM := (sRet (vAnd (dCall (D_is_row A n) [] (aCons (dVar 1) (aCons (dC (.int 1)) (aCons (dC (.int 3)) aNil)))) (dBin (fIsN false) (dLam 4 3 (b_first_wrong A n) (dl_are_spans_0 A n) [0] (aCons (dVar 1) aNil)) (dC .non))))
noncomputable def D_are_spans (A : Str → Addr) (n : Nat) : List PV → M PV := fnD 2 2 (b_are_spans A n)
noncomputable def b_is_find (A : Str → Addr) (n : Nat) : SM := (sSeq (sIf (bOr (bNot (dTr (dCall (D_is_tuple_of A n) [] (aCons (dVar 2) (aCons (dC (.int 3)) aNil))))) (bNot (dTr (dCall (D_is_layer A n) [] (aCons (dVar 0) (aCons (dBin fIx (dVar 2) (dC (.int 0))) aNil)))))) (sRet (dC (.bl false))) sNext) (sRet (vAnd (dCall (D_are_spans A n) [] (aCons (dVar 1) (aCons (dBin fIx (dVar 2) (dC (.int 1))) aNil))) (dCall (D_is_weight A n) [] (aCons (dBin fIx (dVar 2) (dC (.int 2))) aNil)))))
noncomputable def D_is_find (A : Str → Addr) (n : Nat) : List PV → M PV := fnD 3 3 (b_is_find A n)
noncomputable def dl_wrong_find_0 (A : Str → Addr) (n : Nat) : Slo → M PV := (dCall (D_is_find A n) [] (aCons (dVar 3) (aCons (dVar 2) (aCons (dVar 0) aNil))))
noncomputable def b_wrong_find (A : Str → Addr) (n : Nat) : SM := (sRet (dLam 4 4 (b_first_wrong A n) (dl_wrong_find_0 A n) [1, 0] (aCons (dVar 2) aNil)))
noncomputable def D_wrong_find (A : Str → Addr) (n : Nat) : List PV → M PV := fnD 3 3 (b_wrong_find A n)
noncomputable def b_check_finds (A : Str → Addr) (n : Nat) : SM := (sSeq (sIf (bNot (dTr (dCall (D_is_row A n) [] (aCons (dVar 2) (aCons (dC (.int 0)) (aCons (dC (.int 12)) aNil)))))) (sRaise (A "InvalidFinds") "index" (dC .non)) sNext) (sSeq (sAsg (dCall (D_wrong_find A n) [] (aCons (dVar 0) (aCons (dVar 1) (aCons (dVar 2) aNil)))) (gN 3)) (sIf (dB (dBin (fIsN true) (dVar 3) (dC .non))) (sRaise (A "InvalidFinds") "index" (dVar 3)) sNext)))
noncomputable def D_check_finds (A : Str → Addr) (n : Nat) : List PV → M PV := fnD 4 3 (b_check_finds A n)
noncomputable def b_Sitedd_initdd (A : Str → Addr) (n : Nat) : SM := (sSeq (sExpr (dCall (D_check_layers A n) [] (aCons (dVar 1) aNil))) (sSeq (sExpr (dCall (D_check_last A n) [] (aCons (dVar 2) aNil))) (sSeq (sExpr (dCall (D_check_relations A n) [] (aCons (dVar 1) (aCons (dVar 3) aNil)))) (sSeq (sExpr (dCall (D_check_doubts A n) [] (aCons (dVar 1) (aCons (dVar 4) aNil)))) (sSeq (sExpr (dCall (D_check_finds A n) [] (aCons (dVar 1) (aCons (dVar 2) (aCons (dVar 5) aNil))))) (sSeq (sFldS (A "Site") "layers" (dVar 0) (dVar 1)) (sSeq (sFldS (A "Site") "last" (dVar 0) (dVar 2)) (sSeq (sFldS (A "Site") "relations" (dVar 0) (dVar 3)) (sSeq (sFldS (A "Site") "doubts" (dVar 0) (dVar 4)) (sFldS (A "Site") "finds" (dVar 0) (dVar 5)))))))))))
noncomputable def D_Sitedd_initdd (A : Str → Addr) (n : Nat) : List PV → M PV := fnD 6 6 (b_Sitedd_initdd A n)
noncomputable def b__law_made (A : Str → Addr) (n : Nat) : SM := (sRet (dMake (A "Site") (D_Sitedd_initdd A n) [] (aCons (dBin fIx (dVar 0) (dC (.int 0))) (aCons (dBin fIx (dVar 0) (dC (.int 1))) (aCons (dBin fIx (dVar 0) (dC (.int 2))) (aCons (dBin fIx (dVar 0) (dC (.int 3))) (aCons (dBin fIx (dVar 0) (dC (.int 4))) aNil)))))))
noncomputable def D__law_made (A : Str → Addr) (n : Nat) : List PV → M PV := fnD 1 1 (b__law_made A n)
noncomputable def b_has_form (A : Str → Addr) (n : Nat) : SM := (sSeq (sIf (bOr (bNot (dTr (dUn (fIsi "tuple") (dVar 0)))) (bOr (dB (dBin fEq (dCB fLen (aCons (dVar 0) aNil)) (dC (.int 0)))) (bNot (dTr (dCall (D_is_string A n) [] (aCons (dBin fIx (dVar 0) (dC (.int 0))) aNil)))))) (sRet (dC (.bl false))) sNext) (sRet (vAnd (dKIn (([("relate", 4), ("doubt", 5), ("find", 4), ("strike", 3), ("trust", 2), ("budget", 2)] : List (PySem.Str × Int)).map (·.1)) (["Budget", ""] : List PySem.Str) (dBin fIx (dVar 0) (dC (.int 0)))) (dBin fEq (dCB fLen (aCons (dVar 0) aNil)) (dKIx ([("relate", 4), ("doubt", 5), ("find", 4), ("strike", 3), ("trust", 2), ("budget", 2)] : List (PySem.Str × Int)) (dBin fIx (dVar 0) (dC (.int 0))))))))
noncomputable def D_has_form (A : Str → Addr) (n : Nat) : List PV → M PV := fnD 1 1 (b_has_form A n)
noncomputable def b_is_other (A : Str → Addr) (n : Nat) : SM := (sRet (vAnd (dCall (D_is_layer A n) [] (aCons (dUn (fFld (A "Site") "layers") (dVar 0)) (aCons (dVar 2) aNil))) (dBin fNe (dVar 2) (dBin fIx (dVar 1) (dC (.int 2))))))
noncomputable def D_is_other (A : Str → Addr) (n : Nat) : List PV → M PV := fnD 3 3 (b_is_other A n)
noncomputable def b_is_number (A : Str → Addr) (n : Nat) : SM := (sRet (vAnd (dCall (D_is_whole A n) [] (aCons (dVar 0) aNil)) (vAnd (dBin fLe (dVar 1) (dVar 0)) (vOr (dBin (fIsN false) (dVar 2) (dC .non)) (dBin fLe (dVar 0) (dVar 2))))))
noncomputable def D_is_number (A : Str → Addr) (n : Nat) : List PV → M PV := fnD 3 3 (b_is_number A n)
noncomputable def b_are_right (A : Str → Addr) (n : Nat) : SM := (sSeq (sAsg (dBin fIx (dVar 1) (dC (.int 0))) (gN 2)) (sSeq (sIf (dB (dBin (fIn false) (dVar 2) (dTup (aCons (dC (.str "relate")) (aCons (dC (.str "doubt")) aNil))))) (sSeq (sAsg (dLst (aCons (dCall (D_is_kind A n) [] (aCons (dBin fIx (dVar 1) (dC (.int 1))) aNil)) (aCons (dCall (D_is_layer A n) [] (aCons (dUn (fFld (A "Site") "layers") (dVar 0)) (aCons (dBin fIx (dVar 1) (dC (.int 2))) aNil))) (aCons (dCall (D_is_other A n) [] (aCons (dVar 0) (aCons (dVar 1) (aCons (dBin fIx (dVar 1) (dC (.int 3))) aNil)))) aNil)))) (gN 3)) (sRet (dIf (dB (dBin fEq (dVar 2) (dC (.str "relate")))) (dVar 3) (dBin fAdd (dVar 3) (dLst (aCons (dCall (D_is_weight A n) [] (aCons (dBin fIx (dVar 1) (dC (.int 4))) aNil)) aNil)))))) sNext) (sSeq (sIf (dB (dBin fEq (dVar 2) (dC (.str "find")))) (sRet (dLst (aCons (dCall (D_is_layer A n) [] (aCons (dUn (fFld (A "Site") "layers") (dVar 0)) (aCons (dBin fIx (dVar 1) (dC (.int 1))) aNil))) (aCons (dCall (D_are_spans A n) [] (aCons (dUn (fFld (A "Site") "last") (dVar 0)) (aCons (dBin fIx (dVar 1) (dC (.int 2))) aNil))) (aCons (dCall (D_is_weight A n) [] (aCons (dBin fIx (dVar 1) (dC (.int 3))) aNil)) aNil))))) sNext) (sSeq (sIf (dB (dBin fEq (dVar 2) (dC (.str "strike")))) (sRet (dLst (aCons (vAnd (dCall (D_is_string A n) [] (aCons (dBin fIx (dVar 1) (dC (.int 1))) aNil)) (dBin (fIn false) (dBin fIx (dVar 1) (dC (.int 1))) (dC (.ktup [.str "relation", .str "doubt", .str "find"])))) (aCons (dCall (D_is_number A n) [.int 0, .non] (aCons (dBin fIx (dVar 1) (dC (.int 2))) aNil)) aNil)))) sNext) (sRet (dLst (aCons (dIf (dB (dBin fEq (dVar 2) (dC (.str "trust")))) (dCall (D_is_number A n) [.int 0, .non] (aCons (dBin fIx (dVar 1) (dC (.int 1))) aNil)) (dCall (D_is_budget A n) [] (aCons (dBin fIx (dVar 1) (dC (.int 1))) aNil))) aNil)))))))
noncomputable def D_are_right (A : Str → Addr) (n : Nat) : List PV → M PV := fnD 4 2 (b_are_right A n)
noncomputable def b_check_deed (A : Str → Addr) (n : Nat) : SM := (sSeq (sIf (bNot (dTr (dCall (D_has_form A n) [] (aCons (dVar 1) aNil)))) (sRaise (A "InvalidDeed") "index" (dC (.int 0))) sNext) (sSeq (sAsg (dCall (D_are_right A n) [] (aCons (dVar 0) (aCons (dVar 1) aNil))) (gN 2)) (sIf (dB (dBin (fIn false) (dC (.bl false)) (dVar 2))) (sRaise (A "InvalidDeed") "index" (dBin fAdd (dC (.int 1)) (dBM mIndex isLst (dVar 2) (aCons (dC (.bl false)) aNil)))) sNext)))
noncomputable def D_check_deed (A : Str → Addr) (n : Nat) : List PV → M PV := fnD 3 2 (b_check_deed A n)
noncomputable def b_is_full (A : Str → Addr) (n : Nat) : SM := (sSeq (sAsg (dBin fIx (dVar 1) (dC (.int 0))) (gN 2)) (sSeq (sIf (dB (dBin (fIn false) (dVar 2) (dTup (aCons (dC (.str "relate")) (aCons (dC (.str "trust")) aNil))))) (sRet (dBin fEq (dCB fLen (aCons (dUn (fFld (A "Site") "relations") (dVar 0)) aNil)) (dC (.int 16)))) sNext) (sSeq (sIf (dB (dBin fEq (dVar 2) (dC (.str "doubt")))) (sRet (dBin fEq (dCB fLen (aCons (dUn (fFld (A "Site") "doubts") (dVar 0)) aNil)) (dC (.int 4)))) sNext) (sRet (vAnd (dBin fEq (dVar 2) (dC (.str "find"))) (dBin fEq (dCB fLen (aCons (dUn (fFld (A "Site") "finds") (dVar 0)) aNil)) (dC (.int 12))))))))
noncomputable def D_is_full (A : Str → Addr) (n : Nat) : List PV → M PV := fnD 3 2 (b_is_full A n)
noncomputable def b_is_twice (A : Str → Addr) (n : Nat) : SM := (sSeq (sAsg (dBin fIx (dVar 1) (dC (.int 0))) (gN 2)) (sSeq (sIf (dB (dBin fEq (dVar 2) (dC (.str "relate")))) (sRet (dBin (fIn false) (dSl (dVar 1) (oSome (dC (.int 1))) oNone) (dUn (fFld (A "Site") "relations") (dVar 0)))) sNext) (sSeq (sIf (dB (dBin fEq (dVar 2) (dC (.str "doubt")))) (sRet (vNot (dCall (D_is_new_doubt A n) [] (aCons (dSl (dVar 1) (oSome (dC (.int 1))) oNone) (aCons (dUn (fFld (A "Site") "doubts") (dVar 0)) aNil))))) sNext) (sSeq (sIf (bOr (dB (dBin fNe (dVar 2) (dC (.str "trust")))) (dB (dBin fGe (dBin fIx (dVar 1) (dC (.int 1))) (dCB fLen (aCons (dUn (fFld (A "Site") "doubts") (dVar 0)) aNil))))) (sRet (dC (.bl false))) sNext) (sRet (dBin (fIn false) (dSl (dBin fIx (dUn (fFld (A "Site") "doubts") (dVar 0)) (dBin fIx (dVar 1) (dC (.int 1)))) oNone (oSome (dC (.int 3)))) (dUn (fFld (A "Site") "relations") (dVar 0))))))))
noncomputable def D_is_twice (A : Str → Addr) (n : Nat) : List PV → M PV := fnD 3 2 (b_is_twice A n)
noncomputable def b_lot_of (A : Str → Addr) (n : Nat) : SM := (sRet (dIf (dB (dBin fEq (dVar 1) (dC (.str "relation")))) (dUn (fFld (A "Site") "relations") (dVar 0)) (dIf (dB (dBin fEq (dVar 1) (dC (.str "doubt")))) (dUn (fFld (A "Site") "doubts") (dVar 0)) (dUn (fFld (A "Site") "finds") (dVar 0)))))
noncomputable def D_lot_of (A : Str → Addr) (n : Nat) : List PV → M PV := fnD 2 2 (b_lot_of A n)
noncomputable def b_lacks_index (A : Str → Addr) (n : Nat) : SM := (sSeq (sIf (dB (dBin fEq (dBin fIx (dVar 1) (dC (.int 0))) (dC (.str "strike")))) (sRet (dBin fGe (dBin fIx (dVar 1) (dC (.int 2))) (dCB fLen (aCons (dCall (D_lot_of A n) [] (aCons (dVar 0) (aCons (dBin fIx (dVar 1) (dC (.int 1))) aNil))) aNil)))) sNext) (sRet (vAnd (dBin fEq (dBin fIx (dVar 1) (dC (.int 0))) (dC (.str "trust"))) (dBin fGe (dBin fIx (dVar 1) (dC (.int 1))) (dCB fLen (aCons (dUn (fFld (A "Site") "doubts") (dVar 0)) aNil))))))
noncomputable def D_lacks_index (A : Str → Addr) (n : Nat) : List PV → M PV := fnD 2 2 (b_lacks_index A n)
noncomputable def b_state_behind (A : Str → Addr) (n : Nat) : SM := (sSeq (sIf (dB (dBin fEq (dBin fIx (dVar 2) (dC (.int 0))) (dC (.str "budget")))) (sRet (dTup (aCons (dVar 0) (aCons (dBin fIx (dVar 2) (dC (.int 1))) aNil)))) sNext) (sRet (dTup (aCons dFail (aCons (dVar 1) aNil)))))
noncomputable def D_state_behind (A : Str → Addr) (n : Nat) : List PV → M PV := fnD 3 3 (b_state_behind A n)
noncomputable def b_bars_all (A : Str → Addr) (n : Nat) : SM := (sSeq (sAsg (vAnd (dBin fEq (dBin fIx (dVar 2) (dC (.int 0))) (dC (.str "budget"))) (dBin fLt (dBin fIx (dVar 2) (dC (.int 1))) (dVar 1))) (gN 3)) (sSeq (sIf (bOr (bAnd (dB (dBin (fIn true) (dBin fIx (dVar 2) (dC (.int 0))) (dTup (aCons (dC (.str "relate")) (aCons (dC (.str "trust")) aNil))))) (bNot (dTr (dVar 3)))) (dB (dBin (fIsN false) dFail (dC .non)))) (sRet (dC (.bl false))) sNext) (sSeq (sAsg (dCall (D_state_behind A n) [] (aCons (dVar 0) (aCons (dVar 1) (aCons (dVar 2) aNil)))) (gTu (gsCons (gN 4) (gsCons (gN 5) gsNil)))) (sRet (dBin (fIsN false) dFail (dC .non))))))
noncomputable def D_bars_all (A : Str → Addr) (n : Nat) : List PV → M PV := fnD 6 3 (b_bars_all A n)
noncomputable def b_reason_against (A : Str → Addr) (n : Nat) : SM := (sSeq (sIf (dTr (dCall (D_is_full A n) [] (aCons (dVar 0) (aCons (dVar 2) aNil)))) (sRet (dC (.str "full"))) sNext) (sSeq (sIf (dTr (dCall (D_is_twice A n) [] (aCons (dVar 0) (aCons (dVar 2) aNil)))) (sRet (dC (.str "twice"))) sNext) (sSeq (sIf (dTr (dCall (D_lacks_index A n) [] (aCons (dVar 0) (aCons (dVar 2) aNil)))) (sRet (dC (.str "index"))) sNext) (sSeq (sIf (dTr (dCall (D_bars_all A n) [] (aCons (dVar 0) (aCons (dVar 1) (aCons (dVar 2) aNil))))) (sRet (dC (.str "never"))) sNext) (sRet (dIf (bAnd (dB (dBin fEq (dBin fIx (dVar 2) (dC (.int 0))) (dC (.str "budget")))) (dB (dBin fEq (dBin fIx (dVar 2) (dC (.int 1))) (dVar 1)))) (dC (.str "same")) (dC .non)))))))
noncomputable def D_reason_against (A : Str → Addr) (n : Nat) : List PV → M PV := fnD 3 3 (b_reason_against A n)
noncomputable def b_check_barred (A : Str → Addr) (n : Nat) : SM := (sSeq (sAsg (dCall (D_reason_against A n) [] (aCons (dVar 0) (aCons (dVar 1) (aCons (dVar 2) aNil)))) (gN 3)) (sIf (dB (dBin (fIsN true) (dVar 3) (dC .non))) (sRaise (A "Barred") "reason" (dVar 3)) sNext))
noncomputable def D_check_barred (A : Str → Addr) (n : Nat) : List PV → M PV := fnD 4 3 (b_check_barred A n)
noncomputable def b_Book_do (A : Str → Addr) (n : Nat) : SM := (sSeq (sExpr (dCall (D_check_deed A n) [] (aCons (dUn (fFld (A "Book") "site") (dVar 0)) (aCons (dVar 1) aNil)))) (sSeq (sExpr (dCall (D_check_barred A n) [] (aCons (dUn (fFld (A "Book") "site") (dVar 0)) (aCons (dUn (fFld (A "Book") "budget") (dVar 0)) (aCons (dVar 1) aNil))))) (sSeq (sExpr (dBM mAppend isLst (dUn (fFld (A "Book") "past") (dVar 0)) (aCons (dTup (aCons (dUn (fFld (A "Book") "site") (dVar 0)) (aCons (dUn (fFld (A "Book") "budget") (dVar 0)) aNil))) aNil))) (sSeq (sFldS (A "Book") "deeds" (dVar 0) (dBin fAdd (dUn (fFld (A "Book") "deeds") (dVar 0)) (dTup (aCons (dVar 1) aNil)))) (sAsg (dCall (D_state_behind A n) [] (aCons (dUn (fFld (A "Book") "site") (dVar 0)) (aCons (dUn (fFld (A "Book") "budget") (dVar 0)) (aCons (dVar 1) aNil)))) (gTu (gsCons (gFld (A "Book") "site" (dVar 0)) (gsCons (gFld (A "Book") "budget" (dVar 0)) gsNil))))))))
noncomputable def D_Book_do (A : Str → Addr) (n : Nat) : List PV → M PV := fnD 2 2 (b_Book_do A n)
noncomputable def b__law_barred (A : Str → Addr) (n : Nat) : SM := (sSeq (sTry (sExpr (dMeth (A "Book") "do" (D_Book_do A n) [] (dVar 0) (aCons (dVar 1) aNil))) [⟨some 2, mtOf A [("InvalidLayers", false), ("InvalidNumber", false), ("InvalidRelations", false), ("InvalidDoubts", false), ("InvalidFinds", false), ("InvalidDeed", false), ("Barred", true)], fun C fs => (sRet (dXf ((["Barred"] : List PySem.Str).map A) "reason" 2 C fs))⟩]) (sRet (dC (.str ""))))
noncomputable def D__law_barred (A : Str → Addr) (n : Nat) : List PV → M PV := fnD 3 2 (b__law_barred A n)
noncomputable def b__law_odd (A : Str → Addr) (n : Nat) : SM := (sSeq (sPar3 2 3 4 (aCons (dBin fIx (dVar 1) (dC (.int 0))) (aCons (dBin fIx (dVar 1) (dC (.int 1))) (aCons (dCall (D__law_pick A n) [] (aCons (dVar 0) (aCons (dLst (aCons (dC (.str "nosuch")) (aCons (dC .non) (aCons (dC (.int 5)) (aCons (dC (.str "Ash")) (aCons (dC (.str "")) (aCons (dTup (aCons (dC (.str "ash")) aNil)) aNil))))))) aNil))) aNil)))) (sSeq (sPar 5 6 (aCons (dBin fIx (dVar 2) (dC (.int 0))) (aCons (dBin fIx (dVar 2) (dUn fNeg (dC (.int 1)))) aNil))) (sSeq (sPar 7 8 (aCons (dCall (D__law_pick A n) [] (aCons (dVar 0) (aCons (dLst (aCons (dC (.int 0)) (aCons (dC (.int 10)) (aCons (dC .non) (aCons (dC (.bl true)) (aCons (dC (.str "1")) (aCons (dTup (aCons (dC (.int 1)) aNil)) aNil))))))) aNil))) (aCons (dCall (D__law_pick A n) [] (aCons (dVar 0) (aCons (dLst (aCons (dUn fNeg (dC (.int 1))) (aCons (dC .non) (aCons (dC (.str "0")) (aCons (dC (.bl true)) (aCons (dTup (aCons (dC (.int 0)) aNil)) aNil)))))) aNil))) aNil))) (sSeq (sAsg (dCall (D__law_pick A n) [] (aCons (dVar 0) (aCons (dLst (aCons (dTup aNil) (aCons (dTup (aCons (dTup (aCons (dC (.int 3)) (aCons (dC (.int 2)) aNil))) aNil)) (aCons (dTup (aCons (dTup (aCons (dC (.int 0)) (aCons (dBin fAdd (dVar 3) (dC (.int 1))) aNil))) aNil)) (aCons (dLst (aCons (dTup (aCons (dC (.int 0)) (aCons (dC (.int 0)) aNil))) aNil)) (aCons (dTup (aCons (dTup (aCons (dC (.int 0)) (aCons (dC (.int 0)) aNil))) (aCons (dTup (aCons (dC (.int 1)) (aCons (dC (.int 1)) aNil))) aNil))) (aCons (dBin fMulT (dTup (aCons (dTup (aCons (dC (.int 0)) (aCons (dC (.int 0)) aNil))) aNil)) (dC (.int 2))) (aCons (dTup (aCons (dTup (aCons (dC (.int 0)) aNil)) aNil)) (aCons (dC .non) aNil))))))))) aNil))) (gN 9)) (sSeq (sAsg (dLst (aCons (dTup (aCons (dTup (aCons (dC (.str "relate")) (aCons (dVar 4) (aCons (dVar 5) (aCons (dVar 6) aNil))))) (aCons (dC (.int 1)) aNil))) (aCons (dTup (aCons (dTup (aCons (dC (.str "relate")) (aCons (dC (.str "above")) (aCons (dVar 4) (aCons (dVar 6) aNil))))) (aCons (dC (.int 2)) aNil))) (aCons (dTup (aCons (dTup (aCons (dC (.str "relate")) (aCons (dC (.str "cuts")) (aCons (dVar 5) (aCons (dVar 4) aNil))))) (aCons (dC (.int 3)) aNil))) aNil)))) (gN 10)) (sSeq (sAsg (dBin fAdd (dVar 10) (dLst (aCons (dTup (aCons (dTup (aCons (dC (.str "relate")) (aCons (dC (.str "same")) (aCons (dVar 5) (aCons (dVar 5) aNil))))) (aCons (dC (.int 3)) aNil))) (aCons (dTup (aCons (dTup (aCons (dC (.str "doubt")) (aCons (dVar 4) (aCons (dVar 4) (aCons (dVar 5) (aCons (dC (.int 1)) aNil)))))) (aCons (dC (.int 1)) aNil))) aNil)))) (gN 10)) (sSeq (sAsg (dBin fAdd (dVar 10) (dLst (aCons (dTup (aCons (dTup (aCons (dC (.str "doubt")) (aCons (dC (.str "above")) (aCons (dVar 6) (aCons (dVar 6) (aCons (dVar 7) aNil)))))) (aCons (dC (.int 3)) aNil))) (aCons (dTup (aCons (dTup (aCons (dC (.str "find")) (aCons (dVar 4) (aCons (dVar 9) (aCons (dVar 7) aNil))))) (aCons (dC (.int 1)) aNil))) aNil)))) (gN 10)) (sSeq (sAsg (dBin fAdd (dVar 10) (dLst (aCons (dTup (aCons (dTup (aCons (dC (.str "find")) (aCons (dVar 5) (aCons (dVar 9) (aCons (dVar 7) aNil))))) (aCons (dC (.int 2)) aNil))) (aCons (dTup (aCons (dTup (aCons (dC (.str "find")) (aCons (dVar 5) (aCons (dTup (aCons (dTup (aCons (dC (.int 0)) (aCons (dC (.int 0)) aNil))) aNil)) (aCons (dVar 7) aNil))))) (aCons (dC (.int 3)) aNil))) aNil)))) (gN 10)) (sSeq (sAsg (dBin fAdd (dVar 10) (dLst (aCons (dTup (aCons (dTup (aCons (dC (.str "strike")) (aCons (dVar 4) (aCons (dVar 8) aNil)))) (aCons (dC (.int 1)) aNil))) (aCons (dTup (aCons (dTup (aCons (dC (.str "strike")) (aCons (dC (.str "find")) (aCons (dVar 8) aNil)))) (aCons (dC (.int 2)) aNil))) (aCons (dTup (aCons (dTup (aCons (dC (.str "trust")) (aCons (dVar 8) aNil))) (aCons (dC (.int 1)) aNil))) aNil))))) (gN 10)) (sSeq (sAsg (dBin fAdd (dVar 10) (dLst (aCons (dTup (aCons (dTup (aCons (dC (.str "budget")) (aCons (dCall (D__law_pick A n) [] (aCons (dVar 0) (aCons (dLst (aCons (dUn fNeg (dC (.int 1))) (aCons (dC (.int 100)) (aCons (dC .non) (aCons (dC (.bl true)) (aCons (dC (.str "1")) aNil)))))) aNil))) aNil))) (aCons (dC (.int 1)) aNil))) (aCons (dTup (aCons (dTup (aCons (dC (.str "relate")) (aCons (dC (.str "above")) (aCons (dVar 5) aNil)))) (aCons (dC (.int 0)) aNil))) aNil)))) (gN 10)) (sSeq (sExpr (dBM mAppend isLst (dVar 10) (aCons (dTup (aCons (dTup (aCons (dC (.str "find")) (aCons (dVar 5) (aCons (dTup (aCons (dTup (aCons (dC (.int 0)) (aCons (dC (.int 0)) aNil))) aNil)) aNil)))) (aCons (dC (.int 0)) aNil))) aNil))) (sSeq (sIf (dB (dBin fNe (dVar 5) (dVar 6))) (sExpr (dBM mAppend isLst (dVar 10) (aCons (dTup (aCons (dTup (aCons (dC (.str "doubt")) (aCons (dC (.str "cuts")) (aCons (dVar 6) (aCons (dVar 5) (aCons (dVar 7) aNil)))))) (aCons (dC (.int 4)) aNil))) aNil))) sNext) (sSeq (sAsg (dBin fAdd (dVar 10) (dLst (aCons (dTup (aCons (dC .non) (aCons (dC (.int 0)) aNil))) (aCons (dTup (aCons (dTup aNil) (aCons (dC (.int 0)) aNil))) (aCons (dTup (aCons (dLst (aCons (dC (.str "budget")) (aCons (dC (.int 1)) aNil))) (aCons (dC (.int 0)) aNil))) (aCons (dTup (aCons (dC (.str "budget")) (aCons (dC (.int 0)) aNil))) (aCons (dTup (aCons (dTup (aCons (dC (.str "Budget")) (aCons (dC (.int 1)) aNil))) (aCons (dC (.int 0)) aNil))) aNil))))))) (gN 10)) (sRet (dCall (D__law_pick A n) [] (aCons (dVar 0) (aCons (dBin fAdd (dVar 10) (dLst (aCons (dTup (aCons (dTup (aCons (dC (.int 5)) (aCons (dC (.int 1)) aNil))) (aCons (dC (.int 0)) aNil))) aNil))) aNil)))))))))))))))))
noncomputable def D__law_odd (A : Str → Addr) (n : Nat) : List PV → M PV := fnD 11 2 (b__law_odd A n)
noncomputable def b__law_index (A : Str → Addr) (n : Nat) : SM := (sSeq (sTry (sExpr (dMeth (A "Book") "do" (D_Book_do A n) [] (dVar 0) (aCons (dVar 1) aNil))) [⟨some 2, mtOf A [("InvalidLayers", false), ("InvalidNumber", false), ("InvalidRelations", false), ("InvalidDoubts", false), ("InvalidFinds", false), ("InvalidDeed", true), ("Barred", false)], fun C fs => (sRet (dIf (dTr (dXi (ktOf A [("InvalidLayers", true), ("InvalidNumber", true), ("InvalidRelations", true), ("InvalidDoubts", true), ("InvalidFinds", true), ("InvalidDeed", true), ("Barred", true)]) C 2)) (dXf ((["InvalidLayers", "InvalidRelations", "InvalidDoubts", "InvalidFinds", "InvalidDeed"] : List PySem.Str).map A) "index" 2 C fs) (dC (.str "odd"))))⟩, ⟨none, mtOf A [("InvalidLayers", false), ("InvalidNumber", false), ("InvalidRelations", false), ("InvalidDoubts", false), ("InvalidFinds", false), ("InvalidDeed", false), ("Barred", true)], fun C fs => (sRet (dC .non))⟩]) (sRet (dC .non)))
noncomputable def D__law_index (A : Str → Addr) (n : Nat) : List PV → M PV := fnD 3 2 (b__law_index A n)
noncomputable def b__law_right (A : Str → Addr) (n : Nat) : SM := (sSeq (sPar 1 2 (aCons (dCall (D__law_small A n) [] (aCons (dVar 0) aNil)) (aCons (dBin fAdd (dC (.int 2)) (dCall (D__law_draw A n) [] (aCons (dVar 0) (aCons (dC (.int 5)) aNil)))) aNil))) (sSeq (sAsg (dMake (A "Book") (D_Bookdd_initdd A n) [] (aCons (dCall (D__law_made A n) [] (aCons (dVar 1) aNil)) (aCons (dVar 2) aNil))) (gN 3)) (sSeq (sFor (dRng1 (dC (.int 3))) (gN 4) (sExpr (dCall (D__law_barred A n) [] (aCons (dVar 3) (aCons (dTup (aCons (dC (.str "budget")) (aCons (dBin fAdd (dBin fAdd (dUn (fFld (A "Book") "budget") (dVar 3)) (dC (.int 1))) (dCall (D__law_draw A n) [] (aCons (dVar 0) (aCons (dC (.int 2)) aNil)))) aNil))) aNil))))) (sSeq (sAsg (dCB fReprX (aCons (dLst (aCons (dUn (fFld (A "Site") "finds") (dUn (fFld (A "Book") "site") (dVar 3))) (aCons (dUn (fFld (A "Site") "relations") (dUn (fFld (A "Book") "site") (dVar 3))) (aCons (dUn (fFld (A "Book") "budget") (dVar 3)) (aCons (dUn (fFld (A "Book") "deeds") (dVar 3)) aNil))))) aNil)) (gN 5)) (sSeq (sFor (dRng1 (dC (.int 30))) (gN 4) (sSeq (sAsg (dCall (D__law_odd A n) [] (aCons (dVar 0) (aCons (dVar 1) aNil))) (gTu (gsCons (gN 6) (gsCons (gN 7) gsNil)))) (sSeq (sIf (dB (dBin fNe (dCB fReprX (aCons (dCall (D__law_index A n) [] (aCons (dVar 3) (aCons (dVar 6) aNil))) aNil)) (dCB fReprX (aCons (dVar 7) aNil)))) (sRet (dC (.bl false))) sNext) (sIf (dB (dBin fNe (dCB fReprX (aCons (dLst (aCons (dUn (fFld (A "Site") "finds") (dUn (fFld (A "Book") "site") (dVar 3))) (aCons (dUn (fFld (A "Site") "relations") (dUn (fFld (A "Book") "site") (dVar 3))) (aCons (dUn (fFld (A "Book") "budget") (dVar 3)) (aCons (dUn (fFld (A "Book") "deeds") (dVar 3)) aNil))))) aNil)) (dVar 5))) (sRet (dC (.bl false))) sNext)))) (sRet (vAnd (dBin (fIsN false) (dCall (D__law_index A n) [] (aCons (dVar 3) (aCons (dTup (aCons (dC (.str "strike")) (aCons (dC (.str "find")) (aCons (dC (.int 99)) aNil)))) aNil))) (dC .non)) (dBin (fIsN false) (dCall (D__law_index A n) [] (aCons (dVar 3) (aCons (dTup (aCons (dC (.str "trust")) (aCons (dC (.int 99)) aNil))) aNil))) (dC .non)))))))))
noncomputable def D__law_right (A : Str → Addr) (n : Nat) : List PV → M PV := fnD 8 1 (b__law_right A n)
noncomputable def b__law_pool (A : Str → Addr) (n : Nat) : SM := (sSeq (sPar 2 3 (aCons (dIf (dB (dBin fLt (dVar 1) (dCB fLen (aCons (dVar 0) aNil)))) (dCB fInt (aCons (dBin fIx (dVar 0) (dVar 1)) aNil)) (dBin fAdd (dBin fMulT (dC (.int 70001)) (dVar 1)) (dC (.int 89)))) (aCons (dBin fAdd (dC (.int 60017)) (dBin fMulT (dC (.int 5009)) (dVar 1))) aNil))) (sSeq (sFor (dSrc (dSl (dVar 0) oNone (oSome (dC (.int 6))))) (gN 4) (sAsg (dBin fMod (dCB fInt (aCons (dBin fAdd (dBin fAdd (dBin fMulT (dVar 3) (dC (.int 48271))) (dBin fMod (dCB fInt (aCons (dVar 4) aNil)) (dC (.int 2147482937)))) (dC (.int 43))) aNil)) (dC (.int 2147482937))) (gN 3))) (sRet (dLst (aCons (dBin fMod (dCB fInt (aCons (dBin fAdd (dVar 3) (dBin fMulT (dVar 2) (dC (.int 1033)))) aNil)) (dC (.int 2147482937))) (aCons (dIf (bOr (dB (dBin fLt (dVar 2) (dC (.int 0)))) (dB (dBin fGe (dVar 2) (dBin fPow (dC (.int 10)) (dC (.int 18)))))) (dCB fAbs (aCons (dVar 2) aNil)) (dC (.int 0))) (aCons (dC (.int 0)) aNil)))))))
noncomputable def D__law_pool (A : Str → Addr) (n : Nat) : List PV → M PV := fnD 5 2 (b__law_pool A n)
noncomputable def b_law (A : Str → Addr) (n : Nat) : SM := (sRet (dCB fAll (aCons (dLc (dRng1 (dCB fMax (aCons (dC (.int 2)) (aCons (dCB fMin (aCons (dCB fLen (aCons (dVar 0) aNil)) (aCons (dC (.int 3)) aNil))) aNil)))) (gN 1) tYesP (dCall (D__law_right A n) [] (aCons (dCall (D__law_pool A n) [] (aCons (dVar 0) (aCons (dVar 1) aNil))) aNil)) [1]) aNil)))
noncomputable def D_law (A : Str → Addr) (n : Nat) : List PV → M PV := fnD 2 1 (b_law A n)
end K79
namespace K79
open PySem PySem.Spec PyProof.Rows L2 LamX NdefX G
section
variable {P : Program} {w : World} {h base : Heap} {mg : Str → Option Value} {K : PySem.W.Frag} {sa : Addr} {ns : List Int} {bs : List Addr}
abbrev TT (w : World) (h base : Heap) (mg : Str → Option Value) (K : PySem.W.Frag) : Prop := Top fa fn ts tf ex w h base mg K
theorem m_divmod (T : TT w h base mg K) : mg "divmod" = none := He.free_ok T.kin T.ns (T.c.t.d.fact 0 (f := .free "divmod") rfl)
theorem m_int (T : TT w h base mg K) : mg "int" = none := He.free_ok T.kin T.ns (T.c.t.d.fact 1 (f := .free "int") rfl)
theorem gm__law_draw (T : TT w h base mg K) : mg "_law_draw" = some (.ref (He.ga K "_law_draw")) := He.glo_ok T.kin T.ns (T.c.t.d.fact 2 (f := .glo "_law_draw") rfl)
theorem m_len (T : TT w h base mg K) : mg "len" = none := He.free_ok T.kin T.ns (T.c.t.d.fact 3 (f := .free "len") rfl)
theorem m_max (T : TT w h base mg K) : mg "max" = none := He.free_ok T.kin T.ns (T.c.t.d.fact 4 (f := .free "max") rfl)
theorem m_min (T : TT w h base mg K) : mg "min" = none := He.free_ok T.kin T.ns (T.c.t.d.fact 5 (f := .free "min") rfl)
theorem gm__law_pick (T : TT w h base mg K) : mg "_law_pick" = some (.ref (He.ga K "_law_pick")) := He.glo_ok T.kin T.ns (T.c.t.d.fact 6 (f := .glo "_law_pick") rfl)
theorem m_range (T : TT w h base mg K) : mg "range" = none := He.free_ok T.kin T.ns (T.c.t.d.fact 7 (f := .free "range") rfl)
theorem gm__law_relation (T : TT w h base mg K) : mg "_law_relation" = some (.ref (He.ga K "_law_relation")) := He.glo_ok T.kin T.ns (T.c.t.d.fact 8 (f := .glo "_law_relation") rfl)
theorem m_tuple (T : TT w h base mg K) : mg "tuple" = none := He.free_ok T.kin T.ns (T.c.t.d.fact 9 (f := .free "tuple") rfl)
theorem m_sorted (T : TT w h base mg K) : mg "sorted" = none := He.free_ok T.kin T.ns (T.c.t.d.fact 10 (f := .free "sorted") rfl)
theorem gm__law_relations (T : TT w h base mg K) : mg "_law_relations" = some (.ref (He.ga K "_law_relations")) := He.glo_ok T.kin T.ns (T.c.t.d.fact 11 (f := .glo "_law_relations") rfl)
theorem gm__law_spans (T : TT w h base mg K) : mg "_law_spans" = some (.ref (He.ga K "_law_spans")) := He.glo_ok T.kin T.ns (T.c.t.d.fact 12 (f := .glo "_law_spans") rfl)
theorem gm__law_site (T : TT w h base mg K) : mg "_law_site" = some (.ref (He.ga K "_law_site")) := He.glo_ok T.kin T.ns (T.c.t.d.fact 13 (f := .glo "_law_site") rfl)
theorem m_isinstance (T : TT w h base mg K) : mg "isinstance" = none := He.free_ok T.kin T.ns (T.c.t.d.fact 14 (f := .free "isinstance") rfl)
theorem m_bool (T : TT w h base mg K) : mg "bool" = none := He.free_ok T.kin T.ns (T.c.t.d.fact 15 (f := .free "bool") rfl)
theorem gm_is_whole (T : TT w h base mg K) : mg "is_whole" = some (.ref (He.ga K "is_whole")) := He.glo_ok T.kin T.ns (T.c.t.d.fact 16 (f := .glo "is_whole") rfl)
theorem gm_is_between (T : TT w h base mg K) : mg "is_between" = some (.ref (He.ga K "is_between")) := He.glo_ok T.kin T.ns (T.c.t.d.fact 17 (f := .glo "is_between") rfl)
theorem gi_MOST_BUDGET (T : TT w h base mg K) : ∃ t, mg "MOST_BUDGET" = some (.int 99 t) := He.int_ok T.kin T.ns (T.c.t.d.fact 18 (f := .int "MOST_BUDGET" 99) rfl)
theorem gm_is_budget (T : TT w h base mg K) : mg "is_budget" = some (.ref (He.ga K "is_budget")) := He.glo_ok T.kin T.ns (T.c.t.d.fact 19 (f := .glo "is_budget") rfl)
theorem gm_check_site (T : TT w h base mg K) : mg "check_site" = some (.ref (He.ga K "check_site")) := He.glo_ok T.kin T.ns (T.c.t.d.fact 20 (f := .glo "check_site") rfl)
theorem gm_check_budget (T : TT w h base mg K) : mg "check_budget" = some (.ref (He.ga K "check_budget")) := He.glo_ok T.kin T.ns (T.c.t.d.fact 21 (f := .glo "check_budget") rfl)
theorem na_Book_site (T : TT w h base mg K) : NoAttr K (He.ga K "Book") "site" := He.noat_ok (T.c.t.d.fact 22 (f := .noat "Book" "site") rfl)
theorem na_Book_budget (T : TT w h base mg K) : NoAttr K (He.ga K "Book") "budget" := He.noat_ok (T.c.t.d.fact 23 (f := .noat "Book" "budget") rfl)
theorem na_Book_deeds (T : TT w h base mg K) : NoAttr K (He.ga K "Book") "deeds" := He.noat_ok (T.c.t.d.fact 24 (f := .noat "Book" "deeds") rfl)
theorem na_Book_past (T : TT w h base mg K) : NoAttr K (He.ga K "Book") "past" := He.noat_ok (T.c.t.d.fact 25 (f := .noat "Book" "past") rfl)
theorem na_Book_begun (T : TT w h base mg K) : NoAttr K (He.ga K "Book") "begun" := He.noat_ok (T.c.t.d.fact 26 (f := .noat "Book" "begun") rfl)
theorem m_enumerate (T : TT w h base mg K) : mg "enumerate" = none := He.free_ok T.kin T.ns (T.c.t.d.fact 27 (f := .free "enumerate") rfl)
theorem m_str (T : TT w h base mg K) : mg "str" = none := He.free_ok T.kin T.ns (T.c.t.d.fact 28 (f := .free "str") rfl)
theorem m_all (T : TT w h base mg K) : mg "all" = none := He.free_ok T.kin T.ns (T.c.t.d.fact 29 (f := .free "all") rfl)
theorem gm_is_string (T : TT w h base mg K) : mg "is_string" = some (.ref (He.ga K "is_string")) := He.glo_ok T.kin T.ns (T.c.t.d.fact 30 (f := .glo "is_string") rfl)
theorem gi_LONGEST_NAME (T : TT w h base mg K) : ∃ t, mg "LONGEST_NAME" = some (.int 8 t) := He.int_ok T.kin T.ns (T.c.t.d.fact 31 (f := .int "LONGEST_NAME" 8) rfl)
theorem gm_is_made_of (T : TT w h base mg K) : mg "is_made_of" = some (.ref (He.ga K "is_made_of")) := He.glo_ok T.kin T.ns (T.c.t.d.fact 32 (f := .glo "is_made_of") rfl)
theorem gs_SMALL_LETTERS (T : TT w h base mg K) : ∃ t, mg "SMALL_LETTERS" = some (.str "abcdefghijklmnopqrstuvwxyz" t) := He.str_ok T.kin T.ns (T.c.t.d.fact 33 (f := .str "SMALL_LETTERS" "abcdefghijklmnopqrstuvwxyz") rfl)
theorem gm_first_wrong (T : TT w h base mg K) : mg "first_wrong" = some (.ref (He.ga K "first_wrong")) := He.glo_ok T.kin T.ns (T.c.t.d.fact 34 (f := .glo "first_wrong") rfl)
theorem gm_is_name (T : TT w h base mg K) : mg "is_name" = some (.ref (He.ga K "is_name")) := He.glo_ok T.kin T.ns (T.c.t.d.fact 35 (f := .glo "is_name") rfl)
theorem gm_is_row (T : TT w h base mg K) : mg "is_row" = some (.ref (He.ga K "is_row")) := He.glo_ok T.kin T.ns (T.c.t.d.fact 36 (f := .glo "is_row") rfl)
theorem gi_MOST_LAYERS (T : TT w h base mg K) : ∃ t, mg "MOST_LAYERS" = some (.int 7 t) := He.int_ok T.kin T.ns (T.c.t.d.fact 37 (f := .int "MOST_LAYERS" 7) rfl)
theorem gm_InvalidLayers (T : TT w h base mg K) : mg "InvalidLayers" = some (.ref (He.ga K "InvalidLayers")) := He.glo_ok T.kin T.ns (T.c.t.d.fact 38 (f := .glo "InvalidLayers") rfl)
theorem gm_wrong_layer (T : TT w h base mg K) : mg "wrong_layer" = some (.ref (He.ga K "wrong_layer")) := He.glo_ok T.kin T.ns (T.c.t.d.fact 39 (f := .glo "wrong_layer") rfl)
theorem gi_MOST_LAST (T : TT w h base mg K) : ∃ t, mg "MOST_LAST" = some (.int 20 t) := He.int_ok T.kin T.ns (T.c.t.d.fact 40 (f := .int "MOST_LAST" 20) rfl)
theorem gm_InvalidNumber (T : TT w h base mg K) : mg "InvalidNumber" = some (.ref (He.ga K "InvalidNumber")) := He.glo_ok T.kin T.ns (T.c.t.d.fact 41 (f := .glo "InvalidNumber") rfl)
theorem gm_KINDS (T : TT w h base mg K) : mg "KINDS" = some (.ref (He.ga K "KINDS")) := He.glo_ok T.kin T.ns (T.c.t.d.fact 42 (f := .glo "KINDS") rfl)
theorem gm_is_tuple_of (T : TT w h base mg K) : mg "is_tuple_of" = some (.ref (He.ga K "is_tuple_of")) := He.glo_ok T.kin T.ns (T.c.t.d.fact 43 (f := .glo "is_tuple_of") rfl)
theorem gi_SIZE_OF_RELATION (T : TT w h base mg K) : ∃ t, mg "SIZE_OF_RELATION" = some (.int 3 t) := He.int_ok T.kin T.ns (T.c.t.d.fact 44 (f := .int "SIZE_OF_RELATION" 3) rfl)
theorem gm_is_kind (T : TT w h base mg K) : mg "is_kind" = some (.ref (He.ga K "is_kind")) := He.glo_ok T.kin T.ns (T.c.t.d.fact 45 (f := .glo "is_kind") rfl)
theorem gm_is_layer (T : TT w h base mg K) : mg "is_layer" = some (.ref (He.ga K "is_layer")) := He.glo_ok T.kin T.ns (T.c.t.d.fact 46 (f := .glo "is_layer") rfl)
theorem gm_is_relation (T : TT w h base mg K) : mg "is_relation" = some (.ref (He.ga K "is_relation")) := He.glo_ok T.kin T.ns (T.c.t.d.fact 47 (f := .glo "is_relation") rfl)
theorem gi_MOST_RELATIONS (T : TT w h base mg K) : ∃ t, mg "MOST_RELATIONS" = some (.int 16 t) := He.int_ok T.kin T.ns (T.c.t.d.fact 48 (f := .int "MOST_RELATIONS" 16) rfl)
theorem gm_InvalidRelations (T : TT w h base mg K) : mg "InvalidRelations" = some (.ref (He.ga K "InvalidRelations")) := He.glo_ok T.kin T.ns (T.c.t.d.fact 49 (f := .glo "InvalidRelations") rfl)
theorem gm_wrong_relation (T : TT w h base mg K) : mg "wrong_relation" = some (.ref (He.ga K "wrong_relation")) := He.glo_ok T.kin T.ns (T.c.t.d.fact 50 (f := .glo "wrong_relation") rfl)
theorem gi_MOST_WEIGHT (T : TT w h base mg K) : ∃ t, mg "MOST_WEIGHT" = some (.int 9 t) := He.int_ok T.kin T.ns (T.c.t.d.fact 51 (f := .int "MOST_WEIGHT" 9) rfl)
theorem gi_SIZE_OF_DOUBT (T : TT w h base mg K) : ∃ t, mg "SIZE_OF_DOUBT" = some (.int 4 t) := He.int_ok T.kin T.ns (T.c.t.d.fact 52 (f := .int "SIZE_OF_DOUBT" 4) rfl)
theorem gm_is_weight (T : TT w h base mg K) : mg "is_weight" = some (.ref (He.ga K "is_weight")) := He.glo_ok T.kin T.ns (T.c.t.d.fact 53 (f := .glo "is_weight") rfl)
theorem gm_is_doubt (T : TT w h base mg K) : mg "is_doubt" = some (.ref (He.ga K "is_doubt")) := He.glo_ok T.kin T.ns (T.c.t.d.fact 54 (f := .glo "is_doubt") rfl)
theorem gm_is_new_doubt (T : TT w h base mg K) : mg "is_new_doubt" = some (.ref (He.ga K "is_new_doubt")) := He.glo_ok T.kin T.ns (T.c.t.d.fact 55 (f := .glo "is_new_doubt") rfl)
theorem gi_MOST_DOUBTS (T : TT w h base mg K) : ∃ t, mg "MOST_DOUBTS" = some (.int 4 t) := He.int_ok T.kin T.ns (T.c.t.d.fact 56 (f := .int "MOST_DOUBTS" 4) rfl)
theorem gm_InvalidDoubts (T : TT w h base mg K) : mg "InvalidDoubts" = some (.ref (He.ga K "InvalidDoubts")) := He.glo_ok T.kin T.ns (T.c.t.d.fact 57 (f := .glo "InvalidDoubts") rfl)
theorem gm_wrong_doubt (T : TT w h base mg K) : mg "wrong_doubt" = some (.ref (He.ga K "wrong_doubt")) := He.glo_ok T.kin T.ns (T.c.t.d.fact 58 (f := .glo "wrong_doubt") rfl)
theorem gm_is_year (T : TT w h base mg K) : mg "is_year" = some (.ref (He.ga K "is_year")) := He.glo_ok T.kin T.ns (T.c.t.d.fact 59 (f := .glo "is_year") rfl)
theorem gm_is_span (T : TT w h base mg K) : mg "is_span" = some (.ref (He.ga K "is_span")) := He.glo_ok T.kin T.ns (T.c.t.d.fact 60 (f := .glo "is_span") rfl)
theorem gi_MOST_SPANS (T : TT w h base mg K) : ∃ t, mg "MOST_SPANS" = some (.int 3 t) := He.int_ok T.kin T.ns (T.c.t.d.fact 61 (f := .int "MOST_SPANS" 3) rfl)
theorem gm_is_behind (T : TT w h base mg K) : mg "is_behind" = some (.ref (He.ga K "is_behind")) := He.glo_ok T.kin T.ns (T.c.t.d.fact 62 (f := .glo "is_behind") rfl)
theorem gi_SIZE_OF_FIND (T : TT w h base mg K) : ∃ t, mg "SIZE_OF_FIND" = some (.int 3 t) := He.int_ok T.kin T.ns (T.c.t.d.fact 63 (f := .int "SIZE_OF_FIND" 3) rfl)
theorem gm_are_spans (T : TT w h base mg K) : mg "are_spans" = some (.ref (He.ga K "are_spans")) := He.glo_ok T.kin T.ns (T.c.t.d.fact 64 (f := .glo "are_spans") rfl)
theorem gm_is_find (T : TT w h base mg K) : mg "is_find" = some (.ref (He.ga K "is_find")) := He.glo_ok T.kin T.ns (T.c.t.d.fact 65 (f := .glo "is_find") rfl)
theorem gi_MOST_FINDS (T : TT w h base mg K) : ∃ t, mg "MOST_FINDS" = some (.int 12 t) := He.int_ok T.kin T.ns (T.c.t.d.fact 66 (f := .int "MOST_FINDS" 12) rfl)
theorem gm_InvalidFinds (T : TT w h base mg K) : mg "InvalidFinds" = some (.ref (He.ga K "InvalidFinds")) := He.glo_ok T.kin T.ns (T.c.t.d.fact 67 (f := .glo "InvalidFinds") rfl)
theorem gm_wrong_find (T : TT w h base mg K) : mg "wrong_find" = some (.ref (He.ga K "wrong_find")) := He.glo_ok T.kin T.ns (T.c.t.d.fact 68 (f := .glo "wrong_find") rfl)
theorem gm_check_layers (T : TT w h base mg K) : mg "check_layers" = some (.ref (He.ga K "check_layers")) := He.glo_ok T.kin T.ns (T.c.t.d.fact 69 (f := .glo "check_layers") rfl)
theorem gm_check_last (T : TT w h base mg K) : mg "check_last" = some (.ref (He.ga K "check_last")) := He.glo_ok T.kin T.ns (T.c.t.d.fact 70 (f := .glo "check_last") rfl)
theorem gm_check_relations (T : TT w h base mg K) : mg "check_relations" = some (.ref (He.ga K "check_relations")) := He.glo_ok T.kin T.ns (T.c.t.d.fact 71 (f := .glo "check_relations") rfl)
theorem gm_check_doubts (T : TT w h base mg K) : mg "check_doubts" = some (.ref (He.ga K "check_doubts")) := He.glo_ok T.kin T.ns (T.c.t.d.fact 72 (f := .glo "check_doubts") rfl)
theorem gm_check_finds (T : TT w h base mg K) : mg "check_finds" = some (.ref (He.ga K "check_finds")) := He.glo_ok T.kin T.ns (T.c.t.d.fact 73 (f := .glo "check_finds") rfl)
theorem na_Site_layers (T : TT w h base mg K) : NoAttr K (He.ga K "Site") "layers" := He.noat_ok (T.c.t.d.fact 74 (f := .noat "Site" "layers") rfl)
theorem na_Site_last (T : TT w h base mg K) : NoAttr K (He.ga K "Site") "last" := He.noat_ok (T.c.t.d.fact 75 (f := .noat "Site" "last") rfl)
theorem na_Site_relations (T : TT w h base mg K) : NoAttr K (He.ga K "Site") "relations" := He.noat_ok (T.c.t.d.fact 76 (f := .noat "Site" "relations") rfl)
theorem na_Site_doubts (T : TT w h base mg K) : NoAttr K (He.ga K "Site") "doubts" := He.noat_ok (T.c.t.d.fact 77 (f := .noat "Site" "doubts") rfl)
theorem na_Site_finds (T : TT w h base mg K) : NoAttr K (He.ga K "Site") "finds" := He.noat_ok (T.c.t.d.fact 78 (f := .noat "Site" "finds") rfl)
theorem gm_Site (T : TT w h base mg K) : mg "Site" = some (.ref (He.ga K "Site")) := He.glo_ok T.kin T.ns (T.c.t.d.fact 79 (f := .glo "Site") rfl)
theorem mk_Site (T : TT w h base mg K) : Mk K (He.ga K "Site") (He.fAd K ("Site", some "__init__")) := He.mkr_ok (T.c.t.d.fact 80 (f := .mkr "Site") rfl)
theorem gm_SIZES (T : TT w h base mg K) : mg "SIZES" = some (.ref (He.ga K "SIZES")) := He.glo_ok T.kin T.ns (T.c.t.d.fact 81 (f := .glo "SIZES") rfl)
theorem gm_is_other (T : TT w h base mg K) : mg "is_other" = some (.ref (He.ga K "is_other")) := He.glo_ok T.kin T.ns (T.c.t.d.fact 82 (f := .glo "is_other") rfl)
theorem gm_is_number (T : TT w h base mg K) : mg "is_number" = some (.ref (He.ga K "is_number")) := He.glo_ok T.kin T.ns (T.c.t.d.fact 83 (f := .glo "is_number") rfl)
theorem gm_LOTS (T : TT w h base mg K) : mg "LOTS" = some (.ref (He.ga K "LOTS")) := He.glo_ok T.kin T.ns (T.c.t.d.fact 84 (f := .glo "LOTS") rfl)
theorem gm_has_form (T : TT w h base mg K) : mg "has_form" = some (.ref (He.ga K "has_form")) := He.glo_ok T.kin T.ns (T.c.t.d.fact 85 (f := .glo "has_form") rfl)
theorem gm_InvalidDeed (T : TT w h base mg K) : mg "InvalidDeed" = some (.ref (He.ga K "InvalidDeed")) := He.glo_ok T.kin T.ns (T.c.t.d.fact 86 (f := .glo "InvalidDeed") rfl)
theorem gm_are_right (T : TT w h base mg K) : mg "are_right" = some (.ref (He.ga K "are_right")) := He.glo_ok T.kin T.ns (T.c.t.d.fact 87 (f := .glo "are_right") rfl)
theorem gm_lot_of (T : TT w h base mg K) : mg "lot_of" = some (.ref (He.ga K "lot_of")) := He.glo_ok T.kin T.ns (T.c.t.d.fact 88 (f := .glo "lot_of") rfl)
theorem gm_state_behind (T : TT w h base mg K) : mg "state_behind" = some (.ref (He.ga K "state_behind")) := He.glo_ok T.kin T.ns (T.c.t.d.fact 89 (f := .glo "state_behind") rfl)
theorem gm_is_full (T : TT w h base mg K) : mg "is_full" = some (.ref (He.ga K "is_full")) := He.glo_ok T.kin T.ns (T.c.t.d.fact 90 (f := .glo "is_full") rfl)
theorem gs_FULL (T : TT w h base mg K) : ∃ t, mg "FULL" = some (.str "full" t) := He.str_ok T.kin T.ns (T.c.t.d.fact 91 (f := .str "FULL" "full") rfl)
theorem gm_is_twice (T : TT w h base mg K) : mg "is_twice" = some (.ref (He.ga K "is_twice")) := He.glo_ok T.kin T.ns (T.c.t.d.fact 92 (f := .glo "is_twice") rfl)
theorem gs_TWICE (T : TT w h base mg K) : ∃ t, mg "TWICE" = some (.str "twice" t) := He.str_ok T.kin T.ns (T.c.t.d.fact 93 (f := .str "TWICE" "twice") rfl)
theorem gm_lacks_index (T : TT w h base mg K) : mg "lacks_index" = some (.ref (He.ga K "lacks_index")) := He.glo_ok T.kin T.ns (T.c.t.d.fact 94 (f := .glo "lacks_index") rfl)
theorem gs_INDEX (T : TT w h base mg K) : ∃ t, mg "INDEX" = some (.str "index" t) := He.str_ok T.kin T.ns (T.c.t.d.fact 95 (f := .str "INDEX" "index") rfl)
theorem gm_bars_all (T : TT w h base mg K) : mg "bars_all" = some (.ref (He.ga K "bars_all")) := He.glo_ok T.kin T.ns (T.c.t.d.fact 96 (f := .glo "bars_all") rfl)
theorem gs_NEVER (T : TT w h base mg K) : ∃ t, mg "NEVER" = some (.str "never" t) := He.str_ok T.kin T.ns (T.c.t.d.fact 97 (f := .str "NEVER" "never") rfl)
theorem gs_SAME (T : TT w h base mg K) : ∃ t, mg "SAME" = some (.str "same" t) := He.str_ok T.kin T.ns (T.c.t.d.fact 98 (f := .str "SAME" "same") rfl)
theorem gm_reason_against (T : TT w h base mg K) : mg "reason_against" = some (.ref (He.ga K "reason_against")) := He.glo_ok T.kin T.ns (T.c.t.d.fact 99 (f := .glo "reason_against") rfl)
theorem gm_Barred (T : TT w h base mg K) : mg "Barred" = some (.ref (He.ga K "Barred")) := He.glo_ok T.kin T.ns (T.c.t.d.fact 100 (f := .glo "Barred") rfl)
theorem gm_check_deed (T : TT w h base mg K) : mg "check_deed" = some (.ref (He.ga K "check_deed")) := He.glo_ok T.kin T.ns (T.c.t.d.fact 101 (f := .glo "check_deed") rfl)
theorem gm_check_barred (T : TT w h base mg K) : mg "check_barred" = some (.ref (He.ga K "check_barred")) := He.glo_ok T.kin T.ns (T.c.t.d.fact 102 (f := .glo "check_barred") rfl)
theorem me_Book_do (T : TT w h base mg K) : Meth K (He.ga K "Book") "do" (He.fAd K ("Book", some "do")) := He.meth_ok (T.c.t.d.fact 103 (f := .meth "Book" "do") rfl)
theorem cl_Book (T : TT w h base mg K) : Cls K (He.ga K "Book") := He.cls_ok (T.c.t.d.fact 104 (f := .cls "Book") rfl)
theorem gm_DigError (T : TT w h base mg K) : mg "DigError" = some (.ref (He.ga K "DigError")) := He.glo_ok T.kin T.ns (T.c.t.d.fact 105 (f := .glo "DigError") rfl)
theorem gm__law_small (T : TT w h base mg K) : mg "_law_small" = some (.ref (He.ga K "_law_small")) := He.glo_ok T.kin T.ns (T.c.t.d.fact 106 (f := .glo "_law_small") rfl)
theorem gm_Book (T : TT w h base mg K) : mg "Book" = some (.ref (He.ga K "Book")) := He.glo_ok T.kin T.ns (T.c.t.d.fact 107 (f := .glo "Book") rfl)
theorem mk_Book (T : TT w h base mg K) : Mk K (He.ga K "Book") (He.fAd K ("Book", some "__init__")) := He.mkr_ok (T.c.t.d.fact 108 (f := .mkr "Book") rfl)
theorem gm__law_made (T : TT w h base mg K) : mg "_law_made" = some (.ref (He.ga K "_law_made")) := He.glo_ok T.kin T.ns (T.c.t.d.fact 109 (f := .glo "_law_made") rfl)
theorem gm__law_barred (T : TT w h base mg K) : mg "_law_barred" = some (.ref (He.ga K "_law_barred")) := He.glo_ok T.kin T.ns (T.c.t.d.fact 110 (f := .glo "_law_barred") rfl)
theorem m_repr (T : TT w h base mg K) : mg "repr" = none := He.free_ok T.kin T.ns (T.c.t.d.fact 111 (f := .free "repr") rfl)
theorem gm__law_odd (T : TT w h base mg K) : mg "_law_odd" = some (.ref (He.ga K "_law_odd")) := He.glo_ok T.kin T.ns (T.c.t.d.fact 112 (f := .glo "_law_odd") rfl)
theorem gm__law_index (T : TT w h base mg K) : mg "_law_index" = some (.ref (He.ga K "_law_index")) := He.glo_ok T.kin T.ns (T.c.t.d.fact 113 (f := .glo "_law_index") rfl)
theorem m_abs (T : TT w h base mg K) : mg "abs" = none := He.free_ok T.kin T.ns (T.c.t.d.fact 114 (f := .free "abs") rfl)
theorem gm__law_right (T : TT w h base mg K) : mg "_law_right" = some (.ref (He.ga K "_law_right")) := He.glo_ok T.kin T.ns (T.c.t.d.fact 115 (f := .glo "_law_right") rfl)
theorem gm__law_pool (T : TT w h base mg K) : mg "_law_pool" = some (.ref (He.ga K "_law_pool")) := He.glo_ok T.kin T.ns (T.c.t.d.fact 116 (f := .glo "_law_pool") rfl)
theorem gm_law (T : TT w h base mg K) : mg "law" = some (.ref (He.ga K "law")) := He.glo_ok T.kin T.ns (T.c.t.d.fact 117 (f := .glo "law") rfl)
theorem cl_Site (T : TT w h base mg K) : Cls K (He.ga K "Site") := He.cls_ok (T.c.t.d.fact 118 (f := .cls "Site") rfl)
theorem kd_SIZES (T : TT w h base mg K) : ∃ es n, KDict K w (He.ga K "SIZES") es n := T.c.t.tab 0 (t := (fun K => He.ga K "SIZES", (["relate", "doubt", "find", "strike", "trust", "budget"] : List PySem.Str))) rfl
theorem nd_ (T : TT w h base mg K) : (tfn.map fun p => (He.cT K p.1).2).Nodup := of_decide_eq_true (He.ba T.c.more).1
theorem gt_KINDS (T : TT w h base mg K) : SqT K (fun _ => none) (He.ga K "KINDS") ([He.Dv.str "above", He.Dv.str "cuts", He.Dv.str "same"].map (He.Dv.v K)) := He.tupB_ok (He.ba (He.ba T.c.more).2).1 _
theorem gr_KINDS {c : Ct} (μ : List Addr) (H : Hp) : RepL c μ H [.str "above", .str "cuts", .str "same"] ([He.Dv.str "above", He.Dv.str "cuts", He.Dv.str "same"].map (He.Dv.v K)) := .cons (.str _) (.cons (.str _) (.cons (.str _) (.nil)))
theorem gt_LOTS (T : TT w h base mg K) : SqT K (fun _ => none) (He.ga K "LOTS") ([He.Dv.str "relation", He.Dv.str "doubt", He.Dv.str "find"].map (He.Dv.v K)) := He.tupB_ok (He.ba (He.ba (He.ba T.c.more).2).2).1 _
theorem gr_LOTS {c : Ct} (μ : List Addr) (H : Hp) : RepL c μ H [.str "relation", .str "doubt", .str "find"] ([He.Dv.str "relation", He.Dv.str "doubt", He.Dv.str "find"].map (He.Dv.v K)) := .cons (.str _) (.cons (.str _) (.cons (.str _) (.nil)))
theorem ic_Site (T : TT w h base mg K) : C8.InsC K (He.ga K "Site") := insB_ok (cl_Site T) (He.ba (He.ba (He.ba (He.ba T.c.more).2).2).2).1
theorem kv_SIZES (T : TT w h base mg K) : kvB K (He.ga K "SIZES") ([("relate", 4), ("doubt", 5), ("find", 4), ("strike", 3), ("trust", 2), ("budget", 2)] : List (PySem.Str × Int)) = true := ((He.ba (He.ba (He.ba (He.ba (He.ba T.c.more).2).2).2).2).1)
theorem kn_SIZES (T : TT w h base mg K) : noB K (He.ga K "SIZES") (["Budget", ""] : List PySem.Str) = true := ((He.ba (He.ba (He.ba (He.ba (He.ba (He.ba T.c.more).2).2).2).2).2).1)
theorem em_Barred (T : TT w h base mg K) : exmL K (He.ga K "Barred") [("InvalidLayers", false), ("InvalidNumber", false), ("InvalidRelations", false), ("InvalidDoubts", false), ("InvalidFinds", false), ("InvalidDeed", false), ("Barred", true)] = true := ((He.ba (He.ba (He.ba (He.ba (He.ba (He.ba (He.ba T.c.more).2).2).2).2).2).2).1)
theorem xf_reason (T : TT w h base mg K) : xfL K "reason" (["Barred"] : List PySem.Str) = true := ((He.ba (He.ba (He.ba (He.ba (He.ba (He.ba (He.ba (He.ba T.c.more).2).2).2).2).2).2).2).1)
theorem em_InvalidDeed (T : TT w h base mg K) : exmL K (He.ga K "InvalidDeed") [("InvalidLayers", false), ("InvalidNumber", false), ("InvalidRelations", false), ("InvalidDoubts", false), ("InvalidFinds", false), ("InvalidDeed", true), ("Barred", false)] = true := ((He.ba (He.ba (He.ba (He.ba (He.ba (He.ba (He.ba (He.ba (He.ba T.c.more).2).2).2).2).2).2).2).2).1)
theorem kt_DigError (T : TT w h base mg K) : kitL K (.ref (He.ga K "DigError")) [("InvalidLayers", true), ("InvalidNumber", true), ("InvalidRelations", true), ("InvalidDoubts", true), ("InvalidFinds", true), ("InvalidDeed", true), ("Barred", true)] = true := ((He.ba (He.ba (He.ba (He.ba (He.ba (He.ba (He.ba (He.ba (He.ba (He.ba T.c.more).2).2).2).2).2).2).2).2).2).1)
theorem xf_index (T : TT w h base mg K) : xfL K "index" (["InvalidLayers", "InvalidRelations", "InvalidDoubts", "InvalidFinds", "InvalidDeed"] : List PySem.Str) = true := ((He.ba (He.ba (He.ba (He.ba (He.ba (He.ba (He.ba (He.ba (He.ba (He.ba (He.ba T.c.more).2).2).2).2).2).2).2).2).2).2).1)
theorem eb_InvalidLayers (T : TT w h base mg K) : eiB K "InvalidLayers" "index" = true := ((He.ba (He.ba (He.ba (He.ba (He.ba (He.ba (He.ba (He.ba (He.ba (He.ba (He.ba (He.ba T.c.more).2).2).2).2).2).2).2).2).2).2).2).1)
theorem eb_InvalidNumber (T : TT w h base mg K) : eiB K "InvalidNumber" "given" = true := ((He.ba (He.ba (He.ba (He.ba (He.ba (He.ba (He.ba (He.ba (He.ba (He.ba (He.ba (He.ba (He.ba T.c.more).2).2).2).2).2).2).2).2).2).2).2).2).1)
theorem eb_InvalidRelations (T : TT w h base mg K) : eiB K "InvalidRelations" "index" = true := ((He.ba (He.ba (He.ba (He.ba (He.ba (He.ba (He.ba (He.ba (He.ba (He.ba (He.ba (He.ba (He.ba (He.ba T.c.more).2).2).2).2).2).2).2).2).2).2).2).2).2).1)
theorem eb_InvalidDoubts (T : TT w h base mg K) : eiB K "InvalidDoubts" "index" = true := ((He.ba (He.ba (He.ba (He.ba (He.ba (He.ba (He.ba (He.ba (He.ba (He.ba (He.ba (He.ba (He.ba (He.ba (He.ba T.c.more).2).2).2).2).2).2).2).2).2).2).2).2).2).2).1)
theorem eb_InvalidFinds (T : TT w h base mg K) : eiB K "InvalidFinds" "index" = true := ((He.ba (He.ba (He.ba (He.ba (He.ba (He.ba (He.ba (He.ba (He.ba (He.ba (He.ba (He.ba (He.ba (He.ba (He.ba (He.ba T.c.more).2).2).2).2).2).2).2).2).2).2).2).2).2).2).2).1)
theorem eb_InvalidDeed (T : TT w h base mg K) : eiB K "InvalidDeed" "index" = true := ((He.ba (He.ba (He.ba (He.ba (He.ba (He.ba (He.ba (He.ba (He.ba (He.ba (He.ba (He.ba (He.ba (He.ba (He.ba (He.ba (He.ba T.c.more).2).2).2).2).2).2).2).2).2).2).2).2).2).2).2).2).1)
theorem eb_Barred (T : TT w h base mg K) : eiB K "Barred" "reason" = true := ((He.ba (He.ba (He.ba (He.ba (He.ba (He.ba (He.ba (He.ba (He.ba (He.ba (He.ba (He.ba (He.ba (He.ba (He.ba (He.ba (He.ba (He.ba T.c.more).2).2).2).2).2).2).2).2).2).2).2).2).2).2).2).2).2).1)
theorem dst_ (T : TT w h base mg K) : ((["InvalidLayers", "InvalidNumber", "InvalidRelations", "InvalidDoubts", "InvalidFinds", "InvalidDeed", "Barred"] : List PySem.Str).map (He.ga K)).Nodup := of_decide_eq_true ((He.ba (He.ba (He.ba (He.ba (He.ba (He.ba (He.ba (He.ba (He.ba (He.ba (He.ba (He.ba (He.ba (He.ba (He.ba (He.ba (He.ba (He.ba T.c.more).2).2).2).2).2).2).2).2).2).2).2).2).2).2).2).2).2).2)
theorem fd_InvalidLayersdd_initdd (T : TT w h base mg K) : ∃ fd, Fd K d_InvalidLayersdd_initdd fd := T.c.t.d.def_ 61 (d := d_InvalidLayersdd_initdd) rfl
theorem sc_InvalidLayersdd_initdd : FnScope (["self", "index"] : List PySem.Str) (["self", "index"] : List PySem.Str) d_InvalidLayersdd_initdd.scope := ⟨rfl, rfl, rfl, by decide +kernel, rfl, by decide +kernel, by decide +kernel⟩
theorem ei_InvalidLayers (T : TT w h base mg K) : ExI P w K mg base (He.ga K "InvalidLayers") "index" (He.fAd K d_InvalidLayersdd_initdd.at_) := by
  obtain ⟨h1, h2, h3, h4⟩ := eiB_ok (eb_InvalidLayers T)
  exact exI_of h1 h2 h3 h4 (fd_InvalidLayersdd_initdd T) sc_InvalidLayersdd_initdd (.inl rfl) (.inl rfl) (by decide) (by decide) (fun _ _ _ _ _ _ us hl => match us, hl with | [_, _], _ => rfl)
theorem fd_InvalidNumberdd_initdd (T : TT w h base mg K) : ∃ fd, Fd K d_InvalidNumberdd_initdd fd := T.c.t.d.def_ 62 (d := d_InvalidNumberdd_initdd) rfl
theorem sc_InvalidNumberdd_initdd : FnScope (["self", "given"] : List PySem.Str) (["self", "given"] : List PySem.Str) d_InvalidNumberdd_initdd.scope := ⟨rfl, rfl, rfl, by decide +kernel, rfl, by decide +kernel, by decide +kernel⟩
theorem ei_InvalidNumber (T : TT w h base mg K) : ExI P w K mg base (He.ga K "InvalidNumber") "given" (He.fAd K d_InvalidNumberdd_initdd.at_) := by
  obtain ⟨h1, h2, h3, h4⟩ := eiB_ok (eb_InvalidNumber T)
  exact exI_of h1 h2 h3 h4 (fd_InvalidNumberdd_initdd T) sc_InvalidNumberdd_initdd (.inl rfl) (.inl rfl) (by decide) (by decide) (fun _ _ _ _ _ _ us hl => match us, hl with | [_, _], _ => rfl)
theorem fd_InvalidRelationsdd_initdd (T : TT w h base mg K) : ∃ fd, Fd K d_InvalidRelationsdd_initdd fd := T.c.t.d.def_ 63 (d := d_InvalidRelationsdd_initdd) rfl
theorem sc_InvalidRelationsdd_initdd : FnScope (["self", "index"] : List PySem.Str) (["self", "index"] : List PySem.Str) d_InvalidRelationsdd_initdd.scope := ⟨rfl, rfl, rfl, by decide +kernel, rfl, by decide +kernel, by decide +kernel⟩
theorem ei_InvalidRelations (T : TT w h base mg K) : ExI P w K mg base (He.ga K "InvalidRelations") "index" (He.fAd K d_InvalidRelationsdd_initdd.at_) := by
  obtain ⟨h1, h2, h3, h4⟩ := eiB_ok (eb_InvalidRelations T)
  exact exI_of h1 h2 h3 h4 (fd_InvalidRelationsdd_initdd T) sc_InvalidRelationsdd_initdd (.inl rfl) (.inl rfl) (by decide) (by decide) (fun _ _ _ _ _ _ us hl => match us, hl with | [_, _], _ => rfl)
theorem fd_InvalidDoubtsdd_initdd (T : TT w h base mg K) : ∃ fd, Fd K d_InvalidDoubtsdd_initdd fd := T.c.t.d.def_ 64 (d := d_InvalidDoubtsdd_initdd) rfl
theorem sc_InvalidDoubtsdd_initdd : FnScope (["self", "index"] : List PySem.Str) (["self", "index"] : List PySem.Str) d_InvalidDoubtsdd_initdd.scope := ⟨rfl, rfl, rfl, by decide +kernel, rfl, by decide +kernel, by decide +kernel⟩
theorem ei_InvalidDoubts (T : TT w h base mg K) : ExI P w K mg base (He.ga K "InvalidDoubts") "index" (He.fAd K d_InvalidDoubtsdd_initdd.at_) := by
  obtain ⟨h1, h2, h3, h4⟩ := eiB_ok (eb_InvalidDoubts T)
  exact exI_of h1 h2 h3 h4 (fd_InvalidDoubtsdd_initdd T) sc_InvalidDoubtsdd_initdd (.inl rfl) (.inl rfl) (by decide) (by decide) (fun _ _ _ _ _ _ us hl => match us, hl with | [_, _], _ => rfl)
theorem fd_InvalidFindsdd_initdd (T : TT w h base mg K) : ∃ fd, Fd K d_InvalidFindsdd_initdd fd := T.c.t.d.def_ 65 (d := d_InvalidFindsdd_initdd) rfl
theorem sc_InvalidFindsdd_initdd : FnScope (["self", "index"] : List PySem.Str) (["self", "index"] : List PySem.Str) d_InvalidFindsdd_initdd.scope := ⟨rfl, rfl, rfl, by decide +kernel, rfl, by decide +kernel, by decide +kernel⟩
theorem ei_InvalidFinds (T : TT w h base mg K) : ExI P w K mg base (He.ga K "InvalidFinds") "index" (He.fAd K d_InvalidFindsdd_initdd.at_) := by
  obtain ⟨h1, h2, h3, h4⟩ := eiB_ok (eb_InvalidFinds T)
  exact exI_of h1 h2 h3 h4 (fd_InvalidFindsdd_initdd T) sc_InvalidFindsdd_initdd (.inl rfl) (.inl rfl) (by decide) (by decide) (fun _ _ _ _ _ _ us hl => match us, hl with | [_, _], _ => rfl)
theorem fd_InvalidDeeddd_initdd (T : TT w h base mg K) : ∃ fd, Fd K d_InvalidDeeddd_initdd fd := T.c.t.d.def_ 66 (d := d_InvalidDeeddd_initdd) rfl
theorem sc_InvalidDeeddd_initdd : FnScope (["self", "index"] : List PySem.Str) (["self", "index"] : List PySem.Str) d_InvalidDeeddd_initdd.scope := ⟨rfl, rfl, rfl, by decide +kernel, rfl, by decide +kernel, by decide +kernel⟩
theorem ei_InvalidDeed (T : TT w h base mg K) : ExI P w K mg base (He.ga K "InvalidDeed") "index" (He.fAd K d_InvalidDeeddd_initdd.at_) := by
  obtain ⟨h1, h2, h3, h4⟩ := eiB_ok (eb_InvalidDeed T)
  exact exI_of h1 h2 h3 h4 (fd_InvalidDeeddd_initdd T) sc_InvalidDeeddd_initdd (.inl rfl) (.inl rfl) (by decide) (by decide) (fun _ _ _ _ _ _ us hl => match us, hl with | [_, _], _ => rfl)
theorem fd_Barreddd_initdd (T : TT w h base mg K) : ∃ fd, Fd K d_Barreddd_initdd fd := T.c.t.d.def_ 67 (d := d_Barreddd_initdd) rfl
theorem sc_Barreddd_initdd : FnScope (["self", "reason"] : List PySem.Str) (["self", "reason"] : List PySem.Str) d_Barreddd_initdd.scope := ⟨rfl, rfl, rfl, by decide +kernel, rfl, by decide +kernel, by decide +kernel⟩
theorem ei_Barred (T : TT w h base mg K) : ExI P w K mg base (He.ga K "Barred") "reason" (He.fAd K d_Barreddd_initdd.at_) := by
  obtain ⟨h1, h2, h3, h4⟩ := eiB_ok (eb_Barred T)
  exact exI_of h1 h2 h3 h4 (fd_Barreddd_initdd T) sc_Barreddd_initdd (.inl rfl) (.inl rfl) (by decide) (by decide) (fun _ _ _ _ _ _ us hl => match us, hl with | [_, _], _ => rfl)
theorem fd__law_draw (T : TT w h base mg K) : ∃ fd, Fd K d__law_draw fd := T.c.t.d.def_ 0 (d := d__law_draw) rfl
theorem sc__law_draw : FnScope (["pool", "many", "figure", "held"] : List PySem.Str) (["pool", "many"] : List PySem.Str) d__law_draw.scope := ⟨rfl, rfl, rfl, by decide +kernel, rfl, by decide +kernel, by decide +kernel⟩
theorem c__law_draw (T : TT w h base mg K) : Cal P w K mg base (ctOf tfn K sa ns bs) 1 "_law_draw" d__law_draw (["pool", "many"] : List PySem.Str) (D__law_draw (He.ga K) 0) := by
  refine cal_of (k := 0) (gm__law_draw T) (fd__law_draw T) sc__law_draw fun fd cdv A outer s H E ecd hr => ?_
  have S := sc__law_draw
  have tk : Takes (cxOf (CX P w) P w K mg base (["pool", "many", "figure", "held"] : List PySem.Str) d__law_draw.qual d__law_draw.scope (He.fAd K d__law_draw.at_) cdv A outer s H E) (fun cls d _ H => E cls d H) := takes_of rfl rfl rfl rfl
  exact (gs_cons (gs_if (gt_cmp op_gtA ops_cmp (ge_ix hr.u1 rfl (ge_var (i := 0) rfl (.inl rfl)) ge_int) ge_int rfl) (gs_cons (gs_asg (nx_gTu (fun _ _ _ _ _ h => nx_gsCons (nx_gSb' ne_dVar ne_dC) (fun _ _ _ _ _ h => nx_gsCons nx_gN' (fun _ _ _ _ _ h => nx_gsNil h) h) h)) (ge_cb call_divmod cb_divmod rfl (m_divmod T) bt_divmod (ga_cons (ge_ix hr.u1 rfl (ge_var (i := 0) rfl (.inl rfl)) ge_int) (ga_cons (ge_var (i := 1) rfl (.inl rfl)) ga_nil))) (gg_tup rfl rfl (ggs_cons (gg_sub hr.u1 (ge_var (i := 0) rfl (.inl rfl)) ge_int) (ggs_cons (gg_name (i := 2) S.nd rfl (.inl rfl)) ggs_nil)) (fun _ _ _ _ h => gsCons_len (fun _ _ _ _ h => gsCons_len (fun _ _ _ _ h => gsNil_len h) nx_gN' h) (nx_gSb' ne_dVar ne_dC) h))) (gs_one (gs_ret (ge_var (i := 2) rfl (.inl rfl))))) gs_nil) (gs_cons (gs_asg nx_gSb (ge_bin op_addAll ops_add (ge_ix hr.u1 rfl (ge_var (i := 0) rfl (.inl rfl)) ge_int) ge_int) (gg_sub hr.u1 (ge_var (i := 0) rfl (.inl rfl)) ge_int)) (gs_cons (gs_set (i := 3) S.nd rfl (.inl rfl) (ge_cty call_int1 cb_int rfl (m_int T) bt_int (ga_cons (ge_ix hr.u1 rfl (ge_var (i := 0) rfl (.inl rfl)) ge_int) ga_nil))) (gs_cons (gs_asg nx_gSb (ge_bin op_mod ops_mod (ge_cty call_int1 cb_int rfl (m_int T) bt_int (ga_cons (ge_bin op_addAll ops_add (ge_bin op_addAll ops_add (ge_bin G.op_mulX ops_mulT (ge_var (i := 3) rfl (.inl rfl)) (ge_bin op_addAll ops_add (ge_bin op_mod ops_mod (ge_var (i := 3) rfl (.inl rfl)) ge_int) ge_int)) (ge_bin G.op_mulX ops_mulT ge_int (ge_ix hr.u1 rfl (ge_var (i := 0) rfl (.inl rfl)) ge_int))) ge_int) ga_nil)) ge_int) (gg_sub hr.u1 (ge_var (i := 0) rfl (.inl rfl)) ge_int)) (gs_one (gs_ret (ge_bin op_mod ops_mod (ge_cty call_int1 cb_int rfl (m_int T) bt_int (ga_cons (ge_bin op_fdiv ops_div (ge_ix hr.u1 rfl (ge_var (i := 0) rfl (.inl rfl)) ge_int) ge_int) ga_nil)) (ge_var (i := 1) rfl (.inl rfl)))))))))
theorem fd__law_pick (T : TT w h base mg K) : ∃ fd, Fd K d__law_pick fd := T.c.t.d.def_ 1 (d := d__law_pick) rfl
theorem sc__law_pick : FnScope (["pool", "some"] : List PySem.Str) (["pool", "some"] : List PySem.Str) d__law_pick.scope := ⟨rfl, rfl, rfl, by decide +kernel, rfl, by decide +kernel, by decide +kernel⟩
theorem c__law_pick (T : TT w h base mg K) : Cal P w K mg base (ctOf tfn K sa ns bs) 2 "_law_pick" d__law_pick (["pool", "some"] : List PySem.Str) (D__law_pick (He.ga K) 0) := by
  refine cal_of (k := 1) (gm__law_pick T) (fd__law_pick T) sc__law_pick fun fd cdv A outer s H E ecd hr => ?_
  have S := sc__law_pick
  have tk : Takes (cxOf (CX P w) P w K mg base (["pool", "some"] : List PySem.Str) d__law_pick.qual d__law_pick.scope (He.fAd K d__law_pick.at_) cdv A outer s H E) (fun cls d _ H => E cls d H) := takes_of rfl rfl rfl rfl
  exact (gs_one (gs_ret (ge_ix hr.u1 rfl (ge_var (i := 1) rfl (.inl rfl)) (ge_cal (c__law_draw T) rfl (fun _ _ _ _ _ _ us hl => match us, hl with | [_, _], _ => rfl) hr (by decide) tk (fun _ _ _ _ h => aCons_len (fun _ _ _ _ h => aCons_len (fun _ _ _ _ h => aNil_len h) h) h) rfl (ga_cons (ge_var (i := 0) rfl (.inl rfl)) (ga_cons (ge_cb call_len cb_len rfl (m_len T) bt_len (ga_cons (ge_var (i := 1) rfl (.inl rfl)) ga_nil)) ga_nil))))))
theorem fd__law_relation (T : TT w h base mg K) : ∃ fd, Fd K d__law_relation fd := T.c.t.d.def_ 2 (d := d__law_relation) rfl
theorem sc__law_relation : FnScope (["pool", "layers", "one", "other"] : List PySem.Str) (["pool", "layers"] : List PySem.Str) d__law_relation.scope := ⟨rfl, rfl, rfl, by decide +kernel, rfl, by decide +kernel, by decide +kernel⟩
theorem c__law_relation (T : TT w h base mg K) : Cal P w K mg base (ctOf tfn K sa ns bs) 3 "_law_relation" d__law_relation (["pool", "layers"] : List PySem.Str) (D__law_relation (He.ga K) 0) := by
  refine cal_of (k := 2) (gm__law_relation T) (fd__law_relation T) sc__law_relation fun fd cdv A outer s H E ecd hr => ?_
  have S := sc__law_relation
  have tk : Takes (cxOf (CX P w) P w K mg base (["pool", "layers", "one", "other"] : List PySem.Str) d__law_relation.qual d__law_relation.scope (He.fAd K d__law_relation.at_) cdv A outer s H E) (fun cls d _ H => E cls d H) := takes_of rfl rfl rfl rfl
  exact (gs_cons (gs_set (i := 2) S.nd rfl (.inl rfl) (ge_cal (c__law_draw T) rfl (fun _ _ _ _ _ _ us hl => match us, hl with | [_, _], _ => rfl) hr (by decide) tk (fun _ _ _ _ h => aCons_len (fun _ _ _ _ h => aCons_len (fun _ _ _ _ h => aNil_len h) h) h) rfl (ga_cons (ge_var (i := 0) rfl (.inl rfl)) (ga_cons (ge_cb call_len cb_len rfl (m_len T) bt_len (ga_cons (ge_var (i := 1) rfl (.inl rfl)) ga_nil)) ga_nil)))) (gs_cons (gs_set (i := 3) S.nd rfl (.inl rfl) (ge_bin op_mod ops_mod (ge_cty call_int1 cb_int rfl (m_int T) bt_int (ga_cons (ge_bin op_addAll ops_add (ge_bin op_addAll ops_add (ge_var (i := 2) rfl (.inl rfl)) ge_int) (ge_cal (c__law_draw T) rfl (fun _ _ _ _ _ _ us hl => match us, hl with | [_, _], _ => rfl) hr (by decide) tk (fun _ _ _ _ h => aCons_len (fun _ _ _ _ h => aCons_len (fun _ _ _ _ h => aNil_len h) h) h) rfl (ga_cons (ge_var (i := 0) rfl (.inl rfl)) (ga_cons (ge_bin op_sub ops_sub (ge_cb call_len cb_len rfl (m_len T) bt_len (ga_cons (ge_var (i := 1) rfl (.inl rfl)) ga_nil)) ge_int) ga_nil)))) ga_nil)) (ge_cb call_len cb_len rfl (m_len T) bt_len (ga_cons (ge_var (i := 1) rfl (.inl rfl)) ga_nil)))) (gs_cons (gs_if (gt_cmp op_gtA ops_cmp (ge_cal (c__law_draw T) rfl (fun _ _ _ _ _ _ us hl => match us, hl with | [_, _], _ => rfl) hr (by decide) tk (fun _ _ _ _ h => aCons_len (fun _ _ _ _ h => aCons_len (fun _ _ _ _ h => aNil_len h) h) h) rfl (ga_cons (ge_var (i := 0) rfl (.inl rfl)) (ga_cons ge_int ga_nil))) ge_int rfl) (gs_one (gs_par rfl S.nd (i := 2) (j := 3) rfl rfl (by decide) rfl rfl (ga_cons (ge_cb (G.CallR.or (call_min2 rfl) (cr_min rfl)) cb_min rfl (m_min T) bt_min (ga_cons (ge_var (i := 2) rfl (.inl rfl)) (ga_cons (ge_var (i := 3) rfl (.inl rfl)) ga_nil))) (ga_cons (ge_cb (G.CallR.or (call_max2 rfl) (cr_max rfl)) cb_max rfl (m_max T) bt_max (ga_cons (ge_var (i := 2) rfl (.inl rfl)) (ga_cons (ge_var (i := 3) rfl (.inl rfl)) ga_nil))) ga_nil)) rfl)) gs_nil) (gs_one (gs_ret (ge_tup (ga_cons (ge_cal (c__law_pick T) rfl (fun _ _ _ _ _ _ us hl => match us, hl with | [_, _], _ => rfl) hr (by decide) tk (fun _ _ _ _ h => aCons_len (fun _ _ _ _ h => aCons_len (fun _ _ _ _ h => aNil_len h) h) h) rfl (ga_cons (ge_var (i := 0) rfl (.inl rfl)) (ga_cons (ge_lst (ga_cons ge_str (ga_cons ge_str (ga_cons ge_str (ga_cons ge_str (ga_cons ge_str ga_nil)))))) ga_nil))) (ga_cons (ge_ix hr.u1 rfl (ge_var (i := 1) rfl (.inl rfl)) (ge_var (i := 2) rfl (.inl rfl))) (ga_cons (ge_ix hr.u1 rfl (ge_var (i := 1) rfl (.inl rfl)) (ge_var (i := 3) rfl (.inl rfl))) ga_nil)))))))))
theorem fd__law_relations (T : TT w h base mg K) : ∃ fd, Fd K d__law_relations fd := T.c.t.d.def_ 3 (d := d__law_relations) rfl
theorem sc__law_relations : FnScope (["pool", "layers", "many", "found", "turn", "own"] : List PySem.Str) (["pool", "layers", "many"] : List PySem.Str) d__law_relations.scope := ⟨rfl, rfl, rfl, by decide +kernel, rfl, by decide +kernel, by decide +kernel⟩
theorem c__law_relations (T : TT w h base mg K) : Cal P w K mg base (ctOf tfn K sa ns bs) 4 "_law_relations" d__law_relations (["pool", "layers", "many"] : List PySem.Str) (D__law_relations (He.ga K) 0) := by
  refine cal_of (k := 3) (gm__law_relations T) (fd__law_relations T) sc__law_relations fun fd cdv A outer s H E ecd hr => ?_
  have S := sc__law_relations
  have tk : Takes (cxOf (CX P w) P w K mg base (["pool", "layers", "many", "found", "turn", "own"] : List PySem.Str) d__law_relations.qual d__law_relations.scope (He.fAd K d__law_relations.at_) cdv A outer s H E) (fun cls d _ H => E cls d H) := takes_of rfl rfl rfl rfl
  exact (gs_cons (gs_set (i := 3) S.nd rfl (.inl rfl) (ge_lst ga_nil)) (gs_cons (gs_for (passes_of rfl) rfl nx_gN (gi_rng1 rfl (m_range T) (ge_if (gt_cmp op_gtA ops_cmp (ge_cb call_len cb_len rfl (m_len T) bt_len (ga_cons (ge_var (i := 1) rfl (.inl rfl)) ga_nil)) ge_int rfl) (ge_var (i := 2) rfl (.inl rfl)) ge_int)) (gg_name (i := 4) S.nd rfl (.inl rfl)) (gs_cons (gs_set (i := 5) S.nd rfl (.inl rfl) (ge_cal (c__law_relation T) rfl (fun _ _ _ _ _ _ us hl => match us, hl with | [_, _], _ => rfl) hr (by decide) tk (fun _ _ _ _ h => aCons_len (fun _ _ _ _ h => aCons_len (fun _ _ _ _ h => aNil_len h) h) h) rfl (ga_cons (ge_var (i := 0) rfl (.inl rfl)) (ga_cons (ge_var (i := 1) rfl (.inl rfl)) ga_nil)))) (gs_one (gs_if (gt_cmp (op_notInAll hr.u65) ops_notIn (ge_var (i := 5) rfl (.inl rfl)) (ge_var (i := 3) rfl (.inl rfl)) rfl) (gs_one (gs_expr (ge_bm rfl F.plainAttrs_list F.slot_list_append F.type_list_append mt_append mb_append (ge_var (i := 3) rfl (.inl rfl)) (ga_cons (ge_var (i := 5) rfl (.inl rfl)) ga_nil)))) gs_nil)))) (gs_one (gs_ret (ge_cty (G.CallR.or call_tuple_of (call_tupS rfl)) cb_tupleX rfl (m_tuple T) bt_tuple (ga_cons (ge_var (i := 3) rfl (.inl rfl)) ga_nil))))))
theorem fd__law_spans (T : TT w h base mg K) : ∃ fd, Fd K d__law_spans fd := T.c.t.d.def_ 4 (d := d__law_spans) rfl
theorem sc__law_spans : FnScope (["pool", "last", "found", "at", "turn", "to"] : List PySem.Str) (["pool", "last"] : List PySem.Str) d__law_spans.scope := ⟨rfl, rfl, rfl, by decide +kernel, rfl, by decide +kernel, by decide +kernel⟩
theorem c__law_spans (T : TT w h base mg K) : Cal P w K mg base (ctOf tfn K sa ns bs) 2 "_law_spans" d__law_spans (["pool", "last"] : List PySem.Str) (D__law_spans (He.ga K) 0) := by
  refine cal_of (k := 1) (gm__law_spans T) (fd__law_spans T) sc__law_spans fun fd cdv A outer s H E ecd hr => ?_
  have S := sc__law_spans
  have tk : Takes (cxOf (CX P w) P w K mg base (["pool", "last", "found", "at", "turn", "to"] : List PySem.Str) d__law_spans.qual d__law_spans.scope (He.fAd K d__law_spans.at_) cdv A outer s H E) (fun cls d _ H => E cls d H) := takes_of rfl rfl rfl rfl
  exact (gs_cons (gs_par rfl S.nd (i := 2) (j := 3) rfl rfl (by decide) rfl rfl (ga_cons (ge_lst ga_nil) (ga_cons (ge_cal (c__law_draw T) rfl (fun _ _ _ _ _ _ us hl => match us, hl with | [_, _], _ => rfl) hr (by decide) tk (fun _ _ _ _ h => aCons_len (fun _ _ _ _ h => aCons_len (fun _ _ _ _ h => aNil_len h) h) h) rfl (ga_cons (ge_var (i := 0) rfl (.inl rfl)) (ga_cons (ge_bin op_addAll ops_add (ge_var (i := 1) rfl (.inl rfl)) ge_int) ga_nil))) ga_nil)) rfl) (gs_cons (gs_for (passes_of rfl) rfl nx_gN (gi_rng1 rfl (m_range T) (ge_bin op_addAll ops_add ge_int (ge_cal (c__law_draw T) rfl (fun _ _ _ _ _ _ us hl => match us, hl with | [_, _], _ => rfl) hr (by decide) tk (fun _ _ _ _ h => aCons_len (fun _ _ _ _ h => aCons_len (fun _ _ _ _ h => aNil_len h) h) h) rfl (ga_cons (ge_var (i := 0) rfl (.inl rfl)) (ga_cons ge_int ga_nil))))) (gg_name (i := 4) S.nd rfl (.inl rfl)) (gs_one (gs_if (gt_cmp op_leA ops_cmp (ge_var (i := 3) rfl (.inl rfl)) (ge_var (i := 1) rfl (.inl rfl)) rfl) (gs_cons (gs_set (i := 5) S.nd rfl (.inl rfl) (ge_cb (G.CallR.or (call_min2 rfl) (cr_min rfl)) cb_min rfl (m_min T) bt_min (ga_cons (ge_var (i := 1) rfl (.inl rfl)) (ga_cons (ge_bin op_addAll ops_add (ge_var (i := 3) rfl (.inl rfl)) (ge_cal (c__law_draw T) rfl (fun _ _ _ _ _ _ us hl => match us, hl with | [_, _], _ => rfl) hr (by decide) tk (fun _ _ _ _ h => aCons_len (fun _ _ _ _ h => aCons_len (fun _ _ _ _ h => aNil_len h) h) h) rfl (ga_cons (ge_var (i := 0) rfl (.inl rfl)) (ga_cons ge_int ga_nil)))) ga_nil)))) (gs_cons (gs_expr (ge_bm rfl F.plainAttrs_list F.slot_list_append F.type_list_append mt_append mb_append (ge_var (i := 2) rfl (.inl rfl)) (ga_cons (ge_tup (ga_cons (ge_var (i := 3) rfl (.inl rfl)) (ga_cons (ge_var (i := 5) rfl (.inl rfl)) ga_nil))) ga_nil))) (gs_one (gs_set (i := 3) S.nd rfl (.inl rfl) (ge_bin op_addAll ops_add (ge_bin op_addAll ops_add (ge_var (i := 5) rfl (.inl rfl)) ge_int) (ge_cal (c__law_draw T) rfl (fun _ _ _ _ _ _ us hl => match us, hl with | [_, _], _ => rfl) hr (by decide) tk (fun _ _ _ _ h => aCons_len (fun _ _ _ _ h => aCons_len (fun _ _ _ _ h => aNil_len h) h) h) rfl (ga_cons (ge_var (i := 0) rfl (.inl rfl)) (ga_cons ge_int ga_nil)))))))) gs_nil))) (gs_one (gs_ret (ge_cty (G.CallR.or call_tuple_of (call_tupS rfl)) cb_tupleX rfl (m_tuple T) bt_tuple (ga_cons (ge_var (i := 2) rfl (.inl rfl)) ga_nil))))))
theorem fd__law_site (T : TT w h base mg K) : ∃ fd, Fd K d__law_site fd := T.c.t.d.def_ 5 (d := d__law_site) rfl
theorem sc__law_site : FnScope (["pool", "layers", "last", "sizes", "names", "relations", "doubts", "own", "finds", "turn"] : List PySem.Str) (["pool", "layers", "last", "sizes"] : List PySem.Str) d__law_site.scope := ⟨rfl, rfl, rfl, by decide +kernel, rfl, by decide +kernel, by decide +kernel⟩
theorem c__law_site (T : TT w h base mg K) : Cal P w K mg base (ctOf tfn K sa ns bs) 5 "_law_site" d__law_site (["pool", "layers", "last", "sizes"] : List PySem.Str) (D__law_site (He.ga K) 0) := by
  refine cal_of (k := 4) (gm__law_site T) (fd__law_site T) sc__law_site fun fd cdv A outer s H E ecd hr => ?_
  have S := sc__law_site
  have tk : Takes (cxOf (CX P w) P w K mg base (["pool", "layers", "last", "sizes", "names", "relations", "doubts", "own", "finds", "turn"] : List PySem.Str) d__law_site.qual d__law_site.scope (He.fAd K d__law_site.at_) cdv A outer s H E) (fun cls d _ H => E cls d H) := takes_of rfl rfl rfl rfl
  exact (gs_cons (gs_set (i := 4) S.nd rfl (.inl rfl) (ge_cty (G.CallR.or call_tuple_of (call_tupS rfl)) cb_tupleX rfl (m_tuple T) bt_tuple (ga_cons (ge_cb (G.CallR.or (G.CallR.or cr_sortedS cr_sortedI) cr_sortedST) cb_sortedX rfl (m_sorted T) bt_sorted (ga_cons (ge_sl rfl (ge_lst (ga_cons ge_str (ga_cons ge_str (ga_cons ge_str (ga_cons ge_str (ga_cons ge_str (ga_cons ge_str (ga_cons ge_str ga_nil)))))))) go_none (go_some (ge_var (i := 1) rfl (.inl rfl)))) ga_nil)) ga_nil))) (gs_cons (gs_par rfl S.nd (i := 5) (j := 6) rfl rfl (by decide) rfl rfl (ga_cons (ge_cal (c__law_relations T) rfl (fun _ _ _ _ _ _ us hl => match us, hl with | [_, _, _], _ => rfl) hr (by decide) tk (fun _ _ _ _ h => aCons_len (fun _ _ _ _ h => aCons_len (fun _ _ _ _ h => aCons_len (fun _ _ _ _ h => aNil_len h) h) h) h) rfl (ga_cons (ge_var (i := 0) rfl (.inl rfl)) (ga_cons (ge_var (i := 4) rfl (.inl rfl)) (ga_cons (ge_cal (c__law_draw T) rfl (fun _ _ _ _ _ _ us hl => match us, hl with | [_, _], _ => rfl) hr (by decide) tk (fun _ _ _ _ h => aCons_len (fun _ _ _ _ h => aCons_len (fun _ _ _ _ h => aNil_len h) h) h) rfl (ga_cons (ge_var (i := 0) rfl (.inl rfl)) (ga_cons (ge_bin op_addAll ops_add (ge_ix hr.u1 rfl (ge_var (i := 3) rfl (.inl rfl)) ge_int) ge_int) ga_nil))) ga_nil)))) (ga_cons (ge_lst ga_nil) ga_nil)) rfl) (gs_cons (gs_for (passes_of rfl) rfl nx_gN (gi_val rfl (ge_cal (c__law_relations T) rfl (fun _ _ _ _ _ _ us hl => match us, hl with | [_, _, _], _ => rfl) hr (by decide) tk (fun _ _ _ _ h => aCons_len (fun _ _ _ _ h => aCons_len (fun _ _ _ _ h => aCons_len (fun _ _ _ _ h => aNil_len h) h) h) h) rfl (ga_cons (ge_var (i := 0) rfl (.inl rfl)) (ga_cons (ge_var (i := 4) rfl (.inl rfl)) (ga_cons (ge_cal (c__law_draw T) rfl (fun _ _ _ _ _ _ us hl => match us, hl with | [_, _], _ => rfl) hr (by decide) tk (fun _ _ _ _ h => aCons_len (fun _ _ _ _ h => aCons_len (fun _ _ _ _ h => aNil_len h) h) h) rfl (ga_cons (ge_var (i := 0) rfl (.inl rfl)) (ga_cons (ge_bin op_addAll ops_add (ge_ix hr.u1 rfl (ge_var (i := 3) rfl (.inl rfl)) ge_int) ge_int) ga_nil))) ga_nil))))) (gg_name (i := 7) S.nd rfl (.inl rfl)) (gs_one (gs_expr (ge_bm rfl F.plainAttrs_list F.slot_list_append F.type_list_append mt_append mb_append (ge_var (i := 6) rfl (.inl rfl)) (ga_cons (ge_bin op_addAll ops_add (ge_var (i := 7) rfl (.inl rfl)) (ge_tup (ga_cons (ge_bin op_addAll ops_add ge_int (ge_cal (c__law_draw T) rfl (fun _ _ _ _ _ _ us hl => match us, hl with | [_, _], _ => rfl) hr (by decide) tk (fun _ _ _ _ h => aCons_len (fun _ _ _ _ h => aCons_len (fun _ _ _ _ h => aNil_len h) h) h) rfl (ga_cons (ge_var (i := 0) rfl (.inl rfl)) (ga_cons ge_int ga_nil)))) ga_nil))) ga_nil))))) (gs_cons (gs_set (i := 8) S.nd rfl (.inl rfl) (ge_lst ga_nil)) (gs_cons (gs_for (passes_of rfl) rfl nx_gN (gi_rng1 rfl (m_range T) (ge_cal (c__law_draw T) rfl (fun _ _ _ _ _ _ us hl => match us, hl with | [_, _], _ => rfl) hr (by decide) tk (fun _ _ _ _ h => aCons_len (fun _ _ _ _ h => aCons_len (fun _ _ _ _ h => aNil_len h) h) h) rfl (ga_cons (ge_var (i := 0) rfl (.inl rfl)) (ga_cons (ge_bin op_addAll ops_add (ge_ix hr.u1 rfl (ge_var (i := 3) rfl (.inl rfl)) ge_int) ge_int) ga_nil)))) (gg_name (i := 9) S.nd rfl (.inl rfl)) (gs_one (gs_expr (ge_bm rfl F.plainAttrs_list F.slot_list_append F.type_list_append mt_append mb_append (ge_var (i := 8) rfl (.inl rfl)) (ga_cons (ge_tup (ga_cons (ge_cal (c__law_pick T) rfl (fun _ _ _ _ _ _ us hl => match us, hl with | [_, _], _ => rfl) hr (by decide) tk (fun _ _ _ _ h => aCons_len (fun _ _ _ _ h => aCons_len (fun _ _ _ _ h => aNil_len h) h) h) rfl (ga_cons (ge_var (i := 0) rfl (.inl rfl)) (ga_cons (ge_var (i := 4) rfl (.inl rfl)) ga_nil))) (ga_cons (ge_cal (c__law_spans T) rfl (fun _ _ _ _ _ _ us hl => match us, hl with | [_, _], _ => rfl) hr (by decide) tk (fun _ _ _ _ h => aCons_len (fun _ _ _ _ h => aCons_len (fun _ _ _ _ h => aNil_len h) h) h) rfl (ga_cons (ge_var (i := 0) rfl (.inl rfl)) (ga_cons (ge_var (i := 2) rfl (.inl rfl)) ga_nil))) (ga_cons (ge_bin op_addAll ops_add ge_int (ge_cal (c__law_draw T) rfl (fun _ _ _ _ _ _ us hl => match us, hl with | [_, _], _ => rfl) hr (by decide) tk (fun _ _ _ _ h => aCons_len (fun _ _ _ _ h => aCons_len (fun _ _ _ _ h => aNil_len h) h) h) rfl (ga_cons (ge_var (i := 0) rfl (.inl rfl)) (ga_cons ge_int ga_nil)))) ga_nil)))) ga_nil))))) (gs_one (gs_ret (ge_tup (ga_cons (ge_var (i := 4) rfl (.inl rfl)) (ga_cons (ge_var (i := 2) rfl (.inl rfl)) (ga_cons (ge_var (i := 5) rfl (.inl rfl)) (ga_cons (ge_cty (G.CallR.or call_tuple_of (call_tupS rfl)) cb_tupleX rfl (m_tuple T) bt_tuple (ga_cons (ge_var (i := 6) rfl (.inl rfl)) ga_nil)) (ga_cons (ge_cty (G.CallR.or call_tuple_of (call_tupS rfl)) cb_tupleX rfl (m_tuple T) bt_tuple (ga_cons (ge_var (i := 8) rfl (.inl rfl)) ga_nil)) ga_nil)))))))))))))
theorem fd__law_small (T : TT w h base mg K) : ∃ fd, Fd K d__law_small fd := T.c.t.d.def_ 6 (d := d__law_small) rfl
theorem sc__law_small : FnScope (["pool", "layers"] : List PySem.Str) (["pool"] : List PySem.Str) d__law_small.scope := ⟨rfl, rfl, rfl, by decide +kernel, rfl, by decide +kernel, by decide +kernel⟩
theorem c__law_small (T : TT w h base mg K) : Cal P w K mg base (ctOf tfn K sa ns bs) 6 "_law_small" d__law_small (["pool"] : List PySem.Str) (D__law_small (He.ga K) 0) := by
  refine cal_of (k := 5) (gm__law_small T) (fd__law_small T) sc__law_small fun fd cdv A outer s H E ecd hr => ?_
  have S := sc__law_small
  have tk : Takes (cxOf (CX P w) P w K mg base (["pool", "layers"] : List PySem.Str) d__law_small.qual d__law_small.scope (He.fAd K d__law_small.at_) cdv A outer s H E) (fun cls d _ H => E cls d H) := takes_of rfl rfl rfl rfl
  exact (gs_cons (gs_set (i := 1) S.nd rfl (.inl rfl) (ge_bin op_addAll ops_add ge_int (ge_cal (c__law_draw T) rfl (fun _ _ _ _ _ _ us hl => match us, hl with | [_, _], _ => rfl) hr (by decide) tk (fun _ _ _ _ h => aCons_len (fun _ _ _ _ h => aCons_len (fun _ _ _ _ h => aNil_len h) h) h) rfl (ga_cons (ge_var (i := 0) rfl (.inl rfl)) (ga_cons ge_int ga_nil))))) (gs_one (gs_ret (ge_cal (c__law_site T) rfl (fun _ _ _ _ _ _ us hl => match us, hl with | [_, _, _, _], _ => rfl) hr (by decide) tk (fun _ _ _ _ h => aCons_len (fun _ _ _ _ h => aCons_len (fun _ _ _ _ h => aCons_len (fun _ _ _ _ h => aCons_len (fun _ _ _ _ h => aNil_len h) h) h) h) h) rfl (ga_cons (ge_var (i := 0) rfl (.inl rfl)) (ga_cons (ge_var (i := 1) rfl (.inl rfl)) (ga_cons (ge_bin op_addAll ops_add ge_int (ge_cal (c__law_draw T) rfl (fun _ _ _ _ _ _ us hl => match us, hl with | [_, _], _ => rfl) hr (by decide) tk (fun _ _ _ _ h => aCons_len (fun _ _ _ _ h => aCons_len (fun _ _ _ _ h => aNil_len h) h) h) rfl (ga_cons (ge_var (i := 0) rfl (.inl rfl)) (ga_cons (ge_if (gt_cmp op_ltA ops_cmp (ge_var (i := 1) rfl (.inl rfl)) ge_int rfl) ge_int ge_int) ga_nil)))) (ga_cons (ge_tup (ga_cons ge_int (ga_cons ge_int (ga_cons ge_int ga_nil)))) ga_nil))))))))
theorem fd_check_site (T : TT w h base mg K) : ∃ fd, Fd K d_check_site fd := T.c.t.d.def_ 7 (d := d_check_site) rfl
theorem sc_check_site : FnScope (["value"] : List PySem.Str) (["value"] : List PySem.Str) d_check_site.scope := ⟨rfl, rfl, rfl, by decide +kernel, rfl, by decide +kernel, by decide +kernel⟩
theorem c_check_site (T : TT w h base mg K) : Cal P w K mg base (ctOf tfn K sa ns bs) 1 "check_site" d_check_site (["value"] : List PySem.Str) (D_check_site (He.ga K) 0) := by
  refine cal_of (k := 0) (gm_check_site T) (fd_check_site T) sc_check_site fun fd cdv A outer s H E ecd hr => ?_
  have S := sc_check_site
  have tk : Takes (cxOf (CX P w) P w K mg base (["value"] : List PySem.Str) d_check_site.qual d_check_site.scope (He.fAd K d_check_site.at_) cdv A outer s H E) (fun cls d _ H => E cls d H) := takes_of rfl rfl rfl rfl
  exact (gs_one (gs_if (gt_not (gt_tru rfl (ge_isC (ic_Site T) rfl (m_isinstance T) rfl (gm_Site T) (ge_var (i := 0) rfl (.inl rfl)) bt_isinstance))) (gs_one gs_never) gs_nil))
theorem fd_is_whole (T : TT w h base mg K) : ∃ fd, Fd K d_is_whole fd := T.c.t.d.def_ 8 (d := d_is_whole) rfl
theorem sc_is_whole : FnScope (["value"] : List PySem.Str) (["value"] : List PySem.Str) d_is_whole.scope := ⟨rfl, rfl, rfl, by decide +kernel, rfl, by decide +kernel, by decide +kernel⟩
theorem c_is_whole (T : TT w h base mg K) : Cal P w K mg base (ctOf tfn K sa ns bs) 1 "is_whole" d_is_whole (["value"] : List PySem.Str) (D_is_whole (He.ga K) 0) := by
  refine cal_of (k := 0) (gm_is_whole T) (fd_is_whole T) sc_is_whole fun fd cdv A outer s H E ecd hr => ?_
  have S := sc_is_whole
  have tk : Takes (cxOf (CX P w) P w K mg base (["value"] : List PySem.Str) d_is_whole.qual d_is_whole.scope (He.fAd K d_is_whole.at_) cdv A outer s H E) (fun cls d _ H => E cls d H) := takes_of rfl rfl rfl rfl
  exact (gs_one (gs_ret (ge_and (ge_isi rfl rfl rfl (m_isinstance T) rfl (m_int T) bt_int (ge_var (i := 0) rfl (.inl rfl)) bt_isinstance) (ge_one (ge_not (ge_isi rfl rfl rfl (m_isinstance T) rfl (m_bool T) bt_bool (ge_var (i := 0) rfl (.inl rfl)) bt_isinstance))))))
theorem fd_is_between (T : TT w h base mg K) : ∃ fd, Fd K d_is_between fd := T.c.t.d.def_ 9 (d := d_is_between) rfl
theorem sc_is_between : FnScope (["value", "least", "most"] : List PySem.Str) (["value", "least", "most"] : List PySem.Str) d_is_between.scope := ⟨rfl, rfl, rfl, by decide +kernel, rfl, by decide +kernel, by decide +kernel⟩
theorem c_is_between (T : TT w h base mg K) : Cal P w K mg base (ctOf tfn K sa ns bs) 2 "is_between" d_is_between (["value", "least", "most"] : List PySem.Str) (D_is_between (He.ga K) 0) := by
  refine cal_of (k := 1) (gm_is_between T) (fd_is_between T) sc_is_between fun fd cdv A outer s H E ecd hr => ?_
  have S := sc_is_between
  have tk : Takes (cxOf (CX P w) P w K mg base (["value", "least", "most"] : List PySem.Str) d_is_between.qual d_is_between.scope (He.fAd K d_is_between.at_) cdv A outer s H E) (fun cls d _ H => E cls d H) := takes_of rfl rfl rfl rfl
  exact (gs_one (gs_ret (ge_and (ge_cal (c_is_whole T) rfl (fun _ _ _ _ _ _ us hl => match us, hl with | [_], _ => rfl) hr (by decide) tk (fun _ _ _ _ h => aCons_len (fun _ _ _ _ h => aNil_len h) h) rfl (ga_cons (ge_var (i := 0) rfl (.inl rfl)) ga_nil)) (ge_one (ge_chain op_leA ops_cmp op_leA ops_cmp (ge_var (i := 1) rfl (.inl rfl)) (ge_var (i := 0) rfl (.inl rfl)) (ge_var (i := 2) rfl (.inl rfl)))))))
theorem fd_is_budget (T : TT w h base mg K) : ∃ fd, Fd K d_is_budget fd := T.c.t.d.def_ 10 (d := d_is_budget) rfl
theorem sc_is_budget : FnScope (["value"] : List PySem.Str) (["value"] : List PySem.Str) d_is_budget.scope := ⟨rfl, rfl, rfl, by decide +kernel, rfl, by decide +kernel, by decide +kernel⟩
theorem c_is_budget (T : TT w h base mg K) : Cal P w K mg base (ctOf tfn K sa ns bs) 3 "is_budget" d_is_budget (["value"] : List PySem.Str) (D_is_budget (He.ga K) 0) := by
  refine cal_of (k := 2) (gm_is_budget T) (fd_is_budget T) sc_is_budget fun fd cdv A outer s H E ecd hr => ?_
  have S := sc_is_budget
  have tk : Takes (cxOf (CX P w) P w K mg base (["value"] : List PySem.Str) d_is_budget.qual d_is_budget.scope (He.fAd K d_is_budget.at_) cdv A outer s H E) (fun cls d _ H => E cls d H) := takes_of rfl rfl rfl rfl
  exact (gs_one (gs_ret (ge_cal (c_is_between T) rfl (fun _ _ _ _ _ _ us hl => match us, hl with | [_, _, _], _ => rfl) hr (by decide) tk (fun _ _ _ _ h => aCons_len (fun _ _ _ _ h => aCons_len (fun _ _ _ _ h => aCons_len (fun _ _ _ _ h => aNil_len h) h) h) h) rfl (ga_cons (ge_var (i := 0) rfl (.inl rfl)) (ga_cons ge_int (ga_cons (ge_gint rfl (gi_MOST_BUDGET T)) ga_nil))))))
theorem fd_check_budget (T : TT w h base mg K) : ∃ fd, Fd K d_check_budget fd := T.c.t.d.def_ 11 (d := d_check_budget) rfl
theorem sc_check_budget : FnScope (["value"] : List PySem.Str) (["value"] : List PySem.Str) d_check_budget.scope := ⟨rfl, rfl, rfl, by decide +kernel, rfl, by decide +kernel, by decide +kernel⟩
theorem c_check_budget (T : TT w h base mg K) : Cal P w K mg base (ctOf tfn K sa ns bs) 4 "check_budget" d_check_budget (["value"] : List PySem.Str) (D_check_budget (He.ga K) 0) := by
  refine cal_of (k := 3) (gm_check_budget T) (fd_check_budget T) sc_check_budget fun fd cdv A outer s H E ecd hr => ?_
  have S := sc_check_budget
  have tk : Takes (cxOf (CX P w) P w K mg base (["value"] : List PySem.Str) d_check_budget.qual d_check_budget.scope (He.fAd K d_check_budget.at_) cdv A outer s H E) (fun cls d _ H => E cls d H) := takes_of rfl rfl rfl rfl
  exact (gs_one (gs_if (gt_not (gt_tru rfl (ge_cal (c_is_budget T) rfl (fun _ _ _ _ _ _ us hl => match us, hl with | [_], _ => rfl) hr (by decide) tk (fun _ _ _ _ h => aCons_len (fun _ _ _ _ h => aNil_len h) h) rfl (ga_cons (ge_var (i := 0) rfl (.inl rfl)) ga_nil)))) (gs_one gs_never) gs_nil))
theorem fd_Bookdd_initdd (T : TT w h base mg K) : ∃ fd, Fd K d_Bookdd_initdd fd := T.c.t.d.def_ 12 (d := d_Bookdd_initdd) rfl
theorem sc_Bookdd_initdd : FnScope (["self", "site", "budget"] : List PySem.Str) (["self", "site", "budget"] : List PySem.Str) d_Bookdd_initdd.scope := ⟨rfl, rfl, rfl, by decide +kernel, rfl, by decide +kernel, by decide +kernel⟩
theorem c_Bookdd_initdd (T : TT w h base mg K) : CalM P w K mg base (ctOf tfn K sa ns bs) 5 d_Bookdd_initdd (["self", "site", "budget"] : List PySem.Str) (D_Bookdd_initdd (He.ga K) 0) := by
  refine calM_of (k := 4) (fd_Bookdd_initdd T) sc_Bookdd_initdd fun fd cdv A outer s H E ecd hr => ?_
  have S := sc_Bookdd_initdd
  have tk : Takes (cxOf (CX P w) P w K mg base (["self", "site", "budget"] : List PySem.Str) d_Bookdd_initdd.qual d_Bookdd_initdd.scope (He.fAd K d_Bookdd_initdd.at_) cdv A outer s H E) (fun cls d _ H => E cls d H) := takes_of rfl rfl rfl rfl
  exact (gs_cons (gs_expr (ge_cal (c_check_site T) rfl (fun _ _ _ _ _ _ us hl => match us, hl with | [_], _ => rfl) hr (by decide) tk (fun _ _ _ _ h => aCons_len (fun _ _ _ _ h => aNil_len h) h) rfl (ga_cons (ge_var (i := 1) rfl (.inl rfl)) ga_nil))) (gs_cons (gs_expr (ge_cal (c_check_budget T) rfl (fun _ _ _ _ _ _ us hl => match us, hl with | [_], _ => rfl) hr (by decide) tk (fun _ _ _ _ h => aCons_len (fun _ _ _ _ h => aNil_len h) h) rfl (ga_cons (ge_var (i := 2) rfl (.inl rfl)) ga_nil))) (gs_cons (gs_fld (C := He.ga K "Book") (cl_Book T) (na_Book_site T) (ge_var (i := 0) rfl (.inl rfl)) (ge_var (i := 1) rfl (.inl rfl))) (gs_cons (gs_fld (C := He.ga K "Book") (cl_Book T) (na_Book_budget T) (ge_var (i := 0) rfl (.inl rfl)) (ge_var (i := 2) rfl (.inl rfl))) (gs_cons (gs_fld (C := He.ga K "Book") (cl_Book T) (na_Book_deeds T) (ge_var (i := 0) rfl (.inl rfl)) (ge_tup ga_nil)) (gs_cons (gs_fld (C := He.ga K "Book") (cl_Book T) (na_Book_past T) (ge_var (i := 0) rfl (.inl rfl)) (ge_lst ga_nil)) (gs_one (gs_fld (C := He.ga K "Book") (cl_Book T) (na_Book_begun T) (ge_var (i := 0) rfl (.inl rfl)) (ge_tup (ga_cons (ge_var (i := 1) rfl (.inl rfl)) (ga_cons (ge_var (i := 2) rfl (.inl rfl)) ga_nil)))))))))))
theorem fd_is_row (T : TT w h base mg K) : ∃ fd, Fd K d_is_row fd := T.c.t.d.def_ 13 (d := d_is_row) rfl
theorem sc_is_row : FnScope (["value", "least", "most"] : List PySem.Str) (["value", "least", "most"] : List PySem.Str) d_is_row.scope := ⟨rfl, rfl, rfl, by decide +kernel, rfl, by decide +kernel, by decide +kernel⟩
theorem c_is_row (T : TT w h base mg K) : Cal P w K mg base (ctOf tfn K sa ns bs) 1 "is_row" d_is_row (["value", "least", "most"] : List PySem.Str) (D_is_row (He.ga K) 0) := by
  refine cal_of (k := 0) (gm_is_row T) (fd_is_row T) sc_is_row fun fd cdv A outer s H E ecd hr => ?_
  have S := sc_is_row
  have tk : Takes (cxOf (CX P w) P w K mg base (["value", "least", "most"] : List PySem.Str) d_is_row.qual d_is_row.scope (He.fAd K d_is_row.at_) cdv A outer s H E) (fun cls d _ H => E cls d H) := takes_of rfl rfl rfl rfl
  exact (gs_one (gs_ret (ge_and (ge_isi rfl rfl rfl (m_isinstance T) rfl (m_tuple T) bt_tuple (ge_var (i := 0) rfl (.inl rfl)) bt_isinstance) (ge_one (ge_chain op_leA ops_cmp op_leA ops_cmp (ge_var (i := 1) rfl (.inl rfl)) (ge_cb call_len cb_len rfl (m_len T) bt_len (ga_cons (ge_var (i := 0) rfl (.inl rfl)) ga_nil)) (ge_var (i := 2) rfl (.inl rfl)))))))
theorem fd_first_wrong (T : TT w h base mg K) : ∃ fd, Fd K d_first_wrong fd := T.c.t.d.def_ 14 (d := d_first_wrong) rfl
theorem sc_first_wrong : FnScope (["value", "is_right", "index", "each"] : List PySem.Str) (["value", "is_right"] : List PySem.Str) d_first_wrong.scope := ⟨rfl, rfl, rfl, by decide +kernel, rfl, by decide +kernel, by decide +kernel⟩
theorem td_first_wrong {k : Nat} (hk : 0 ≤ k) (T : TT w h base mg K) : TakesD P w K mg base (ctOf tfn K sa ns bs) k d_first_wrong (["value", "is_right", "index", "each"] : List PySem.Str) 1 2 (b_first_wrong (He.ga K) 0) := by
  refine takes_d fun cdv A outer s H E f L bs hr act => ?_
  have S := sc_first_wrong
  have tk : Takes (cxOf (CX P w) P w K mg base (["value", "is_right", "index", "each"] : List PySem.Str) d_first_wrong.qual d_first_wrong.scope (He.fAd K d_first_wrong.at_) cdv A outer s H E) (fun cls d _ H => E cls d H) := takes_of rfl rfl rfl rfl
  exact (gs_cons (gs_for (passes_of rfl) rfl (nx_gTu (fun _ _ _ _ _ h => nx_gsCons nx_gN' (fun _ _ _ _ _ h => nx_gsCons nx_gN' (fun _ _ _ _ _ h => nx_gsNil h) h) h)) (gi_enm rfl rfl (m_enumerate T) (ge_var (i := 0) rfl (.inl rfl))) (gg_tup rfl rfl (ggs_cons (gg_name (i := 2) S.nd rfl (.inl rfl)) (ggs_cons (gg_name (i := 3) S.nd rfl (.inl rfl)) ggs_nil)) (fun _ _ _ _ h => gsCons_len (fun _ _ _ _ h => gsCons_len (fun _ _ _ _ h => gsNil_len h) nx_gN' h) nx_gN' h)) (gs_one (gs_if (gt_not (gt_tru rfl (ge_callL (i := 1) (act _ _) (List.mem_singleton.mpr rfl) tk (fun _ _ _ _ h => aCons_len (fun _ _ _ _ h => aCons_len (fun _ _ _ _ h => aNil_len h) h) h) rfl (.inl rfl) (ga_cons (ge_var (i := 3) rfl (.inl rfl)) (ga_cons (ge_sl rfl (ge_var (i := 0) rfl (.inl rfl)) go_none (go_some (ge_var (i := 2) rfl (.inl rfl)))) ga_nil))))) (gs_one (gs_ret (ge_var (i := 2) rfl (.inl rfl)))) gs_nil))) (gs_one (gs_ret ge_non)))
theorem fd_is_string (T : TT w h base mg K) : ∃ fd, Fd K d_is_string fd := T.c.t.d.def_ 15 (d := d_is_string) rfl
theorem sc_is_string : FnScope (["value"] : List PySem.Str) (["value"] : List PySem.Str) d_is_string.scope := ⟨rfl, rfl, rfl, by decide +kernel, rfl, by decide +kernel, by decide +kernel⟩
theorem c_is_string (T : TT w h base mg K) : Cal P w K mg base (ctOf tfn K sa ns bs) 1 "is_string" d_is_string (["value"] : List PySem.Str) (D_is_string (He.ga K) 0) := by
  refine cal_of (k := 0) (gm_is_string T) (fd_is_string T) sc_is_string fun fd cdv A outer s H E ecd hr => ?_
  have S := sc_is_string
  have tk : Takes (cxOf (CX P w) P w K mg base (["value"] : List PySem.Str) d_is_string.qual d_is_string.scope (He.fAd K d_is_string.at_) cdv A outer s H E) (fun cls d _ H => E cls d H) := takes_of rfl rfl rfl rfl
  exact (gs_one (gs_ret (ge_isi rfl rfl rfl (m_isinstance T) rfl (m_str T) bt_str (ge_var (i := 0) rfl (.inl rfl)) bt_isinstance)))
theorem fd_is_made_of (T : TT w h base mg K) : ∃ fd, Fd K d_is_made_of fd := T.c.t.d.def_ 16 (d := d_is_made_of) rfl
theorem sc_is_made_of : FnScope (["text", "signs", "sign"] : List PySem.Str) (["text", "signs"] : List PySem.Str) d_is_made_of.scope := ⟨rfl, rfl, rfl, by decide +kernel, rfl, by decide +kernel, by decide +kernel⟩
theorem c_is_made_of (T : TT w h base mg K) : Cal P w K mg base (ctOf tfn K sa ns bs) 1 "is_made_of" d_is_made_of (["text", "signs"] : List PySem.Str) (D_is_made_of (He.ga K) 0) := by
  refine cal_of (k := 0) (gm_is_made_of T) (fd_is_made_of T) sc_is_made_of fun fd cdv A outer s H E ecd hr => ?_
  have S := sc_is_made_of
  have tk : Takes (cxOf (CX P w) P w K mg base (["text", "signs", "sign"] : List PySem.Str) d_is_made_of.qual d_is_made_of.scope (He.fAd K d_is_made_of.at_) cdv A outer s H E) (fun cls d _ H => E cls d H) := takes_of rfl rfl rfl rfl
  exact (gs_one (gs_ret (ge_and (ge_cmp (op_neP hr.u64) ops_ne (ge_var (i := 0) rfl (.inl rfl)) ge_str rfl) (ge_one (ge_cb (cr_all rfl) cb_all rfl (m_all T) bt_all (ga_cons (ge_lc (own := [(("sign" : PySem.Str), 2)]) rfl S.nd (gi_val rfl (ge_var (i := 0) rfl (.inl rfl))) (blkOk_by (scope := ({ kind := PySem.ScopeKind.function, names := [((".0" : PySem.Str), PySem.NameKind.local), (("sign" : PySem.Str), PySem.NameKind.local), (("signs" : PySem.Str), PySem.NameKind.free)], isGenerator := false, isCoroutine := false, more := [] } : PySem.Scope)) (own := [(("sign" : PySem.Str), 2)]) (show blkC (["text", "signs", "sign"] : List PySem.Str) (defScope (top 8)) ({ kind := PySem.ScopeKind.function, names := [((".0" : PySem.Str), PySem.NameKind.local), (("sign" : PySem.Str), PySem.NameKind.local), (("signs" : PySem.Str), PySem.NameKind.free)], isGenerator := false, isCoroutine := false, more := [] } : PySem.Scope) [(("sign" : PySem.Str), 2)] = true by decide +kernel)) (fun _ _ _ _ _ => (gv_name (i := 2) (by decide) S.nd rfl (.inl rfl))) (fun _ _ _ _ _ => gts_nil) (fun _ _ _ _ _ => (ge_cmp (op_inAll hr.u65) ops_in (ge_var (i := 2) rfl (.inl rfl)) (ge_var (i := 1) rfl (.inr (.inl rfl))) rfl))) ga_nil))))))
theorem fd_is_name (T : TT w h base mg K) : ∃ fd, Fd K d_is_name fd := T.c.t.d.def_ 17 (d := d_is_name) rfl
theorem sc_is_name : FnScope (["value"] : List PySem.Str) (["value"] : List PySem.Str) d_is_name.scope := ⟨rfl, rfl, rfl, by decide +kernel, rfl, by decide +kernel, by decide +kernel⟩
theorem c_is_name (T : TT w h base mg K) : Cal P w K mg base (ctOf tfn K sa ns bs) 2 "is_name" d_is_name (["value"] : List PySem.Str) (D_is_name (He.ga K) 0) := by
  refine cal_of (k := 1) (gm_is_name T) (fd_is_name T) sc_is_name fun fd cdv A outer s H E ecd hr => ?_
  have S := sc_is_name
  have tk : Takes (cxOf (CX P w) P w K mg base (["value"] : List PySem.Str) d_is_name.qual d_is_name.scope (He.fAd K d_is_name.at_) cdv A outer s H E) (fun cls d _ H => E cls d H) := takes_of rfl rfl rfl rfl
  exact (gs_one (gs_ret (ge_and (ge_cal (c_is_string T) rfl (fun _ _ _ _ _ _ us hl => match us, hl with | [_], _ => rfl) hr (by decide) tk (fun _ _ _ _ h => aCons_len (fun _ _ _ _ h => aNil_len h) h) rfl (ga_cons (ge_var (i := 0) rfl (.inl rfl)) ga_nil)) (ge_and (ge_cmp op_leA ops_cmp (ge_cb call_len cb_len rfl (m_len T) bt_len (ga_cons (ge_var (i := 0) rfl (.inl rfl)) ga_nil)) (ge_gint rfl (gi_LONGEST_NAME T)) rfl) (ge_one (ge_cal (c_is_made_of T) rfl (fun _ _ _ _ _ _ us hl => match us, hl with | [_, _], _ => rfl) hr (by decide) tk (fun _ _ _ _ h => aCons_len (fun _ _ _ _ h => aCons_len (fun _ _ _ _ h => aNil_len h) h) h) rfl (ga_cons (ge_var (i := 0) rfl (.inl rfl)) (ga_cons (ge_gstr rfl (gs_SMALL_LETTERS T)) ga_nil))))))))
theorem fd_wrong_layer (T : TT w h base mg K) : ∃ fd, Fd K d_wrong_layer fd := T.c.t.d.def_ 18 (d := d_wrong_layer) rfl
theorem sc_wrong_layer : FnScope (["value"] : List PySem.Str) (["value"] : List PySem.Str) d_wrong_layer.scope := ⟨rfl, rfl, rfl, by decide +kernel, rfl, by decide +kernel, by decide +kernel⟩
def lam_wrong_layer_0 : LamW := match defBody (top 63) with
  | [(.Return (some (.Call _ [_, (.Lambda ps b sc _)] _ _)) _)] => ⟨"wrong_layer.<locals>.<lambda>", ps, b, sc⟩
  | _ => ⟨"", ⟨[], [], none, [], [], none, []⟩, .Constant .none 0 ⟨0, 0, 0, 0⟩, ⟨.function, [], false, false, []⟩⟩
theorem ls_wrong_layer_0 : NScope (["name", "ahead"] : List PySem.Str) (["name", "ahead"] : List PySem.Str) ([] : List PySem.Str) lam_wrong_layer_0.scope := ⟨rfl, rfl, rfl, by decide +kernel, rfl, by decide +kernel, by decide +kernel, by decide +kernel, by decide +kernel⟩
theorem lb_wrong_layer_0 (T : TT w h base mg K) : LamB P w K mg base (ctOf tfn K sa ns bs) 2 (["name", "ahead"] : List PySem.Str) lam_wrong_layer_0 (dl_wrong_layer_0 (He.ga K) 0) := by
  intro cl0 c1 f1 A outer s H E hr
  have S := ls_wrong_layer_0
  exact (ge_and (ge_cal (c_is_name T) rfl (fun _ _ _ _ _ _ us hl => match us, hl with | [_], _ => rfl) hr (by decide) (takes_of rfl rfl rfl rfl) (fun _ _ _ _ h => aCons_len (fun _ _ _ _ h => aNil_len h) h) rfl (ga_cons (ge_var (i := 0) rfl (.inl rfl)) ga_nil)) (ge_one (ge_or (ge_cmp (op_eqP hr.u64) ops_eq (ge_var (i := 1) rfl (.inl rfl)) (ge_tup ga_nil) rfl) (ge_one (ge_cmp op_ltA ops_cmp (ge_ix hr.u1 rfl (ge_var (i := 1) rfl (.inl rfl)) (ge_un un_neg uns_neg ge_int)) (ge_var (i := 0) rfl (.inl rfl)) rfl)))))
theorem c_wrong_layer (T : TT w h base mg K) : Cal P w K mg base (ctOf tfn K sa ns bs) 5 "wrong_layer" d_wrong_layer (["value"] : List PySem.Str) (D_wrong_layer (He.ga K) 0) := by
  refine cal_of (k := 4) (gm_wrong_layer T) (fd_wrong_layer T) sc_wrong_layer fun fd cdv A outer s H E ecd hr => ?_
  have S := sc_wrong_layer
  have tk : Takes (cxOf (CX P w) P w K mg base (["value"] : List PySem.Str) d_wrong_layer.qual d_wrong_layer.scope (He.fAd K d_wrong_layer.at_) cdv A outer s H E) (fun cls d _ H => E cls d H) := takes_of rfl rfl rfl rfl
  exact (gs_one (gs_ret (ge_lamC (tfn := tfn) (js := []) (N := (["name", "ahead"] : List PySem.Str)) (fr := ([] : List PySem.Str)) (ps := (["name", "ahead"] : List PySem.Str)) (Ng := (["value", "is_right", "index", "each"] : List PySem.Str)) (F := lam_wrong_layer_0) (at_ := ("wrong_layer", none)) (kg := 3) (kl := 2) T (fd_first_wrong T) rfl rfl (fun _ _ _ _ _ _ us hl => match us, hl with | [_, _], _ => rfl) sc_first_wrong (fun bs => td_first_wrong (by decide) T) (fun bs => lb_wrong_layer_0 T) ls_wrong_layer_0 rfl (by decide +kernel) (nd_ T) rfl (fun _ _ _ _ us hl => match us, hl with | [_, _], _ => rfl) ecd hr (by decide) (by decide) (show ∀ y ∈ lam_wrong_layer_0.scope.names, y.2 = .free → (defScope (top 63)).names.lookup y.1 = some .cell ∨ (defScope (top 63)).names.lookup y.1 = some .free from by decide +kernel) (by decide +kernel) rfl rfl tk rfl (gm_first_wrong T) (ge_var (i := 0) rfl (.inl rfl)))))
theorem fd_check_layers (T : TT w h base mg K) : ∃ fd, Fd K d_check_layers fd := T.c.t.d.def_ 19 (d := d_check_layers) rfl
theorem sc_check_layers : FnScope (["layers", "wrong"] : List PySem.Str) (["layers"] : List PySem.Str) d_check_layers.scope := ⟨rfl, rfl, rfl, by decide +kernel, rfl, by decide +kernel, by decide +kernel⟩
theorem c_check_layers (T : TT w h base mg K) : Cal P w K mg base (ctOf tfn K sa ns bs) 6 "check_layers" d_check_layers (["layers"] : List PySem.Str) (D_check_layers (He.ga K) 0) := by
  refine cal_of (k := 5) (gm_check_layers T) (fd_check_layers T) sc_check_layers fun fd cdv A outer s H E ecd hr => ?_
  have S := sc_check_layers
  have tk : Takes (cxOf (CX P w) P w K mg base (["layers", "wrong"] : List PySem.Str) d_check_layers.qual d_check_layers.scope (He.fAd K d_check_layers.at_) cdv A outer s H E) (fun cls d _ H => E cls d H) := takes_of rfl rfl rfl rfl
  exact (gs_cons (gs_if (gt_not (gt_tru rfl (ge_cal (c_is_row T) rfl (fun _ _ _ _ _ _ us hl => match us, hl with | [_, _, _], _ => rfl) hr (by decide) tk (fun _ _ _ _ h => aCons_len (fun _ _ _ _ h => aCons_len (fun _ _ _ _ h => aCons_len (fun _ _ _ _ h => aNil_len h) h) h) h) rfl (ga_cons (ge_var (i := 0) rfl (.inl rfl)) (ga_cons ge_int (ga_cons (ge_gint rfl (gi_MOST_LAYERS T)) ga_nil)))))) (gs_one (gs_raise rfl (ei_InvalidLayers T) hr (by decide) tk rfl (gm_InvalidLayers T) ge_non)) gs_nil) (gs_cons (gs_set (i := 1) S.nd rfl (.inl rfl) (ge_cal (c_wrong_layer T) rfl (fun _ _ _ _ _ _ us hl => match us, hl with | [_], _ => rfl) hr (by decide) tk (fun _ _ _ _ h => aCons_len (fun _ _ _ _ h => aNil_len h) h) rfl (ga_cons (ge_var (i := 0) rfl (.inl rfl)) ga_nil))) (gs_one (gs_if (gt_cmp op_notN ops_notN (ge_var (i := 1) rfl (.inl rfl)) ge_non rfl) (gs_one (gs_raise rfl (ei_InvalidLayers T) hr (by decide) tk rfl (gm_InvalidLayers T) (ge_var (i := 1) rfl (.inl rfl)))) gs_nil))))
theorem fd_check_last (T : TT w h base mg K) : ∃ fd, Fd K d_check_last fd := T.c.t.d.def_ 20 (d := d_check_last) rfl
theorem sc_check_last : FnScope (["value"] : List PySem.Str) (["value"] : List PySem.Str) d_check_last.scope := ⟨rfl, rfl, rfl, by decide +kernel, rfl, by decide +kernel, by decide +kernel⟩
theorem c_check_last (T : TT w h base mg K) : Cal P w K mg base (ctOf tfn K sa ns bs) 3 "check_last" d_check_last (["value"] : List PySem.Str) (D_check_last (He.ga K) 0) := by
  refine cal_of (k := 2) (gm_check_last T) (fd_check_last T) sc_check_last fun fd cdv A outer s H E ecd hr => ?_
  have S := sc_check_last
  have tk : Takes (cxOf (CX P w) P w K mg base (["value"] : List PySem.Str) d_check_last.qual d_check_last.scope (He.fAd K d_check_last.at_) cdv A outer s H E) (fun cls d _ H => E cls d H) := takes_of rfl rfl rfl rfl
  exact (gs_one (gs_if (gt_not (gt_tru rfl (ge_cal (c_is_between T) rfl (fun _ _ _ _ _ _ us hl => match us, hl with | [_, _, _], _ => rfl) hr (by decide) tk (fun _ _ _ _ h => aCons_len (fun _ _ _ _ h => aCons_len (fun _ _ _ _ h => aCons_len (fun _ _ _ _ h => aNil_len h) h) h) h) rfl (ga_cons (ge_var (i := 0) rfl (.inl rfl)) (ga_cons ge_int (ga_cons (ge_gint rfl (gi_MOST_LAST T)) ga_nil)))))) (gs_one (gs_raise rfl (ei_InvalidNumber T) hr (by decide) tk rfl (gm_InvalidNumber T) (ge_var (i := 0) rfl (.inl rfl)))) gs_nil))
theorem fd_is_tuple_of (T : TT w h base mg K) : ∃ fd, Fd K d_is_tuple_of fd := T.c.t.d.def_ 21 (d := d_is_tuple_of) rfl
theorem sc_is_tuple_of : FnScope (["value", "many"] : List PySem.Str) (["value", "many"] : List PySem.Str) d_is_tuple_of.scope := ⟨rfl, rfl, rfl, by decide +kernel, rfl, by decide +kernel, by decide +kernel⟩
theorem c_is_tuple_of (T : TT w h base mg K) : Cal P w K mg base (ctOf tfn K sa ns bs) 1 "is_tuple_of" d_is_tuple_of (["value", "many"] : List PySem.Str) (D_is_tuple_of (He.ga K) 0) := by
  refine cal_of (k := 0) (gm_is_tuple_of T) (fd_is_tuple_of T) sc_is_tuple_of fun fd cdv A outer s H E ecd hr => ?_
  have S := sc_is_tuple_of
  have tk : Takes (cxOf (CX P w) P w K mg base (["value", "many"] : List PySem.Str) d_is_tuple_of.qual d_is_tuple_of.scope (He.fAd K d_is_tuple_of.at_) cdv A outer s H E) (fun cls d _ H => E cls d H) := takes_of rfl rfl rfl rfl
  exact (gs_one (gs_ret (ge_and (ge_isi rfl rfl rfl (m_isinstance T) rfl (m_tuple T) bt_tuple (ge_var (i := 0) rfl (.inl rfl)) bt_isinstance) (ge_one (ge_cmp (op_eqP hr.u64) ops_eq (ge_cb call_len cb_len rfl (m_len T) bt_len (ga_cons (ge_var (i := 0) rfl (.inl rfl)) ga_nil)) (ge_var (i := 1) rfl (.inl rfl)) rfl)))))
theorem fd_is_kind (T : TT w h base mg K) : ∃ fd, Fd K d_is_kind fd := T.c.t.d.def_ 22 (d := d_is_kind) rfl
theorem sc_is_kind : FnScope (["value"] : List PySem.Str) (["value"] : List PySem.Str) d_is_kind.scope := ⟨rfl, rfl, rfl, by decide +kernel, rfl, by decide +kernel, by decide +kernel⟩
theorem c_is_kind (T : TT w h base mg K) : Cal P w K mg base (ctOf tfn K sa ns bs) 2 "is_kind" d_is_kind (["value"] : List PySem.Str) (D_is_kind (He.ga K) 0) := by
  refine cal_of (k := 1) (gm_is_kind T) (fd_is_kind T) sc_is_kind fun fd cdv A outer s H E ecd hr => ?_
  have S := sc_is_kind
  have tk : Takes (cxOf (CX P w) P w K mg base (["value"] : List PySem.Str) d_is_kind.qual d_is_kind.scope (He.fAd K d_is_kind.at_) cdv A outer s H E) (fun cls d _ H => E cls d H) := takes_of rfl rfl rfl rfl
  exact (gs_one (gs_ret (ge_and (ge_cal (c_is_string T) rfl (fun _ _ _ _ _ _ us hl => match us, hl with | [_], _ => rfl) hr (by decide) tk (fun _ _ _ _ h => aCons_len (fun _ _ _ _ h => aNil_len h) h) rfl (ga_cons (ge_var (i := 0) rfl (.inl rfl)) ga_nil)) (ge_one (ge_cmp (op_inAll hr.u65) ops_in (ge_var (i := 0) rfl (.inl rfl)) (ge_gtup rfl rfl (gm_KINDS T) (gt_KINDS T) (gr_KINDS)) rfl)))))
theorem fd_is_layer (T : TT w h base mg K) : ∃ fd, Fd K d_is_layer fd := T.c.t.d.def_ 23 (d := d_is_layer) rfl
theorem sc_is_layer : FnScope (["layers", "value"] : List PySem.Str) (["layers", "value"] : List PySem.Str) d_is_layer.scope := ⟨rfl, rfl, rfl, by decide +kernel, rfl, by decide +kernel, by decide +kernel⟩
theorem c_is_layer (T : TT w h base mg K) : Cal P w K mg base (ctOf tfn K sa ns bs) 2 "is_layer" d_is_layer (["layers", "value"] : List PySem.Str) (D_is_layer (He.ga K) 0) := by
  refine cal_of (k := 1) (gm_is_layer T) (fd_is_layer T) sc_is_layer fun fd cdv A outer s H E ecd hr => ?_
  have S := sc_is_layer
  have tk : Takes (cxOf (CX P w) P w K mg base (["layers", "value"] : List PySem.Str) d_is_layer.qual d_is_layer.scope (He.fAd K d_is_layer.at_) cdv A outer s H E) (fun cls d _ H => E cls d H) := takes_of rfl rfl rfl rfl
  exact (gs_one (gs_ret (ge_and (ge_cal (c_is_string T) rfl (fun _ _ _ _ _ _ us hl => match us, hl with | [_], _ => rfl) hr (by decide) tk (fun _ _ _ _ h => aCons_len (fun _ _ _ _ h => aNil_len h) h) rfl (ga_cons (ge_var (i := 1) rfl (.inl rfl)) ga_nil)) (ge_one (ge_cmp (op_inAll hr.u65) ops_in (ge_var (i := 1) rfl (.inl rfl)) (ge_var (i := 0) rfl (.inl rfl)) rfl)))))
theorem fd_is_relation (T : TT w h base mg K) : ∃ fd, Fd K d_is_relation fd := T.c.t.d.def_ 24 (d := d_is_relation) rfl
theorem sc_is_relation : FnScope (["layers", "value"] : List PySem.Str) (["layers", "value"] : List PySem.Str) d_is_relation.scope := ⟨rfl, rfl, rfl, by decide +kernel, rfl, by decide +kernel, by decide +kernel⟩
theorem c_is_relation (T : TT w h base mg K) : Cal P w K mg base (ctOf tfn K sa ns bs) 3 "is_relation" d_is_relation (["layers", "value"] : List PySem.Str) (D_is_relation (He.ga K) 0) := by
  refine cal_of (k := 2) (gm_is_relation T) (fd_is_relation T) sc_is_relation fun fd cdv A outer s H E ecd hr => ?_
  have S := sc_is_relation
  have tk : Takes (cxOf (CX P w) P w K mg base (["layers", "value"] : List PySem.Str) d_is_relation.qual d_is_relation.scope (He.fAd K d_is_relation.at_) cdv A outer s H E) (fun cls d _ H => E cls d H) := takes_of rfl rfl rfl rfl
  exact (gs_cons (gs_if (gt_w (gw_or (gt_not (gt_tru rfl (ge_cal (c_is_tuple_of T) rfl (fun _ _ _ _ _ _ us hl => match us, hl with | [_, _], _ => rfl) hr (by decide) tk (fun _ _ _ _ h => aCons_len (fun _ _ _ _ h => aCons_len (fun _ _ _ _ h => aNil_len h) h) h) rfl (ga_cons (ge_var (i := 1) rfl (.inl rfl)) (ga_cons (ge_gint rfl (gi_SIZE_OF_RELATION T)) ga_nil))))) (gw_or1 (gt_not (gt_tru rfl (ge_cal (c_is_kind T) rfl (fun _ _ _ _ _ _ us hl => match us, hl with | [_], _ => rfl) hr (by decide) tk (fun _ _ _ _ h => aCons_len (fun _ _ _ _ h => aNil_len h) h) rfl (ga_cons (ge_ix hr.u1 rfl (ge_var (i := 1) rfl (.inl rfl)) ge_int) ga_nil))))))) (gs_one (gs_ret ge_bl)) gs_nil) (gs_one (gs_ret (ge_and (ge_cal (c_is_layer T) rfl (fun _ _ _ _ _ _ us hl => match us, hl with | [_, _], _ => rfl) hr (by decide) tk (fun _ _ _ _ h => aCons_len (fun _ _ _ _ h => aCons_len (fun _ _ _ _ h => aNil_len h) h) h) rfl (ga_cons (ge_var (i := 0) rfl (.inl rfl)) (ga_cons (ge_ix hr.u1 rfl (ge_var (i := 1) rfl (.inl rfl)) ge_int) ga_nil))) (ge_and (ge_cal (c_is_layer T) rfl (fun _ _ _ _ _ _ us hl => match us, hl with | [_, _], _ => rfl) hr (by decide) tk (fun _ _ _ _ h => aCons_len (fun _ _ _ _ h => aCons_len (fun _ _ _ _ h => aNil_len h) h) h) rfl (ga_cons (ge_var (i := 0) rfl (.inl rfl)) (ga_cons (ge_ix hr.u1 rfl (ge_var (i := 1) rfl (.inl rfl)) ge_int) ga_nil))) (ge_one (ge_cmp (op_neP hr.u64) ops_ne (ge_ix hr.u1 rfl (ge_var (i := 1) rfl (.inl rfl)) ge_int) (ge_ix hr.u1 rfl (ge_var (i := 1) rfl (.inl rfl)) ge_int) rfl)))))))
theorem fd_wrong_relation (T : TT w h base mg K) : ∃ fd, Fd K d_wrong_relation fd := T.c.t.d.def_ 25 (d := d_wrong_relation) rfl
theorem sc_wrong_relation : FnScope (["layers", "value"] : List PySem.Str) (["layers", "value"] : List PySem.Str) d_wrong_relation.scope := ⟨rfl, rfl, rfl, by decide +kernel, rfl, by decide +kernel, by decide +kernel⟩
def lam_wrong_relation_0 : LamW := match defBody (top 64) with
  | [(.Return (some (.Call _ [_, (.Lambda ps b sc _)] _ _)) _)] => ⟨"wrong_relation.<locals>.<lambda>", ps, b, sc⟩
  | _ => ⟨"", ⟨[], [], none, [], [], none, []⟩, .Constant .none 0 ⟨0, 0, 0, 0⟩, ⟨.function, [], false, false, []⟩⟩
theorem ls_wrong_relation_0 : NScope (["each", "ahead", "layers"] : List PySem.Str) (["each", "ahead"] : List PySem.Str) (["layers"] : List PySem.Str) lam_wrong_relation_0.scope := ⟨rfl, rfl, rfl, by decide +kernel, rfl, by decide +kernel, by decide +kernel, by decide +kernel, by decide +kernel⟩
theorem lb_wrong_relation_0 (T : TT w h base mg K) : LamB P w K mg base (ctOf tfn K sa ns bs) 3 (["each", "ahead", "layers"] : List PySem.Str) lam_wrong_relation_0 (dl_wrong_relation_0 (He.ga K) 0) := by
  intro cl0 c1 f1 A outer s H E hr
  have S := ls_wrong_relation_0
  exact (ge_and (ge_cal (c_is_relation T) rfl (fun _ _ _ _ _ _ us hl => match us, hl with | [_, _], _ => rfl) hr (by decide) (takes_of rfl rfl rfl rfl) (fun _ _ _ _ h => aCons_len (fun _ _ _ _ h => aCons_len (fun _ _ _ _ h => aNil_len h) h) h) rfl (ga_cons (ge_var (i := 2) rfl (.inr (.inr rfl))) (ga_cons (ge_var (i := 0) rfl (.inl rfl)) ga_nil))) (ge_one (ge_cmp (op_notInAll hr.u65) ops_notIn (ge_var (i := 0) rfl (.inl rfl)) (ge_var (i := 1) rfl (.inl rfl)) rfl)))
theorem c_wrong_relation (T : TT w h base mg K) : Cal P w K mg base (ctOf tfn K sa ns bs) 6 "wrong_relation" d_wrong_relation (["layers", "value"] : List PySem.Str) (D_wrong_relation (He.ga K) 0) := by
  refine cal_of (k := 5) (gm_wrong_relation T) (fd_wrong_relation T) sc_wrong_relation fun fd cdv A outer s H E ecd hr => ?_
  have S := sc_wrong_relation
  have tk : Takes (cxOf (CX P w) P w K mg base (["layers", "value"] : List PySem.Str) d_wrong_relation.qual d_wrong_relation.scope (He.fAd K d_wrong_relation.at_) cdv A outer s H E) (fun cls d _ H => E cls d H) := takes_of rfl rfl rfl rfl
  exact (gs_one (gs_ret (ge_lamC (tfn := tfn) (js := [0]) (N := (["each", "ahead", "layers"] : List PySem.Str)) (fr := (["layers"] : List PySem.Str)) (ps := (["each", "ahead"] : List PySem.Str)) (Ng := (["value", "is_right", "index", "each"] : List PySem.Str)) (F := lam_wrong_relation_0) (at_ := ("wrong_relation", none)) (kg := 4) (kl := 3) T (fd_first_wrong T) rfl rfl (fun _ _ _ _ _ _ us hl => match us, hl with | [_, _], _ => rfl) sc_first_wrong (fun bs => td_first_wrong (by decide) T) (fun bs => lb_wrong_relation_0 T) ls_wrong_relation_0 rfl (by decide +kernel) (nd_ T) rfl (fun _ _ _ _ us hl => match us, hl with | [_, _], _ => rfl) ecd hr (by decide) (by decide) (show ∀ y ∈ lam_wrong_relation_0.scope.names, y.2 = .free → (defScope (top 64)).names.lookup y.1 = some .cell ∨ (defScope (top 64)).names.lookup y.1 = some .free from by decide +kernel) (by decide +kernel) rfl rfl tk rfl (gm_first_wrong T) (ge_var (i := 1) rfl (.inl rfl)))))
theorem fd_check_relations (T : TT w h base mg K) : ∃ fd, Fd K d_check_relations fd := T.c.t.d.def_ 26 (d := d_check_relations) rfl
theorem sc_check_relations : FnScope (["layers", "relations", "wrong"] : List PySem.Str) (["layers", "relations"] : List PySem.Str) d_check_relations.scope := ⟨rfl, rfl, rfl, by decide +kernel, rfl, by decide +kernel, by decide +kernel⟩
theorem c_check_relations (T : TT w h base mg K) : Cal P w K mg base (ctOf tfn K sa ns bs) 7 "check_relations" d_check_relations (["layers", "relations"] : List PySem.Str) (D_check_relations (He.ga K) 0) := by
  refine cal_of (k := 6) (gm_check_relations T) (fd_check_relations T) sc_check_relations fun fd cdv A outer s H E ecd hr => ?_
  have S := sc_check_relations
  have tk : Takes (cxOf (CX P w) P w K mg base (["layers", "relations", "wrong"] : List PySem.Str) d_check_relations.qual d_check_relations.scope (He.fAd K d_check_relations.at_) cdv A outer s H E) (fun cls d _ H => E cls d H) := takes_of rfl rfl rfl rfl
  exact (gs_cons (gs_if (gt_not (gt_tru rfl (ge_cal (c_is_row T) rfl (fun _ _ _ _ _ _ us hl => match us, hl with | [_, _, _], _ => rfl) hr (by decide) tk (fun _ _ _ _ h => aCons_len (fun _ _ _ _ h => aCons_len (fun _ _ _ _ h => aCons_len (fun _ _ _ _ h => aNil_len h) h) h) h) rfl (ga_cons (ge_var (i := 1) rfl (.inl rfl)) (ga_cons ge_int (ga_cons (ge_gint rfl (gi_MOST_RELATIONS T)) ga_nil)))))) (gs_one (gs_raise rfl (ei_InvalidRelations T) hr (by decide) tk rfl (gm_InvalidRelations T) ge_non)) gs_nil) (gs_cons (gs_set (i := 2) S.nd rfl (.inl rfl) (ge_cal (c_wrong_relation T) rfl (fun _ _ _ _ _ _ us hl => match us, hl with | [_, _], _ => rfl) hr (by decide) tk (fun _ _ _ _ h => aCons_len (fun _ _ _ _ h => aCons_len (fun _ _ _ _ h => aNil_len h) h) h) rfl (ga_cons (ge_var (i := 0) rfl (.inl rfl)) (ga_cons (ge_var (i := 1) rfl (.inl rfl)) ga_nil)))) (gs_one (gs_if (gt_cmp op_notN ops_notN (ge_var (i := 2) rfl (.inl rfl)) ge_non rfl) (gs_one (gs_raise rfl (ei_InvalidRelations T) hr (by decide) tk rfl (gm_InvalidRelations T) (ge_var (i := 2) rfl (.inl rfl)))) gs_nil))))
theorem fd_is_weight (T : TT w h base mg K) : ∃ fd, Fd K d_is_weight fd := T.c.t.d.def_ 27 (d := d_is_weight) rfl
theorem sc_is_weight : FnScope (["value"] : List PySem.Str) (["value"] : List PySem.Str) d_is_weight.scope := ⟨rfl, rfl, rfl, by decide +kernel, rfl, by decide +kernel, by decide +kernel⟩
theorem c_is_weight (T : TT w h base mg K) : Cal P w K mg base (ctOf tfn K sa ns bs) 3 "is_weight" d_is_weight (["value"] : List PySem.Str) (D_is_weight (He.ga K) 0) := by
  refine cal_of (k := 2) (gm_is_weight T) (fd_is_weight T) sc_is_weight fun fd cdv A outer s H E ecd hr => ?_
  have S := sc_is_weight
  have tk : Takes (cxOf (CX P w) P w K mg base (["value"] : List PySem.Str) d_is_weight.qual d_is_weight.scope (He.fAd K d_is_weight.at_) cdv A outer s H E) (fun cls d _ H => E cls d H) := takes_of rfl rfl rfl rfl
  exact (gs_one (gs_ret (ge_cal (c_is_between T) rfl (fun _ _ _ _ _ _ us hl => match us, hl with | [_, _, _], _ => rfl) hr (by decide) tk (fun _ _ _ _ h => aCons_len (fun _ _ _ _ h => aCons_len (fun _ _ _ _ h => aCons_len (fun _ _ _ _ h => aNil_len h) h) h) h) rfl (ga_cons (ge_var (i := 0) rfl (.inl rfl)) (ga_cons ge_int (ga_cons (ge_gint rfl (gi_MOST_WEIGHT T)) ga_nil))))))
theorem fd_is_doubt (T : TT w h base mg K) : ∃ fd, Fd K d_is_doubt fd := T.c.t.d.def_ 28 (d := d_is_doubt) rfl
theorem sc_is_doubt : FnScope (["layers", "value"] : List PySem.Str) (["layers", "value"] : List PySem.Str) d_is_doubt.scope := ⟨rfl, rfl, rfl, by decide +kernel, rfl, by decide +kernel, by decide +kernel⟩
theorem c_is_doubt (T : TT w h base mg K) : Cal P w K mg base (ctOf tfn K sa ns bs) 4 "is_doubt" d_is_doubt (["layers", "value"] : List PySem.Str) (D_is_doubt (He.ga K) 0) := by
  refine cal_of (k := 3) (gm_is_doubt T) (fd_is_doubt T) sc_is_doubt fun fd cdv A outer s H E ecd hr => ?_
  have S := sc_is_doubt
  have tk : Takes (cxOf (CX P w) P w K mg base (["layers", "value"] : List PySem.Str) d_is_doubt.qual d_is_doubt.scope (He.fAd K d_is_doubt.at_) cdv A outer s H E) (fun cls d _ H => E cls d H) := takes_of rfl rfl rfl rfl
  exact (gs_cons (gs_if (gt_not (gt_tru rfl (ge_cal (c_is_tuple_of T) rfl (fun _ _ _ _ _ _ us hl => match us, hl with | [_, _], _ => rfl) hr (by decide) tk (fun _ _ _ _ h => aCons_len (fun _ _ _ _ h => aCons_len (fun _ _ _ _ h => aNil_len h) h) h) rfl (ga_cons (ge_var (i := 1) rfl (.inl rfl)) (ga_cons (ge_gint rfl (gi_SIZE_OF_DOUBT T)) ga_nil))))) (gs_one (gs_ret ge_bl)) gs_nil) (gs_one (gs_ret (ge_and (ge_cal (c_is_relation T) rfl (fun _ _ _ _ _ _ us hl => match us, hl with | [_, _], _ => rfl) hr (by decide) tk (fun _ _ _ _ h => aCons_len (fun _ _ _ _ h => aCons_len (fun _ _ _ _ h => aNil_len h) h) h) rfl (ga_cons (ge_var (i := 0) rfl (.inl rfl)) (ga_cons (ge_sl rfl (ge_var (i := 1) rfl (.inl rfl)) go_none (go_some (ge_gint rfl (gi_SIZE_OF_RELATION T)))) ga_nil))) (ge_one (ge_cal (c_is_weight T) rfl (fun _ _ _ _ _ _ us hl => match us, hl with | [_], _ => rfl) hr (by decide) tk (fun _ _ _ _ h => aCons_len (fun _ _ _ _ h => aNil_len h) h) rfl (ga_cons (ge_ix hr.u1 rfl (ge_var (i := 1) rfl (.inl rfl)) (ge_gint rfl (gi_SIZE_OF_RELATION T))) ga_nil)))))))
theorem fd_is_new_doubt (T : TT w h base mg K) : ∃ fd, Fd K d_is_new_doubt fd := T.c.t.d.def_ 29 (d := d_is_new_doubt) rfl
theorem sc_is_new_doubt : FnScope (["doubt", "doubts", "each"] : List PySem.Str) (["doubt", "doubts"] : List PySem.Str) d_is_new_doubt.scope := ⟨rfl, rfl, rfl, by decide +kernel, rfl, by decide +kernel, by decide +kernel⟩
theorem c_is_new_doubt (T : TT w h base mg K) : Cal P w K mg base (ctOf tfn K sa ns bs) 1 "is_new_doubt" d_is_new_doubt (["doubt", "doubts"] : List PySem.Str) (D_is_new_doubt (He.ga K) 0) := by
  refine cal_of (k := 0) (gm_is_new_doubt T) (fd_is_new_doubt T) sc_is_new_doubt fun fd cdv A outer s H E ecd hr => ?_
  have S := sc_is_new_doubt
  have tk : Takes (cxOf (CX P w) P w K mg base (["doubt", "doubts", "each"] : List PySem.Str) d_is_new_doubt.qual d_is_new_doubt.scope (He.fAd K d_is_new_doubt.at_) cdv A outer s H E) (fun cls d _ H => E cls d H) := takes_of rfl rfl rfl rfl
  exact (gs_one (gs_ret (ge_cmp (op_notInAll hr.u65) ops_notIn (ge_sl rfl (ge_var (i := 0) rfl (.inl rfl)) go_none (go_some (ge_gint rfl (gi_SIZE_OF_RELATION T)))) (ge_lc (own := [(("each" : PySem.Str), 2)]) rfl S.nd (gi_val rfl (ge_var (i := 1) rfl (.inl rfl))) (blkOk_by (scope := ({ kind := PySem.ScopeKind.function, names := [((".0" : PySem.Str), PySem.NameKind.local), (("each" : PySem.Str), PySem.NameKind.local), (("SIZE_OF_RELATION" : PySem.Str), PySem.NameKind.globalImplicit)], isGenerator := false, isCoroutine := false, more := [] } : PySem.Scope)) (own := [(("each" : PySem.Str), 2)]) (show blkC (["doubt", "doubts", "each"] : List PySem.Str) (defScope (top 66)) ({ kind := PySem.ScopeKind.function, names := [((".0" : PySem.Str), PySem.NameKind.local), (("each" : PySem.Str), PySem.NameKind.local), (("SIZE_OF_RELATION" : PySem.Str), PySem.NameKind.globalImplicit)], isGenerator := false, isCoroutine := false, more := [] } : PySem.Scope) [(("each" : PySem.Str), 2)] = true by decide +kernel)) (fun _ _ _ _ _ => (gv_name (i := 2) (by decide) S.nd rfl (.inl rfl))) (fun _ _ _ _ _ => gts_nil) (fun _ _ _ _ _ => (ge_sl rfl (ge_var (i := 2) rfl (.inl rfl)) go_none (go_some (ge_gint rfl (gi_SIZE_OF_RELATION T)))))) rfl)))
theorem fd_wrong_doubt (T : TT w h base mg K) : ∃ fd, Fd K d_wrong_doubt fd := T.c.t.d.def_ 30 (d := d_wrong_doubt) rfl
theorem sc_wrong_doubt : FnScope (["layers", "value"] : List PySem.Str) (["layers", "value"] : List PySem.Str) d_wrong_doubt.scope := ⟨rfl, rfl, rfl, by decide +kernel, rfl, by decide +kernel, by decide +kernel⟩
def lam_wrong_doubt_0 : LamW := match defBody (top 65) with
  | [(.Return (some (.Call _ [_, (.Lambda ps b sc _)] _ _)) _)] => ⟨"wrong_doubt.<locals>.<lambda>", ps, b, sc⟩
  | _ => ⟨"", ⟨[], [], none, [], [], none, []⟩, .Constant .none 0 ⟨0, 0, 0, 0⟩, ⟨.function, [], false, false, []⟩⟩
theorem ls_wrong_doubt_0 : NScope (["each", "ahead", "layers"] : List PySem.Str) (["each", "ahead"] : List PySem.Str) (["layers"] : List PySem.Str) lam_wrong_doubt_0.scope := ⟨rfl, rfl, rfl, by decide +kernel, rfl, by decide +kernel, by decide +kernel, by decide +kernel, by decide +kernel⟩
theorem lb_wrong_doubt_0 (T : TT w h base mg K) : LamB P w K mg base (ctOf tfn K sa ns bs) 4 (["each", "ahead", "layers"] : List PySem.Str) lam_wrong_doubt_0 (dl_wrong_doubt_0 (He.ga K) 0) := by
  intro cl0 c1 f1 A outer s H E hr
  have S := ls_wrong_doubt_0
  exact (ge_and (ge_cal (c_is_doubt T) rfl (fun _ _ _ _ _ _ us hl => match us, hl with | [_, _], _ => rfl) hr (by decide) (takes_of rfl rfl rfl rfl) (fun _ _ _ _ h => aCons_len (fun _ _ _ _ h => aCons_len (fun _ _ _ _ h => aNil_len h) h) h) rfl (ga_cons (ge_var (i := 2) rfl (.inr (.inr rfl))) (ga_cons (ge_var (i := 0) rfl (.inl rfl)) ga_nil))) (ge_one (ge_cal (c_is_new_doubt T) rfl (fun _ _ _ _ _ _ us hl => match us, hl with | [_, _], _ => rfl) hr (by decide) (takes_of rfl rfl rfl rfl) (fun _ _ _ _ h => aCons_len (fun _ _ _ _ h => aCons_len (fun _ _ _ _ h => aNil_len h) h) h) rfl (ga_cons (ge_var (i := 0) rfl (.inl rfl)) (ga_cons (ge_var (i := 1) rfl (.inl rfl)) ga_nil)))))
theorem c_wrong_doubt (T : TT w h base mg K) : Cal P w K mg base (ctOf tfn K sa ns bs) 7 "wrong_doubt" d_wrong_doubt (["layers", "value"] : List PySem.Str) (D_wrong_doubt (He.ga K) 0) := by
  refine cal_of (k := 6) (gm_wrong_doubt T) (fd_wrong_doubt T) sc_wrong_doubt fun fd cdv A outer s H E ecd hr => ?_
  have S := sc_wrong_doubt
  have tk : Takes (cxOf (CX P w) P w K mg base (["layers", "value"] : List PySem.Str) d_wrong_doubt.qual d_wrong_doubt.scope (He.fAd K d_wrong_doubt.at_) cdv A outer s H E) (fun cls d _ H => E cls d H) := takes_of rfl rfl rfl rfl
  exact (gs_one (gs_ret (ge_lamC (tfn := tfn) (js := [0]) (N := (["each", "ahead", "layers"] : List PySem.Str)) (fr := (["layers"] : List PySem.Str)) (ps := (["each", "ahead"] : List PySem.Str)) (Ng := (["value", "is_right", "index", "each"] : List PySem.Str)) (F := lam_wrong_doubt_0) (at_ := ("wrong_doubt", none)) (kg := 5) (kl := 4) T (fd_first_wrong T) rfl rfl (fun _ _ _ _ _ _ us hl => match us, hl with | [_, _], _ => rfl) sc_first_wrong (fun bs => td_first_wrong (by decide) T) (fun bs => lb_wrong_doubt_0 T) ls_wrong_doubt_0 rfl (by decide +kernel) (nd_ T) rfl (fun _ _ _ _ us hl => match us, hl with | [_, _], _ => rfl) ecd hr (by decide) (by decide) (show ∀ y ∈ lam_wrong_doubt_0.scope.names, y.2 = .free → (defScope (top 65)).names.lookup y.1 = some .cell ∨ (defScope (top 65)).names.lookup y.1 = some .free from by decide +kernel) (by decide +kernel) rfl rfl tk rfl (gm_first_wrong T) (ge_var (i := 1) rfl (.inl rfl)))))
theorem fd_check_doubts (T : TT w h base mg K) : ∃ fd, Fd K d_check_doubts fd := T.c.t.d.def_ 31 (d := d_check_doubts) rfl
theorem sc_check_doubts : FnScope (["layers", "doubts", "wrong"] : List PySem.Str) (["layers", "doubts"] : List PySem.Str) d_check_doubts.scope := ⟨rfl, rfl, rfl, by decide +kernel, rfl, by decide +kernel, by decide +kernel⟩
theorem c_check_doubts (T : TT w h base mg K) : Cal P w K mg base (ctOf tfn K sa ns bs) 8 "check_doubts" d_check_doubts (["layers", "doubts"] : List PySem.Str) (D_check_doubts (He.ga K) 0) := by
  refine cal_of (k := 7) (gm_check_doubts T) (fd_check_doubts T) sc_check_doubts fun fd cdv A outer s H E ecd hr => ?_
  have S := sc_check_doubts
  have tk : Takes (cxOf (CX P w) P w K mg base (["layers", "doubts", "wrong"] : List PySem.Str) d_check_doubts.qual d_check_doubts.scope (He.fAd K d_check_doubts.at_) cdv A outer s H E) (fun cls d _ H => E cls d H) := takes_of rfl rfl rfl rfl
  exact (gs_cons (gs_if (gt_not (gt_tru rfl (ge_cal (c_is_row T) rfl (fun _ _ _ _ _ _ us hl => match us, hl with | [_, _, _], _ => rfl) hr (by decide) tk (fun _ _ _ _ h => aCons_len (fun _ _ _ _ h => aCons_len (fun _ _ _ _ h => aCons_len (fun _ _ _ _ h => aNil_len h) h) h) h) rfl (ga_cons (ge_var (i := 1) rfl (.inl rfl)) (ga_cons ge_int (ga_cons (ge_gint rfl (gi_MOST_DOUBTS T)) ga_nil)))))) (gs_one (gs_raise rfl (ei_InvalidDoubts T) hr (by decide) tk rfl (gm_InvalidDoubts T) ge_non)) gs_nil) (gs_cons (gs_set (i := 2) S.nd rfl (.inl rfl) (ge_cal (c_wrong_doubt T) rfl (fun _ _ _ _ _ _ us hl => match us, hl with | [_, _], _ => rfl) hr (by decide) tk (fun _ _ _ _ h => aCons_len (fun _ _ _ _ h => aCons_len (fun _ _ _ _ h => aNil_len h) h) h) rfl (ga_cons (ge_var (i := 0) rfl (.inl rfl)) (ga_cons (ge_var (i := 1) rfl (.inl rfl)) ga_nil)))) (gs_one (gs_if (gt_cmp op_notN ops_notN (ge_var (i := 2) rfl (.inl rfl)) ge_non rfl) (gs_one (gs_raise rfl (ei_InvalidDoubts T) hr (by decide) tk rfl (gm_InvalidDoubts T) (ge_var (i := 2) rfl (.inl rfl)))) gs_nil))))
theorem fd_is_year (T : TT w h base mg K) : ∃ fd, Fd K d_is_year fd := T.c.t.d.def_ 32 (d := d_is_year) rfl
theorem sc_is_year : FnScope (["last", "value"] : List PySem.Str) (["last", "value"] : List PySem.Str) d_is_year.scope := ⟨rfl, rfl, rfl, by decide +kernel, rfl, by decide +kernel, by decide +kernel⟩
theorem c_is_year (T : TT w h base mg K) : Cal P w K mg base (ctOf tfn K sa ns bs) 3 "is_year" d_is_year (["last", "value"] : List PySem.Str) (D_is_year (He.ga K) 0) := by
  refine cal_of (k := 2) (gm_is_year T) (fd_is_year T) sc_is_year fun fd cdv A outer s H E ecd hr => ?_
  have S := sc_is_year
  have tk : Takes (cxOf (CX P w) P w K mg base (["last", "value"] : List PySem.Str) d_is_year.qual d_is_year.scope (He.fAd K d_is_year.at_) cdv A outer s H E) (fun cls d _ H => E cls d H) := takes_of rfl rfl rfl rfl
  exact (gs_one (gs_ret (ge_cal (c_is_between T) rfl (fun _ _ _ _ _ _ us hl => match us, hl with | [_, _, _], _ => rfl) hr (by decide) tk (fun _ _ _ _ h => aCons_len (fun _ _ _ _ h => aCons_len (fun _ _ _ _ h => aCons_len (fun _ _ _ _ h => aNil_len h) h) h) h) rfl (ga_cons (ge_var (i := 1) rfl (.inl rfl)) (ga_cons ge_int (ga_cons (ge_var (i := 0) rfl (.inl rfl)) ga_nil))))))
theorem fd_is_span (T : TT w h base mg K) : ∃ fd, Fd K d_is_span fd := T.c.t.d.def_ 33 (d := d_is_span) rfl
theorem sc_is_span : FnScope (["last", "value"] : List PySem.Str) (["last", "value"] : List PySem.Str) d_is_span.scope := ⟨rfl, rfl, rfl, by decide +kernel, rfl, by decide +kernel, by decide +kernel⟩
theorem c_is_span (T : TT w h base mg K) : Cal P w K mg base (ctOf tfn K sa ns bs) 4 "is_span" d_is_span (["last", "value"] : List PySem.Str) (D_is_span (He.ga K) 0) := by
  refine cal_of (k := 3) (gm_is_span T) (fd_is_span T) sc_is_span fun fd cdv A outer s H E ecd hr => ?_
  have S := sc_is_span
  have tk : Takes (cxOf (CX P w) P w K mg base (["last", "value"] : List PySem.Str) d_is_span.qual d_is_span.scope (He.fAd K d_is_span.at_) cdv A outer s H E) (fun cls d _ H => E cls d H) := takes_of rfl rfl rfl rfl
  exact (gs_cons (gs_if (gt_w (gw_or (gt_not (gt_tru rfl (ge_cal (c_is_tuple_of T) rfl (fun _ _ _ _ _ _ us hl => match us, hl with | [_, _], _ => rfl) hr (by decide) tk (fun _ _ _ _ h => aCons_len (fun _ _ _ _ h => aCons_len (fun _ _ _ _ h => aNil_len h) h) h) rfl (ga_cons (ge_var (i := 1) rfl (.inl rfl)) (ga_cons ge_int ga_nil))))) (gw_or (gt_not (gt_tru rfl (ge_cal (c_is_year T) rfl (fun _ _ _ _ _ _ us hl => match us, hl with | [_, _], _ => rfl) hr (by decide) tk (fun _ _ _ _ h => aCons_len (fun _ _ _ _ h => aCons_len (fun _ _ _ _ h => aNil_len h) h) h) rfl (ga_cons (ge_var (i := 0) rfl (.inl rfl)) (ga_cons (ge_ix hr.u1 rfl (ge_var (i := 1) rfl (.inl rfl)) ge_int) ga_nil))))) (gw_or1 (gt_not (gt_tru rfl (ge_cal (c_is_year T) rfl (fun _ _ _ _ _ _ us hl => match us, hl with | [_, _], _ => rfl) hr (by decide) tk (fun _ _ _ _ h => aCons_len (fun _ _ _ _ h => aCons_len (fun _ _ _ _ h => aNil_len h) h) h) rfl (ga_cons (ge_var (i := 0) rfl (.inl rfl)) (ga_cons (ge_ix hr.u1 rfl (ge_var (i := 1) rfl (.inl rfl)) ge_int) ga_nil))))))))) (gs_one (gs_ret ge_bl)) gs_nil) (gs_one (gs_ret (ge_cmp op_leA ops_cmp (ge_ix hr.u1 rfl (ge_var (i := 1) rfl (.inl rfl)) ge_int) (ge_ix hr.u1 rfl (ge_var (i := 1) rfl (.inl rfl)) ge_int) rfl))))
theorem fd_is_behind (T : TT w h base mg K) : ∃ fd, Fd K d_is_behind fd := T.c.t.d.def_ 34 (d := d_is_behind) rfl
theorem sc_is_behind : FnScope (["last", "span", "ahead"] : List PySem.Str) (["last", "span", "ahead"] : List PySem.Str) d_is_behind.scope := ⟨rfl, rfl, rfl, by decide +kernel, rfl, by decide +kernel, by decide +kernel⟩
theorem c_is_behind (T : TT w h base mg K) : Cal P w K mg base (ctOf tfn K sa ns bs) 5 "is_behind" d_is_behind (["last", "span", "ahead"] : List PySem.Str) (D_is_behind (He.ga K) 0) := by
  refine cal_of (k := 4) (gm_is_behind T) (fd_is_behind T) sc_is_behind fun fd cdv A outer s H E ecd hr => ?_
  have S := sc_is_behind
  have tk : Takes (cxOf (CX P w) P w K mg base (["last", "span", "ahead"] : List PySem.Str) d_is_behind.qual d_is_behind.scope (He.fAd K d_is_behind.at_) cdv A outer s H E) (fun cls d _ H => E cls d H) := takes_of rfl rfl rfl rfl
  exact (gs_one (gs_ret (ge_and (ge_cal (c_is_span T) rfl (fun _ _ _ _ _ _ us hl => match us, hl with | [_, _], _ => rfl) hr (by decide) tk (fun _ _ _ _ h => aCons_len (fun _ _ _ _ h => aCons_len (fun _ _ _ _ h => aNil_len h) h) h) rfl (ga_cons (ge_var (i := 0) rfl (.inl rfl)) (ga_cons (ge_var (i := 1) rfl (.inl rfl)) ga_nil))) (ge_one (ge_or (ge_cmp (op_eqP hr.u64) ops_eq (ge_var (i := 2) rfl (.inl rfl)) (ge_tup ga_nil) rfl) (ge_one (ge_cmp op_geA ops_cmp (ge_ix hr.u1 rfl (ge_var (i := 1) rfl (.inl rfl)) ge_int) (ge_bin op_addAll ops_add (ge_ix hr.u1 rfl (ge_ix hr.u1 rfl (ge_var (i := 2) rfl (.inl rfl)) (ge_un un_neg uns_neg ge_int)) ge_int) ge_int) rfl)))))))
theorem fd_are_spans (T : TT w h base mg K) : ∃ fd, Fd K d_are_spans fd := T.c.t.d.def_ 35 (d := d_are_spans) rfl
theorem sc_are_spans : FnScope (["last", "value"] : List PySem.Str) (["last", "value"] : List PySem.Str) d_are_spans.scope := ⟨rfl, rfl, rfl, by decide +kernel, rfl, by decide +kernel, by decide +kernel⟩
def lam_are_spans_0 : LamW := match defBody (top 60) with
  | [(.Return (some (.BoolOp _ [_, (.Compare (.Call _ [_, (.Lambda ps b sc _)] _ _) _ _ _)] _)) _)] => ⟨"are_spans.<locals>.<lambda>", ps, b, sc⟩
  | _ => ⟨"", ⟨[], [], none, [], [], none, []⟩, .Constant .none 0 ⟨0, 0, 0, 0⟩, ⟨.function, [], false, false, []⟩⟩
theorem ls_are_spans_0 : NScope (["span", "ahead", "last"] : List PySem.Str) (["span", "ahead"] : List PySem.Str) (["last"] : List PySem.Str) lam_are_spans_0.scope := ⟨rfl, rfl, rfl, by decide +kernel, rfl, by decide +kernel, by decide +kernel, by decide +kernel, by decide +kernel⟩
theorem lb_are_spans_0 (T : TT w h base mg K) : LamB P w K mg base (ctOf tfn K sa ns bs) 5 (["span", "ahead", "last"] : List PySem.Str) lam_are_spans_0 (dl_are_spans_0 (He.ga K) 0) := by
  intro cl0 c1 f1 A outer s H E hr
  have S := ls_are_spans_0
  exact (ge_cal (c_is_behind T) rfl (fun _ _ _ _ _ _ us hl => match us, hl with | [_, _, _], _ => rfl) hr (by decide) (takes_of rfl rfl rfl rfl) (fun _ _ _ _ h => aCons_len (fun _ _ _ _ h => aCons_len (fun _ _ _ _ h => aCons_len (fun _ _ _ _ h => aNil_len h) h) h) h) rfl (ga_cons (ge_var (i := 2) rfl (.inr (.inr rfl))) (ga_cons (ge_var (i := 0) rfl (.inl rfl)) (ga_cons (ge_var (i := 1) rfl (.inl rfl)) ga_nil))))
theorem c_are_spans (T : TT w h base mg K) : Cal P w K mg base (ctOf tfn K sa ns bs) 8 "are_spans" d_are_spans (["last", "value"] : List PySem.Str) (D_are_spans (He.ga K) 0) := by
  refine cal_of (k := 7) (gm_are_spans T) (fd_are_spans T) sc_are_spans fun fd cdv A outer s H E ecd hr => ?_
  have S := sc_are_spans
  have tk : Takes (cxOf (CX P w) P w K mg base (["last", "value"] : List PySem.Str) d_are_spans.qual d_are_spans.scope (He.fAd K d_are_spans.at_) cdv A outer s H E) (fun cls d _ H => E cls d H) := takes_of rfl rfl rfl rfl
  exact (gs_one (gs_ret (ge_and (ge_cal (c_is_row T) rfl (fun _ _ _ _ _ _ us hl => match us, hl with | [_, _, _], _ => rfl) hr (by decide) tk (fun _ _ _ _ h => aCons_len (fun _ _ _ _ h => aCons_len (fun _ _ _ _ h => aCons_len (fun _ _ _ _ h => aNil_len h) h) h) h) rfl (ga_cons (ge_var (i := 1) rfl (.inl rfl)) (ga_cons ge_int (ga_cons (ge_gint rfl (gi_MOST_SPANS T)) ga_nil)))) (ge_one (ge_cmp op_isN ops_isN (ge_lamC (tfn := tfn) (js := [0]) (N := (["span", "ahead", "last"] : List PySem.Str)) (fr := (["last"] : List PySem.Str)) (ps := (["span", "ahead"] : List PySem.Str)) (Ng := (["value", "is_right", "index", "each"] : List PySem.Str)) (F := lam_are_spans_0) (at_ := ("are_spans", none)) (kg := 6) (kl := 5) T (fd_first_wrong T) rfl rfl (fun _ _ _ _ _ _ us hl => match us, hl with | [_, _], _ => rfl) sc_first_wrong (fun bs => td_first_wrong (by decide) T) (fun bs => lb_are_spans_0 T) ls_are_spans_0 rfl (by decide +kernel) (nd_ T) rfl (fun _ _ _ _ us hl => match us, hl with | [_, _], _ => rfl) ecd hr (by decide) (by decide) (show ∀ y ∈ lam_are_spans_0.scope.names, y.2 = .free → (defScope (top 60)).names.lookup y.1 = some .cell ∨ (defScope (top 60)).names.lookup y.1 = some .free from by decide +kernel) (by decide +kernel) rfl rfl tk rfl (gm_first_wrong T) (ge_var (i := 1) rfl (.inl rfl))) ge_non rfl)))))
theorem fd_is_find (T : TT w h base mg K) : ∃ fd, Fd K d_is_find fd := T.c.t.d.def_ 36 (d := d_is_find) rfl
theorem sc_is_find : FnScope (["layers", "last", "value"] : List PySem.Str) (["layers", "last", "value"] : List PySem.Str) d_is_find.scope := ⟨rfl, rfl, rfl, by decide +kernel, rfl, by decide +kernel, by decide +kernel⟩
theorem c_is_find (T : TT w h base mg K) : Cal P w K mg base (ctOf tfn K sa ns bs) 9 "is_find" d_is_find (["layers", "last", "value"] : List PySem.Str) (D_is_find (He.ga K) 0) := by
  refine cal_of (k := 8) (gm_is_find T) (fd_is_find T) sc_is_find fun fd cdv A outer s H E ecd hr => ?_
  have S := sc_is_find
  have tk : Takes (cxOf (CX P w) P w K mg base (["layers", "last", "value"] : List PySem.Str) d_is_find.qual d_is_find.scope (He.fAd K d_is_find.at_) cdv A outer s H E) (fun cls d _ H => E cls d H) := takes_of rfl rfl rfl rfl
  exact (gs_cons (gs_if (gt_w (gw_or (gt_not (gt_tru rfl (ge_cal (c_is_tuple_of T) rfl (fun _ _ _ _ _ _ us hl => match us, hl with | [_, _], _ => rfl) hr (by decide) tk (fun _ _ _ _ h => aCons_len (fun _ _ _ _ h => aCons_len (fun _ _ _ _ h => aNil_len h) h) h) rfl (ga_cons (ge_var (i := 2) rfl (.inl rfl)) (ga_cons (ge_gint rfl (gi_SIZE_OF_FIND T)) ga_nil))))) (gw_or1 (gt_not (gt_tru rfl (ge_cal (c_is_layer T) rfl (fun _ _ _ _ _ _ us hl => match us, hl with | [_, _], _ => rfl) hr (by decide) tk (fun _ _ _ _ h => aCons_len (fun _ _ _ _ h => aCons_len (fun _ _ _ _ h => aNil_len h) h) h) rfl (ga_cons (ge_var (i := 0) rfl (.inl rfl)) (ga_cons (ge_ix hr.u1 rfl (ge_var (i := 2) rfl (.inl rfl)) ge_int) ga_nil)))))))) (gs_one (gs_ret ge_bl)) gs_nil) (gs_one (gs_ret (ge_and (ge_cal (c_are_spans T) rfl (fun _ _ _ _ _ _ us hl => match us, hl with | [_, _], _ => rfl) hr (by decide) tk (fun _ _ _ _ h => aCons_len (fun _ _ _ _ h => aCons_len (fun _ _ _ _ h => aNil_len h) h) h) rfl (ga_cons (ge_var (i := 1) rfl (.inl rfl)) (ga_cons (ge_ix hr.u1 rfl (ge_var (i := 2) rfl (.inl rfl)) ge_int) ga_nil))) (ge_one (ge_cal (c_is_weight T) rfl (fun _ _ _ _ _ _ us hl => match us, hl with | [_], _ => rfl) hr (by decide) tk (fun _ _ _ _ h => aCons_len (fun _ _ _ _ h => aNil_len h) h) rfl (ga_cons (ge_ix hr.u1 rfl (ge_var (i := 2) rfl (.inl rfl)) ge_int) ga_nil)))))))
theorem fd_wrong_find (T : TT w h base mg K) : ∃ fd, Fd K d_wrong_find fd := T.c.t.d.def_ 37 (d := d_wrong_find) rfl
theorem sc_wrong_find : FnScope (["layers", "last", "value"] : List PySem.Str) (["layers", "last", "value"] : List PySem.Str) d_wrong_find.scope := ⟨rfl, rfl, rfl, by decide +kernel, rfl, by decide +kernel, by decide +kernel⟩
def lam_wrong_find_0 : LamW := match defBody (top 67) with
  | [(.Return (some (.Call _ [_, (.Lambda ps b sc _)] _ _)) _)] => ⟨"wrong_find.<locals>.<lambda>", ps, b, sc⟩
  | _ => ⟨"", ⟨[], [], none, [], [], none, []⟩, .Constant .none 0 ⟨0, 0, 0, 0⟩, ⟨.function, [], false, false, []⟩⟩
theorem ls_wrong_find_0 : NScope (["each", "ahead", "last", "layers"] : List PySem.Str) (["each", "ahead"] : List PySem.Str) (["last", "layers"] : List PySem.Str) lam_wrong_find_0.scope := ⟨rfl, rfl, rfl, by decide +kernel, rfl, by decide +kernel, by decide +kernel, by decide +kernel, by decide +kernel⟩
theorem lb_wrong_find_0 (T : TT w h base mg K) : LamB P w K mg base (ctOf tfn K sa ns bs) 9 (["each", "ahead", "last", "layers"] : List PySem.Str) lam_wrong_find_0 (dl_wrong_find_0 (He.ga K) 0) := by
  intro cl0 c1 f1 A outer s H E hr
  have S := ls_wrong_find_0
  exact (ge_cal (c_is_find T) rfl (fun _ _ _ _ _ _ us hl => match us, hl with | [_, _, _], _ => rfl) hr (by decide) (takes_of rfl rfl rfl rfl) (fun _ _ _ _ h => aCons_len (fun _ _ _ _ h => aCons_len (fun _ _ _ _ h => aCons_len (fun _ _ _ _ h => aNil_len h) h) h) h) rfl (ga_cons (ge_var (i := 3) rfl (.inr (.inr rfl))) (ga_cons (ge_var (i := 2) rfl (.inr (.inr rfl))) (ga_cons (ge_var (i := 0) rfl (.inl rfl)) ga_nil))))
theorem c_wrong_find (T : TT w h base mg K) : Cal P w K mg base (ctOf tfn K sa ns bs) 12 "wrong_find" d_wrong_find (["layers", "last", "value"] : List PySem.Str) (D_wrong_find (He.ga K) 0) := by
  refine cal_of (k := 11) (gm_wrong_find T) (fd_wrong_find T) sc_wrong_find fun fd cdv A outer s H E ecd hr => ?_
  have S := sc_wrong_find
  have tk : Takes (cxOf (CX P w) P w K mg base (["layers", "last", "value"] : List PySem.Str) d_wrong_find.qual d_wrong_find.scope (He.fAd K d_wrong_find.at_) cdv A outer s H E) (fun cls d _ H => E cls d H) := takes_of rfl rfl rfl rfl
  exact (gs_one (gs_ret (ge_lamC (tfn := tfn) (js := [1, 0]) (N := (["each", "ahead", "last", "layers"] : List PySem.Str)) (fr := (["last", "layers"] : List PySem.Str)) (ps := (["each", "ahead"] : List PySem.Str)) (Ng := (["value", "is_right", "index", "each"] : List PySem.Str)) (F := lam_wrong_find_0) (at_ := ("wrong_find", none)) (kg := 10) (kl := 9) T (fd_first_wrong T) rfl rfl (fun _ _ _ _ _ _ us hl => match us, hl with | [_, _], _ => rfl) sc_first_wrong (fun bs => td_first_wrong (by decide) T) (fun bs => lb_wrong_find_0 T) ls_wrong_find_0 rfl (by decide +kernel) (nd_ T) rfl (fun _ _ _ _ us hl => match us, hl with | [_, _], _ => rfl) ecd hr (by decide) (by decide) (show ∀ y ∈ lam_wrong_find_0.scope.names, y.2 = .free → (defScope (top 67)).names.lookup y.1 = some .cell ∨ (defScope (top 67)).names.lookup y.1 = some .free from by decide +kernel) (by decide +kernel) rfl rfl tk rfl (gm_first_wrong T) (ge_var (i := 2) rfl (.inl rfl)))))
theorem fd_check_finds (T : TT w h base mg K) : ∃ fd, Fd K d_check_finds fd := T.c.t.d.def_ 38 (d := d_check_finds) rfl
theorem sc_check_finds : FnScope (["layers", "last", "finds", "wrong"] : List PySem.Str) (["layers", "last", "finds"] : List PySem.Str) d_check_finds.scope := ⟨rfl, rfl, rfl, by decide +kernel, rfl, by decide +kernel, by decide +kernel⟩
theorem c_check_finds (T : TT w h base mg K) : Cal P w K mg base (ctOf tfn K sa ns bs) 13 "check_finds" d_check_finds (["layers", "last", "finds"] : List PySem.Str) (D_check_finds (He.ga K) 0) := by
  refine cal_of (k := 12) (gm_check_finds T) (fd_check_finds T) sc_check_finds fun fd cdv A outer s H E ecd hr => ?_
  have S := sc_check_finds
  have tk : Takes (cxOf (CX P w) P w K mg base (["layers", "last", "finds", "wrong"] : List PySem.Str) d_check_finds.qual d_check_finds.scope (He.fAd K d_check_finds.at_) cdv A outer s H E) (fun cls d _ H => E cls d H) := takes_of rfl rfl rfl rfl
  exact (gs_cons (gs_if (gt_not (gt_tru rfl (ge_cal (c_is_row T) rfl (fun _ _ _ _ _ _ us hl => match us, hl with | [_, _, _], _ => rfl) hr (by decide) tk (fun _ _ _ _ h => aCons_len (fun _ _ _ _ h => aCons_len (fun _ _ _ _ h => aCons_len (fun _ _ _ _ h => aNil_len h) h) h) h) rfl (ga_cons (ge_var (i := 2) rfl (.inl rfl)) (ga_cons ge_int (ga_cons (ge_gint rfl (gi_MOST_FINDS T)) ga_nil)))))) (gs_one (gs_raise rfl (ei_InvalidFinds T) hr (by decide) tk rfl (gm_InvalidFinds T) ge_non)) gs_nil) (gs_cons (gs_set (i := 3) S.nd rfl (.inl rfl) (ge_cal (c_wrong_find T) rfl (fun _ _ _ _ _ _ us hl => match us, hl with | [_, _, _], _ => rfl) hr (by decide) tk (fun _ _ _ _ h => aCons_len (fun _ _ _ _ h => aCons_len (fun _ _ _ _ h => aCons_len (fun _ _ _ _ h => aNil_len h) h) h) h) rfl (ga_cons (ge_var (i := 0) rfl (.inl rfl)) (ga_cons (ge_var (i := 1) rfl (.inl rfl)) (ga_cons (ge_var (i := 2) rfl (.inl rfl)) ga_nil))))) (gs_one (gs_if (gt_cmp op_notN ops_notN (ge_var (i := 3) rfl (.inl rfl)) ge_non rfl) (gs_one (gs_raise rfl (ei_InvalidFinds T) hr (by decide) tk rfl (gm_InvalidFinds T) (ge_var (i := 3) rfl (.inl rfl)))) gs_nil))))
theorem fd_Sitedd_initdd (T : TT w h base mg K) : ∃ fd, Fd K d_Sitedd_initdd fd := T.c.t.d.def_ 39 (d := d_Sitedd_initdd) rfl
theorem sc_Sitedd_initdd : FnScope (["self", "layers", "last", "relations", "doubts", "finds"] : List PySem.Str) (["self", "layers", "last", "relations", "doubts", "finds"] : List PySem.Str) d_Sitedd_initdd.scope := ⟨rfl, rfl, rfl, by decide +kernel, rfl, by decide +kernel, by decide +kernel⟩
theorem c_Sitedd_initdd (T : TT w h base mg K) : CalM P w K mg base (ctOf tfn K sa ns bs) 14 d_Sitedd_initdd (["self", "layers", "last", "relations", "doubts", "finds"] : List PySem.Str) (D_Sitedd_initdd (He.ga K) 0) := by
  refine calM_of (k := 13) (fd_Sitedd_initdd T) sc_Sitedd_initdd fun fd cdv A outer s H E ecd hr => ?_
  have S := sc_Sitedd_initdd
  have tk : Takes (cxOf (CX P w) P w K mg base (["self", "layers", "last", "relations", "doubts", "finds"] : List PySem.Str) d_Sitedd_initdd.qual d_Sitedd_initdd.scope (He.fAd K d_Sitedd_initdd.at_) cdv A outer s H E) (fun cls d _ H => E cls d H) := takes_of rfl rfl rfl rfl
  exact (gs_cons (gs_expr (ge_cal (c_check_layers T) rfl (fun _ _ _ _ _ _ us hl => match us, hl with | [_], _ => rfl) hr (by decide) tk (fun _ _ _ _ h => aCons_len (fun _ _ _ _ h => aNil_len h) h) rfl (ga_cons (ge_var (i := 1) rfl (.inl rfl)) ga_nil))) (gs_cons (gs_expr (ge_cal (c_check_last T) rfl (fun _ _ _ _ _ _ us hl => match us, hl with | [_], _ => rfl) hr (by decide) tk (fun _ _ _ _ h => aCons_len (fun _ _ _ _ h => aNil_len h) h) rfl (ga_cons (ge_var (i := 2) rfl (.inl rfl)) ga_nil))) (gs_cons (gs_expr (ge_cal (c_check_relations T) rfl (fun _ _ _ _ _ _ us hl => match us, hl with | [_, _], _ => rfl) hr (by decide) tk (fun _ _ _ _ h => aCons_len (fun _ _ _ _ h => aCons_len (fun _ _ _ _ h => aNil_len h) h) h) rfl (ga_cons (ge_var (i := 1) rfl (.inl rfl)) (ga_cons (ge_var (i := 3) rfl (.inl rfl)) ga_nil)))) (gs_cons (gs_expr (ge_cal (c_check_doubts T) rfl (fun _ _ _ _ _ _ us hl => match us, hl with | [_, _], _ => rfl) hr (by decide) tk (fun _ _ _ _ h => aCons_len (fun _ _ _ _ h => aCons_len (fun _ _ _ _ h => aNil_len h) h) h) rfl (ga_cons (ge_var (i := 1) rfl (.inl rfl)) (ga_cons (ge_var (i := 4) rfl (.inl rfl)) ga_nil)))) (gs_cons (gs_expr (ge_cal (c_check_finds T) rfl (fun _ _ _ _ _ _ us hl => match us, hl with | [_, _, _], _ => rfl) hr (by decide) tk (fun _ _ _ _ h => aCons_len (fun _ _ _ _ h => aCons_len (fun _ _ _ _ h => aCons_len (fun _ _ _ _ h => aNil_len h) h) h) h) rfl (ga_cons (ge_var (i := 1) rfl (.inl rfl)) (ga_cons (ge_var (i := 2) rfl (.inl rfl)) (ga_cons (ge_var (i := 5) rfl (.inl rfl)) ga_nil))))) (gs_cons (gs_fld (C := He.ga K "Site") (cl_Site T) (na_Site_layers T) (ge_var (i := 0) rfl (.inl rfl)) (ge_var (i := 1) rfl (.inl rfl))) (gs_cons (gs_fld (C := He.ga K "Site") (cl_Site T) (na_Site_last T) (ge_var (i := 0) rfl (.inl rfl)) (ge_var (i := 2) rfl (.inl rfl))) (gs_cons (gs_fld (C := He.ga K "Site") (cl_Site T) (na_Site_relations T) (ge_var (i := 0) rfl (.inl rfl)) (ge_var (i := 3) rfl (.inl rfl))) (gs_cons (gs_fld (C := He.ga K "Site") (cl_Site T) (na_Site_doubts T) (ge_var (i := 0) rfl (.inl rfl)) (ge_var (i := 4) rfl (.inl rfl))) (gs_one (gs_fld (C := He.ga K "Site") (cl_Site T) (na_Site_finds T) (ge_var (i := 0) rfl (.inl rfl)) (ge_var (i := 5) rfl (.inl rfl)))))))))))))
theorem fd__law_made (T : TT w h base mg K) : ∃ fd, Fd K d__law_made fd := T.c.t.d.def_ 40 (d := d__law_made) rfl
theorem sc__law_made : FnScope (["site"] : List PySem.Str) (["site"] : List PySem.Str) d__law_made.scope := ⟨rfl, rfl, rfl, by decide +kernel, rfl, by decide +kernel, by decide +kernel⟩
theorem c__law_made (T : TT w h base mg K) : Cal P w K mg base (ctOf tfn K sa ns bs) 16 "_law_made" d__law_made (["site"] : List PySem.Str) (D__law_made (He.ga K) 0) := by
  refine cal_of (k := 15) (gm__law_made T) (fd__law_made T) sc__law_made fun fd cdv A outer s H E ecd hr => ?_
  have S := sc__law_made
  have tk : Takes (cxOf (CX P w) P w K mg base (["site"] : List PySem.Str) d__law_made.qual d__law_made.scope (He.fAd K d__law_made.at_) cdv A outer s H E) (fun cls d _ H => E cls d H) := takes_of rfl rfl rfl rfl
  exact (gs_one (gs_ret (ge_mk (ds := []) (dvs := []) (c_Sitedd_initdd T) (mk_Site T) (fun fd F => FunD.binds1 F 6 3 (fun z => nomatch z) rfl fun _ _ _ _ _ _ _ us its hu hl => match us, hu, its, hl with | [_, _, _, _, _, _], _, [_, _, _], _ => ⟨_, rfl, rfl⟩) (fun _ _ => .nil) hr (by decide) tk (fun _ _ _ _ h => congrArg (fun z => z + 0 + 1) (aCons_len (fun _ _ _ _ h => aCons_len (fun _ _ _ _ h => aCons_len (fun _ _ _ _ h => aCons_len (fun _ _ _ _ h => aCons_len (fun _ _ _ _ h => aNil_len h) h) h) h) h) h)) rfl (gm_Site T) (ga_cons (ge_ix hr.u1 rfl (ge_var (i := 0) rfl (.inl rfl)) ge_int) (ga_cons (ge_ix hr.u1 rfl (ge_var (i := 0) rfl (.inl rfl)) ge_int) (ga_cons (ge_ix hr.u1 rfl (ge_var (i := 0) rfl (.inl rfl)) ge_int) (ga_cons (ge_ix hr.u1 rfl (ge_var (i := 0) rfl (.inl rfl)) ge_int) (ga_cons (ge_ix hr.u1 rfl (ge_var (i := 0) rfl (.inl rfl)) ge_int) ga_nil))))))))
theorem fd_has_form (T : TT w h base mg K) : ∃ fd, Fd K d_has_form fd := T.c.t.d.def_ 41 (d := d_has_form) rfl
theorem sc_has_form : FnScope (["value"] : List PySem.Str) (["value"] : List PySem.Str) d_has_form.scope := ⟨rfl, rfl, rfl, by decide +kernel, rfl, by decide +kernel, by decide +kernel⟩
theorem c_has_form (T : TT w h base mg K) : Cal P w K mg base (ctOf tfn K sa ns bs) 2 "has_form" d_has_form (["value"] : List PySem.Str) (D_has_form (He.ga K) 0) := by
  refine cal_of (k := 1) (gm_has_form T) (fd_has_form T) sc_has_form fun fd cdv A outer s H E ecd hr => ?_
  have S := sc_has_form
  have tk : Takes (cxOf (CX P w) P w K mg base (["value"] : List PySem.Str) d_has_form.qual d_has_form.scope (He.fAd K d_has_form.at_) cdv A outer s H E) (fun cls d _ H => E cls d H) := takes_of rfl rfl rfl rfl
  exact (gs_cons (gs_if (gt_w (gw_or (gt_not (gt_tru rfl (ge_isi rfl rfl rfl (m_isinstance T) rfl (m_tuple T) bt_tuple (ge_var (i := 0) rfl (.inl rfl)) bt_isinstance))) (gw_or (gt_cmp (op_eqP hr.u64) ops_eq (ge_cb call_len cb_len rfl (m_len T) bt_len (ga_cons (ge_var (i := 0) rfl (.inl rfl)) ga_nil)) ge_int rfl) (gw_or1 (gt_not (gt_tru rfl (ge_cal (c_is_string T) rfl (fun _ _ _ _ _ _ us hl => match us, hl with | [_], _ => rfl) hr (by decide) tk (fun _ _ _ _ h => aCons_len (fun _ _ _ _ h => aNil_len h) h) rfl (ga_cons (ge_ix hr.u1 rfl (ge_var (i := 0) rfl (.inl rfl)) ge_int) ga_nil)))))))) (gs_one (gs_ret ge_bl)) gs_nil) (gs_one (gs_ret (ge_and (ge_kin (kd_SIZES T) (kvB_ok (kv_SIZES T)) (noB_ok (kn_SIZES T)) rfl (gm_SIZES T) (ge_ix hr.u1 rfl (ge_var (i := 0) rfl (.inl rfl)) ge_int)) (ge_one (ge_cmp (op_eqP hr.u64) ops_eq (ge_cb call_len cb_len rfl (m_len T) bt_len (ga_cons (ge_var (i := 0) rfl (.inl rfl)) ga_nil)) (ge_kix (kd_SIZES T) (kvB_ok (kv_SIZES T)) rfl (gm_SIZES T) (ge_ix hr.u1 rfl (ge_var (i := 0) rfl (.inl rfl)) ge_int)) rfl))))))
theorem fd_is_other (T : TT w h base mg K) : ∃ fd, Fd K d_is_other fd := T.c.t.d.def_ 42 (d := d_is_other) rfl
theorem sc_is_other : FnScope (["site", "deed", "value"] : List PySem.Str) (["site", "deed", "value"] : List PySem.Str) d_is_other.scope := ⟨rfl, rfl, rfl, by decide +kernel, rfl, by decide +kernel, by decide +kernel⟩
theorem c_is_other (T : TT w h base mg K) : Cal P w K mg base (ctOf tfn K sa ns bs) 3 "is_other" d_is_other (["site", "deed", "value"] : List PySem.Str) (D_is_other (He.ga K) 0) := by
  refine cal_of (k := 2) (gm_is_other T) (fd_is_other T) sc_is_other fun fd cdv A outer s H E ecd hr => ?_
  have S := sc_is_other
  have tk : Takes (cxOf (CX P w) P w K mg base (["site", "deed", "value"] : List PySem.Str) d_is_other.qual d_is_other.scope (He.fAd K d_is_other.at_) cdv A outer s H E) (fun cls d _ H => E cls d H) := takes_of rfl rfl rfl rfl
  exact (gs_one (gs_ret (ge_and (ge_cal (c_is_layer T) rfl (fun _ _ _ _ _ _ us hl => match us, hl with | [_, _], _ => rfl) hr (by decide) tk (fun _ _ _ _ h => aCons_len (fun _ _ _ _ h => aCons_len (fun _ _ _ _ h => aNil_len h) h) h) rfl (ga_cons (ge_fld (C := He.ga K "Site") (cl_Site T) (na_Site_layers T) (ge_var (i := 0) rfl (.inl rfl))) (ga_cons (ge_var (i := 2) rfl (.inl rfl)) ga_nil))) (ge_one (ge_cmp (op_neP hr.u64) ops_ne (ge_var (i := 2) rfl (.inl rfl)) (ge_ix hr.u1 rfl (ge_var (i := 1) rfl (.inl rfl)) ge_int) rfl)))))
theorem fd_is_number (T : TT w h base mg K) : ∃ fd, Fd K d_is_number fd := T.c.t.d.def_ 43 (d := d_is_number) rfl
theorem sc_is_number : FnScope (["value", "low", "high"] : List PySem.Str) (["value", "low", "high"] : List PySem.Str) d_is_number.scope := ⟨rfl, rfl, rfl, by decide +kernel, rfl, by decide +kernel, by decide +kernel⟩
theorem c_is_number (T : TT w h base mg K) : Cal P w K mg base (ctOf tfn K sa ns bs) 2 "is_number" d_is_number (["value", "low", "high"] : List PySem.Str) (D_is_number (He.ga K) 0) := by
  refine cal_of (k := 1) (gm_is_number T) (fd_is_number T) sc_is_number fun fd cdv A outer s H E ecd hr => ?_
  have S := sc_is_number
  have tk : Takes (cxOf (CX P w) P w K mg base (["value", "low", "high"] : List PySem.Str) d_is_number.qual d_is_number.scope (He.fAd K d_is_number.at_) cdv A outer s H E) (fun cls d _ H => E cls d H) := takes_of rfl rfl rfl rfl
  exact (gs_one (gs_ret (ge_and (ge_cal (c_is_whole T) rfl (fun _ _ _ _ _ _ us hl => match us, hl with | [_], _ => rfl) hr (by decide) tk (fun _ _ _ _ h => aCons_len (fun _ _ _ _ h => aNil_len h) h) rfl (ga_cons (ge_var (i := 0) rfl (.inl rfl)) ga_nil)) (ge_and (ge_cmp op_leA ops_cmp (ge_var (i := 1) rfl (.inl rfl)) (ge_var (i := 0) rfl (.inl rfl)) rfl) (ge_one (ge_or (ge_cmp op_isN ops_isN (ge_var (i := 2) rfl (.inl rfl)) ge_non rfl) (ge_one (ge_cmp op_leA ops_cmp (ge_var (i := 0) rfl (.inl rfl)) (ge_var (i := 2) rfl (.inl rfl)) rfl))))))))
theorem fd_are_right (T : TT w h base mg K) : ∃ fd, Fd K d_are_right fd := T.c.t.d.def_ 44 (d := d_are_right) rfl
theorem sc_are_right : FnScope (["site", "deed", "word", "found"] : List PySem.Str) (["site", "deed"] : List PySem.Str) d_are_right.scope := ⟨rfl, rfl, rfl, by decide +kernel, rfl, by decide +kernel, by decide +kernel⟩
theorem c_are_right (T : TT w h base mg K) : Cal P w K mg base (ctOf tfn K sa ns bs) 9 "are_right" d_are_right (["site", "deed"] : List PySem.Str) (D_are_right (He.ga K) 0) := by
  refine cal_of (k := 8) (gm_are_right T) (fd_are_right T) sc_are_right fun fd cdv A outer s H E ecd hr => ?_
  have S := sc_are_right
  have tk : Takes (cxOf (CX P w) P w K mg base (["site", "deed", "word", "found"] : List PySem.Str) d_are_right.qual d_are_right.scope (He.fAd K d_are_right.at_) cdv A outer s H E) (fun cls d _ H => E cls d H) := takes_of rfl rfl rfl rfl
  exact (gs_cons (gs_set (i := 2) S.nd rfl (.inl rfl) (ge_ix hr.u1 rfl (ge_var (i := 1) rfl (.inl rfl)) ge_int)) (gs_cons (gs_if (gt_cmp (op_inAll hr.u65) ops_in (ge_var (i := 2) rfl (.inl rfl)) (ge_tup (ga_cons ge_str (ga_cons ge_str ga_nil))) rfl) (gs_cons (gs_set (i := 3) S.nd rfl (.inl rfl) (ge_lst (ga_cons (ge_cal (c_is_kind T) rfl (fun _ _ _ _ _ _ us hl => match us, hl with | [_], _ => rfl) hr (by decide) tk (fun _ _ _ _ h => aCons_len (fun _ _ _ _ h => aNil_len h) h) rfl (ga_cons (ge_ix hr.u1 rfl (ge_var (i := 1) rfl (.inl rfl)) ge_int) ga_nil)) (ga_cons (ge_cal (c_is_layer T) rfl (fun _ _ _ _ _ _ us hl => match us, hl with | [_, _], _ => rfl) hr (by decide) tk (fun _ _ _ _ h => aCons_len (fun _ _ _ _ h => aCons_len (fun _ _ _ _ h => aNil_len h) h) h) rfl (ga_cons (ge_fld (C := He.ga K "Site") (cl_Site T) (na_Site_layers T) (ge_var (i := 0) rfl (.inl rfl))) (ga_cons (ge_ix hr.u1 rfl (ge_var (i := 1) rfl (.inl rfl)) ge_int) ga_nil))) (ga_cons (ge_cal (c_is_other T) rfl (fun _ _ _ _ _ _ us hl => match us, hl with | [_, _, _], _ => rfl) hr (by decide) tk (fun _ _ _ _ h => aCons_len (fun _ _ _ _ h => aCons_len (fun _ _ _ _ h => aCons_len (fun _ _ _ _ h => aNil_len h) h) h) h) rfl (ga_cons (ge_var (i := 0) rfl (.inl rfl)) (ga_cons (ge_var (i := 1) rfl (.inl rfl)) (ga_cons (ge_ix hr.u1 rfl (ge_var (i := 1) rfl (.inl rfl)) ge_int) ga_nil)))) ga_nil))))) (gs_one (gs_ret (ge_if (gt_cmp (op_eqP hr.u64) ops_eq (ge_var (i := 2) rfl (.inl rfl)) ge_str rfl) (ge_var (i := 3) rfl (.inl rfl)) (ge_bin op_addAll ops_add (ge_var (i := 3) rfl (.inl rfl)) (ge_lst (ga_cons (ge_cal (c_is_weight T) rfl (fun _ _ _ _ _ _ us hl => match us, hl with | [_], _ => rfl) hr (by decide) tk (fun _ _ _ _ h => aCons_len (fun _ _ _ _ h => aNil_len h) h) rfl (ga_cons (ge_ix hr.u1 rfl (ge_var (i := 1) rfl (.inl rfl)) ge_int) ga_nil)) ga_nil))))))) gs_nil) (gs_cons (gs_if (gt_cmp (op_eqP hr.u64) ops_eq (ge_var (i := 2) rfl (.inl rfl)) ge_str rfl) (gs_one (gs_ret (ge_lst (ga_cons (ge_cal (c_is_layer T) rfl (fun _ _ _ _ _ _ us hl => match us, hl with | [_, _], _ => rfl) hr (by decide) tk (fun _ _ _ _ h => aCons_len (fun _ _ _ _ h => aCons_len (fun _ _ _ _ h => aNil_len h) h) h) rfl (ga_cons (ge_fld (C := He.ga K "Site") (cl_Site T) (na_Site_layers T) (ge_var (i := 0) rfl (.inl rfl))) (ga_cons (ge_ix hr.u1 rfl (ge_var (i := 1) rfl (.inl rfl)) ge_int) ga_nil))) (ga_cons (ge_cal (c_are_spans T) rfl (fun _ _ _ _ _ _ us hl => match us, hl with | [_, _], _ => rfl) hr (by decide) tk (fun _ _ _ _ h => aCons_len (fun _ _ _ _ h => aCons_len (fun _ _ _ _ h => aNil_len h) h) h) rfl (ga_cons (ge_fld (C := He.ga K "Site") (cl_Site T) (na_Site_last T) (ge_var (i := 0) rfl (.inl rfl))) (ga_cons (ge_ix hr.u1 rfl (ge_var (i := 1) rfl (.inl rfl)) ge_int) ga_nil))) (ga_cons (ge_cal (c_is_weight T) rfl (fun _ _ _ _ _ _ us hl => match us, hl with | [_], _ => rfl) hr (by decide) tk (fun _ _ _ _ h => aCons_len (fun _ _ _ _ h => aNil_len h) h) rfl (ga_cons (ge_ix hr.u1 rfl (ge_var (i := 1) rfl (.inl rfl)) ge_int) ga_nil)) ga_nil)))))) gs_nil) (gs_cons (gs_if (gt_cmp (op_eqP hr.u64) ops_eq (ge_var (i := 2) rfl (.inl rfl)) ge_str rfl) (gs_one (gs_ret (ge_lst (ga_cons (ge_and (ge_cal (c_is_string T) rfl (fun _ _ _ _ _ _ us hl => match us, hl with | [_], _ => rfl) hr (by decide) tk (fun _ _ _ _ h => aCons_len (fun _ _ _ _ h => aNil_len h) h) rfl (ga_cons (ge_ix hr.u1 rfl (ge_var (i := 1) rfl (.inl rfl)) ge_int) ga_nil)) (ge_one (ge_cmp (op_inAll hr.u65) ops_in (ge_ix hr.u1 rfl (ge_var (i := 1) rfl (.inl rfl)) ge_int) (ge_gtup rfl rfl (gm_LOTS T) (gt_LOTS T) (gr_LOTS)) rfl))) (ga_cons (ge_calD (ds := [.int 0, .non]) (dvs := [.int 0, .non]) (c_is_number T) (fun fd F => FunD.binds1 F 1 0 (fun z => nomatch z) rfl fun _ _ _ _ _ _ _ us its hu hl => match us, hu, its, hl with | [_], _, [_, _], _ => ⟨_, rfl, rfl⟩) (fun _ _ => .cons (.int 0) (.cons (.non) (.nil))) hr (by decide) tk (fun _ _ _ _ h => congrArg (fun z => z + 2) (aCons_len (fun _ _ _ _ h => aNil_len h) h)) rfl (ga_cons (ge_ix hr.u1 rfl (ge_var (i := 1) rfl (.inl rfl)) ge_int) ga_nil)) ga_nil))))) gs_nil) (gs_one (gs_ret (ge_lst (ga_cons (ge_if (gt_cmp (op_eqP hr.u64) ops_eq (ge_var (i := 2) rfl (.inl rfl)) ge_str rfl) (ge_calD (ds := [.int 0, .non]) (dvs := [.int 0, .non]) (c_is_number T) (fun fd F => FunD.binds1 F 1 0 (fun z => nomatch z) rfl fun _ _ _ _ _ _ _ us its hu hl => match us, hu, its, hl with | [_], _, [_, _], _ => ⟨_, rfl, rfl⟩) (fun _ _ => .cons (.int 0) (.cons (.non) (.nil))) hr (by decide) tk (fun _ _ _ _ h => congrArg (fun z => z + 2) (aCons_len (fun _ _ _ _ h => aNil_len h) h)) rfl (ga_cons (ge_ix hr.u1 rfl (ge_var (i := 1) rfl (.inl rfl)) ge_int) ga_nil)) (ge_cal (c_is_budget T) rfl (fun _ _ _ _ _ _ us hl => match us, hl with | [_], _ => rfl) hr (by decide) tk (fun _ _ _ _ h => aCons_len (fun _ _ _ _ h => aNil_len h) h) rfl (ga_cons (ge_ix hr.u1 rfl (ge_var (i := 1) rfl (.inl rfl)) ge_int) ga_nil))) ga_nil))))))))
theorem fd_check_deed (T : TT w h base mg K) : ∃ fd, Fd K d_check_deed fd := T.c.t.d.def_ 45 (d := d_check_deed) rfl
theorem sc_check_deed : FnScope (["site", "value", "found"] : List PySem.Str) (["site", "value"] : List PySem.Str) d_check_deed.scope := ⟨rfl, rfl, rfl, by decide +kernel, rfl, by decide +kernel, by decide +kernel⟩
theorem c_check_deed (T : TT w h base mg K) : Cal P w K mg base (ctOf tfn K sa ns bs) 10 "check_deed" d_check_deed (["site", "value"] : List PySem.Str) (D_check_deed (He.ga K) 0) := by
  refine cal_of (k := 9) (gm_check_deed T) (fd_check_deed T) sc_check_deed fun fd cdv A outer s H E ecd hr => ?_
  have S := sc_check_deed
  have tk : Takes (cxOf (CX P w) P w K mg base (["site", "value", "found"] : List PySem.Str) d_check_deed.qual d_check_deed.scope (He.fAd K d_check_deed.at_) cdv A outer s H E) (fun cls d _ H => E cls d H) := takes_of rfl rfl rfl rfl
  exact (gs_cons (gs_if (gt_not (gt_tru rfl (ge_cal (c_has_form T) rfl (fun _ _ _ _ _ _ us hl => match us, hl with | [_], _ => rfl) hr (by decide) tk (fun _ _ _ _ h => aCons_len (fun _ _ _ _ h => aNil_len h) h) rfl (ga_cons (ge_var (i := 1) rfl (.inl rfl)) ga_nil)))) (gs_one (gs_raise rfl (ei_InvalidDeed T) hr (by decide) tk rfl (gm_InvalidDeed T) ge_int)) gs_nil) (gs_cons (gs_set (i := 2) S.nd rfl (.inl rfl) (ge_cal (c_are_right T) rfl (fun _ _ _ _ _ _ us hl => match us, hl with | [_, _], _ => rfl) hr (by decide) tk (fun _ _ _ _ h => aCons_len (fun _ _ _ _ h => aCons_len (fun _ _ _ _ h => aNil_len h) h) h) rfl (ga_cons (ge_var (i := 0) rfl (.inl rfl)) (ga_cons (ge_var (i := 1) rfl (.inl rfl)) ga_nil)))) (gs_one (gs_if (gt_cmp (op_inAll hr.u65) ops_in ge_bl (ge_var (i := 2) rfl (.inl rfl)) rfl) (gs_one (gs_raise rfl (ei_InvalidDeed T) hr (by decide) tk rfl (gm_InvalidDeed T) (ge_bin op_addAll ops_add ge_int (ge_bm rfl F.plainAttrs_list F.slot_list_index F.type_list_index (mt_indexD hr.u65) mb_index (ge_var (i := 2) rfl (.inl rfl)) (ga_cons ge_bl ga_nil))))) gs_nil))))
theorem fd_is_full (T : TT w h base mg K) : ∃ fd, Fd K d_is_full fd := T.c.t.d.def_ 46 (d := d_is_full) rfl
theorem sc_is_full : FnScope (["site", "deed", "word"] : List PySem.Str) (["site", "deed"] : List PySem.Str) d_is_full.scope := ⟨rfl, rfl, rfl, by decide +kernel, rfl, by decide +kernel, by decide +kernel⟩
theorem c_is_full (T : TT w h base mg K) : Cal P w K mg base (ctOf tfn K sa ns bs) 1 "is_full" d_is_full (["site", "deed"] : List PySem.Str) (D_is_full (He.ga K) 0) := by
  refine cal_of (k := 0) (gm_is_full T) (fd_is_full T) sc_is_full fun fd cdv A outer s H E ecd hr => ?_
  have S := sc_is_full
  have tk : Takes (cxOf (CX P w) P w K mg base (["site", "deed", "word"] : List PySem.Str) d_is_full.qual d_is_full.scope (He.fAd K d_is_full.at_) cdv A outer s H E) (fun cls d _ H => E cls d H) := takes_of rfl rfl rfl rfl
  exact (gs_cons (gs_set (i := 2) S.nd rfl (.inl rfl) (ge_ix hr.u1 rfl (ge_var (i := 1) rfl (.inl rfl)) ge_int)) (gs_cons (gs_if (gt_cmp (op_inAll hr.u65) ops_in (ge_var (i := 2) rfl (.inl rfl)) (ge_tup (ga_cons ge_str (ga_cons ge_str ga_nil))) rfl) (gs_one (gs_ret (ge_cmp (op_eqP hr.u64) ops_eq (ge_cb call_len cb_len rfl (m_len T) bt_len (ga_cons (ge_fld (C := He.ga K "Site") (cl_Site T) (na_Site_relations T) (ge_var (i := 0) rfl (.inl rfl))) ga_nil)) (ge_gint rfl (gi_MOST_RELATIONS T)) rfl))) gs_nil) (gs_cons (gs_if (gt_cmp (op_eqP hr.u64) ops_eq (ge_var (i := 2) rfl (.inl rfl)) ge_str rfl) (gs_one (gs_ret (ge_cmp (op_eqP hr.u64) ops_eq (ge_cb call_len cb_len rfl (m_len T) bt_len (ga_cons (ge_fld (C := He.ga K "Site") (cl_Site T) (na_Site_doubts T) (ge_var (i := 0) rfl (.inl rfl))) ga_nil)) (ge_gint rfl (gi_MOST_DOUBTS T)) rfl))) gs_nil) (gs_one (gs_ret (ge_and (ge_cmp (op_eqP hr.u64) ops_eq (ge_var (i := 2) rfl (.inl rfl)) ge_str rfl) (ge_one (ge_cmp (op_eqP hr.u64) ops_eq (ge_cb call_len cb_len rfl (m_len T) bt_len (ga_cons (ge_fld (C := He.ga K "Site") (cl_Site T) (na_Site_finds T) (ge_var (i := 0) rfl (.inl rfl))) ga_nil)) (ge_gint rfl (gi_MOST_FINDS T)) rfl))))))))
theorem fd_is_twice (T : TT w h base mg K) : ∃ fd, Fd K d_is_twice fd := T.c.t.d.def_ 47 (d := d_is_twice) rfl
theorem sc_is_twice : FnScope (["site", "deed", "word"] : List PySem.Str) (["site", "deed"] : List PySem.Str) d_is_twice.scope := ⟨rfl, rfl, rfl, by decide +kernel, rfl, by decide +kernel, by decide +kernel⟩
theorem c_is_twice (T : TT w h base mg K) : Cal P w K mg base (ctOf tfn K sa ns bs) 2 "is_twice" d_is_twice (["site", "deed"] : List PySem.Str) (D_is_twice (He.ga K) 0) := by
  refine cal_of (k := 1) (gm_is_twice T) (fd_is_twice T) sc_is_twice fun fd cdv A outer s H E ecd hr => ?_
  have S := sc_is_twice
  have tk : Takes (cxOf (CX P w) P w K mg base (["site", "deed", "word"] : List PySem.Str) d_is_twice.qual d_is_twice.scope (He.fAd K d_is_twice.at_) cdv A outer s H E) (fun cls d _ H => E cls d H) := takes_of rfl rfl rfl rfl
  exact (gs_cons (gs_set (i := 2) S.nd rfl (.inl rfl) (ge_ix hr.u1 rfl (ge_var (i := 1) rfl (.inl rfl)) ge_int)) (gs_cons (gs_if (gt_cmp (op_eqP hr.u64) ops_eq (ge_var (i := 2) rfl (.inl rfl)) ge_str rfl) (gs_one (gs_ret (ge_cmp (op_inAll hr.u65) ops_in (ge_sl rfl (ge_var (i := 1) rfl (.inl rfl)) (go_some ge_int) go_none) (ge_fld (C := He.ga K "Site") (cl_Site T) (na_Site_relations T) (ge_var (i := 0) rfl (.inl rfl))) rfl))) gs_nil) (gs_cons (gs_if (gt_cmp (op_eqP hr.u64) ops_eq (ge_var (i := 2) rfl (.inl rfl)) ge_str rfl) (gs_one (gs_ret (ge_not (ge_cal (c_is_new_doubt T) rfl (fun _ _ _ _ _ _ us hl => match us, hl with | [_, _], _ => rfl) hr (by decide) tk (fun _ _ _ _ h => aCons_len (fun _ _ _ _ h => aCons_len (fun _ _ _ _ h => aNil_len h) h) h) rfl (ga_cons (ge_sl rfl (ge_var (i := 1) rfl (.inl rfl)) (go_some ge_int) go_none) (ga_cons (ge_fld (C := He.ga K "Site") (cl_Site T) (na_Site_doubts T) (ge_var (i := 0) rfl (.inl rfl))) ga_nil)))))) gs_nil) (gs_cons (gs_if (gt_w (gw_or (gt_cmp (op_neP hr.u64) ops_ne (ge_var (i := 2) rfl (.inl rfl)) ge_str rfl) (gw_or1 (gt_cmp op_geA ops_cmp (ge_ix hr.u1 rfl (ge_var (i := 1) rfl (.inl rfl)) ge_int) (ge_cb call_len cb_len rfl (m_len T) bt_len (ga_cons (ge_fld (C := He.ga K "Site") (cl_Site T) (na_Site_doubts T) (ge_var (i := 0) rfl (.inl rfl))) ga_nil)) rfl)))) (gs_one (gs_ret ge_bl)) gs_nil) (gs_one (gs_ret (ge_cmp (op_inAll hr.u65) ops_in (ge_sl rfl (ge_ix hr.u1 rfl (ge_fld (C := He.ga K "Site") (cl_Site T) (na_Site_doubts T) (ge_var (i := 0) rfl (.inl rfl))) (ge_ix hr.u1 rfl (ge_var (i := 1) rfl (.inl rfl)) ge_int)) go_none (go_some ge_int)) (ge_fld (C := He.ga K "Site") (cl_Site T) (na_Site_relations T) (ge_var (i := 0) rfl (.inl rfl))) rfl)))))))
theorem fd_lot_of (T : TT w h base mg K) : ∃ fd, Fd K d_lot_of fd := T.c.t.d.def_ 48 (d := d_lot_of) rfl
theorem sc_lot_of : FnScope (["site", "word"] : List PySem.Str) (["site", "word"] : List PySem.Str) d_lot_of.scope := ⟨rfl, rfl, rfl, by decide +kernel, rfl, by decide +kernel, by decide +kernel⟩
theorem c_lot_of (T : TT w h base mg K) : Cal P w K mg base (ctOf tfn K sa ns bs) 1 "lot_of" d_lot_of (["site", "word"] : List PySem.Str) (D_lot_of (He.ga K) 0) := by
  refine cal_of (k := 0) (gm_lot_of T) (fd_lot_of T) sc_lot_of fun fd cdv A outer s H E ecd hr => ?_
  have S := sc_lot_of
  have tk : Takes (cxOf (CX P w) P w K mg base (["site", "word"] : List PySem.Str) d_lot_of.qual d_lot_of.scope (He.fAd K d_lot_of.at_) cdv A outer s H E) (fun cls d _ H => E cls d H) := takes_of rfl rfl rfl rfl
  exact (gs_one (gs_ret (ge_if (gt_cmp (op_eqP hr.u64) ops_eq (ge_var (i := 1) rfl (.inl rfl)) ge_str rfl) (ge_fld (C := He.ga K "Site") (cl_Site T) (na_Site_relations T) (ge_var (i := 0) rfl (.inl rfl))) (ge_if (gt_cmp (op_eqP hr.u64) ops_eq (ge_var (i := 1) rfl (.inl rfl)) ge_str rfl) (ge_fld (C := He.ga K "Site") (cl_Site T) (na_Site_doubts T) (ge_var (i := 0) rfl (.inl rfl))) (ge_fld (C := He.ga K "Site") (cl_Site T) (na_Site_finds T) (ge_var (i := 0) rfl (.inl rfl)))))))
theorem fd_lacks_index (T : TT w h base mg K) : ∃ fd, Fd K d_lacks_index fd := T.c.t.d.def_ 49 (d := d_lacks_index) rfl
theorem sc_lacks_index : FnScope (["site", "deed"] : List PySem.Str) (["site", "deed"] : List PySem.Str) d_lacks_index.scope := ⟨rfl, rfl, rfl, by decide +kernel, rfl, by decide +kernel, by decide +kernel⟩
theorem c_lacks_index (T : TT w h base mg K) : Cal P w K mg base (ctOf tfn K sa ns bs) 2 "lacks_index" d_lacks_index (["site", "deed"] : List PySem.Str) (D_lacks_index (He.ga K) 0) := by
  refine cal_of (k := 1) (gm_lacks_index T) (fd_lacks_index T) sc_lacks_index fun fd cdv A outer s H E ecd hr => ?_
  have S := sc_lacks_index
  have tk : Takes (cxOf (CX P w) P w K mg base (["site", "deed"] : List PySem.Str) d_lacks_index.qual d_lacks_index.scope (He.fAd K d_lacks_index.at_) cdv A outer s H E) (fun cls d _ H => E cls d H) := takes_of rfl rfl rfl rfl
  exact (gs_cons (gs_if (gt_cmp (op_eqP hr.u64) ops_eq (ge_ix hr.u1 rfl (ge_var (i := 1) rfl (.inl rfl)) ge_int) ge_str rfl) (gs_one (gs_ret (ge_cmp op_geA ops_cmp (ge_ix hr.u1 rfl (ge_var (i := 1) rfl (.inl rfl)) ge_int) (ge_cb call_len cb_len rfl (m_len T) bt_len (ga_cons (ge_cal (c_lot_of T) rfl (fun _ _ _ _ _ _ us hl => match us, hl with | [_, _], _ => rfl) hr (by decide) tk (fun _ _ _ _ h => aCons_len (fun _ _ _ _ h => aCons_len (fun _ _ _ _ h => aNil_len h) h) h) rfl (ga_cons (ge_var (i := 0) rfl (.inl rfl)) (ga_cons (ge_ix hr.u1 rfl (ge_var (i := 1) rfl (.inl rfl)) ge_int) ga_nil))) ga_nil)) rfl))) gs_nil) (gs_one (gs_ret (ge_and (ge_cmp (op_eqP hr.u64) ops_eq (ge_ix hr.u1 rfl (ge_var (i := 1) rfl (.inl rfl)) ge_int) ge_str rfl) (ge_one (ge_cmp op_geA ops_cmp (ge_ix hr.u1 rfl (ge_var (i := 1) rfl (.inl rfl)) ge_int) (ge_cb call_len cb_len rfl (m_len T) bt_len (ga_cons (ge_fld (C := He.ga K "Site") (cl_Site T) (na_Site_doubts T) (ge_var (i := 0) rfl (.inl rfl))) ga_nil)) rfl))))))
theorem fd_state_behind (T : TT w h base mg K) : ∃ fd, Fd K d_state_behind fd := T.c.t.d.def_ 50 (d := d_state_behind) rfl
theorem sc_state_behind : FnScope (["site", "budget", "deed"] : List PySem.Str) (["site", "budget", "deed"] : List PySem.Str) d_state_behind.scope := ⟨rfl, rfl, rfl, by decide +kernel, rfl, by decide +kernel, by decide +kernel⟩
theorem c_state_behind (T : TT w h base mg K) : Cal P w K mg base (ctOf tfn K sa ns bs) 1 "state_behind" d_state_behind (["site", "budget", "deed"] : List PySem.Str) (D_state_behind (He.ga K) 0) := by
  refine cal_of (k := 0) (gm_state_behind T) (fd_state_behind T) sc_state_behind fun fd cdv A outer s H E ecd hr => ?_
  have S := sc_state_behind
  have tk : Takes (cxOf (CX P w) P w K mg base (["site", "budget", "deed"] : List PySem.Str) d_state_behind.qual d_state_behind.scope (He.fAd K d_state_behind.at_) cdv A outer s H E) (fun cls d _ H => E cls d H) := takes_of rfl rfl rfl rfl
  exact (gs_cons (gs_if (gt_cmp (op_eqP hr.u64) ops_eq (ge_ix hr.u1 rfl (ge_var (i := 2) rfl (.inl rfl)) ge_int) ge_str rfl) (gs_one (gs_ret (ge_tup (ga_cons (ge_var (i := 0) rfl (.inl rfl)) (ga_cons (ge_ix hr.u1 rfl (ge_var (i := 2) rfl (.inl rfl)) ge_int) ga_nil))))) gs_nil) (gs_one (gs_ret (ge_tup (ga_cons ge_fail (ga_cons (ge_var (i := 1) rfl (.inl rfl)) ga_nil))))))
theorem fd_bars_all (T : TT w h base mg K) : ∃ fd, Fd K d_bars_all fd := T.c.t.d.def_ 51 (d := d_bars_all) rfl
theorem sc_bars_all : FnScope (["site", "budget", "deed", "is_lower", "later", "allowed"] : List PySem.Str) (["site", "budget", "deed"] : List PySem.Str) d_bars_all.scope := ⟨rfl, rfl, rfl, by decide +kernel, rfl, by decide +kernel, by decide +kernel⟩
theorem c_bars_all (T : TT w h base mg K) : Cal P w K mg base (ctOf tfn K sa ns bs) 2 "bars_all" d_bars_all (["site", "budget", "deed"] : List PySem.Str) (D_bars_all (He.ga K) 0) := by
  refine cal_of (k := 1) (gm_bars_all T) (fd_bars_all T) sc_bars_all fun fd cdv A outer s H E ecd hr => ?_
  have S := sc_bars_all
  have tk : Takes (cxOf (CX P w) P w K mg base (["site", "budget", "deed", "is_lower", "later", "allowed"] : List PySem.Str) d_bars_all.qual d_bars_all.scope (He.fAd K d_bars_all.at_) cdv A outer s H E) (fun cls d _ H => E cls d H) := takes_of rfl rfl rfl rfl
  exact (gs_cons (gs_set (i := 3) S.nd rfl (.inl rfl) (ge_and (ge_cmp (op_eqP hr.u64) ops_eq (ge_ix hr.u1 rfl (ge_var (i := 2) rfl (.inl rfl)) ge_int) ge_str rfl) (ge_one (ge_cmp op_ltA ops_cmp (ge_ix hr.u1 rfl (ge_var (i := 2) rfl (.inl rfl)) ge_int) (ge_var (i := 1) rfl (.inl rfl)) rfl)))) (gs_cons (gs_if (gt_w (gw_or (gt_w (gw_and (gt_cmp (op_notInAll hr.u65) ops_notIn (ge_ix hr.u1 rfl (ge_var (i := 2) rfl (.inl rfl)) ge_int) (ge_tup (ga_cons ge_str (ga_cons ge_str ga_nil))) rfl) (gw_and1 (gt_not (gt_tru rfl (ge_var (i := 3) rfl (.inl rfl))))))) (gw_or1 (gt_cmp op_isN ops_isN ge_fail ge_non rfl)))) (gs_one (gs_ret ge_bl)) gs_nil) (gs_cons (gs_asg (nx_gTu (fun _ _ _ _ _ h => nx_gsCons nx_gN' (fun _ _ _ _ _ h => nx_gsCons nx_gN' (fun _ _ _ _ _ h => nx_gsNil h) h) h)) (ge_cal (c_state_behind T) rfl (fun _ _ _ _ _ _ us hl => match us, hl with | [_, _, _], _ => rfl) hr (by decide) tk (fun _ _ _ _ h => aCons_len (fun _ _ _ _ h => aCons_len (fun _ _ _ _ h => aCons_len (fun _ _ _ _ h => aNil_len h) h) h) h) rfl (ga_cons (ge_var (i := 0) rfl (.inl rfl)) (ga_cons (ge_var (i := 1) rfl (.inl rfl)) (ga_cons (ge_var (i := 2) rfl (.inl rfl)) ga_nil)))) (gg_tup rfl rfl (ggs_cons (gg_name (i := 4) S.nd rfl (.inl rfl)) (ggs_cons (gg_name (i := 5) S.nd rfl (.inl rfl)) ggs_nil)) (fun _ _ _ _ h => gsCons_len (fun _ _ _ _ h => gsCons_len (fun _ _ _ _ h => gsNil_len h) nx_gN' h) nx_gN' h))) (gs_one (gs_ret (ge_cmp op_isN ops_isN ge_fail ge_non rfl))))))
theorem fd_reason_against (T : TT w h base mg K) : ∃ fd, Fd K d_reason_against fd := T.c.t.d.def_ 52 (d := d_reason_against) rfl
theorem sc_reason_against : FnScope (["site", "budget", "deed"] : List PySem.Str) (["site", "budget", "deed"] : List PySem.Str) d_reason_against.scope := ⟨rfl, rfl, rfl, by decide +kernel, rfl, by decide +kernel, by decide +kernel⟩
theorem c_reason_against (T : TT w h base mg K) : Cal P w K mg base (ctOf tfn K sa ns bs) 3 "reason_against" d_reason_against (["site", "budget", "deed"] : List PySem.Str) (D_reason_against (He.ga K) 0) := by
  refine cal_of (k := 2) (gm_reason_against T) (fd_reason_against T) sc_reason_against fun fd cdv A outer s H E ecd hr => ?_
  have S := sc_reason_against
  have tk : Takes (cxOf (CX P w) P w K mg base (["site", "budget", "deed"] : List PySem.Str) d_reason_against.qual d_reason_against.scope (He.fAd K d_reason_against.at_) cdv A outer s H E) (fun cls d _ H => E cls d H) := takes_of rfl rfl rfl rfl
  exact (gs_cons (gs_if (gt_tru rfl (ge_cal (c_is_full T) rfl (fun _ _ _ _ _ _ us hl => match us, hl with | [_, _], _ => rfl) hr (by decide) tk (fun _ _ _ _ h => aCons_len (fun _ _ _ _ h => aCons_len (fun _ _ _ _ h => aNil_len h) h) h) rfl (ga_cons (ge_var (i := 0) rfl (.inl rfl)) (ga_cons (ge_var (i := 2) rfl (.inl rfl)) ga_nil)))) (gs_one (gs_ret (ge_gstr rfl (gs_FULL T)))) gs_nil) (gs_cons (gs_if (gt_tru rfl (ge_cal (c_is_twice T) rfl (fun _ _ _ _ _ _ us hl => match us, hl with | [_, _], _ => rfl) hr (by decide) tk (fun _ _ _ _ h => aCons_len (fun _ _ _ _ h => aCons_len (fun _ _ _ _ h => aNil_len h) h) h) rfl (ga_cons (ge_var (i := 0) rfl (.inl rfl)) (ga_cons (ge_var (i := 2) rfl (.inl rfl)) ga_nil)))) (gs_one (gs_ret (ge_gstr rfl (gs_TWICE T)))) gs_nil) (gs_cons (gs_if (gt_tru rfl (ge_cal (c_lacks_index T) rfl (fun _ _ _ _ _ _ us hl => match us, hl with | [_, _], _ => rfl) hr (by decide) tk (fun _ _ _ _ h => aCons_len (fun _ _ _ _ h => aCons_len (fun _ _ _ _ h => aNil_len h) h) h) rfl (ga_cons (ge_var (i := 0) rfl (.inl rfl)) (ga_cons (ge_var (i := 2) rfl (.inl rfl)) ga_nil)))) (gs_one (gs_ret (ge_gstr rfl (gs_INDEX T)))) gs_nil) (gs_cons (gs_if (gt_tru rfl (ge_cal (c_bars_all T) rfl (fun _ _ _ _ _ _ us hl => match us, hl with | [_, _, _], _ => rfl) hr (by decide) tk (fun _ _ _ _ h => aCons_len (fun _ _ _ _ h => aCons_len (fun _ _ _ _ h => aCons_len (fun _ _ _ _ h => aNil_len h) h) h) h) rfl (ga_cons (ge_var (i := 0) rfl (.inl rfl)) (ga_cons (ge_var (i := 1) rfl (.inl rfl)) (ga_cons (ge_var (i := 2) rfl (.inl rfl)) ga_nil))))) (gs_one (gs_ret (ge_gstr rfl (gs_NEVER T)))) gs_nil) (gs_one (gs_ret (ge_if (gt_w (gw_and (gt_cmp (op_eqP hr.u64) ops_eq (ge_ix hr.u1 rfl (ge_var (i := 2) rfl (.inl rfl)) ge_int) ge_str rfl) (gw_and1 (gt_cmp (op_eqP hr.u64) ops_eq (ge_ix hr.u1 rfl (ge_var (i := 2) rfl (.inl rfl)) ge_int) (ge_var (i := 1) rfl (.inl rfl)) rfl)))) (ge_gstr rfl (gs_SAME T)) ge_non)))))))
theorem fd_check_barred (T : TT w h base mg K) : ∃ fd, Fd K d_check_barred fd := T.c.t.d.def_ 53 (d := d_check_barred) rfl
theorem sc_check_barred : FnScope (["site", "budget", "deed", "reason"] : List PySem.Str) (["site", "budget", "deed"] : List PySem.Str) d_check_barred.scope := ⟨rfl, rfl, rfl, by decide +kernel, rfl, by decide +kernel, by decide +kernel⟩
theorem c_check_barred (T : TT w h base mg K) : Cal P w K mg base (ctOf tfn K sa ns bs) 4 "check_barred" d_check_barred (["site", "budget", "deed"] : List PySem.Str) (D_check_barred (He.ga K) 0) := by
  refine cal_of (k := 3) (gm_check_barred T) (fd_check_barred T) sc_check_barred fun fd cdv A outer s H E ecd hr => ?_
  have S := sc_check_barred
  have tk : Takes (cxOf (CX P w) P w K mg base (["site", "budget", "deed", "reason"] : List PySem.Str) d_check_barred.qual d_check_barred.scope (He.fAd K d_check_barred.at_) cdv A outer s H E) (fun cls d _ H => E cls d H) := takes_of rfl rfl rfl rfl
  exact (gs_cons (gs_set (i := 3) S.nd rfl (.inl rfl) (ge_cal (c_reason_against T) rfl (fun _ _ _ _ _ _ us hl => match us, hl with | [_, _, _], _ => rfl) hr (by decide) tk (fun _ _ _ _ h => aCons_len (fun _ _ _ _ h => aCons_len (fun _ _ _ _ h => aCons_len (fun _ _ _ _ h => aNil_len h) h) h) h) rfl (ga_cons (ge_var (i := 0) rfl (.inl rfl)) (ga_cons (ge_var (i := 1) rfl (.inl rfl)) (ga_cons (ge_var (i := 2) rfl (.inl rfl)) ga_nil))))) (gs_one (gs_if (gt_cmp op_notN ops_notN (ge_var (i := 3) rfl (.inl rfl)) ge_non rfl) (gs_one (gs_raise rfl (ei_Barred T) hr (by decide) tk rfl (gm_Barred T) (ge_var (i := 3) rfl (.inl rfl)))) gs_nil)))
theorem fd_Book_do (T : TT w h base mg K) : ∃ fd, Fd K d_Book_do fd := T.c.t.d.def_ 54 (d := d_Book_do) rfl
theorem sc_Book_do : FnScope (["self", "deed"] : List PySem.Str) (["self", "deed"] : List PySem.Str) d_Book_do.scope := ⟨rfl, rfl, rfl, by decide +kernel, rfl, by decide +kernel, by decide +kernel⟩
theorem c_Book_do (T : TT w h base mg K) : CalM P w K mg base (ctOf tfn K sa ns bs) 11 d_Book_do (["self", "deed"] : List PySem.Str) (D_Book_do (He.ga K) 0) := by
  refine calM_of (k := 10) (fd_Book_do T) sc_Book_do fun fd cdv A outer s H E ecd hr => ?_
  have S := sc_Book_do
  have tk : Takes (cxOf (CX P w) P w K mg base (["self", "deed"] : List PySem.Str) d_Book_do.qual d_Book_do.scope (He.fAd K d_Book_do.at_) cdv A outer s H E) (fun cls d _ H => E cls d H) := takes_of rfl rfl rfl rfl
  exact (gs_cons (gs_expr (ge_cal (c_check_deed T) rfl (fun _ _ _ _ _ _ us hl => match us, hl with | [_, _], _ => rfl) hr (by decide) tk (fun _ _ _ _ h => aCons_len (fun _ _ _ _ h => aCons_len (fun _ _ _ _ h => aNil_len h) h) h) rfl (ga_cons (ge_fld (C := He.ga K "Book") (cl_Book T) (na_Book_site T) (ge_var (i := 0) rfl (.inl rfl))) (ga_cons (ge_var (i := 1) rfl (.inl rfl)) ga_nil)))) (gs_cons (gs_expr (ge_cal (c_check_barred T) rfl (fun _ _ _ _ _ _ us hl => match us, hl with | [_, _, _], _ => rfl) hr (by decide) tk (fun _ _ _ _ h => aCons_len (fun _ _ _ _ h => aCons_len (fun _ _ _ _ h => aCons_len (fun _ _ _ _ h => aNil_len h) h) h) h) rfl (ga_cons (ge_fld (C := He.ga K "Book") (cl_Book T) (na_Book_site T) (ge_var (i := 0) rfl (.inl rfl))) (ga_cons (ge_fld (C := He.ga K "Book") (cl_Book T) (na_Book_budget T) (ge_var (i := 0) rfl (.inl rfl))) (ga_cons (ge_var (i := 1) rfl (.inl rfl)) ga_nil))))) (gs_cons (gs_expr (ge_bm rfl F.plainAttrs_list F.slot_list_append F.type_list_append mt_append mb_append (ge_fld (C := He.ga K "Book") (cl_Book T) (na_Book_past T) (ge_var (i := 0) rfl (.inl rfl))) (ga_cons (ge_tup (ga_cons (ge_fld (C := He.ga K "Book") (cl_Book T) (na_Book_site T) (ge_var (i := 0) rfl (.inl rfl))) (ga_cons (ge_fld (C := He.ga K "Book") (cl_Book T) (na_Book_budget T) (ge_var (i := 0) rfl (.inl rfl))) ga_nil))) ga_nil))) (gs_cons (gs_fld (C := He.ga K "Book") (cl_Book T) (na_Book_deeds T) (ge_var (i := 0) rfl (.inl rfl)) (ge_bin op_addAll ops_add (ge_fld (C := He.ga K "Book") (cl_Book T) (na_Book_deeds T) (ge_var (i := 0) rfl (.inl rfl))) (ge_tup (ga_cons (ge_var (i := 1) rfl (.inl rfl)) ga_nil)))) (gs_one (gs_asg (nx_gTu (fun _ _ _ _ _ h => nx_gsCons (nx_gFld' ne_dVar) (fun _ _ _ _ _ h => nx_gsCons (nx_gFld' ne_dVar) (fun _ _ _ _ _ h => nx_gsNil h) h) h)) (ge_cal (c_state_behind T) rfl (fun _ _ _ _ _ _ us hl => match us, hl with | [_, _, _], _ => rfl) hr (by decide) tk (fun _ _ _ _ h => aCons_len (fun _ _ _ _ h => aCons_len (fun _ _ _ _ h => aCons_len (fun _ _ _ _ h => aNil_len h) h) h) h) rfl (ga_cons (ge_fld (C := He.ga K "Book") (cl_Book T) (na_Book_site T) (ge_var (i := 0) rfl (.inl rfl))) (ga_cons (ge_fld (C := He.ga K "Book") (cl_Book T) (na_Book_budget T) (ge_var (i := 0) rfl (.inl rfl))) (ga_cons (ge_var (i := 1) rfl (.inl rfl)) ga_nil)))) (gg_tup rfl rfl (ggs_cons (gg_fld (C := He.ga K "Book") (cl_Book T) (na_Book_site T) (ge_var (i := 0) rfl (.inl rfl))) (ggs_cons (gg_fld (C := He.ga K "Book") (cl_Book T) (na_Book_budget T) (ge_var (i := 0) rfl (.inl rfl))) ggs_nil)) (fun _ _ _ _ h => gsCons_len (fun _ _ _ _ h => gsCons_len (fun _ _ _ _ h => gsNil_len h) (nx_gFld' ne_dVar) h) (nx_gFld' ne_dVar) h))))))))
theorem fd__law_barred (T : TT w h base mg K) : ∃ fd, Fd K d__law_barred fd := T.c.t.d.def_ 55 (d := d__law_barred) rfl
theorem sc__law_barred : FnScope (["book", "deed", "e"] : List PySem.Str) (["book", "deed"] : List PySem.Str) d__law_barred.scope := ⟨rfl, rfl, rfl, by decide +kernel, rfl, by decide +kernel, by decide +kernel⟩
theorem c__law_barred (T : TT w h base mg K) : Cal P w K mg base (ctOf tfn K sa ns bs) 12 "_law_barred" d__law_barred (["book", "deed"] : List PySem.Str) (D__law_barred (He.ga K) 0) := by
  refine cal_of (k := 11) (gm__law_barred T) (fd__law_barred T) sc__law_barred fun fd cdv A outer s H E ecd hr => ?_
  have S := sc__law_barred
  have tk : Takes (cxOf (CX P w) P w K mg base (["book", "deed", "e"] : List PySem.Str) d__law_barred.qual d__law_barred.scope (He.fAd K d__law_barred.at_) cdv A outer s H E) (fun cls d _ H => E cls d H) := takes_of rfl rfl rfl rfl
  exact (gs_cons (gs_try rfl rfl tk rfl (fun W pn xe tk _ => (gs_one (gs_expr (ge_meth (C := He.ga K "Book") (m := "do") (ds := []) (dvs := []) (c_Book_do T) (me_Book_do T) (cl_Book T) (hb_all rfl (fun _ _ _ _ _ _ us hl => match us, hl with | [_, _], _ => rfl)) (fun _ _ => .nil) hr (by decide) tk (fun _ _ _ _ h => congrArg (fun z => z + 0 + 1) (aCons_len (fun _ _ _ _ h => aNil_len h) h)) (ge_var (i := 0) rfl (.inl rfl)) (ga_cons (ge_var (i := 1) rfl (.inl rfl)) ga_nil))))) (.as_ S.nd rfl rfl (fun q hq => nomatch hq) ⟨rfl, by decide, .inl (gm_Barred T)⟩ (exmL_ok (em_Barred T)) (fun a oe C d pn fs hz hf => by have hr := hr.suite (some (.ref a)); exact (gs_one (gs_ret (ge_xf (xfL_ok (xf_reason T)) hz hf rfl (.inl rfl))))) .nil)) (gs_one (gs_ret ge_str)))
theorem fd__law_odd (T : TT w h base mg K) : ∃ fd, Fd K d__law_odd fd := T.c.t.d.def_ 56 (d := d__law_odd) rfl
theorem sc__law_odd : FnScope (["pool", "site", "layers", "last", "odd", "one", "other", "weight", "number", "spans", "some"] : List PySem.Str) (["pool", "site"] : List PySem.Str) d__law_odd.scope := ⟨rfl, rfl, rfl, by decide +kernel, rfl, by decide +kernel, by decide +kernel⟩
theorem c__law_odd (T : TT w h base mg K) : Cal P w K mg base (ctOf tfn K sa ns bs) 3 "_law_odd" d__law_odd (["pool", "site"] : List PySem.Str) (D__law_odd (He.ga K) 0) := by
  refine cal_of (k := 2) (gm__law_odd T) (fd__law_odd T) sc__law_odd fun fd cdv A outer s H E ecd hr => ?_
  have S := sc__law_odd
  have tk : Takes (cxOf (CX P w) P w K mg base (["pool", "site", "layers", "last", "odd", "one", "other", "weight", "number", "spans", "some"] : List PySem.Str) d__law_odd.qual d__law_odd.scope (He.fAd K d__law_odd.at_) cdv A outer s H E) (fun cls d _ H => E cls d H) := takes_of rfl rfl rfl rfl
  exact (gs_cons (gs_par3 rfl S.nd (i := 2) (j := 3) (l := 4) rfl rfl rfl (by decide) (by decide) (by decide) rfl rfl rfl (ga_cons (ge_ix hr.u1 rfl (ge_var (i := 1) rfl (.inl rfl)) ge_int) (ga_cons (ge_ix hr.u1 rfl (ge_var (i := 1) rfl (.inl rfl)) ge_int) (ga_cons (ge_cal (c__law_pick T) rfl (fun _ _ _ _ _ _ us hl => match us, hl with | [_, _], _ => rfl) hr (by decide) tk (fun _ _ _ _ h => aCons_len (fun _ _ _ _ h => aCons_len (fun _ _ _ _ h => aNil_len h) h) h) rfl (ga_cons (ge_var (i := 0) rfl (.inl rfl)) (ga_cons (ge_lst (ga_cons ge_str (ga_cons ge_non (ga_cons ge_int (ga_cons ge_str (ga_cons ge_str (ga_cons (ge_tup (ga_cons ge_str ga_nil)) ga_nil))))))) ga_nil))) ga_nil))) rfl) (gs_cons (gs_par rfl S.nd (i := 5) (j := 6) rfl rfl (by decide) rfl rfl (ga_cons (ge_ix hr.u1 rfl (ge_var (i := 2) rfl (.inl rfl)) ge_int) (ga_cons (ge_ix hr.u1 rfl (ge_var (i := 2) rfl (.inl rfl)) (ge_un un_neg uns_neg ge_int)) ga_nil)) rfl) (gs_cons (gs_par rfl S.nd (i := 7) (j := 8) rfl rfl (by decide) rfl rfl (ga_cons (ge_cal (c__law_pick T) rfl (fun _ _ _ _ _ _ us hl => match us, hl with | [_, _], _ => rfl) hr (by decide) tk (fun _ _ _ _ h => aCons_len (fun _ _ _ _ h => aCons_len (fun _ _ _ _ h => aNil_len h) h) h) rfl (ga_cons (ge_var (i := 0) rfl (.inl rfl)) (ga_cons (ge_lst (ga_cons ge_int (ga_cons ge_int (ga_cons ge_non (ga_cons ge_bl (ga_cons ge_str (ga_cons (ge_tup (ga_cons ge_int ga_nil)) ga_nil))))))) ga_nil))) (ga_cons (ge_cal (c__law_pick T) rfl (fun _ _ _ _ _ _ us hl => match us, hl with | [_, _], _ => rfl) hr (by decide) tk (fun _ _ _ _ h => aCons_len (fun _ _ _ _ h => aCons_len (fun _ _ _ _ h => aNil_len h) h) h) rfl (ga_cons (ge_var (i := 0) rfl (.inl rfl)) (ga_cons (ge_lst (ga_cons (ge_un un_neg uns_neg ge_int) (ga_cons ge_non (ga_cons ge_str (ga_cons ge_bl (ga_cons (ge_tup (ga_cons ge_int ga_nil)) ga_nil)))))) ga_nil))) ga_nil)) rfl) (gs_cons (gs_set (i := 9) S.nd rfl (.inl rfl) (ge_cal (c__law_pick T) rfl (fun _ _ _ _ _ _ us hl => match us, hl with | [_, _], _ => rfl) hr (by decide) tk (fun _ _ _ _ h => aCons_len (fun _ _ _ _ h => aCons_len (fun _ _ _ _ h => aNil_len h) h) h) rfl (ga_cons (ge_var (i := 0) rfl (.inl rfl)) (ga_cons (ge_lst (ga_cons (ge_tup ga_nil) (ga_cons (ge_tup (ga_cons (ge_tup (ga_cons ge_int (ga_cons ge_int ga_nil))) ga_nil)) (ga_cons (ge_tup (ga_cons (ge_tup (ga_cons ge_int (ga_cons (ge_bin op_addAll ops_add (ge_var (i := 3) rfl (.inl rfl)) ge_int) ga_nil))) ga_nil)) (ga_cons (ge_lst (ga_cons (ge_tup (ga_cons ge_int (ga_cons ge_int ga_nil))) ga_nil)) (ga_cons (ge_tup (ga_cons (ge_tup (ga_cons ge_int (ga_cons ge_int ga_nil))) (ga_cons (ge_tup (ga_cons ge_int (ga_cons ge_int ga_nil))) ga_nil))) (ga_cons (ge_bin G.op_mulX ops_mulT (ge_tup (ga_cons (ge_tup (ga_cons ge_int (ga_cons ge_int ga_nil))) ga_nil)) ge_int) (ga_cons (ge_tup (ga_cons (ge_tup (ga_cons ge_int ga_nil)) ga_nil)) (ga_cons ge_non ga_nil))))))))) ga_nil)))) (gs_cons (gs_set (i := 10) S.nd rfl (.inl rfl) (ge_lst (ga_cons (ge_tup (ga_cons (ge_tup (ga_cons ge_str (ga_cons (ge_var (i := 4) rfl (.inl rfl)) (ga_cons (ge_var (i := 5) rfl (.inl rfl)) (ga_cons (ge_var (i := 6) rfl (.inl rfl)) ga_nil))))) (ga_cons ge_int ga_nil))) (ga_cons (ge_tup (ga_cons (ge_tup (ga_cons ge_str (ga_cons ge_str (ga_cons (ge_var (i := 4) rfl (.inl rfl)) (ga_cons (ge_var (i := 6) rfl (.inl rfl)) ga_nil))))) (ga_cons ge_int ga_nil))) (ga_cons (ge_tup (ga_cons (ge_tup (ga_cons ge_str (ga_cons ge_str (ga_cons (ge_var (i := 5) rfl (.inl rfl)) (ga_cons (ge_var (i := 4) rfl (.inl rfl)) ga_nil))))) (ga_cons ge_int ga_nil))) ga_nil))))) (gs_cons (gs_set (i := 10) S.nd rfl (.inl rfl) (ge_bin op_addAll ops_add (ge_var (i := 10) rfl (.inl rfl)) (ge_lst (ga_cons (ge_tup (ga_cons (ge_tup (ga_cons ge_str (ga_cons ge_str (ga_cons (ge_var (i := 5) rfl (.inl rfl)) (ga_cons (ge_var (i := 5) rfl (.inl rfl)) ga_nil))))) (ga_cons ge_int ga_nil))) (ga_cons (ge_tup (ga_cons (ge_tup (ga_cons ge_str (ga_cons (ge_var (i := 4) rfl (.inl rfl)) (ga_cons (ge_var (i := 4) rfl (.inl rfl)) (ga_cons (ge_var (i := 5) rfl (.inl rfl)) (ga_cons ge_int ga_nil)))))) (ga_cons ge_int ga_nil))) ga_nil))))) (gs_cons (gs_set (i := 10) S.nd rfl (.inl rfl) (ge_bin op_addAll ops_add (ge_var (i := 10) rfl (.inl rfl)) (ge_lst (ga_cons (ge_tup (ga_cons (ge_tup (ga_cons ge_str (ga_cons ge_str (ga_cons (ge_var (i := 6) rfl (.inl rfl)) (ga_cons (ge_var (i := 6) rfl (.inl rfl)) (ga_cons (ge_var (i := 7) rfl (.inl rfl)) ga_nil)))))) (ga_cons ge_int ga_nil))) (ga_cons (ge_tup (ga_cons (ge_tup (ga_cons ge_str (ga_cons (ge_var (i := 4) rfl (.inl rfl)) (ga_cons (ge_var (i := 9) rfl (.inl rfl)) (ga_cons (ge_var (i := 7) rfl (.inl rfl)) ga_nil))))) (ga_cons ge_int ga_nil))) ga_nil))))) (gs_cons (gs_set (i := 10) S.nd rfl (.inl rfl) (ge_bin op_addAll ops_add (ge_var (i := 10) rfl (.inl rfl)) (ge_lst (ga_cons (ge_tup (ga_cons (ge_tup (ga_cons ge_str (ga_cons (ge_var (i := 5) rfl (.inl rfl)) (ga_cons (ge_var (i := 9) rfl (.inl rfl)) (ga_cons (ge_var (i := 7) rfl (.inl rfl)) ga_nil))))) (ga_cons ge_int ga_nil))) (ga_cons (ge_tup (ga_cons (ge_tup (ga_cons ge_str (ga_cons (ge_var (i := 5) rfl (.inl rfl)) (ga_cons (ge_tup (ga_cons (ge_tup (ga_cons ge_int (ga_cons ge_int ga_nil))) ga_nil)) (ga_cons (ge_var (i := 7) rfl (.inl rfl)) ga_nil))))) (ga_cons ge_int ga_nil))) ga_nil))))) (gs_cons (gs_set (i := 10) S.nd rfl (.inl rfl) (ge_bin op_addAll ops_add (ge_var (i := 10) rfl (.inl rfl)) (ge_lst (ga_cons (ge_tup (ga_cons (ge_tup (ga_cons ge_str (ga_cons (ge_var (i := 4) rfl (.inl rfl)) (ga_cons (ge_var (i := 8) rfl (.inl rfl)) ga_nil)))) (ga_cons ge_int ga_nil))) (ga_cons (ge_tup (ga_cons (ge_tup (ga_cons ge_str (ga_cons ge_str (ga_cons (ge_var (i := 8) rfl (.inl rfl)) ga_nil)))) (ga_cons ge_int ga_nil))) (ga_cons (ge_tup (ga_cons (ge_tup (ga_cons ge_str (ga_cons (ge_var (i := 8) rfl (.inl rfl)) ga_nil))) (ga_cons ge_int ga_nil))) ga_nil)))))) (gs_cons (gs_set (i := 10) S.nd rfl (.inl rfl) (ge_bin op_addAll ops_add (ge_var (i := 10) rfl (.inl rfl)) (ge_lst (ga_cons (ge_tup (ga_cons (ge_tup (ga_cons ge_str (ga_cons (ge_cal (c__law_pick T) rfl (fun _ _ _ _ _ _ us hl => match us, hl with | [_, _], _ => rfl) hr (by decide) tk (fun _ _ _ _ h => aCons_len (fun _ _ _ _ h => aCons_len (fun _ _ _ _ h => aNil_len h) h) h) rfl (ga_cons (ge_var (i := 0) rfl (.inl rfl)) (ga_cons (ge_lst (ga_cons (ge_un un_neg uns_neg ge_int) (ga_cons ge_int (ga_cons ge_non (ga_cons ge_bl (ga_cons ge_str ga_nil)))))) ga_nil))) ga_nil))) (ga_cons ge_int ga_nil))) (ga_cons (ge_tup (ga_cons (ge_tup (ga_cons ge_str (ga_cons ge_str (ga_cons (ge_var (i := 5) rfl (.inl rfl)) ga_nil)))) (ga_cons ge_int ga_nil))) ga_nil))))) (gs_cons (gs_expr (ge_bm rfl F.plainAttrs_list F.slot_list_append F.type_list_append mt_append mb_append (ge_var (i := 10) rfl (.inl rfl)) (ga_cons (ge_tup (ga_cons (ge_tup (ga_cons ge_str (ga_cons (ge_var (i := 5) rfl (.inl rfl)) (ga_cons (ge_tup (ga_cons (ge_tup (ga_cons ge_int (ga_cons ge_int ga_nil))) ga_nil)) ga_nil)))) (ga_cons ge_int ga_nil))) ga_nil))) (gs_cons (gs_if (gt_cmp (op_neP hr.u64) ops_ne (ge_var (i := 5) rfl (.inl rfl)) (ge_var (i := 6) rfl (.inl rfl)) rfl) (gs_one (gs_expr (ge_bm rfl F.plainAttrs_list F.slot_list_append F.type_list_append mt_append mb_append (ge_var (i := 10) rfl (.inl rfl)) (ga_cons (ge_tup (ga_cons (ge_tup (ga_cons ge_str (ga_cons ge_str (ga_cons (ge_var (i := 6) rfl (.inl rfl)) (ga_cons (ge_var (i := 5) rfl (.inl rfl)) (ga_cons (ge_var (i := 7) rfl (.inl rfl)) ga_nil)))))) (ga_cons ge_int ga_nil))) ga_nil)))) gs_nil) (gs_cons (gs_set (i := 10) S.nd rfl (.inl rfl) (ge_bin op_addAll ops_add (ge_var (i := 10) rfl (.inl rfl)) (ge_lst (ga_cons (ge_tup (ga_cons ge_non (ga_cons ge_int ga_nil))) (ga_cons (ge_tup (ga_cons (ge_tup ga_nil) (ga_cons ge_int ga_nil))) (ga_cons (ge_tup (ga_cons (ge_lst (ga_cons ge_str (ga_cons ge_int ga_nil))) (ga_cons ge_int ga_nil))) (ga_cons (ge_tup (ga_cons ge_str (ga_cons ge_int ga_nil))) (ga_cons (ge_tup (ga_cons (ge_tup (ga_cons ge_str (ga_cons ge_int ga_nil))) (ga_cons ge_int ga_nil))) ga_nil)))))))) (gs_one (gs_ret (ge_cal (c__law_pick T) rfl (fun _ _ _ _ _ _ us hl => match us, hl with | [_, _], _ => rfl) hr (by decide) tk (fun _ _ _ _ h => aCons_len (fun _ _ _ _ h => aCons_len (fun _ _ _ _ h => aNil_len h) h) h) rfl (ga_cons (ge_var (i := 0) rfl (.inl rfl)) (ga_cons (ge_bin op_addAll ops_add (ge_var (i := 10) rfl (.inl rfl)) (ge_lst (ga_cons (ge_tup (ga_cons (ge_tup (ga_cons ge_int (ga_cons ge_int ga_nil))) (ga_cons ge_int ga_nil))) ga_nil))) ga_nil))))))))))))))))))
theorem fd__law_index (T : TT w h base mg K) : ∃ fd, Fd K d__law_index fd := T.c.t.d.def_ 57 (d := d__law_index) rfl
theorem sc__law_index : FnScope (["book", "deed", "e"] : List PySem.Str) (["book", "deed"] : List PySem.Str) d__law_index.scope := ⟨rfl, rfl, rfl, by decide +kernel, rfl, by decide +kernel, by decide +kernel⟩
theorem c__law_index (T : TT w h base mg K) : Cal P w K mg base (ctOf tfn K sa ns bs) 12 "_law_index" d__law_index (["book", "deed"] : List PySem.Str) (D__law_index (He.ga K) 0) := by
  refine cal_of (k := 11) (gm__law_index T) (fd__law_index T) sc__law_index fun fd cdv A outer s H E ecd hr => ?_
  have S := sc__law_index
  have tk : Takes (cxOf (CX P w) P w K mg base (["book", "deed", "e"] : List PySem.Str) d__law_index.qual d__law_index.scope (He.fAd K d__law_index.at_) cdv A outer s H E) (fun cls d _ H => E cls d H) := takes_of rfl rfl rfl rfl
  exact (gs_cons (gs_try rfl rfl tk rfl (fun W pn xe tk _ => (gs_one (gs_expr (ge_meth (C := He.ga K "Book") (m := "do") (ds := []) (dvs := []) (c_Book_do T) (me_Book_do T) (cl_Book T) (hb_all rfl (fun _ _ _ _ _ _ us hl => match us, hl with | [_, _], _ => rfl)) (fun _ _ => .nil) hr (by decide) tk (fun _ _ _ _ h => congrArg (fun z => z + 0 + 1) (aCons_len (fun _ _ _ _ h => aNil_len h) h)) (ge_var (i := 0) rfl (.inl rfl)) (ga_cons (ge_var (i := 1) rfl (.inl rfl)) ga_nil))))) (.as_ S.nd rfl rfl (fun q hq => nomatch hq) ⟨rfl, by decide, .inl (gm_InvalidDeed T)⟩ (exmL_ok (em_InvalidDeed T)) (fun a oe C d pn fs hz hf => by have hr := hr.suite (some (.ref a)); exact (gs_one (gs_ret (ge_if (gt_tru rfl (ge_xi (cv := (.ref (He.ga K "DigError"))) (kitL_ok (kt_DigError T)) (fun u h => h) (pe_glob rfl (gm_DigError T) rfl) hz hf rfl (.inl rfl) rfl (m_isinstance T) bt_isinstance)) (ge_xf (xfL_ok (xf_index T)) hz hf rfl (.inl rfl)) ge_str)))) (.one ⟨rfl, by decide, .inl (gm_Barred T)⟩ (exmL_ok (em_Barred T)) (fun a oe C d pn fs hz hf => by have hr := hr.suite (some (.ref a)); exact (gs_one (gs_ret ge_non))) .nil))) (gs_one (gs_ret ge_non)))
theorem fd__law_right (T : TT w h base mg K) : ∃ fd, Fd K d__law_right fd := T.c.t.d.def_ 58 (d := d__law_right) rfl
theorem sc__law_right : FnScope (["pool", "site", "budget", "book", "turn", "ahead", "deed", "due"] : List PySem.Str) (["pool"] : List PySem.Str) d__law_right.scope := ⟨rfl, rfl, rfl, by decide +kernel, rfl, by decide +kernel, by decide +kernel⟩
theorem c__law_right (T : TT w h base mg K) : Cal P w K mg base (ctOf tfn K sa ns bs) 17 "_law_right" d__law_right (["pool"] : List PySem.Str) (D__law_right (He.ga K) 0) := by
  refine cal_of (k := 16) (gm__law_right T) (fd__law_right T) sc__law_right fun fd cdv A outer s H E ecd hr => ?_
  have S := sc__law_right
  have tk : Takes (cxOf (CX P w) P w K mg base (["pool", "site", "budget", "book", "turn", "ahead", "deed", "due"] : List PySem.Str) d__law_right.qual d__law_right.scope (He.fAd K d__law_right.at_) cdv A outer s H E) (fun cls d _ H => E cls d H) := takes_of rfl rfl rfl rfl
  exact (gs_cons (gs_par rfl S.nd (i := 1) (j := 2) rfl rfl (by decide) rfl rfl (ga_cons (ge_cal (c__law_small T) rfl (fun _ _ _ _ _ _ us hl => match us, hl with | [_], _ => rfl) hr (by decide) tk (fun _ _ _ _ h => aCons_len (fun _ _ _ _ h => aNil_len h) h) rfl (ga_cons (ge_var (i := 0) rfl (.inl rfl)) ga_nil)) (ga_cons (ge_bin op_addAll ops_add ge_int (ge_cal (c__law_draw T) rfl (fun _ _ _ _ _ _ us hl => match us, hl with | [_, _], _ => rfl) hr (by decide) tk (fun _ _ _ _ h => aCons_len (fun _ _ _ _ h => aCons_len (fun _ _ _ _ h => aNil_len h) h) h) rfl (ga_cons (ge_var (i := 0) rfl (.inl rfl)) (ga_cons ge_int ga_nil)))) ga_nil)) rfl) (gs_cons (gs_set (i := 3) S.nd rfl (.inl rfl) (ge_mk (ds := []) (dvs := []) (c_Bookdd_initdd T) (mk_Book T) (fun fd F => FunD.binds1 F 3 1 (fun z => nomatch z) rfl fun _ _ _ _ _ _ _ us its hu hl => match us, hu, its, hl with | [_, _, _], _, [_], _ => ⟨_, rfl, rfl⟩) (fun _ _ => .nil) hr (by decide) tk (fun _ _ _ _ h => congrArg (fun z => z + 0 + 1) (aCons_len (fun _ _ _ _ h => aCons_len (fun _ _ _ _ h => aNil_len h) h) h)) rfl (gm_Book T) (ga_cons (ge_cal (c__law_made T) rfl (fun _ _ _ _ _ _ us hl => match us, hl with | [_], _ => rfl) hr (by decide) tk (fun _ _ _ _ h => aCons_len (fun _ _ _ _ h => aNil_len h) h) rfl (ga_cons (ge_var (i := 1) rfl (.inl rfl)) ga_nil)) (ga_cons (ge_var (i := 2) rfl (.inl rfl)) ga_nil)))) (gs_cons (gs_for (passes_of rfl) rfl nx_gN (gi_rng1 rfl (m_range T) ge_int) (gg_name (i := 4) S.nd rfl (.inl rfl)) (gs_one (gs_expr (ge_cal (c__law_barred T) rfl (fun _ _ _ _ _ _ us hl => match us, hl with | [_, _], _ => rfl) hr (by decide) tk (fun _ _ _ _ h => aCons_len (fun _ _ _ _ h => aCons_len (fun _ _ _ _ h => aNil_len h) h) h) rfl (ga_cons (ge_var (i := 3) rfl (.inl rfl)) (ga_cons (ge_tup (ga_cons ge_str (ga_cons (ge_bin op_addAll ops_add (ge_bin op_addAll ops_add (ge_fld (C := He.ga K "Book") (cl_Book T) (na_Book_budget T) (ge_var (i := 3) rfl (.inl rfl))) ge_int) (ge_cal (c__law_draw T) rfl (fun _ _ _ _ _ _ us hl => match us, hl with | [_, _], _ => rfl) hr (by decide) tk (fun _ _ _ _ h => aCons_len (fun _ _ _ _ h => aCons_len (fun _ _ _ _ h => aNil_len h) h) h) rfl (ga_cons (ge_var (i := 0) rfl (.inl rfl)) (ga_cons ge_int ga_nil)))) ga_nil))) ga_nil)))))) (gs_cons (gs_set (i := 5) S.nd rfl (.inl rfl) (ge_cb (G.CallR.or (call_reprD hr.gd hr.u101) (call_reprB hr.gd hr.u101)) cb_reprX rfl (m_repr T) bt_repr (ga_cons (ge_lst (ga_cons (ge_fld (C := He.ga K "Site") (cl_Site T) (na_Site_finds T) (ge_fld (C := He.ga K "Book") (cl_Book T) (na_Book_site T) (ge_var (i := 3) rfl (.inl rfl)))) (ga_cons (ge_fld (C := He.ga K "Site") (cl_Site T) (na_Site_relations T) (ge_fld (C := He.ga K "Book") (cl_Book T) (na_Book_site T) (ge_var (i := 3) rfl (.inl rfl)))) (ga_cons (ge_fld (C := He.ga K "Book") (cl_Book T) (na_Book_budget T) (ge_var (i := 3) rfl (.inl rfl))) (ga_cons (ge_fld (C := He.ga K "Book") (cl_Book T) (na_Book_deeds T) (ge_var (i := 3) rfl (.inl rfl))) ga_nil))))) ga_nil))) (gs_cons (gs_for (passes_of rfl) rfl nx_gN (gi_rng1 rfl (m_range T) ge_int) (gg_name (i := 4) S.nd rfl (.inl rfl)) (gs_cons (gs_asg (nx_gTu (fun _ _ _ _ _ h => nx_gsCons nx_gN' (fun _ _ _ _ _ h => nx_gsCons nx_gN' (fun _ _ _ _ _ h => nx_gsNil h) h) h)) (ge_cal (c__law_odd T) rfl (fun _ _ _ _ _ _ us hl => match us, hl with | [_, _], _ => rfl) hr (by decide) tk (fun _ _ _ _ h => aCons_len (fun _ _ _ _ h => aCons_len (fun _ _ _ _ h => aNil_len h) h) h) rfl (ga_cons (ge_var (i := 0) rfl (.inl rfl)) (ga_cons (ge_var (i := 1) rfl (.inl rfl)) ga_nil))) (gg_tup rfl rfl (ggs_cons (gg_name (i := 6) S.nd rfl (.inl rfl)) (ggs_cons (gg_name (i := 7) S.nd rfl (.inl rfl)) ggs_nil)) (fun _ _ _ _ h => gsCons_len (fun _ _ _ _ h => gsCons_len (fun _ _ _ _ h => gsNil_len h) nx_gN' h) nx_gN' h))) (gs_cons (gs_if (gt_cmp (op_neP hr.u64) ops_ne (ge_cb (G.CallR.or (call_reprD hr.gd hr.u101) (call_reprB hr.gd hr.u101)) cb_reprX rfl (m_repr T) bt_repr (ga_cons (ge_cal (c__law_index T) rfl (fun _ _ _ _ _ _ us hl => match us, hl with | [_, _], _ => rfl) hr (by decide) tk (fun _ _ _ _ h => aCons_len (fun _ _ _ _ h => aCons_len (fun _ _ _ _ h => aNil_len h) h) h) rfl (ga_cons (ge_var (i := 3) rfl (.inl rfl)) (ga_cons (ge_var (i := 6) rfl (.inl rfl)) ga_nil))) ga_nil)) (ge_cb (G.CallR.or (call_reprD hr.gd hr.u101) (call_reprB hr.gd hr.u101)) cb_reprX rfl (m_repr T) bt_repr (ga_cons (ge_var (i := 7) rfl (.inl rfl)) ga_nil)) rfl) (gs_one (gs_ret ge_bl)) gs_nil) (gs_one (gs_if (gt_cmp (op_neP hr.u64) ops_ne (ge_cb (G.CallR.or (call_reprD hr.gd hr.u101) (call_reprB hr.gd hr.u101)) cb_reprX rfl (m_repr T) bt_repr (ga_cons (ge_lst (ga_cons (ge_fld (C := He.ga K "Site") (cl_Site T) (na_Site_finds T) (ge_fld (C := He.ga K "Book") (cl_Book T) (na_Book_site T) (ge_var (i := 3) rfl (.inl rfl)))) (ga_cons (ge_fld (C := He.ga K "Site") (cl_Site T) (na_Site_relations T) (ge_fld (C := He.ga K "Book") (cl_Book T) (na_Book_site T) (ge_var (i := 3) rfl (.inl rfl)))) (ga_cons (ge_fld (C := He.ga K "Book") (cl_Book T) (na_Book_budget T) (ge_var (i := 3) rfl (.inl rfl))) (ga_cons (ge_fld (C := He.ga K "Book") (cl_Book T) (na_Book_deeds T) (ge_var (i := 3) rfl (.inl rfl))) ga_nil))))) ga_nil)) (ge_var (i := 5) rfl (.inl rfl)) rfl) (gs_one (gs_ret ge_bl)) gs_nil))))) (gs_one (gs_ret (ge_and (ge_cmp op_isN ops_isN (ge_cal (c__law_index T) rfl (fun _ _ _ _ _ _ us hl => match us, hl with | [_, _], _ => rfl) hr (by decide) tk (fun _ _ _ _ h => aCons_len (fun _ _ _ _ h => aCons_len (fun _ _ _ _ h => aNil_len h) h) h) rfl (ga_cons (ge_var (i := 3) rfl (.inl rfl)) (ga_cons (ge_tup (ga_cons ge_str (ga_cons ge_str (ga_cons ge_int ga_nil)))) ga_nil))) ge_non rfl) (ge_one (ge_cmp op_isN ops_isN (ge_cal (c__law_index T) rfl (fun _ _ _ _ _ _ us hl => match us, hl with | [_, _], _ => rfl) hr (by decide) tk (fun _ _ _ _ h => aCons_len (fun _ _ _ _ h => aCons_len (fun _ _ _ _ h => aNil_len h) h) h) rfl (ga_cons (ge_var (i := 3) rfl (.inl rfl)) (ga_cons (ge_tup (ga_cons ge_str (ga_cons ge_int ga_nil))) ga_nil))) ge_non rfl))))))))))
theorem fd__law_pool (T : TT w h base mg K) : ∃ fd, Fd K d__law_pool fd := T.c.t.d.def_ 59 (d := d__law_pool) rfl
theorem sc__law_pool : FnScope (["script", "turn", "own", "stirred", "cell"] : List PySem.Str) (["script", "turn"] : List PySem.Str) d__law_pool.scope := ⟨rfl, rfl, rfl, by decide +kernel, rfl, by decide +kernel, by decide +kernel⟩
theorem c__law_pool (T : TT w h base mg K) : Cal P w K mg base (ctOf tfn K sa ns bs) 1 "_law_pool" d__law_pool (["script", "turn"] : List PySem.Str) (D__law_pool (He.ga K) 0) := by
  refine cal_of (k := 0) (gm__law_pool T) (fd__law_pool T) sc__law_pool fun fd cdv A outer s H E ecd hr => ?_
  have S := sc__law_pool
  have tk : Takes (cxOf (CX P w) P w K mg base (["script", "turn", "own", "stirred", "cell"] : List PySem.Str) d__law_pool.qual d__law_pool.scope (He.fAd K d__law_pool.at_) cdv A outer s H E) (fun cls d _ H => E cls d H) := takes_of rfl rfl rfl rfl
  exact (gs_cons (gs_par rfl S.nd (i := 2) (j := 3) rfl rfl (by decide) rfl rfl (ga_cons (ge_if (gt_cmp op_ltA ops_cmp (ge_var (i := 1) rfl (.inl rfl)) (ge_cb call_len cb_len rfl (m_len T) bt_len (ga_cons (ge_var (i := 0) rfl (.inl rfl)) ga_nil)) rfl) (ge_cty call_int1 cb_int rfl (m_int T) bt_int (ga_cons (ge_ix hr.u1 rfl (ge_var (i := 0) rfl (.inl rfl)) (ge_var (i := 1) rfl (.inl rfl))) ga_nil)) (ge_bin op_addAll ops_add (ge_bin G.op_mulX ops_mulT ge_int (ge_var (i := 1) rfl (.inl rfl))) ge_int)) (ga_cons (ge_bin op_addAll ops_add ge_int (ge_bin G.op_mulX ops_mulT ge_int (ge_var (i := 1) rfl (.inl rfl)))) ga_nil)) rfl) (gs_cons (gs_for (passes_of rfl) rfl nx_gN (gi_val rfl (ge_sl rfl (ge_var (i := 0) rfl (.inl rfl)) go_none (go_some ge_int))) (gg_name (i := 4) S.nd rfl (.inl rfl)) (gs_one (gs_set (i := 3) S.nd rfl (.inl rfl) (ge_bin op_mod ops_mod (ge_cty call_int1 cb_int rfl (m_int T) bt_int (ga_cons (ge_bin op_addAll ops_add (ge_bin op_addAll ops_add (ge_bin G.op_mulX ops_mulT (ge_var (i := 3) rfl (.inl rfl)) ge_int) (ge_bin op_mod ops_mod (ge_cty call_int1 cb_int rfl (m_int T) bt_int (ga_cons (ge_var (i := 4) rfl (.inl rfl)) ga_nil)) ge_int)) ge_int) ga_nil)) ge_int)))) (gs_one (gs_ret (ge_lst (ga_cons (ge_bin op_mod ops_mod (ge_cty call_int1 cb_int rfl (m_int T) bt_int (ga_cons (ge_bin op_addAll ops_add (ge_var (i := 3) rfl (.inl rfl)) (ge_bin G.op_mulX ops_mulT (ge_var (i := 2) rfl (.inl rfl)) ge_int)) ga_nil)) ge_int) (ga_cons (ge_if (gt_w (gw_or (gt_cmp op_ltA ops_cmp (ge_var (i := 2) rfl (.inl rfl)) ge_int rfl) (gw_or1 (gt_cmp op_geA ops_cmp (ge_var (i := 2) rfl (.inl rfl)) (ge_bin op_pow ops_pow ge_int ge_int) rfl)))) (ge_cb call_abs cb_abs rfl (m_abs T) bt_abs (ga_cons (ge_var (i := 2) rfl (.inl rfl)) ga_nil)) ge_int) (ga_cons ge_int ga_nil))))))))
theorem fd_law (T : TT w h base mg K) : ∃ fd, Fd K d_law fd := T.c.t.d.def_ 60 (d := d_law) rfl
theorem sc_law : FnScope (["script", "turn"] : List PySem.Str) (["script"] : List PySem.Str) d_law.scope := ⟨rfl, rfl, rfl, by decide +kernel, rfl, by decide +kernel, by decide +kernel⟩
theorem c_law (T : TT w h base mg K) : Cal P w K mg base (ctOf tfn K sa ns bs) 18 "law" d_law (["script"] : List PySem.Str) (D_law (He.ga K) 0) := by
  refine cal_of (k := 17) (gm_law T) (fd_law T) sc_law fun fd cdv A outer s H E ecd hr => ?_
  have S := sc_law
  have tk : Takes (cxOf (CX P w) P w K mg base (["script", "turn"] : List PySem.Str) d_law.qual d_law.scope (He.fAd K d_law.at_) cdv A outer s H E) (fun cls d _ H => E cls d H) := takes_of rfl rfl rfl rfl
  exact (gs_one (gs_ret (ge_cb (cr_all rfl) cb_all rfl (m_all T) bt_all (ga_cons (ge_lc (own := [(("turn" : PySem.Str), 1)]) rfl S.nd (gi_rng1 rfl (m_range T) (ge_cb (G.CallR.or (call_max2 rfl) (cr_max rfl)) cb_max rfl (m_max T) bt_max (ga_cons ge_int (ga_cons (ge_cb (G.CallR.or (call_min2 rfl) (cr_min rfl)) cb_min rfl (m_min T) bt_min (ga_cons (ge_cb call_len cb_len rfl (m_len T) bt_len (ga_cons (ge_var (i := 0) rfl (.inr (.inl rfl))) ga_nil)) (ga_cons ge_int ga_nil))) ga_nil)))) (blkOk_by (scope := ({ kind := PySem.ScopeKind.function, names := [((".0" : PySem.Str), PySem.NameKind.local), (("turn" : PySem.Str), PySem.NameKind.local), (("_law_right" : PySem.Str), PySem.NameKind.globalImplicit), (("_law_pool" : PySem.Str), PySem.NameKind.globalImplicit), (("script" : PySem.Str), PySem.NameKind.free)], isGenerator := false, isCoroutine := false, more := [] } : PySem.Scope)) (own := [(("turn" : PySem.Str), 1)]) (show blkC (["script", "turn"] : List PySem.Str) (defScope (top 122)) ({ kind := PySem.ScopeKind.function, names := [((".0" : PySem.Str), PySem.NameKind.local), (("turn" : PySem.Str), PySem.NameKind.local), (("_law_right" : PySem.Str), PySem.NameKind.globalImplicit), (("_law_pool" : PySem.Str), PySem.NameKind.globalImplicit), (("script" : PySem.Str), PySem.NameKind.free)], isGenerator := false, isCoroutine := false, more := [] } : PySem.Scope) [(("turn" : PySem.Str), 1)] = true by decide +kernel)) (fun _ _ _ _ _ => (gv_name (i := 1) (by decide) S.nd rfl (.inl rfl))) (fun _ _ _ _ _ => gts_nil) (fun _ _ _ _ _ => (ge_cal (c__law_right T) rfl (fun _ _ _ _ _ _ us hl => match us, hl with | [_], _ => rfl) hr (by decide) tk0 (fun _ _ _ _ h => aCons_len (fun _ _ _ _ h => aNil_len h) h) rfl (ga_cons (ge_cal (c__law_pool T) rfl (fun _ _ _ _ _ _ us hl => match us, hl with | [_, _], _ => rfl) hr (by decide) tk0 (fun _ _ _ _ h => aCons_len (fun _ _ _ _ h => aCons_len (fun _ _ _ _ h => aNil_len h) h) h) rfl (ga_cons (ge_var (i := 0) rfl (.inr (.inl rfl))) (ga_cons (ge_var (i := 1) rfl (.inl rfl)) ga_nil))) ga_nil)))) ga_nil))))
end
end K79
local macro_rules
  | `(tactic| simp_arith) => `(tactic| simp only [G.ev_pure, G.ev_bind, G.ev_liftS, G.ev_dVar, G.ev_dC, G.ev_aNil, G.ev_aCons, G.ev_dTup, G.ev_dLst, G.ev_dBin, G.ev_dUn, G.ev_asBb, G.ev_dB, G.ev_dChain, G.ev_bAnd, G.ev_bOr, G.ev_bNot, G.ev_vAnd, G.ev_vOr, G.ev_vNot, G.ev_dIf, G.ev_dTr, G.ev_truB, G.ev_oNone, G.ev_oSome, G.ev_dSl, G.ev_dCall, G.ev_dCallK, G.ev_dCB, G.ev_dBM, G.ev_addII, G.ev_addTT, G.ev_subII, G.ev_eqII, G.ev_eqS, G.ev_neS, G.ev_neII, G.ev_mulII, G.ev_divII, G.ev_modII, G.ev_neg, G.ev_cmpII, G.ev_cmpSS, G.ev_ixT, G.ev_ixK, G.ev_slT, G.ev_lenT, G.ev_lenK, G.ev_lenC, G.ev_abs, G.ev_intI, G.ev_max2, G.ev_min2, G.ev_isiII, G.ev_isiIB, G.ev_isiSS, G.ev_isiTT, G.ev_isN, G.ev_dSrc, G.ev_srcT, G.ev_srcK, G.ev_rng1, G.ev_enm, G.ev_enmT, G.ev_readST, G.ev_readSK, G.ev_readTT, G.ev_readTK, G.ev_dictZip, G.ev_yes, G.thn2_nx, G.thn2_rt, G.thn2_bk, G.thn2_ct, List.getElem?_cons_zero, List.getElem?_cons_succ, Option.some.injEq, exists_eq_left', List.cons_append, List.nil_append, List.append_nil, List.length_cons, List.length_nil, List.set_cons_zero, List.set_cons_succ, List.map_cons, List.map_nil, List.replicate_succ, List.replicate_zero, Nat.reduceSub, Nat.reduceAdd, Nat.reduceLeDiff, Nat.zero_add, Bool.not_true, Bool.not_false, if_true, if_false, Bool.false_eq_true, Bool.true_eq_false, reduceIte, G.PV.int.injEq, G.PV.str.injEq, G.PV.bl.injEq, true_and, and_true, G.ixN30, G.ixN31, G.ixN32, G.atI0, G.atI1, G.atI2, G.atI3, G.atI4, List.set_set, decide_eq_true_eq, Bool.and_eq_true, Bool.true_or, Bool.or_true, Bool.true_and, Bool.and_true, Bool.false_and, Bool.and_false, Bool.or_false, Bool.false_or, Int.reduceLT, Int.reduceLE, Int.reduceAdd, Int.reduceSub, Int.reduceMul, Int.reduceNeg, Nat.reduceLT, Nat.reduceLeDiff, G.wipeP, eq_self, decide_true, decide_false, not_true_eq_false, not_false_eq_true, G.nc0, G.nc1, G.nc2, G.nc3, G.nc4, G.nc5, G.nc6, G.nc7, G.nc8, G.nc9])
  | `(tactic| simp_arith [$ls,*]) => `(tactic| simp only [G.ev_pure, G.ev_bind, G.ev_liftS, G.ev_dVar, G.ev_dC, G.ev_aNil, G.ev_aCons, G.ev_dTup, G.ev_dLst, G.ev_dBin, G.ev_dUn, G.ev_asBb, G.ev_dB, G.ev_dChain, G.ev_bAnd, G.ev_bOr, G.ev_bNot, G.ev_vAnd, G.ev_vOr, G.ev_vNot, G.ev_dIf, G.ev_dTr, G.ev_truB, G.ev_oNone, G.ev_oSome, G.ev_dSl, G.ev_dCall, G.ev_dCallK, G.ev_dCB, G.ev_dBM, G.ev_addII, G.ev_addTT, G.ev_subII, G.ev_eqII, G.ev_eqS, G.ev_neS, G.ev_neII, G.ev_mulII, G.ev_divII, G.ev_modII, G.ev_neg, G.ev_cmpII, G.ev_cmpSS, G.ev_ixT, G.ev_ixK, G.ev_slT, G.ev_lenT, G.ev_lenK, G.ev_lenC, G.ev_abs, G.ev_intI, G.ev_max2, G.ev_min2, G.ev_isiII, G.ev_isiIB, G.ev_isiSS, G.ev_isiTT, G.ev_isN, G.ev_dSrc, G.ev_srcT, G.ev_srcK, G.ev_rng1, G.ev_enm, G.ev_enmT, G.ev_readST, G.ev_readSK, G.ev_readTT, G.ev_readTK, G.ev_dictZip, G.ev_yes, G.thn2_nx, G.thn2_rt, G.thn2_bk, G.thn2_ct, List.getElem?_cons_zero, List.getElem?_cons_succ, Option.some.injEq, exists_eq_left', List.cons_append, List.nil_append, List.append_nil, List.length_cons, List.length_nil, List.set_cons_zero, List.set_cons_succ, List.map_cons, List.map_nil, List.replicate_succ, List.replicate_zero, Nat.reduceSub, Nat.reduceAdd, Nat.reduceLeDiff, Nat.zero_add, Bool.not_true, Bool.not_false, if_true, if_false, Bool.false_eq_true, Bool.true_eq_false, reduceIte, G.PV.int.injEq, G.PV.str.injEq, G.PV.bl.injEq, true_and, and_true, G.ixN30, G.ixN31, G.ixN32, G.atI0, G.atI1, G.atI2, G.atI3, G.atI4, List.set_set, decide_eq_true_eq, Bool.and_eq_true, Bool.true_or, Bool.or_true, Bool.true_and, Bool.and_true, Bool.false_and, Bool.and_false, Bool.or_false, Bool.false_or, Int.reduceLT, Int.reduceLE, Int.reduceAdd, Int.reduceSub, Int.reduceMul, Int.reduceNeg, Nat.reduceLT, Nat.reduceLeDiff, G.wipeP, eq_self, decide_true, decide_false, not_true_eq_false, not_false_eq_true, G.nc0, G.nc1, G.nc2, G.nc3, G.nc4, G.nc5, G.nc6, G.nc7, G.nc8, G.nc9, $ls,*])
  | `(tactic| simp_all_arith) => `(tactic| repeat (first | with_reducible refine G.evS_seq ?_ | with_reducible refine G.evS_asg ?_ | with_reducible refine G.evS_retN ?_ | with_reducible refine G.evS_ret ?_ | with_reducible refine G.evS_if ?_ | with_reducible refine G.evS_expr ?_ | with_reducible refine G.evS_gN ?_ | with_reducible refine G.evS_gTu ?_ | with_reducible refine G.evS_gsNil ?_ | with_reducible refine G.evS_gsCons ?_ | with_reducible refine G.evS_gSb ?_ | with_reducible refine G.evS_next ?_ | with_reducible refine G.evS_par ?_ | with_reducible refine G.evS_fld ?_ | simp only [G.ev_pure, G.ev_bind, G.ev_liftS, G.ev_dVar, G.ev_dC, G.ev_aNil, G.ev_aCons, G.ev_dTup, G.ev_dLst, G.ev_dBin, G.ev_dUn, G.ev_asBb, G.ev_dB, G.ev_dChain, G.ev_bAnd, G.ev_bOr, G.ev_bNot, G.ev_vAnd, G.ev_vOr, G.ev_vNot, G.ev_dIf, G.ev_dTr, G.ev_truB, G.ev_oNone, G.ev_oSome, G.ev_dSl, G.ev_dCall, G.ev_dCallK, G.ev_dCB, G.ev_dBM, G.ev_addII, G.ev_addTT, G.ev_subII, G.ev_eqII, G.ev_eqS, G.ev_neS, G.ev_neII, G.ev_mulII, G.ev_divII, G.ev_modII, G.ev_neg, G.ev_cmpII, G.ev_cmpSS, G.ev_ixT, G.ev_ixK, G.ev_slT, G.ev_lenT, G.ev_lenK, G.ev_lenC, G.ev_abs, G.ev_intI, G.ev_max2, G.ev_min2, G.ev_isiII, G.ev_isiIB, G.ev_isiSS, G.ev_isiTT, G.ev_isN, G.ev_dSrc, G.ev_srcT, G.ev_srcK, G.ev_rng1, G.ev_enm, G.ev_enmT, G.ev_readST, G.ev_readSK, G.ev_readTT, G.ev_readTK, G.ev_dictZip, G.ev_yes, G.thn2_nx, G.thn2_rt, G.thn2_bk, G.thn2_ct, List.getElem?_cons_zero, List.getElem?_cons_succ, Option.some.injEq, exists_eq_left', List.cons_append, List.nil_append, List.append_nil, List.length_cons, List.length_nil, List.set_cons_zero, List.set_cons_succ, List.map_cons, List.map_nil, List.replicate_succ, List.replicate_zero, Nat.reduceSub, Nat.reduceAdd, Nat.reduceLeDiff, Nat.zero_add, Bool.not_true, Bool.not_false, if_true, if_false, Bool.false_eq_true, Bool.true_eq_false, reduceIte, G.PV.int.injEq, G.PV.str.injEq, G.PV.bl.injEq, true_and, and_true, G.ixN30, G.ixN31, G.ixN32, G.atI0, G.atI1, G.atI2, G.atI3, G.atI4, List.set_set, decide_eq_true_eq, Bool.and_eq_true, Bool.true_or, Bool.or_true, Bool.true_and, Bool.and_true, Bool.false_and, Bool.and_false, Bool.or_false, Bool.false_or, Int.reduceLT, Int.reduceLE, Int.reduceAdd, Int.reduceSub, Int.reduceMul, Int.reduceNeg, Nat.reduceLT, Nat.reduceLeDiff, G.wipeP, eq_self, decide_true, decide_false, not_true_eq_false, not_false_eq_true, G.nc0, G.nc1, G.nc2, G.nc3, G.nc4, G.nc5, G.nc6, G.nc7, G.nc8, G.nc9]))
  | `(tactic| simp_all_arith [$ls,*]) => `(tactic| repeat (first | with_reducible refine G.evS_seq ?_ | with_reducible refine G.evS_asg ?_ | with_reducible refine G.evS_retN ?_ | with_reducible refine G.evS_ret ?_ | with_reducible refine G.evS_if ?_ | with_reducible refine G.evS_expr ?_ | with_reducible refine G.evS_gN ?_ | with_reducible refine G.evS_gTu ?_ | with_reducible refine G.evS_gsNil ?_ | with_reducible refine G.evS_gsCons ?_ | with_reducible refine G.evS_gSb ?_ | with_reducible refine G.evS_next ?_ | with_reducible refine G.evS_par ?_ | with_reducible refine G.evS_fld ?_ | simp only [G.ev_pure, G.ev_bind, G.ev_liftS, G.ev_dVar, G.ev_dC, G.ev_aNil, G.ev_aCons, G.ev_dTup, G.ev_dLst, G.ev_dBin, G.ev_dUn, G.ev_asBb, G.ev_dB, G.ev_dChain, G.ev_bAnd, G.ev_bOr, G.ev_bNot, G.ev_vAnd, G.ev_vOr, G.ev_vNot, G.ev_dIf, G.ev_dTr, G.ev_truB, G.ev_oNone, G.ev_oSome, G.ev_dSl, G.ev_dCall, G.ev_dCallK, G.ev_dCB, G.ev_dBM, G.ev_addII, G.ev_addTT, G.ev_subII, G.ev_eqII, G.ev_eqS, G.ev_neS, G.ev_neII, G.ev_mulII, G.ev_divII, G.ev_modII, G.ev_neg, G.ev_cmpII, G.ev_cmpSS, G.ev_ixT, G.ev_ixK, G.ev_slT, G.ev_lenT, G.ev_lenK, G.ev_lenC, G.ev_abs, G.ev_intI, G.ev_max2, G.ev_min2, G.ev_isiII, G.ev_isiIB, G.ev_isiSS, G.ev_isiTT, G.ev_isN, G.ev_dSrc, G.ev_srcT, G.ev_srcK, G.ev_rng1, G.ev_enm, G.ev_enmT, G.ev_readST, G.ev_readSK, G.ev_readTT, G.ev_readTK, G.ev_dictZip, G.ev_yes, G.thn2_nx, G.thn2_rt, G.thn2_bk, G.thn2_ct, List.getElem?_cons_zero, List.getElem?_cons_succ, Option.some.injEq, exists_eq_left', List.cons_append, List.nil_append, List.append_nil, List.length_cons, List.length_nil, List.set_cons_zero, List.set_cons_succ, List.map_cons, List.map_nil, List.replicate_succ, List.replicate_zero, Nat.reduceSub, Nat.reduceAdd, Nat.reduceLeDiff, Nat.zero_add, Bool.not_true, Bool.not_false, if_true, if_false, Bool.false_eq_true, Bool.true_eq_false, reduceIte, G.PV.int.injEq, G.PV.str.injEq, G.PV.bl.injEq, true_and, and_true, G.ixN30, G.ixN31, G.ixN32, G.atI0, G.atI1, G.atI2, G.atI3, G.atI4, List.set_set, decide_eq_true_eq, Bool.and_eq_true, Bool.true_or, Bool.or_true, Bool.true_and, Bool.and_true, Bool.false_and, Bool.and_false, Bool.or_false, Bool.false_or, Int.reduceLT, Int.reduceLE, Int.reduceAdd, Int.reduceSub, Int.reduceMul, Int.reduceNeg, Nat.reduceLT, Nat.reduceLeDiff, G.wipeP, eq_self, decide_true, decide_false, not_true_eq_false, not_false_eq_true, G.nc0, G.nc1, G.nc2, G.nc3, G.nc4, G.nc5, G.nc6, G.nc7, G.nc8, G.nc9, $ls,*]))
namespace G
open PySem PySem.Spec PyProof.Rows L2
section
variable {st st' : Sto} {ε : Slo} {Q : PV → Sto → Prop} {QS : SR → Sto → Prop} {C : Addr} {m f : Str} {F : List PV → M PV} {ds : List PV} {od d : Slo → M PV} {as : Slo → M (List PV)}
theorem ev_recv {n : Nat} {fs : List (Str × PV)} {QN : Nat → Sto → Prop} (h : st[n]? = some (.ins C fs)) (hn : fs.lookup m = none) : ev (recv C m (.loc n)) st QN ↔ QN n st := by
  show ev (getO n >>= fun ob => _) st QN ↔ _
  rw [ev_bind, ev_getO]
  constructor
  · rintro ⟨o, e, q⟩
    rw [h] at e
    cases e
    rw [ev_bind, ev_need, ev_pure] at q
    exact q.2
  · intro q
    refine ⟨_, h, ?_⟩
    rw [ev_bind, ev_need, ev_pure]
    exact ⟨by rw [hn]; simp, q⟩
theorem ev_meth (h : ev (od ε) st fun x st1 => ∃ n fs, x = .loc n ∧ st1[n]? = some (.ins C fs) ∧ fs.lookup m = none ∧ ev (as ε) st1 fun xs st2 => ev (F (.loc n :: (xs ++ ds))) st2 Q) : ev (dMeth C m F ds od as ε) st Q := by
  unfold dMeth
  refine ev_bind.mpr (h.mono fun x st1 ⟨n, fs, e, h1, h2, h3⟩ => ?_)
  subst e
  refine ev_bind.mpr ((ev_recv h1 h2).mpr ?_)
  exact ev_bind.mpr h3
theorem evS_gFld {v : PV} (h : ev (od ε) st fun x st1 => ev (setF C f x v) st1 fun _ st2 => QS (.nx ε) st2) : evS (gFld C f od v) ε st QS := evS_eS (h.mono fun x st1 h => evS_eS (m := fun _ => setF C f x v) (h.mono fun _ st2 q => evS_next q))
theorem evS_par3 {i j l : Nat} {bs : Slo → M (List PV)} (h : ev (bs ε) st fun ps st1 => ∃ p q r, ps = [p, q, r] ∧ QS (.nx (((ε.set i (some p)).set j (some q)).set l (some r))) st1) : evS (sPar3 i j l bs) ε st QS := evS_eS (h.mono fun ps st1 ⟨p, q, r, e, h⟩ => by subst e; exact ⟨_, _, rfl, h⟩)
def kinO (ks no : List Str) (z : Str) : Option Bool := if z ∈ ks then some true else if z ∈ no then some false else none
theorem ev_kin {ks no : List Str} (h : ev (d ε) st fun x st1 => ∃ z b, x = .str z ∧ kinO ks no z = some b ∧ Q (.bl b) st1) : ev (dKIn ks no d ε) st Q := by
  unfold dKIn
  refine ev_bind.mpr (h.mono fun x st1 ⟨z, b, e, hb, q⟩ => ?_)
  subst e
  show ev (if z ∈ ks then pure (PV.bl true) else if z ∈ no then pure (.bl false) else M.fail) st1 Q
  unfold kinO at hb
  by_cases h1 : z ∈ ks
  · rw [if_pos h1] at hb ⊢
    cases hb
    exact ev_pure.mpr q
  · rw [if_neg h1] at hb ⊢
    by_cases h2 : z ∈ no
    · rw [if_pos h2] at hb ⊢
      cases hb
      exact ev_pure.mpr q
    · rw [if_neg h2] at hb
      cases hb
theorem ev_kix {kvs : List (Str × Int)} (h : ev (d ε) st fun x st1 => ∃ z i, x = .str z ∧ kvs.lookup z = some i ∧ Q (.int i) st1) : ev (dKIx kvs d ε) st Q := by
  unfold dKIx
  refine ev_bind.mpr (h.mono fun x st1 ⟨z, i, e, hi, q⟩ => ?_)
  subst e
  show ev (match kvs.lookup z with
    | some i => pure (PV.int i)
    | none => M.fail) st1 Q
  rw [hi]
  exact ev_pure.mpr q
theorem bls_to {k : Nat} {bs : List Bool} : Paired (fun x d => toD st (k + 1) x = some d) (bs.map PV.bl) (bs.map PyData.bool) := by
  induction bs with
  | nil => exact .nil
  | cons b bs ih => exact .cons toD_bl ih
theorem bls_depth {bs : List Bool} : PyData.depthAll (bs.map PyData.bool) = 0 := by
  induction bs with
  | nil => rfl
  | cons b bs ih => rw [List.map_cons, PyData.depthAll, ih]; rfl
theorem bls_lay {bs : List Bool} : PyData.canLayAll0 (bs.map PyData.bool) = true := by
  induction bs with
  | nil => rfl
  | cons b bs ih => rw [List.map_cons, PyData.canLayAll0, ih]; rfl
theorem bls_find {b : Bool} : ∀ {bs : List Bool}, (bs.map PyData.bool).findIdx? (fun z => z.eqv (.bool b)) = bs.findIdx? fun z => decide (z = b)
  | [] => rfl
  | c :: bs => by
    rw [List.map_cons, List.findIdx?_cons, List.findIdx?_cons, bls_find]
    have : (PyData.bool c).eqv (.bool b) = decide (c = b) := by cases b <;> cases c <;> rfl
    rw [this]
/-- l.index(b), truths -/
theorem ev_indexB {l : Nat} {bs : List Bool} {b : Bool} {j : Nat} (h : st[l]? = some (.lst (bs.map PV.bl))) (hj : bs.findIdx? (fun z => decide (z = b)) = some j) : ev (mIndex (.loc l) [.bl b]) st Q ↔ Q (.int j) st := by
  refine ev_iff ?_
  show ev (getD (.loc l) >>= fun d => getD (.bl b) >>= fun e => need (SeqAt.shaped d && SeqAt.shaped e) >>= fun _ => idxD d e) st _
  refine ev_bind.mpr (ev_getD.mpr ⟨_, toD_lst h bls_to, ?_, ?_⟩)
  · unfold shp
    rw [PyData.depth, bls_depth]
    decide
  refine ev_bind.mpr (ev_getD.mpr ⟨_, toD_bl, by cases b <;> decide, ?_⟩)
  refine ev_bind.mpr (ev_need.mpr ⟨?_, ?_⟩)
  · unfold SeqAt.shaped
    have e1 : (PyData.list (bs.map PyData.bool)).canLay0 = true := by rw [PyData.canLay0]; exact bls_lay
    rw [e1, PyData.depth, bls_depth]
    cases b <;> decide
  · show ev (match (bs.map PyData.bool).findIdx? (fun z => z.eqv (.bool b)) with
      | some j => pure (PV.int j)
      | none => M.fail) st _
    rw [bls_find, hj]
    exact ev_pure.mpr ⟨rfl, rfl⟩
/-- b in l, truths -/
theorem en_bl : En PV.bl PyData.bool 0 := ⟨fun _ _ _ _ => toD_bl, fun _ => by rw [PyData.depth]; exact Nat.le_refl _, fun a b => by cases a <;> cases b <;> rfl⟩
theorem evX_meth {QX : Addr → List (Str × PV) → Sto → Prop} (h : ev (od ε) st fun x st1 => ∃ n fs, x = .loc n ∧ st1[n]? = some (.ins C fs) ∧ fs.lookup m = none ∧ ev (as ε) st1 fun xs st2 => evX (F (.loc n :: (xs ++ ds))) st2 QX) : evX (dMeth C m F ds od as ε) st QX := by
  unfold dMeth
  refine evX_bindR (h.mono fun x st1 ⟨n, fs, e, h1, h2, h3⟩ => ?_)
  subst e
  refine evX_bindR ((ev_recv h1 h2).mpr ?_)
  exact evX_bindR h3
theorem evS_hdN {h : HdD} {hs : List HdD} {D : Addr} {fs : List (Str × PV)} (hm : h.mt D = some false) (hq : evS (hdS hs D fs) ε st QS) : evS (hdS (h :: hs) D fs) ε st QS := by
  have run : hdS (h :: hs) D fs ε st = (match h.mt D with
    | none => none
    | some false => hdS hs D fs ε st
    | some true => hdEnd h.oi (h.su D fs (match h.oi with | none => ε | some i => ε.set i none) st)) := rfl
  unfold evS
  rw [run, hm]
  exact hq
theorem evS_hd0 {h : HdD} {hs : List HdD} {D : Addr} {fs : List (Str × PV)} (hm : h.mt D = some true) (hi : h.oi = none) (hq : evS (h.su D fs) ε st fun r st' => match r with
    | .rt p => QS (.rt p) st'
    | .nx ε2 => QS (.nx ε2) st'
    | _ => False) : evS (hdS (h :: hs) D fs) ε st QS := by
  obtain ⟨r, st', e, q⟩ := hq
  have run : hdS (h :: hs) D fs ε st = (match h.mt D with
    | none => none
    | some false => hdS hs D fs ε st
    | some true => hdEnd h.oi (h.su D fs (match h.oi with | none => ε | some i => ε.set i none) st)) := rfl
  unfold evS
  rw [run, hm]
  show ∃ r st', hdEnd h.oi _ = some (r, st') ∧ QS r st'
  rw [hi]
  show ∃ r st', hdEnd none (h.su D fs ε st) = some (r, st') ∧ QS r st'
  rw [e]
  cases r with
  | rt p => exact ⟨_, _, rfl, q⟩
  | nx ε2 => exact ⟨_, _, rfl, q⟩
  | _ => exact q.elim
end
end G
namespace K79
open PySem PySem.Spec PyProof.Rows L2 LamX NdefX G
def KN : List Str := ["above", "cuts", "same"]
def NM : List Str := ["ash", "brick", "clay", "floor", "hearth", "pit", "sand"]
abbrev Span : Type := Int × Int
def spP (s : Span) : PV := .tup [.int s.1, .int s.2]
structure SpOk (last : Int) (sp : List Span) : Prop where
  ne : sp ≠ []
  len : sp.length ≤ 3
  at_ : ∀ s ∈ sp, 0 ≤ s.1 ∧ s.1 ≤ s.2 ∧ s.2 ≤ last
  apart : sp.Pairwise fun x y => x.2 + 2 ≤ y.1
abbrev R3 : Type := Str × Str × Str
abbrev D4 : Type := Str × Str × Str × Int
abbrev F3 : Type := Str × List Span × Int
def relP (r : R3) : PV := .tup [.str r.1, .str r.2.1, .str r.2.2]
def dbP (d : D4) : PV := .tup [.str d.1, .str d.2.1, .str d.2.2.1, .int d.2.2.2]
def fdP (f : F3) : PV := .tup [.str f.1, .tup (f.2.1.map spP), .int f.2.2]
def d3 (d : D4) : R3 := (d.1, d.2.1, d.2.2.1)
structure Site5 where
  ns : List Str
  last : Int
  rels : List R3
  dbs : List D4
  fds : List F3
def partsP (s : Site5) : PV := .tup [.tup (s.ns.map PV.str), .int s.last, .tup (s.rels.map relP), .tup (s.dbs.map dbP), .tup (s.fds.map fdP)]
def RelOk (ns : List Str) (r : R3) : Prop := r.1 ∈ KN ∧ r.2.1 ∈ ns ∧ r.2.2 ∈ ns ∧ r.2.1 ≠ r.2.2
structure Valid (s : Site5) : Prop where
  n1 : 1 ≤ s.ns.length
  n7 : s.ns.length ≤ 7
  asc : s.ns.Pairwise fun a b => sLt a b = true
  nm : ∀ x ∈ s.ns, x ∈ NM
  l1 : 1 ≤ s.last
  l20 : s.last ≤ 20
  r16 : s.rels.length ≤ 16
  rok : ∀ r ∈ s.rels, RelOk s.ns r
  rnd : s.rels.Nodup
  d4 : s.dbs.length ≤ 4
  dok : ∀ d ∈ s.dbs, RelOk s.ns (d3 d) ∧ 1 ≤ d.2.2.2 ∧ d.2.2.2 ≤ 9
  dnd : (s.dbs.map d3).Nodup
  f12 : s.fds.length ≤ 12
  fok : ∀ f ∈ s.fds, f.1 ∈ s.ns ∧ SpOk s.last f.2.1 ∧ 1 ≤ f.2.2 ∧ f.2.2 ≤ 9
theorem en_rel : En relP (fun r : R3 => .tuple [.str r.1, .str r.2.1, .str r.2.2]) 1 := En.tup (EnR.cons (k := 0) (k2 := 0) (j := 0) en_str (EnR.cons (k := 0) (k2 := 0) (j := 0) en_str (EnR.one en_str) (Nat.le_refl _) (Nat.le_refl _)) (Nat.le_refl _) (Nat.le_refl _))
section
variable {A : Str → Addr} {n : Nat} {st : Sto} {Q : PV → Sto → Prop}
/-- the pool at m is fit to be drawn from -/
def Dr (m : Nat) (st : Sto) : Prop := ∃ h f t : Int, st[m]? = some (.lst [.int h, .int f, .int t]) ∧ 0 ≤ f ∧ G.small64 h = true
theorem Dr.keep {m : Nat} {S : List Nat} {st st' : Sto} (h : Dr m st) (k : Keep S st st') (hm : m ∉ S) : Dr m st' := by
  obtain ⟨f, s, t, e, r⟩ := h
  exact ⟨f, s, t, k.get e hm, r⟩
theorem Dr.kp {m : Nat} {st st' : Sto} (h : Dr m st) (k : Keep [] st st') : Dr m st' := h.keep k fun z => nomatch z
theorem Dr.lt {m : Nat} {st : Sto} (h : Dr m st) : m < st.length := by
  obtain ⟨f, s, t, e, r⟩ := h
  exact get_lt e
theorem Dr.app {m : Nat} {st t : Sto} (h : Dr m st) : Dr m (st ++ t) := h.keep (S := []) .app (fun z => nomatch z)
theorem Dr.setNew {m i : Nat} {o : Ob} {st : Sto} (h : Dr m st) (hi : m ≠ i) : Dr m (st.set i o) := by
  obtain ⟨f, s, t, e, r⟩ := h
  exact ⟨f, s, t, by rw [List.getElem?_set_ne (Ne.symm hi)]; exact e, r⟩
theorem small_mod (z : Int) : small64 (z % 2147482937) = true := by
  unfold G.small64
  have h1 : 0 ≤ z % 2147482937 := Int.emod_nonneg _ (by decide)
  have h2 : z % 2147482937 < 2147482937 := Int.emod_lt_of_pos _ (by decide)
  simp only [Bool.and_eq_true, decide_eq_true_eq]
  constructor
  · exact Int.lt_of_lt_of_le (by decide) h1
  · exact Int.lt_trans h2 (by decide)
theorem e_draw {m : Nat} {k : Int} (h : Dr m st) (h1 : 1 ≤ k) (h2 : k < 1000) (q : ∀ (r : Int) (st' : Sto), 0 ≤ r → r < k → Keep [m] st st' → Dr m st' → Q (.int r) st') : ev (D__law_draw A n [.loc m, .int k]) st Q := by
  obtain ⟨hd, f, t, e, hf, hs⟩ := h
  have g := get_set e
  have s1 : small64 70001 = true := by decide
  have hk : 0 < k := by omega
  have hk2 : k < 1073741824 := by omega
  unfold D__law_draw; refine ev_fn rfl ?_; unfold b__law_draw; simp_all_arith [ev_ixL e]
  by_cases hp : 0 < f
  · simp only [hp, if_true]
    simp_all_arith [ev_ixL e, ev_divmod hk hk2, ev_setIL e]
    exact q _ _ (Int.emod_nonneg _ (by omega)) (Int.emod_lt_of_pos _ hk) (.set (by simp)) ⟨_, _, _, g _, Int.ediv_nonneg hf (by omega), hs⟩
  · simp only [hp, if_false]
    simp_all_arith [ev_ixL e, ev_ixL (g _), ev_setIL e, ev_setIL (g _), s1, hs, Bool.or_true, Bool.true_or, hk, hk2]
    exact q _ _ (Int.emod_nonneg _ (by omega)) (Int.emod_lt_of_pos _ hk) (.set (by simp)) ⟨_, _, _, g _, hf, small_mod _⟩
theorem e_pickT {m : Nat} {xs : List PV} (h : Dr m st) (hn : xs ≠ []) (hl : xs.length < 1000) (q : ∀ (x : PV) (st' : Sto), x ∈ xs → Keep [m] st st' → Dr m st' → Q x st') : ev (D__law_pick A n [.loc m, .tup xs]) st Q := by
  unfold D__law_pick; refine ev_fn rfl ?_; unfold b__law_pick; simp_all_arith
  have hp : 0 < xs.length := List.length_pos_iff.mpr hn
  refine e_draw h (by omega) (by omega) fun r st' h0 hk kp dr => ?_
  simp_all_arith
  obtain ⟨i, rfl⟩ := Int.eq_ofNat_of_zero_le h0
  have hi : i < xs.length := by omega
  exact ⟨_, atI_nat hi, q _ _ (List.getElem_mem hi) kp dr⟩
theorem e_pickL {m l : Nat} {xs : List PV} (h : Dr m st) (hx : st[l]? = some (.lst xs)) (hlm : l ≠ m) (hn : xs ≠ []) (hl : xs.length < 1000) (q : ∀ (x : PV) (st' : Sto), x ∈ xs → Keep [m] st st' → Dr m st' → Q x st') : ev (D__law_pick A n [.loc m, .loc l]) st Q := by
  unfold D__law_pick; refine ev_fn rfl ?_; unfold b__law_pick; simp_all_arith [ev_lenL hx]
  have hp : 0 < xs.length := List.length_pos_iff.mpr hn
  refine e_draw h (by omega) (by omega) fun r st' h0 hk kp dr => ?_
  have hx' := kp.get hx (by simpa using hlm)
  simp_all_arith [ev_ixL hx']
  obtain ⟨i, rfl⟩ := Int.eq_ofNat_of_zero_le h0
  have hi : i < xs.length := by omega
  exact ⟨_, atI_nat hi, q _ _ (List.getElem_mem hi) kp dr⟩
/-- one of the list that was just laid -/
theorem e_pickN {m : Nat} {xs : List PV} (h : Dr m st) (hn : xs ≠ []) (hl : xs.length < 1000) (q : ∀ (x : PV) (st' : Sto), x ∈ xs → Keep [m] st st' → Dr m st' → Q x st') : ev (D__law_pick A n [.loc m, .loc st.length]) (st ++ [.lst xs]) Q :=
  e_pickL h.app get_new (Nat.ne_of_gt h.lt) hn hl fun x st' hx kp dr => q x st' hx (Keep.app.trans kp) dr
theorem ev_tupXL {l : Nat} {xs : List PV} (h : st[l]? = some (.lst xs)) : ev (fTupleX [.loc l]) st Q ↔ Q (.tup xs) st := ev_tupleL h
theorem e_spans {m : Nat} {last : Int} (h : Dr m st) (h1 : 0 ≤ last) (h2 : last ≤ 20) (q : ∀ (sp : List Span) (st' : Sto), SpOk last sp → Keep [m] st st' → Dr m st' → Q (.tup (sp.map spP)) st') : ev (D__law_spans A n [.loc m, .int last]) st Q := by
  unfold D__law_spans
  refine ev_fn rfl ?_
  unfold b__law_spans
  refine evS_seq (evS_par ?_)
  try simp_arith
  refine e_draw h.app (by omega) (by omega) fun a st1 a0 a1 k1 d1 => ?_
  try simp_arith
  refine ⟨_, _, rfl, ?_⟩
  show evS _ _ _ _
  have hne : st.length ≠ m := Nat.ne_of_gt h.lt
  have g1 := k1.get (get_new (o := Ob.lst [])) (by simpa using hne)
  have K1 : Keep [m] st st1 := Keep.app.trans k1
  refine evS_seq (evS_for (fun i ε2 st2 => ∃ (F : List Span) (at_ : Int) (e4 e5 : Option PV), ε2 = [some (.loc m), some (.int last), some (.loc st.length), some (.int at_), e4, e5] ∧ st2[st.length]? = some (.lst (F.map spP)) ∧ F.length ≤ i ∧ (i = 0 → at_ ≤ last) ∧ (0 < i → F ≠ []) ∧ 0 ≤ at_ ∧ (∀ s ∈ F, 0 ≤ s.1 ∧ s.1 ≤ s.2 ∧ s.2 ≤ last ∧ s.2 + 2 ≤ at_) ∧ F.Pairwise (fun x y => x.2 + 2 ≤ y.1) ∧ Keep [m] st st2 ∧ Dr m st2) ?_)
  try simp_arith
  refine e_draw d1 (by decide) (by decide) fun b st2 b0 b1 k2 d2 => ?_
  try simp_arith
  refine ⟨_, rng1_int (by omega), _, rfl, ⟨[], a, _, _, rfl, k2.get g1 (by simpa using hne), Nat.le_refl _, (fun _ => by omega), (fun z => by first | exact z.elim | omega), a0, (fun _ z => nomatch z), .nil, K1.trans k2, d2⟩, ?_, ?_⟩
  · rintro i x ε2 st3 hx ⟨F, at_, e4, e5, rfl, gF, lF, i0, ip, p0, hF, hP, k3, d3⟩
    obtain ⟨hi, rfl⟩ := rngP_get hx
    refine evS_gN ?_
    show evS _ _ _ _
    refine evS_if ?_
    try simp_arith
    by_cases hl : at_ ≤ last
    · simp only [if_pos hl]
      refine evS_seq (evS_asg ?_)
      try simp_arith
      refine e_draw d3 (by decide) (by decide) fun c st4 c0 c1 k4 d4 => ?_
      try simp_arith
      refine evS_gN ?_
      show evS _ _ _ _
      have gF4 := k4.get gF (by simpa using hne)
      refine evS_seq (evS_expr ?_)
      try simp_arith
      refine ⟨isLst_of gF4, (ev_append gF4).mpr ⟨by rw [sizeLine_eq, List.length_map]; omega, ?_⟩⟩
      show evS _ _ _ _
      refine evS_asg ?_
      try simp_arith
      generalize hto : (if at_ + c < last then at_ + c else last) = to
      have ht : at_ ≤ to ∧ to ≤ last := by
        rw [← hto]
        split <;> omega
      refine e_draw (d4.setNew (Ne.symm hne)) (by decide) (by decide) fun d st5 e0 e1 k5 d5 => ?_
      try simp_arith
      refine evS_gN ?_
      refine ⟨F ++ [(at_, to)], _, _, _, rfl, ?_, ?_, (fun z => by omega), (fun _ => by simp), by omega, ?_, ?_, ((k3.trans k4).setNew (Nat.le_refl _)).trans k5, d5⟩
      · rw [List.map_append]
        exact k5.get (get_set gF4 _) (by simpa using hne)
      · rw [List.length_append]
        simp
        omega
      · intro s hs
        rcases List.mem_append.mp hs with z | z
        · obtain ⟨y1, y2, y3, y4⟩ := hF s z
          exact ⟨y1, y2, y3, by omega⟩
        · rw [List.mem_singleton.mp z]
          exact ⟨p0, ht.1, ht.2, by show to + 2 ≤ _; omega⟩
      · rw [List.pairwise_append]
        exact ⟨hP, List.pairwise_singleton _ _, fun x hx y hy => by rw [List.mem_singleton.mp hy]; exact (hF x hx).2.2.2⟩
    · simp only [if_neg hl]
      refine evS_next ?_
      exact ⟨F, at_, _, _, rfl, gF, by omega, (fun z => absurd z (Nat.succ_ne_zero _)), (fun _ => by by_cases hi0 : i = 0; exact absurd (i0 hi0) hl; exact ip (by omega)), p0, hF, hP, k3, d3⟩
  · rintro ε2 st3 ⟨F, at_, e4, e5, rfl, gF, lF, i0, ip, p0, hF, hP, k3, d3⟩
    rw [rngP_len] at lF ip
    show evS _ _ _ _
    refine evS_ret ?_
    try simp_arith
    refine (ev_tupXL gF).mpr (q F st3 ⟨ip (by omega), by omega, fun s hs => ?_, hP⟩ k3 d3)
    obtain ⟨y1, y2, y3, _⟩ := hF s hs
    exact ⟨y1, y2, y3⟩
theorem e_relation {m : Nat} {ns : List Str} (h : Dr m st) (h2 : 2 ≤ ns.length) (hl : ns.length ≤ 12) (nd : ns.Nodup) (q : ∀ (r : R3) (st' : Sto), RelOk ns r → Keep [m] st st' → Dr m st' → Q (relP r) st') : ev (D__law_relation A n [.loc m, .tup (ns.map PV.str)]) st Q := by
  unfold D__law_relation
  refine ev_fn rfl ?_
  unfold b__law_relation
  refine evS_seq (evS_asg ?_)
  try simp_arith
  rw [List.length_map]
  refine e_draw h (by omega) (by omega) fun a st1 a0 a1 k1 d1 => ?_
  refine evS_gN ?_
  show evS _ _ _ _
  refine evS_seq (evS_asg ?_)
  try simp_arith
  rw [List.length_map]
  refine e_draw d1 (by omega) (by omega) fun b st2 b0 b1 k2 d2 => ?_
  try simp_arith
  refine ⟨by omega, ?_⟩
  obtain ⟨i, rfl⟩ := Int.eq_ofNat_of_zero_le a0
  obtain ⟨j, rfl⟩ := Int.eq_ofNat_of_zero_le b0
  have e : ((i : Int) + 1 + (j : Int)) % (ns.length : Int) = (((i + 1 + j) % ns.length : Nat) : Int) := by simp
  rw [e]
  have hi : i < ns.length := by omega
  have hj : (i + 1 + j) % ns.length < ns.length := Nat.mod_lt _ (by omega)
  have hij : i ≠ (i + 1 + j) % ns.length := by
    intro z
    by_cases hs : i + 1 + j < ns.length
    · rw [Nat.mod_eq_of_lt hs] at z
      omega
    · rw [Nat.mod_eq_sub_mod (by omega), Nat.mod_eq_of_lt (by omega)] at z
      omega
  generalize (i + 1 + j) % ns.length = l at hj hij
  refine evS_gN ?_
  show evS _ _ _ _
  have fin : ∀ (i l : Nat) (hi : i < ns.length) (hl : l < ns.length) (st3 : Sto), i ≠ l → Keep [m] st st3 → Dr m st3 → ev (dTup (aCons (dCall (D__law_pick A n) [] (aCons (dVar 0) (aCons (dLst (aCons (dC (.str "above")) (aCons (dC (.str "above")) (aCons (dC (.str "cuts")) (aCons (dC (.str "cuts")) (aCons (dC (.str "same")) aNil)))))) aNil))) (aCons (dBin fIx (dVar 1) (dVar 2)) (aCons (dBin fIx (dVar 1) (dVar 3)) aNil))) [some (.loc m), some (.tup (ns.map PV.str)), some (.int i), some (.int l)]) st3 Q := by
    intro i l hi hl st3 hne k3 d3
    try simp_arith
    refine e_pickN d3 (by simp) (by simp) fun x st4 hx k4 d4 => ?_
    have hk : ∃ k : Str, x = .str k ∧ k ∈ KN := by
      simp only [List.mem_cons, List.not_mem_nil, or_false] at hx
      rcases hx with rfl | rfl | rfl | rfl | rfl
      · exact ⟨_, rfl, by decide +kernel⟩
      · exact ⟨_, rfl, by decide +kernel⟩
      · exact ⟨_, rfl, by decide +kernel⟩
      · exact ⟨_, rfl, by decide +kernel⟩
      · exact ⟨_, rfl, by decide +kernel⟩
    obtain ⟨k, rfl, hk⟩ := hk
    try simp_arith
    refine ⟨_, atI_nat (by simpa using hi), _, atI_nat (by simpa using hl), ?_⟩
    rw [List.getElem_map, List.getElem_map]
    exact q (k, ns[i], ns[l]) st4 ⟨hk, List.getElem_mem hi, List.getElem_mem hl, fun z => hne ((List.getElem_inj nd).mp z)⟩ (k3.trans k4) d4
  refine evS_seq (evS_if ?_)
  try simp_arith
  refine e_draw d2 (by decide) (by decide) fun c st3 c0 c1 k3 d3 => ?_
  try simp_arith
  have K3 := (k1.trans k2).trans k3
  by_cases hc : 0 < c
  · simp only [if_pos hc]
    refine evS_par ?_
    try simp_arith
    refine ⟨_, _, rfl, ?_⟩
    show evS _ _ _ _
    refine evS_ret ?_
    by_cases hlt : (l : Int) < i
    · have hgt : ¬ (l : Int) > i := by omega
      simp only [List.set_cons_succ, List.set_cons_zero, if_pos hlt, if_neg hgt]
      exact fin l i hj hi st3 (Ne.symm hij) K3 d3
    · have hgt : (l : Int) > i := by omega
      simp only [List.set_cons_succ, List.set_cons_zero, if_neg hlt, if_pos hgt]
      exact fin i l hi hj st3 hij K3 d3
  · simp only [if_neg hc]
    refine evS_next ?_
    show evS _ _ _ _
    refine evS_ret ?_
    exact fin i l hi hj st3 hij K3 d3
end
end K79
namespace K79
open PySem PySem.Spec PyProof.Rows L2 LamX NdefX G
section
variable {A : Str → Addr} {n : Nat} {st : Sto} {Q : PV → Sto → Prop}
theorem e_relations {m : Nat} {ns : List Str} {many : Int} (h : Dr m st) (hl : ns.length ≤ 12) (nd : ns.Nodup) (m0 : 0 ≤ many) (m1 : many ≤ 100) (q : ∀ (L : List R3) (st' : Sto), (∀ r ∈ L, RelOk ns r) → L.Nodup → (L.length : Int) ≤ many → Keep [m] st st' → Dr m st' → Q (.tup (L.map relP)) st') : ev (D__law_relations A n [.loc m, .tup (ns.map PV.str), .int many]) st Q := by
  unfold D__law_relations
  refine ev_fn rfl ?_
  unfold b__law_relations
  refine evS_seq (evS_asg ?_)
  try simp_arith
  refine evS_gN ?_
  show evS _ _ _ _
  have hne : st.length ≠ m := Nat.ne_of_gt h.lt
  refine evS_seq (evS_for (fun i ε2 st2 => ∃ (F : List R3) (e4 e5 : Option PV), ε2 = [some (.loc m), some (.tup (ns.map PV.str)), some (.int many), some (.loc st.length), e4, e5] ∧ st2[st.length]? = some (.lst (F.map relP)) ∧ F.length ≤ i ∧ (∀ r ∈ F, RelOk ns r) ∧ F.Nodup ∧ Keep [m] st st2 ∧ Dr m st2) ?_)
  have src : ev (dRng1 (dIf (dB (dBin fGt (dCB fLen (aCons (dVar 1) aNil)) (dC (.int 1)))) (dVar 2) (dC (.int 0))) [some (.loc m), some (.tup (ns.map PV.str)), some (.int many), some (.loc st.length), none, none]) (st ++ [.lst []]) fun s st1 => ∃ k : Nat, s = .fix (rngP 0 k) ∧ st1 = st ++ [.lst []] ∧ (k : Int) ≤ many ∧ (0 < k → 2 ≤ ns.length) := by
    try simp_arith
    rw [List.length_map]
    by_cases hn : (1 : Int) < ns.length
    · simp_arith [if_pos hn]
      exact ⟨_, rng1_int (by omega), many.toNat, rfl, by omega, fun _ => by omega⟩
    · simp_arith [if_neg hn]
      exact ⟨_, rng1_int (by decide), 0, rfl, m0, fun z => absurd z (Nat.lt_irrefl _)⟩
  refine src.mono fun s st1 ⟨k, e1, e2, k1, k2⟩ => ?_
  subst e1 e2
  refine ⟨_, rfl, ⟨[], _, _, rfl, get_new, Nat.le_refl _, (fun _ z => nomatch z), List.nodup_nil, .app, h.app⟩, ?_, ?_⟩
  · rintro i x ε2 st3 hx ⟨F, e4, e5, rfl, gF, lF, hF, hN, k3, d3⟩
    obtain ⟨hi, rfl⟩ := rngP_get hx
    refine evS_gN ?_
    show evS _ _ _ _
    refine evS_seq (evS_asg ?_)
    try simp_arith
    refine e_relation d3 (k2 (by omega)) hl nd fun r st4 hr k4 d4 => ?_
    refine evS_gN ?_
    show evS _ _ _ _
    have g4 := k4.get gF (by simpa using hne)
    refine evS_if ?_
    try simp_arith
    refine (en_rel.ev_inL (neg := true) (a := r) F g4 (by decide)).mpr ?_
    try simp_arith
    by_cases hm : r ∈ F
    · simp only [nb, hm, decide_true, if_true, Bool.not_true, Bool.false_eq_true, if_false]
      refine evS_next ?_
      exact ⟨F, _, _, rfl, g4, by omega, hF, hN, k3.trans k4, d4⟩
    · simp only [nb, hm, decide_false, if_true, Bool.not_false]
      refine evS_expr ?_
      try simp_arith
      refine ⟨isLst_of g4, (ev_append g4).mpr ⟨by rw [sizeLine_eq, List.length_map]; omega, ?_⟩⟩
      refine ⟨F ++ [r], _, _, rfl, ?_, by rw [List.length_append]; simp; omega, ?_, ?_, (k3.trans k4).setNew (Nat.le_refl _), d4.setNew (Ne.symm hne)⟩
      · rw [List.map_append]
        exact get_set g4 _
      · intro y hy
        rcases List.mem_append.mp hy with z | z
        · exact hF y z
        · rw [List.mem_singleton.mp z]; exact hr
      · rw [List.nodup_append]
        exact ⟨hN, by simp, fun a ha b hb => by rw [List.mem_singleton.mp hb]; rintro rfl; exact hm ha⟩
  · rintro ε2 st3 ⟨F, e4, e5, rfl, gF, lF, hF, hN, k3, d3⟩
    rw [rngP_len] at lF
    show evS _ _ _ _
    refine evS_ret ?_
    try simp_arith
    exact (ev_tupXL gF).mpr (q F st3 hF hN (by omega) k3 d3)
def nmOf (k : Nat) : List Str := NM.take k
theorem srt_is {l m : List Str} (hp : m.Perm l) (hs : m.Pairwise fun a b => sLeB a b = true) : srtS l = m :=
  sort_unique (r := leS) (fun a b => leS_antisymm) ((srtS_perm l).trans hp.symm) (srtS_le l) (hs.imp fun h => sLeB_iff.mp h)
theorem nm_facts : ∀ k, k < 8 → (NM.take k).Pairwise (fun a b => sLeB a b = true) ∧ (NM.take k).length = k ∧ (NM.take k).Pairwise (fun a b => sLt a b = true) := by decide +kernel
theorem nm_srt {k : Nat} (h : k < 8) : srtS (NM.take k) = NM.take k := srt_is (.refl _) (nm_facts k h).1
theorem cut_take {xs : List PV} {i : Nat} : cutP xs none (some (i : Int)) = xs.take i := by
  unfold cutP
  rw [HT.sIx_none, HT.sIx_nat]
  simp
theorem map_at {α : Type} {f : α → PV} {l : List α} {i : Nat} {x : PV} (h : (l.map f)[i]? = some x) : ∃ a, l[i]? = some a ∧ x = f a := by
  rw [List.getElem?_map] at h
  cases e : l[i]? with
  | none => rw [e] at h; cases h
  | some a => rw [e] at h; cases h; exact ⟨a, rfl, rfl⟩
theorem ev_sortXL {l : Nat} {xs : List Str} (h : st[l]? = some (.lst (xs.map PV.str))) : ev (fSortedX [.loc l]) st Q ↔ xs.length < 64 ∧ Q (.loc st.length) (st ++ [.lst ((srtS xs).map PV.str)]) := ev_sortS h
theorem slt_irr (a : Str) : sLt a a = false := by
  unfold sLt
  simp
theorem asc_nd {ns : List Str} (h : ns.Pairwise fun a b => sLt a b = true) : ns.Nodup := h.imp fun {a b} z e => by
  subst e
  rw [slt_irr] at z
  cases z
def addW (d : R3) (w : Int) : D4 := (d.1, d.2.1, d.2.2, w)
theorem e_site {m k : Nat} {last a b c : Int} (h : Dr m st) (k1 : 1 ≤ k) (k7 : k ≤ 7) (l1 : 1 ≤ last) (l2 : last ≤ 20) (ha : 0 ≤ a ∧ a ≤ 16) (hb : 0 ≤ b ∧ b ≤ 4) (hc : 0 ≤ c ∧ c ≤ 12)
    (q : ∀ (s : Site5) (st' : Sto), Valid s → s.ns = NM.take k → s.last = last → (s.rels.length : Int) ≤ a → (s.dbs.length : Int) ≤ b → (s.fds.length : Int) ≤ c → Keep [m] st st' → Dr m st' → Q (partsP s) st') : ev (D__law_site A n [.loc m, .int k, .int last, .tup [.int a, .int b, .int c]]) st Q := by
  unfold D__law_site
  refine ev_fn rfl ?_
  unfold b__law_site
  obtain ⟨p1, p2, p3⟩ := nm_facts k (by omega)
  have nd := asc_nd p3
  have nm : ∀ x ∈ NM.take k, x ∈ NM := fun x hx => List.mem_of_mem_take hx
  refine evS_seq (evS_asg ?_)
  try simp_arith
  refine (ev_slL get_new).mpr ?_
  rw [cut_take]
  have e1 : [PV.str "ash", .str "brick", .str "clay", .str "floor", .str "hearth", .str "pit", .str "sand"].take k = (NM.take k).map PV.str := by
    rw [List.map_take]
    rfl
  rw [e1]
  refine ⟨by rw [List.length_map, p2]; omega, ?_⟩
  refine (ev_sortXL get_new).mpr ⟨by omega, ?_⟩
  rw [nm_srt (by omega)]
  refine (ev_tupXL get_new).mpr ?_
  generalize hN : NM.take k = ns at *
  refine evS_gN ?_
  show evS _ _ _ _
  have D0 : Dr m (st ++ [Ob.lst [PV.str "ash", .str "brick", .str "clay", .str "floor", .str "hearth", .str "pit", .str "sand"]] ++ [Ob.lst (ns.map PV.str)] ++ [Ob.lst (ns.map PV.str)]) := h.app.app.app
  have K0 : Keep [m] st (st ++ [Ob.lst [PV.str "ash", .str "brick", .str "clay", .str "floor", .str "hearth", .str "pit", .str "sand"]] ++ [Ob.lst (ns.map PV.str)] ++ [Ob.lst (ns.map PV.str)]) := Keep.app.appR.appR
  generalize st ++ [Ob.lst [PV.str "ash", .str "brick", .str "clay", .str "floor", .str "hearth", .str "pit", .str "sand"]] ++ [Ob.lst (ns.map PV.str)] ++ [Ob.lst (ns.map PV.str)] = st0 at *
  refine evS_seq (evS_par ?_)
  try simp_arith
  refine e_draw D0 (by omega) (by omega) fun r1 st1 a0 a1 kp1 d1 => ?_
  try simp_arith
  refine e_relations d1 (by omega) nd (by omega) (by omega) fun rels st2 rok rnd rl kp2 d2 => ?_
  try simp_arith
  refine ⟨_, _, rfl, ?_⟩
  show evS _ _ _ _
  have K2 := (K0.trans kp1).trans kp2
  have hne : st2.length ≠ m := Nat.ne_of_gt d2.lt
  have src : ev (dSrc (dCall (D__law_relations A n) [] (aCons (dVar 0) (aCons (dVar 4) (aCons (dCall (D__law_draw A n) [] (aCons (dVar 0) (aCons (dBin fAdd (dBin fIx (dVar 3) (dC (.int 1))) (dC (.int 1))) aNil))) aNil)))) [some (.loc m), some (.int k), some (.int last), some (.tup [.int a, .int b, .int c]), some (.tup (ns.map PV.str)), some (.tup (rels.map relP)), some (.loc st2.length), none, none, none]) (st2 ++ [.lst []]) fun s st3 => ∃ L : List R3, s = .fix (L.map relP) ∧ (∀ r ∈ L, RelOk ns r) ∧ L.Nodup ∧ (L.length : Int) ≤ b ∧ Keep [m] (st2 ++ [.lst []]) st3 ∧ Dr m st3 := by
    try simp_arith
    refine e_draw d2.app (by omega) (by omega) fun r2 st3 b0 b1 kp3 d3 => ?_
    try simp_arith
    refine e_relations d3 (by omega) nd (by omega) (by omega) fun L st4 ok nd' l kp4 d4 => ?_
    try simp_arith
    exact ⟨L, rfl, ok, nd', by omega, kp3.trans kp4, d4⟩
  obtain ⟨_, st3, es, L, rfl, ok, ndL, lL, kp3, dr3⟩ := src
  have K3 : Keep [m] st st3 := K2.trans (Keep.app.trans kp3)
  have g3 := kp3.get (get_new (o := Ob.lst [])) (by simpa using hne)
  have L4 : L.length ≤ 4 := by omega
  refine evS_seq (evS_for (fun i ε2 st4 => ∃ (W : List D4) (e7 : Option PV), ε2 = [some (.loc m), some (.int k), some (.int last), some (.tup [.int a, .int b, .int c]), some (.tup (ns.map PV.str)), some (.tup (rels.map relP)), some (.loc st2.length), e7, none, none] ∧ st4[st2.length]? = some (.lst (W.map dbP)) ∧ W.map d3 = L.take i ∧ (∀ d ∈ W, 1 ≤ d.2.2.2 ∧ d.2.2.2 ≤ 4) ∧ Keep [m] st st4 ∧ Dr m st4) ⟨_, st3, es, _, rfl, ⟨[], _, rfl, g3, by simp, (fun _ z => nomatch z), K3, dr3⟩, ?_, ?_⟩)
  · rintro i x ε2 st4 hx ⟨W, e7, rfl, g4, hW, hw, kp4, d4⟩
    obtain ⟨r, hr, rfl⟩ := map_at hx
    have hi := (List.getElem?_eq_some_iff.mp hr).1
    have lW : W.length ≤ 4 := by
      have := congrArg List.length hW
      rw [List.length_map, List.length_take] at this
      omega
    refine evS_gN ?_
    show evS _ _ _ _
    refine evS_expr ?_
    try simp_arith
    refine ⟨isLst_of g4, ?_⟩
    refine e_draw d4 (by decide) (by decide) fun w st5 w0 w1 kp5 d5 => ?_
    unfold relP
    try simp_arith
    have g5 := kp5.get g4 (by simpa using hne)
    refine (ev_append g5).mpr ⟨by rw [sizeLine_eq, List.length_map]; omega, ?_⟩
    refine ⟨W ++ [addW r (1 + w)], _, rfl, ?_, ?_, ?_, (kp4.trans kp5).setNew K2.len, d5.setNew (Ne.symm hne)⟩
    · rw [List.map_append]
      exact get_set g5 _
    · rw [List.map_append, hW, List.take_succ, hr]
      rfl
    · intro d hd
      rcases List.mem_append.mp hd with z | z
      · exact hw d z
      · rw [List.mem_singleton.mp z]
        show 1 ≤ 1 + w ∧ 1 + w ≤ 4
        omega
  · rintro ε2 st4 ⟨W, e7, rfl, g4, hW, hw, kp4, d4⟩
    rw [List.length_map, List.take_length] at hW
    have lW : W.length = L.length := by rw [← hW, List.length_map]
    show evS _ _ _ _
    refine evS_seq (evS_asg ?_)
    try simp_arith
    refine evS_gN ?_
    show evS _ _ _ _
    have hn4 : st4.length ≠ m := Nat.ne_of_gt d4.lt
    have h24 : st2.length < st4.length := get_lt g4
    have src2 : ev (dRng1 (dCall (D__law_draw A n) [] (aCons (dVar 0) (aCons (dBin fAdd (dBin fIx (dVar 3) (dC (.int 2))) (dC (.int 1))) aNil))) [some (.loc m), some (.int k), some (.int last), some (.tup [.int a, .int b, .int c]), some (.tup (ns.map PV.str)), some (.tup (rels.map relP)), some (.loc st2.length), e7, some (.loc st4.length), none]) (st4 ++ [.lst []]) fun s st5 => ∃ j : Nat, s = .fix (rngP 0 j) ∧ (j : Int) ≤ c ∧ Keep [m] (st4 ++ [.lst []]) st5 ∧ Dr m st5 := by
      try simp_arith
      refine e_draw d4.app (by omega) (by omega) fun r st5 b0 b1 kp5 d5 => ?_
      try simp_arith
      exact ⟨_, rng1_int (by omega), r.toNat, rfl, by omega, kp5, d5⟩
    obtain ⟨_, st5, es2, j, rfl, lj, kp5, d5⟩ := src2
    have g5 := kp5.get (get_new (o := Ob.lst [])) (by simpa using hn4)
    have g52 := (Keep.app.trans kp5).get g4 (by simpa using hne)
    have K5 : Keep [m] st st5 := kp4.trans (Keep.app.trans kp5)
    refine evS_seq (evS_for (fun i ε2 st6 => ∃ (F : List F3) (e9 : Option PV), ε2 = [some (.loc m), some (.int k), some (.int last), some (.tup [.int a, .int b, .int c]), some (.tup (ns.map PV.str)), some (.tup (rels.map relP)), some (.loc st2.length), e7, some (.loc st4.length), e9] ∧ st6[st4.length]? = some (.lst (F.map fdP)) ∧ st6[st2.length]? = some (.lst (W.map dbP)) ∧ F.length ≤ i ∧ (∀ f ∈ F, f.1 ∈ ns ∧ SpOk last f.2.1 ∧ 1 ≤ f.2.2 ∧ f.2.2 ≤ 9) ∧ Keep [m] st st6 ∧ Dr m st6) ⟨_, st5, es2, _, rfl, ⟨[], _, rfl, g5, g52, Nat.le_refl _, (fun _ z => nomatch z), K5, d5⟩, ?_, ?_⟩)
    · rintro i x ε2 st6 hx ⟨F, e9, rfl, g6, g62, lF, hF, kp6, d6⟩
      obtain ⟨hi, rfl⟩ := rngP_get hx
      refine evS_gN ?_
      show evS _ _ _ _
      refine evS_expr ?_
      try simp_arith
      refine ⟨isLst_of g6, ?_⟩
      refine e_pickT d6 (by intro z; have := congrArg List.length z; rw [List.length_map, p2] at this; simp at this; omega) (by rw [List.length_map, p2]; omega) fun x st7 hx kp7 d7 => ?_
      obtain ⟨y, hy, rfl⟩ := List.mem_map.mp hx
      try simp_arith
      refine e_spans d7 (by omega) l2 fun sp st8 hsp kp8 d8 => ?_
      try simp_arith
      refine e_draw d8 (by decide) (by decide) fun w st9 w0 w1 kp9 d9 => ?_
      try simp_arith
      have K9 := (kp7.trans kp8).trans kp9
      have g9 := K9.get g6 (by simpa using hn4)
      refine (ev_append g9).mpr ⟨by rw [sizeLine_eq, List.length_map]; omega, ?_⟩
      refine ⟨F ++ [(y, sp, 1 + w)], _, rfl, ?_, ?_, by rw [List.length_append]; simp; omega, ?_, (kp6.trans K9).setNew (by have := kp4.len; omega), d9.setNew (Ne.symm hn4)⟩
      · rw [List.map_append]
        exact get_set g9 _
      · rw [List.getElem?_set_ne (by omega)]
        exact K9.get g62 (by simpa using hne)
      · intro f hf
        rcases List.mem_append.mp hf with z | z
        · exact hF f z
        · rw [List.mem_singleton.mp z]
          exact ⟨hy, hsp, by show 1 ≤ 1 + w; omega, by show 1 + w ≤ 9; omega⟩
    · rintro ε2 st6 ⟨F, e9, rfl, g6, g62, lF, hF, kp6, d6⟩
      rw [rngP_len] at lF
      show evS _ _ _ _
      refine evS_ret ?_
      try simp_arith
      refine (ev_tupXL g62).mpr ?_
      try simp_arith
      refine (ev_tupXL g6).mpr ?_
      try simp_arith
      refine q ⟨ns, last, rels, W, F⟩ st6 ⟨by show 1 ≤ ns.length; omega, by show ns.length ≤ 7; omega, p3, nm, l1, l2, by show rels.length ≤ 16; omega, rok, rnd, by show W.length ≤ 4; omega, fun d hd => ?_, by show (W.map d3).Nodup; rw [hW]; exact ndL, by show F.length ≤ 12; omega, hF⟩ rfl rfl (by show (rels.length : Int) ≤ a; omega) (by show (W.length : Int) ≤ b; omega) (by show (F.length : Int) ≤ c; omega) kp6 d6
      have hm : d3 d ∈ L := by rw [← hW]; exact List.mem_map_of_mem hd
      obtain ⟨w1, w2⟩ := hw d hd
      exact ⟨ok _ hm, w1, by omega⟩
theorem e_small {m : Nat} (h : Dr m st) (q : ∀ (s : Site5) (st' : Sto), Valid s → s.ns.length ≤ 4 → s.last ≤ 5 → s.rels.length ≤ 4 → s.dbs.length ≤ 2 → s.fds.length ≤ 5 → Keep [m] st st' → Dr m st' → Q (partsP s) st') : ev (D__law_small A n [.loc m]) st Q := by
  unfold D__law_small
  refine ev_fn rfl ?_
  unfold b__law_small
  refine evS_seq (evS_asg ?_)
  try simp_arith
  refine e_draw h (by decide) (by decide) fun r st1 r0 r1 k1 d1 => ?_
  try simp_arith
  refine evS_gN ?_
  show evS _ _ _ _
  obtain ⟨j, rfl⟩ := Int.eq_ofNat_of_zero_le r0
  have e1 : (1 : Int) + (j : Int) = ((1 + j : Nat) : Int) := by omega
  rw [e1]
  refine evS_ret ?_
  try simp_arith
  have fin : ∀ t : Int, 4 ≤ t → t ≤ 5 → ev (D__law_draw A n [.loc m, .int t]) st1 fun x st2 => ev (fAdd (.int 1) x) st2 fun y st3 => ev (D__law_site A n [.loc m, .int ((1 + j : Nat) : Int), y, .tup [.int 4, .int 2, .int 5]]) st3 Q := by
    intro t t4 t5
    refine e_draw d1 (by omega) (by omega) fun l st2 l0 l1 k2 d2 => ?_
    try simp_arith
    refine e_site d2 (by omega) (by omega) (by omega) (by omega) (by decide) (by decide) (by decide) fun s st3 v hn hl a b c k3 d3 => ?_
    refine q s st3 v ?_ (by omega) (by omega) (by omega) (by omega) ((k1.trans k2).trans k3) d3
    rw [hn, (nm_facts (1 + j) (by omega)).2.1]
    omega
  by_cases hj : ((1 + j : Nat) : Int) < 4
  · simp only [if_pos hj]
    try simp_arith
    exact fin 5 (by decide) (by decide)
  · simp only [if_neg hj]
    try simp_arith
    exact fin 4 (by decide) (by decide)
end
end K79
namespace K79
open PySem PySem.Spec PyProof.Rows L2 LamX NdefX G
/-- a value of any kind: tuples of such, lists, empty dicts -/
inductive Ok (st : Sto) : PV → Prop
  | non : Ok st .non
  | bl (b : Bool) : Ok st (.bl b)
  | int (i : Int) : Ok st (.int i)
  | str (x : Str) (h : x.length ≤ 1000) : Ok st (.str x)
  | tup (xs : List PV) (hl : xs.length ≤ 1000) (h : ∀ x ∈ xs, Ok st x) : Ok st (.tup xs)
  | lst (n : Nat) (xs : List PV) (h : st[n]? = some (.lst xs)) : Ok st (.loc n)
  | dct (n : Nat) (h : st[n]? = some (.dK [])) : Ok st (.loc n)
theorem Ok.kp {st st' : Sto} {v : PV} (h : Ok st v) (k : Keep [] st st') : Ok st' v := by
  induction h with
  | non => exact .non
  | bl b => exact .bl b
  | int i => exact .int i
  | str x h => exact .str x h
  | tup xs hl h ih => exact .tup xs hl ih
  | lst n xs h => exact .lst n xs (k.get h (fun z => nomatch z))
  | dct n h => exact .dct n (k.get h (fun z => nomatch z))
theorem Ok.items {st : Sto} {xs : List PV} (h : Ok st (.tup xs)) : ∀ x ∈ xs, Ok st x := by
  cases h with
  | tup _ _ h => exact h
theorem Ok.len {st : Sto} {xs : List PV} (h : Ok st (.tup xs)) : xs.length ≤ 1000 := by
  cases h with
  | tup _ h _ => exact h
theorem Ok.at_ {st : Sto} {xs : List PV} {i : Nat} {x : PV} (h : Ok st (.tup xs)) (e : xs[i]? = some x) : Ok st x := h.items x (List.mem_of_getElem? e)
section
variable {A : Str → Addr} {n : Nat} {st : Sto} {Q : PV → Sto → Prop}
theorem ty_lst {l : Nat} {xs : List PV} (h : st[l]? = some (.lst xs)) : tyN (.loc l) st = some (.ok "list", st) := by
  have e : getO l st = some (.ok (.lst xs), st) := by
    unfold getO
    rw [h]
  show (getO l >>= fun o => _) st = _
  rw [bind_ok e]
  rfl
theorem ty_dct {l : Nat} (h : st[l]? = some (.dK [])) : tyN (.loc l) st = some (.ok "dict", st) := by
  have e : getO l st = some (.ok (.dK []), st) := by
    unfold getO
    rw [h]
  show (getO l >>= fun o => _) st = _
  rw [bind_ok e]
  rfl
theorem ev_isiG {x : PV} {t T : String} {b : Bool} (ht : tyN x st = some (.ok t, st)) (hk : kitB t T = some b) : ev (fIsi T x) st Q ↔ Q (.bl b) st := by
  rw [ev_isi]
  constructor
  · rintro ⟨t', st', e, b', hb, q⟩
    rw [ht] at e
    cases e
    rw [hk] at hb
    cases hb
    exact q
  · exact fun q => ⟨t, st, ht, b, hk, q⟩
def isTup : PV → Bool
  | .tup _ => true
  | _ => false
def isStr : PV → Bool
  | .str _ => true
  | _ => false
def isI : PV → Bool
  | .int _ => true
  | .bl _ => true
  | _ => false
def isBl : PV → Bool
  | .bl _ => true
  | _ => false
theorem ev_isTup {v : PV} (h : Ok st v) : ev (fIsi "tuple" v) st Q ↔ Q (.bl (isTup v)) st := by
  cases h with
  | non => exact ev_isiG (t := "NoneType") rfl (show kitB "NoneType" "tuple" = some false by decide +kernel)
  | bl b => exact ev_isiG (t := "bool") rfl (show kitB "bool" "tuple" = some false by decide +kernel)
  | int i => exact ev_isiG (t := "int") rfl (show kitB "int" "tuple" = some false by decide +kernel)
  | str x h => exact ev_isiG (t := "str") rfl (show kitB "str" "tuple" = some false by decide +kernel)
  | tup xs hl h => exact ev_isiG (t := "tuple") rfl (show kitB "tuple" "tuple" = some true by decide +kernel)
  | lst n xs h => exact ev_isiG (ty_lst h) (show kitB "list" "tuple" = some false by decide +kernel)
  | dct n h => exact ev_isiG (ty_dct h) (show kitB "dict" "tuple" = some false by decide +kernel)
theorem ev_isStr {v : PV} (h : Ok st v) : ev (fIsi "str" v) st Q ↔ Q (.bl (isStr v)) st := by
  cases h with
  | non => exact ev_isiG (t := "NoneType") rfl (show kitB "NoneType" "str" = some false by decide +kernel)
  | bl b => exact ev_isiG (t := "bool") rfl (show kitB "bool" "str" = some false by decide +kernel)
  | int i => exact ev_isiG (t := "int") rfl (show kitB "int" "str" = some false by decide +kernel)
  | str x h => exact ev_isiG (t := "str") rfl (show kitB "str" "str" = some true by decide +kernel)
  | tup xs hl h => exact ev_isiG (t := "tuple") rfl (show kitB "tuple" "str" = some false by decide +kernel)
  | lst n xs h => exact ev_isiG (ty_lst h) (show kitB "list" "str" = some false by decide +kernel)
  | dct n h => exact ev_isiG (ty_dct h) (show kitB "dict" "str" = some false by decide +kernel)
theorem ev_isI {v : PV} (h : Ok st v) : ev (fIsi "int" v) st Q ↔ Q (.bl (isI v)) st := by
  cases h with
  | non => exact ev_isiG (t := "NoneType") rfl (show kitB "NoneType" "int" = some false by decide +kernel)
  | bl b => exact ev_isiG (t := "bool") rfl (show kitB "bool" "int" = some true by decide +kernel)
  | int i => exact ev_isiG (t := "int") rfl (show kitB "int" "int" = some true by decide +kernel)
  | str x h => exact ev_isiG (t := "str") rfl (show kitB "str" "int" = some false by decide +kernel)
  | tup xs hl h => exact ev_isiG (t := "tuple") rfl (show kitB "tuple" "int" = some false by decide +kernel)
  | lst n xs h => exact ev_isiG (ty_lst h) (show kitB "list" "int" = some false by decide +kernel)
  | dct n h => exact ev_isiG (ty_dct h) (show kitB "dict" "int" = some false by decide +kernel)
theorem ev_isBl {v : PV} (h : Ok st v) : ev (fIsi "bool" v) st Q ↔ Q (.bl (isBl v)) st := by
  cases h with
  | non => exact ev_isiG (t := "NoneType") rfl (show kitB "NoneType" "bool" = some false by decide +kernel)
  | bl b => exact ev_isiG (t := "bool") rfl (show kitB "bool" "bool" = some true by decide +kernel)
  | int i => exact ev_isiG (t := "int") rfl (show kitB "int" "bool" = some false by decide +kernel)
  | str x h => exact ev_isiG (t := "str") rfl (show kitB "str" "bool" = some false by decide +kernel)
  | tup xs hl h => exact ev_isiG (t := "tuple") rfl (show kitB "tuple" "bool" = some false by decide +kernel)
  | lst n xs h => exact ev_isiG (ty_lst h) (show kitB "list" "bool" = some false by decide +kernel)
  | dct n h => exact ev_isiG (ty_dct h) (show kitB "dict" "bool" = some false by decide +kernel)
def numB (l m : Int) : PV → Bool
  | .int i => decide (l ≤ i ∧ i ≤ m)
  | _ => false
def rowB (l m : Int) : PV → Bool
  | .tup xs => decide (l ≤ xs.length ∧ (xs.length : Int) ≤ m)
  | _ => false
def kindB : PV → Bool
  | .str x => decide (x ∈ KN)
  | _ => false
def layB (ns : List Str) : PV → Bool
  | .str x => decide (x ∈ ns)
  | _ => false
theorem w_between {v : PV} {l m : Int} (h : Ok st v) : ev (D_is_between A n [v, .int l, .int m]) st Q ↔ Q (.bl (numB l m v)) st := by
  have w : ∀ {Q : PV → Sto → Prop}, ev (D_is_whole A n [v]) st Q ↔ Q (.bl (isI v && !isBl v)) st := by
    intro Q
    refine ev_iff ?_
    unfold D_is_whole; refine ev_fn rfl ?_; unfold b_is_whole; simp_all_arith [ev_isI h, ev_isBl h]
    cases v <;> simp_arith [isI, isBl, ev_isBl h]
  refine ev_iff ?_
  unfold D_is_between; refine ev_fn rfl ?_; unfold b_is_between; simp_all_arith [w]
  cases v with
  | int i =>
    simp_arith [isI, isBl, numB]
    by_cases h : l ≤ i
    · simp_arith [h, true_and, decide_true]
    · simp_arith [h, false_and, decide_false]
  | _ => simp_arith [isI, isBl, numB]
theorem w_string {v : PV} (h : Ok st v) : ev (D_is_string A n [v]) st Q ↔ Q (.bl (isStr v)) st := by
  refine ev_iff ?_
  unfold D_is_string; refine ev_fn rfl ?_; unfold b_is_string; simp_all_arith [ev_isStr h]
theorem w_row {v : PV} {l m : Int} (h : Ok st v) : ev (D_is_row A n [v, .int l, .int m]) st Q ↔ Q (.bl (rowB l m v)) st := by
  refine ev_iff ?_
  unfold D_is_row; refine ev_fn rfl ?_; unfold b_is_row; simp_all_arith [ev_isTup h]
  cases v with
  | tup xs =>
    simp_arith [isTup, rowB]
    by_cases h : l ≤ (xs.length : Int)
    · simp_arith [h, true_and, decide_true]
    · simp_arith [h, false_and, decide_false]
  | _ => simp_arith [isTup, rowB]
def lenB (m : Nat) : PV → Bool
  | .tup xs => decide (xs.length = m)
  | _ => false
theorem w_tuple_of {v : PV} {m : Nat} (h : Ok st v) : ev (D_is_tuple_of A n [v, .int m]) st Q ↔ Q (.bl (lenB m v)) st := by
  refine ev_iff ?_
  unfold D_is_tuple_of; refine ev_fn rfl ?_; unfold b_is_tuple_of; simp_all_arith [ev_isTup h]
  cases v with
  | tup xs =>
    simp_arith [isTup, lenB]
    exact decide_eq_decide.mpr (by omega)
  | _ => simp_arith [isTup, lenB]
theorem w_weight {v : PV} (h : Ok st v) : ev (D_is_weight A n [v]) st Q ↔ Q (.bl (numB 1 9 v)) st := by
  refine ev_iff ?_
  unfold D_is_weight; refine ev_fn rfl ?_; unfold b_is_weight; simp_all_arith [w_between h]
theorem w_year {v : PV} {l : Int} (h : Ok st v) : ev (D_is_year A n [.int l, v]) st Q ↔ Q (.bl (numB 0 l v)) st := by
  refine ev_iff ?_
  unfold D_is_year; refine ev_fn rfl ?_; unfold b_is_year; simp_all_arith [w_between h]
theorem w_kind {v : PV} (h : Ok st v) : ev (D_is_kind A n [v]) st Q ↔ Q (.bl (kindB v)) st := by
  refine ev_iff ?_
  unfold D_is_kind; refine ev_fn rfl ?_; unfold b_is_kind; simp_all_arith [w_string h]
  cases v with
  | str x =>
    simp_arith [isStr, kindB]
    exact (en_str.ev_inK (neg := false) (a := x) KN (by decide)).mpr ⟨rfl, rfl⟩
  | _ => simp_arith [isStr, kindB]
theorem w_layer {v : PV} {ns : List Str} (h : Ok st v) : ev (D_is_layer A n [.tup (ns.map PV.str), v]) st Q ↔ Q (.bl (layB ns v)) st := by
  refine ev_iff ?_
  unfold D_is_layer; refine ev_fn rfl ?_; unfold b_is_layer; simp_all_arith [w_string h]
  cases v with
  | str x =>
    simp_arith [isStr, layB]
    exact (en_str.ev_inT (neg := false) (a := x) ns (by decide)).mpr ⟨rfl, rfl⟩
  | _ => simp_arith [isStr, layB]
end
end K79
namespace K79
open PySem PySem.Spec PyProof.Rows L2 LamX NdefX G
section
variable {A : Str → Addr} {n : Nat} {st : Sto} {Q : PV → Sto → Prop}
def relB (ns : List Str) : PV → Bool
  | .tup [.str k, .str u, .str l] => decide (k ∈ KN) && (decide (u ∈ ns) && (decide (l ∈ ns) && !decide (u = l)))
  | _ => false
theorem relB_kind {ns : List Str} {x y z : PV} (h : kindB x = false) : relB ns (.tup [x, y, z]) = false := by
  unfold relB
  split
  · rename_i k u l e
    cases e
    have h' : decide (k ∈ KN) = false := h
    rw [h']
    rfl
  · rfl
theorem relB_l1 {ns : List Str} {x y z : PV} (h : layB ns y = false) : relB ns (.tup [x, y, z]) = false := by
  unfold relB
  split
  · rename_i k u l e
    cases e
    have h' : decide (u ∈ ns) = false := h
    rw [h']
    simp
  · rfl
theorem relB_l2 {ns : List Str} {x y z : PV} (h : layB ns z = false) : relB ns (.tup [x, y, z]) = false := by
  unfold relB
  split
  · rename_i k u l e
    cases e
    have h' : decide (l ∈ ns) = false := h
    rw [h']
    simp
  · rfl
theorem w_relation {v : PV} {ns : List Str} (h : Ok st v) : ev (D_is_relation A n [.tup (ns.map PV.str), v]) st Q ↔ Q (.bl (relB ns v)) st := by
  refine ev_iff ?_
  have w : ∀ {Q : PV → Sto → Prop}, ev (D_is_tuple_of A n [v, .int 3]) st Q ↔ Q (.bl (lenB 3 v)) st := w_tuple_of (m := 3) h
  by_cases hz : lenB 3 v = true
  · obtain ⟨x, y, z, rfl⟩ : ∃ x y z, v = .tup [x, y, z] := by
      cases v with
      | tup xs =>
        have : xs.length = 3 := of_decide_eq_true hz
        match xs, this with
        | [x, y, z], _ => exact ⟨x, y, z, rfl⟩
      | _ => cases hz
    have ox := h.items x (by simp)
    have oy := h.items y (by simp)
    have oz := h.items z (by simp)
    unfold D_is_relation; refine ev_fn rfl ?_; unfold b_is_relation; simp_all_arith [w, hz, w_kind ox]
    cases hk : kindB x with
    | false =>
      simp_all_arith [relB_kind hk]
    | true =>
      simp_all_arith [w_layer oy]
      cases h1 : layB ns y with
      | false => simp_arith [relB_l1 h1]
      | true =>
        simp_arith [w_layer oz]
        cases h2 : layB ns z with
        | false => simp_arith [relB_l2 h2]
        | true =>
          cases x with
          | str k =>
            cases y with
            | str u =>
              cases z with
              | str l =>
                have e1 : decide (k ∈ KN) = true := hk
                have e2 : decide (u ∈ ns) = true := h1
                have e3 : decide (l ∈ ns) = true := h2
                simp_arith [relB, e1, e2, e3]
              | _ => cases h2
            | _ => cases h1
          | _ => cases hk
  · have hz' : lenB 3 v = false := by simpa using hz
    have e : relB ns v = false := by
      unfold relB
      split
      · cases hz'
      · rfl
    unfold D_is_relation; refine ev_fn rfl ?_; unfold b_is_relation; simp_all_arith [w, hz', e]
def dbB (ns : List Str) : PV → Bool
  | .tup [a, b, c, d] => relB ns (.tup [a, b, c]) && numB 1 9 d
  | _ => false
theorem w_doubt {v : PV} {ns : List Str} (h : Ok st v) : ev (D_is_doubt A n [.tup (ns.map PV.str), v]) st Q ↔ Q (.bl (dbB ns v)) st := by
  refine ev_iff ?_
  have w : ∀ {Q : PV → Sto → Prop}, ev (D_is_tuple_of A n [v, .int 4]) st Q ↔ Q (.bl (lenB 4 v)) st := w_tuple_of (m := 4) h
  by_cases hz : lenB 4 v = true
  · obtain ⟨x, y, z, u, rfl⟩ : ∃ x y z u, v = .tup [x, y, z, u] := by
      cases v with
      | tup xs =>
        have : xs.length = 4 := of_decide_eq_true hz
        match xs, this with
        | [x, y, z, u], _ => exact ⟨x, y, z, u, rfl⟩
      | _ => cases hz
    have o3 : Ok st (.tup [x, y, z]) := .tup _ (by simp) fun w hw => h.items w (by simp at hw ⊢; rcases hw with z | z | z <;> simp [z])
    have ou := h.items u (by simp)
    have e : cutP [x, y, z, u] none (some 3) = [x, y, z] := rfl
    unfold D_is_doubt; refine ev_fn rfl ?_; unfold b_is_doubt; simp_all_arith [w, hz, e, w_relation o3]
    cases hr : relB ns (.tup [x, y, z]) with
    | false => simp_arith [dbB, hr]
    | true => simp_arith [dbB, hr, w_weight ou]
  · have hz' : lenB 4 v = false := by simpa using hz
    have e : dbB ns v = false := by
      unfold dbB
      split
      · cases hz'
      · rfl
    unfold D_is_doubt; refine ev_fn rfl ?_; unfold b_is_doubt; simp_all_arith [w, hz', e]
def ABC : Str := "abcdefghijklmnopqrstuvwxyz"
def letB (x : Str) : Bool := x.cps.toList.all fun k => decide (k ∈ ABC.cps.toList)
def nameB : PV → Bool
  | .str x => decide (x.length ≤ 8) && (!decide (x = "") && letB x)
  | _ => false
theorem ev_srcS {s : Str} {QR : Src → Sto → Prop} : ev (srcOf (.str s)) st QR ↔ QR (.fix (chars s)) st := ev_pure
theorem ev_inS {k : Nat} {b : Str} {neg : Bool} : ev (fIn neg (.str ⟨#[k]⟩) (.str b)) st Q ↔ Q (.bl (nb neg (decide (k ∈ b.cps.toList)))) st := ev_pure
/-- all letters of a text -/
theorem k_letters {x : Str} {d : Slo → M Src} {g : TM} {e : Slo → M PV} {vs : List Nat} {ε : Slo} (h8 : x.length ≤ 1000) (hd : ev (d ε) st fun s st1 => s = .fix (chars x) ∧ st1 = st)
    (hs : ∀ k ∈ x.cps.toList, ∀ st2, Keep [] st st2 → evS (g (.str ⟨#[k]⟩)) (wipeP ε vs) st2 fun r st3 => ∃ ε3, r = .nx ε3 ∧ Keep [] st2 st3 ∧ ev (e ε3) st3 fun y st5 => y = .bl (decide (k ∈ ABC.cps.toList)) ∧ Keep [] st3 st5) :
    ev (dLc d g tYesP e vs ε) st fun p st' => ev (fAll [p]) st' fun y st2 => y = .bl (letB x) ∧ Keep [] st st2 := by
  have hlen : (chars x).length = x.length := by
    unfold chars
    rw [List.length_map]
    rfl
  refine (kAll (xs := chars x) (F := fun p => match p with | .str s => s.cps.toList.all fun k => decide (k ∈ ABC.cps.toList) | _ => false) (hd.mono fun s st1 ⟨e1, e2⟩ => ?_)).mono fun p st1 h1 => h1.mono fun y st2 ⟨ey, k⟩ => ⟨?_, k⟩
  · subst e1 e2
    refine ⟨dwk_fix, by rw [hlen]; omega, fun c hc st2 kp => ?_, .refl⟩
    obtain ⟨k, hk, rfl⟩ := List.mem_map.mp hc
    refine (hs k hk st2 kp).mono fun r st3 ⟨ε3, er, k3, he⟩ => ⟨ε3, er, k3, he.mono fun y st5 ⟨ey, k5⟩ => ⟨?_, k5⟩⟩
    rw [ey]
    simp
  · rw [ey]
    unfold letB chars
    rw [List.all_map]
    congr 1
    refine congrArg (fun f => x.cps.toList.all f) (funext fun k => ?_)
    simp
theorem w_name {v : PV} (h : Ok st v) : evK (D_is_name A n [v]) st (.bl (nameB v)) := by
  unfold evK
  unfold D_is_name; refine ev_fn rfl ?_; unfold b_is_name; simp_all_arith [w_string h]
  cases h with
  | str x hx =>
    simp_arith [isStr]
    refine ev_lenS.mpr ⟨by rw [sizeLine_eq]; omega, ?_⟩
    have e8 : decide (((x.length : Nat) : Int) ≤ 8) = decide (x.length ≤ 8) := decide_eq_decide.mpr (by omega)
    simp_arith [e8]
    by_cases h8 : x.length ≤ 8
    · simp_arith [h8, decide_true]
      have m : evK (D_is_made_of A n [.str x, .str "abcdefghijklmnopqrstuvwxyz"]) st (.bl (!decide (x = "") && letB x)) := by
        unfold evK
        unfold D_is_made_of; refine ev_fn rfl ?_; unfold b_is_made_of; simp_all_arith [ev_neS]
        by_cases h0 : x = ""
        · simp_arith [h0, decide_true]
          exact .refl
        · simp_arith [h0, decide_false]
          refine k_letters hx (by simp_arith [ev_srcS]) fun k hk st2 kp => ?_
          refine evS_gN ⟨_, rfl, .refl, ?_⟩
          simp_arith
          refine ev_inS.mpr ⟨rfl, .refl⟩
      refine m.mono fun y st2 ⟨ey, kp⟩ => ⟨?_, kp⟩
      rw [ey]
      simp only [nameB, h8, decide_true, Bool.true_and]
    · simp_arith [h8, decide_false]
      simp only [nameB, h8, decide_false, Bool.false_and, true_and]
      exact .refl
  | _ => simp_arith [isStr, nameB]; exact .refl
theorem snoc_of {α : Type} : ∀ {l : List α}, l ≠ [] → ∃ m x, l = m ++ [x]
  | l, h => ⟨l.dropLast, l.getLast h, (List.dropLast_concat_getLast h).symm⟩
theorem pair_at {α : Type} {R : α → α → Prop} {l : List α} {i : Nat} {a : α} (h : l.Pairwise R) (ha : l[i]? = some a) : ∀ x ∈ l.take i, R x a := by
  intro x hx
  obtain ⟨j, hj, rfl⟩ := List.mem_iff_getElem.mp hx
  rw [List.length_take] at hj
  obtain ⟨hi, rfl⟩ := List.getElem?_eq_some_iff.mp ha
  rw [List.getElem_take]
  exact List.pairwise_iff_getElem.mp h j i (by omega) hi (by omega)
def firstF (t : Nat → Bool) : Nat → Nat → Option Nat
  | _, 0 => none
  | i, k + 1 => if t i then firstF t (i + 1) k else some i
def fw (t : Nat → Bool) (m : Nat) : Option Nat := firstF t 0 m
theorem firstF_at {t : Nat → Bool} {j : Nat} (hj : t j = false) : ∀ (k i : Nat), i ≤ j → j < i + k → (∀ l, i ≤ l → l < j → t l = true) → firstF t i k = some j
  | 0, i, h1, h2, _ => by omega
  | k + 1, i, h1, h2, h3 => by
    unfold firstF
    by_cases e : i = j
    · subst e
      rw [hj]
      rfl
    · rw [h3 i (Nat.le_refl _) (by omega)]
      exact firstF_at hj k (i + 1) (by omega) (by omega) fun l a b => h3 l (by omega) b
theorem firstF_no {t : Nat → Bool} : ∀ (k i : Nat), (∀ l, i ≤ l → l < i + k → t l = true) → firstF t i k = none
  | 0, _, _ => rfl
  | k + 1, i, h => by
    unfold firstF
    rw [h i (Nat.le_refl _) (by omega)]
    exact firstF_no k (i + 1) fun l a b => h l (by omega) (by omega)
theorem fw_at {t : Nat → Bool} {m j : Nat} (hm : j < m) (hj : t j = false) (h : ∀ l, l < j → t l = true) : fw t m = some j := firstF_at hj m 0 (Nat.zero_le _) (by omega) fun l _ b => h l b
theorem fw_no {t : Nat → Bool} {m : Nat} (h : ∀ l, l < m → t l = true) : fw t m = none := firstF_no m 0 fun l _ b => h l (by omega)
def ixV : Option Nat → PV
  | none => .non
  | some i => .int (i : Nat)
theorem e_first_wrong {xs : List PV} {L : List PV → M PV} {t : Nat → Bool} (hl : xs.length ≤ 1000) (hL : ∀ (i : Nat) (x : PV) (st2 : Sto), xs[i]? = some x → (∀ j, j < i → t j = true) → Keep [] st st2 → evK (L [x, .tup (xs.take i)]) st2 (.bl (t i))) :
    evK (fnF 4 (b_first_wrong A n L) [some (.tup xs), none]) st (ixV (fw t xs.length)) := by
  refine ev_fnF ?_
  unfold b_first_wrong
  simp_all_arith
  refine evS_for (fun i ε2 st2 => ∃ B C : Option PV, ε2 = [some (.tup xs), none, B, C] ∧ (∀ j, j < i → t j = true) ∧ Keep [] st st2) ?_
  simp_all_arith
  refine ⟨_, rfl, ⟨none, none, rfl, (fun _ h => absurd h (Nat.not_lt_zero _)), .refl⟩, ?_, ?_⟩
  · rintro i x ε2 st2 hx ⟨B, C, rfl, ht, kp⟩
    have hx' : ∃ y, xs[i]? = some y ∧ x = .tup [.int i, y] := by
      rw [List.getElem?_mapIdx] at hx
      cases e : xs[i]? with
      | none => rw [e] at hx; cases hx
      | some y => rw [e] at hx; cases hx; exact ⟨y, rfl, rfl⟩
    obtain ⟨y, hy, rfl⟩ := hx'
    have hi : i < xs.length := (List.getElem?_eq_some_iff.mp hy).1
    simp_all_arith
    refine (ev_callL rfl).mpr ?_
    simp_all_arith [cut_take]
    refine (hL i y st2 hy ht kp).use fun st3 kp3 => ?_
    cases hti : t i with
    | true =>
      simp_all_arith
      exact ⟨_, _, rfl, (fun j hj => by rcases Nat.lt_succ_iff_lt_or_eq.mp hj with z | z; exact ht j z; rw [z]; exact hti), kp.trans kp3⟩
    | false =>
      simp_all_arith
      rw [fw_at hi hti ht]
      exact ⟨rfl, kp.trans kp3⟩
  · rintro ε2 st2 ⟨B, C, rfl, ht, kp⟩
    rw [List.length_mapIdx] at ht
    simp_all_arith
    rw [fw_no ht]
    exact ⟨rfl, kp⟩
theorem e_lamG {xs : List PV} {t : Nat → Bool} {k : Nat} {d : Slo → M PV} {js : List Nat} {de : Slo → M PV} {ε : Slo} {caps : List PV} (hde : ∀ {Q : PV → Sto → Prop}, ev (de ε) st Q ↔ Q (.tup xs) st) (hc : capsAt js ε = some caps) (hl : xs.length ≤ 1000)
    (hL : ∀ (i : Nat) (x : PV) (st2 : Sto), xs[i]? = some x → (∀ j, j < i → t j = true) → Keep [] st st2 → evK (lamD k d caps [x, .tup (xs.take i)]) st2 (.bl (t i))) : evK (dLam 4 k (b_first_wrong A n) d js (aCons de aNil) ε) st (ixV (fw t xs.length)) := by
  unfold evK
  rw [ev_lam, ev_aCons, hde, ev_aNil]
  exact ⟨caps, hc, e_first_wrong hl hL⟩
end
end K79
namespace K79
open PySem PySem.Spec PyProof.Rows L2 LamX NdefX G
section
variable {A : Str → Addr} {n : Nat} {st : Sto} {Q : PV → Sto → Prop} {xs : List PV} {ns : List Str} {last : Int}
def gI (xs : List PV) (i : Nat) : PV := (xs[i]?).getD .non
theorem gI_at {i : Nat} {x : PV} (h : xs[i]? = some x) : gI xs i = x := by unfold gI; rw [h]; rfl
theorem mem_take {i : Nat} {y : PV} (h : y ∈ xs.take i) : ∃ j, j < i ∧ xs[j]? = some y := by
  obtain ⟨j, hj, rfl⟩ := List.mem_iff_getElem.mp h
  rw [List.length_take] at hj
  exact ⟨j, by omega, by rw [List.getElem_take]; exact List.getElem?_eq_getElem (by omega)⟩
theorem map_of {α : Type} {f : α → PV} (g : PV → α) : ∀ {l : List PV}, (∀ x ∈ l, x = f (g x)) → l = (l.map g).map f
  | [], _ => rfl
  | x :: l, h => by
    rw [List.map_cons, List.map_cons, ← map_of g fun y hy => h y (List.mem_cons_of_mem _ hy), ← h x List.mem_cons_self]
theorem take_end {i : Nat} {y : PV} (h : xs[i]? = some y) : xs.take (i + 1) = xs.take i ++ [y] := by
  rw [List.take_add_one, h]
  rfl
def sOf : PV → Str
  | .str x => x
  | _ => ""
def ltV : PV → PV → Bool
  | .str a, .str b => sLt a b
  | _, _ => false
def tLay (xs : List PV) (i : Nat) : Bool := nameB (gI xs i) && (decide (i = 0) || ltV (gI xs (i - 1)) (gI xs i))
theorem name_str {x : PV} (h : nameB x = true) : x = .str (sOf x) := by
  cases x with
  | str s => rfl
  | _ => cases h
theorem lt_str {a b : PV} (ha : nameB a = true) (hb : nameB b = true) : ltV a b = sLt (sOf a) (sOf b) := by
  cases a with
  | str s =>
    cases b with
    | str u => rfl
    | _ => cases hb
  | _ => cases ha
theorem w_wrong_layer (h : Ok st (.tup xs)) : evK (D_wrong_layer A n [.tup xs]) st (ixV (fw (tLay xs) xs.length)) := by
  unfold evK
  unfold D_wrong_layer; refine ev_fn rfl ?_; unfold b_wrong_layer; simp_all_arith
  refine (e_lamG (xs := xs) (t := tLay xs) (caps := []) (by simp_arith [implies_true]) rfl h.len fun i x st2 hx ht kp => ?_).use fun st2 kp => ⟨rfl, kp⟩
  have ox : Ok st2 x := (h.at_ hx).kp kp
  have gx := gI_at hx
  unfold lamD dl_wrong_layer_0 evK
  simp_arith
  refine (w_name ox).use fun st3 kp3 => ?_
  cases hn : nameB x with
  | false =>
    simp_arith [tLay, gx, hn]
    exact kp3
  | true =>
    have e0 : xs.take i = ((xs.take i).map sOf).map PV.str := map_of sOf fun y hy => by
      obtain ⟨j, hj, e⟩ := mem_take hy
      have := ht j hj
      unfold tLay at this
      rw [gI_at e, Bool.and_eq_true] at this
      exact name_str this.1
    simp_arith
    rw [e0]
    refine (en_str.list.ev_eq (a := (xs.take i).map sOf) (b := []) (by decide)).mpr ?_
    have ex := name_str hn
    cases i with
    | zero =>
      simp_arith [List.take_zero, List.map_nil, decide_true, tLay, gx, hn]
      exact kp3
    | succ i =>
      have hi : i < xs.length := by
        have := (List.getElem?_eq_some_iff.mp hx).1
        omega
      have hy := List.getElem?_eq_getElem hi
      have ny : nameB xs[i] = true := by
        have := ht i (Nat.lt_succ_self _)
        unfold tLay at this
        rw [gI_at hy, Bool.and_eq_true] at this
        exact this.1
      have gy := gI_at hy
      have et : xs.take (i + 1) = xs.take i ++ [xs[i]] := take_end hy
      have hne : ¬ ((xs.take (i + 1)).map sOf = []) := fun z => by
        rw [et, List.map_append] at z
        exact nomatch (List.append_eq_nil_iff.mp z).2
      have el : atI (((xs.take (i + 1)).map sOf).map PV.str) (-1) = some (.str (sOf xs[i])) := by
        rw [et, List.map_append, List.map_append]
        exact atI_last
      have el2 : ltV xs[i] x = sLt (sOf xs[i]) (sOf x) := lt_str ny hn
      simp_arith [hne, decide_false, el]
      rw [ex]
      simp_arith
      refine ⟨?_, kp3⟩
      simp only [tLay, gx, hn, Nat.add_sub_cancel, gy, el2, Bool.true_and, Nat.succ_ne_zero, decide_false, Bool.false_or]
def r3 : PV → R3
  | .tup [.str a, .str b, .str c] => (a, b, c)
  | _ => ("", "", "")
theorem rel_is {x : PV} (h : relB ns x = true) : x = relP (r3 x) := by
  unfold relB at h
  split at h
  · rfl
  · cases h
def tRel (ns : List Str) (xs : List PV) (i : Nat) : Bool := relB ns (gI xs i) && !decide (r3 (gI xs i) ∈ (xs.take i).map r3)
theorem w_wrong_relation (h : Ok st (.tup xs)) : evK (D_wrong_relation A n [.tup (ns.map PV.str), .tup xs]) st (ixV (fw (tRel ns xs) xs.length)) := by
  unfold evK
  unfold D_wrong_relation; refine ev_fn rfl ?_; unfold b_wrong_relation; simp_all_arith
  refine (e_lamG (xs := xs) (t := tRel ns xs) (caps := [.tup (ns.map PV.str)]) (by simp_arith [implies_true]) rfl h.len fun i x st2 hx ht kp => ?_).use fun st2 kp => ⟨rfl, kp⟩
  have ox : Ok st2 x := (h.at_ hx).kp kp
  have gx := gI_at hx
  unfold lamD dl_wrong_relation_0 evK
  simp_arith [w_relation ox]
  cases hn : relB ns x with
  | false =>
    simp_arith [tRel, gx, hn]
    exact .refl
  | true =>
    have e0 : xs.take i = ((xs.take i).map r3).map relP := map_of r3 fun y hy => by
      obtain ⟨j, hj, e⟩ := mem_take hy
      have := ht j hj
      unfold tRel at this
      rw [gI_at e, Bool.and_eq_true] at this
      exact rel_is this.1
    simp_arith
    rw [e0, rel_is hn]
    refine (en_rel.ev_inT (neg := true) (a := r3 x) ((xs.take i).map r3) (by decide)).mpr ⟨?_, .refl⟩
    simp only [tRel, gx, hn, Bool.true_and, nb, if_true]
    exact congrArg (fun b => PV.bl (!b)) (decide_eq_decide.mpr Iff.rfl)
def d4 : PV → D4
  | .tup [.str a, .str b, .str c, .int w] => (a, b, c, w)
  | _ => ("", "", "", 0)
theorem db_is {x : PV} (h : dbB ns x = true) : x = dbP (d4 x) := by
  unfold dbB at h
  split at h
  · rename_i a b c d
    rw [Bool.and_eq_true] at h
    have h1 := rel_is h.1
    cases d with
    | int w =>
      have hr := h.1
      unfold relB at hr
      split at hr
      · rename_i e
        cases e
        rfl
      · cases hr
    | _ => cases h.2
  · cases h
theorem e_is_new_doubt {d : D4} {pre : List D4} (hl : pre.length ≤ 1000) : evK (D_is_new_doubt A n [dbP d, .tup (pre.map dbP)]) st (.bl (!decide (d3 d ∈ pre.map d3))) := by
  unfold dbP evK
  unfold D_is_new_doubt; refine ev_fn rfl ?_; unfold b_is_new_doubt; simp_all_arith
  refine ev_lcM ?_
  simp_all_arith
  refine ⟨_, fun x => match x with | .tup xs => .tup (cutP xs none (some 3)) | x => x, rfl, by rw [List.length_map]; omega, ?_, ?_⟩
  · intro x hx st10 kp10
    obtain ⟨d, hd, rfl⟩ := List.mem_map.mp hx
    simp_all_arith
    exact ⟨_, rfl, .refl, by simp_arith; exact .refl⟩
  · intro st10 hl10 kp10
    have e10 : (pre.map fun d : D4 => PV.tup [.str d.1, .str d.2.1, .str d.2.2.1, .int d.2.2.2]).map (fun x => match x with | .tup xs => .tup (cutP xs none (some 3)) | x => x) = (pre.map d3).map relP := by
      rw [List.map_map, List.map_map]
      exact List.map_congr_left fun d _ => rfl
    rw [e10] at hl10
    exact (en_rel.ev_inL (neg := true) (a := d3 d) (pre.map d3) hl10 (by decide)).mpr ⟨by simp [nb], kp10⟩
def tDb (ns : List Str) (xs : List PV) (i : Nat) : Bool := dbB ns (gI xs i) && !decide (d3 (d4 (gI xs i)) ∈ ((xs.take i).map d4).map d3)
theorem w_wrong_doubt (h : Ok st (.tup xs)) : evK (D_wrong_doubt A n [.tup (ns.map PV.str), .tup xs]) st (ixV (fw (tDb ns xs) xs.length)) := by
  unfold evK
  unfold D_wrong_doubt; refine ev_fn rfl ?_; unfold b_wrong_doubt; simp_all_arith
  refine (e_lamG (xs := xs) (t := tDb ns xs) (caps := [.tup (ns.map PV.str)]) (by simp_arith [implies_true]) rfl h.len fun i x st2 hx ht kp => ?_).use fun st2 kp => ⟨rfl, kp⟩
  have ox : Ok st2 x := (h.at_ hx).kp kp
  have gx := gI_at hx
  unfold lamD dl_wrong_doubt_0 evK
  simp_arith [w_doubt ox]
  cases hn : dbB ns x with
  | false =>
    simp_arith [tDb, gx, hn]
    exact .refl
  | true =>
    have e0 : xs.take i = ((xs.take i).map d4).map dbP := map_of d4 fun y hy => by
      obtain ⟨j, hj, e⟩ := mem_take hy
      have := ht j hj
      unfold tDb at this
      rw [gI_at e, Bool.and_eq_true] at this
      exact db_is this.1
    simp_arith
    rw [e0, db_is hn]
    have hlen : ((xs.take i).map d4).length ≤ 1000 := by
      have := h.len
      rw [List.length_map, List.length_take]
      omega
    refine (e_is_new_doubt hlen).mono fun y st3 ⟨ey, k3⟩ => ⟨?_, k3⟩
    rw [ey]
    simp only [tDb, gx, hn, Bool.true_and]
def spanB (last : Int) : PV → Bool
  | .tup [.int a, .int b] => decide (0 ≤ a ∧ a ≤ last) && (decide (0 ≤ b ∧ b ≤ last) && decide (a ≤ b))
  | _ => false
theorem w_span {v : PV} (h : Ok st v) : ev (D_is_span A n [.int last, v]) st Q ↔ Q (.bl (spanB last v)) st := by
  refine ev_iff ?_
  have w : ∀ {Q : PV → Sto → Prop}, ev (D_is_tuple_of A n [v, .int 2]) st Q ↔ Q (.bl (lenB 2 v)) st := w_tuple_of (m := 2) h
  by_cases hz : lenB 2 v = true
  · obtain ⟨x, y, rfl⟩ : ∃ x y, v = .tup [x, y] := by
      cases v with
      | tup xs =>
        have : xs.length = 2 := of_decide_eq_true hz
        match xs, this with
        | [x, y], _ => exact ⟨x, y, rfl⟩
      | _ => cases hz
    have ox := h.items x (by simp)
    have oy := h.items y (by simp)
    unfold D_is_span; refine ev_fn rfl ?_; unfold b_is_span; simp_all_arith [w, hz, w_year ox]
    cases h1 : numB 0 last x with
    | false =>
      have e : spanB last (.tup [x, y]) = false := by
        unfold spanB
        split
        · rename_i e
          cases e
          have h1' : decide (_ ∧ _) = false := h1
          rw [h1']
          rfl
        · rfl
      simp_all_arith [e]
    | true =>
      simp_all_arith [w_year oy]
      cases h2 : numB 0 last y with
      | false =>
        have e : spanB last (.tup [x, y]) = false := by
          unfold spanB
          split
          · rename_i e
            cases e
            have h2' : decide (_ ∧ _) = false := h2
            rw [h2']
            simp
          · rfl
        simp_all_arith [e]
      | true =>
        cases x with
        | int a =>
          cases y with
          | int b =>
            have h1' : decide (0 ≤ a ∧ a ≤ last) = true := h1
            have h2' : decide (0 ≤ b ∧ b ≤ last) = true := h2
            simp_all_arith [spanB, h1', h2']
          | _ => cases h2
        | _ => cases h1
  · have hz' : lenB 2 v = false := by simpa using hz
    have e : spanB last v = false := by
      unfold spanB
      split
      · cases hz'
      · rfl
    unfold D_is_span; refine ev_fn rfl ?_; unfold b_is_span; simp_all_arith [w, hz', e]
def sp2 : PV → Span
  | .tup [.int a, .int b] => (a, b)
  | _ => (0, 0)
theorem span_is {x : PV} (h : spanB last x = true) : x = spP (sp2 x) := by
  unfold spanB at h
  split at h
  · rfl
  · cases h
def tSp (last : Int) (xs : List PV) (i : Nat) : Bool := spanB last (gI xs i) && (decide (i = 0) || decide ((sp2 (gI xs (i - 1))).2 + 2 ≤ (sp2 (gI xs i)).1))
def spansB (last : Int) : PV → Bool
  | .tup xs => rowB 1 3 (.tup xs) && (fw (tSp last xs) xs.length).isNone
  | _ => false
theorem en_span : En spP (fun s : Span => .tuple [.int s.1, .int s.2]) 1 := En.tup (EnR.cons (k := 0) (k2 := 0) (j := 0) en_int (EnR.one en_int) (Nat.le_refl _) (Nat.le_refl _))
theorem w_spans {v : PV} (h : Ok st v) : evK (D_are_spans A n [.int last, v]) st (.bl (spansB last v)) := by
  unfold evK
  unfold D_are_spans; refine ev_fn rfl ?_; unfold b_are_spans; simp_all_arith [w_row h]
  cases hr : rowB 1 3 v with
  | false =>
    have e : spansB last v = false := by
      cases v with
      | tup xs => show (rowB 1 3 (.tup xs) && _) = false; rw [hr]; rfl
      | _ => rfl
    simp_all_arith [e]
    exact .refl
  | true =>
    cases v with
    | tup xs =>
      simp_all_arith
      refine (e_lamG (xs := xs) (t := tSp last xs) (caps := [.int last]) (by simp_arith [implies_true]) rfl h.len fun i x st2 hx ht kp => ?_).use fun st2 kp => ?_
      · have ox : Ok st2 x := (h.at_ hx).kp kp
        have gx := gI_at hx
        unfold lamD dl_are_spans_0 evK
        simp_arith
        unfold D_is_behind; refine ev_fn rfl ?_; unfold b_is_behind
        simp_all_arith [w_span ox]
        cases hn : spanB last x with
        | false =>
          simp_all_arith [tSp, gx, hn]
          exact .refl
        | true =>
          have e0 : xs.take i = ((xs.take i).map sp2).map spP := map_of sp2 fun y hy => by
            obtain ⟨j, hj, e⟩ := mem_take hy
            have := ht j hj
            unfold tSp at this
            rw [gI_at e, Bool.and_eq_true] at this
            exact span_is this.1
          simp_all_arith
          rw [e0]
          refine (en_span.list.ev_eq (a := (xs.take i).map sp2) (b := []) (by decide)).mpr ?_
          have ex := span_is hn
          cases i with
          | zero =>
            simp_arith [List.take_zero, List.map_nil, decide_true, tSp, gx, hn]
            simp_all_arith
            exact .refl
          | succ i =>
            have hi : i < xs.length := by
              have := (List.getElem?_eq_some_iff.mp hx).1
              omega
            have hy := List.getElem?_eq_getElem hi
            have gy := gI_at hy
            have et : xs.take (i + 1) = xs.take i ++ [xs[i]] := take_end hy
            have hne : ¬ ((xs.take (i + 1)).map sp2 = []) := fun z => by
              rw [et, List.map_append] at z
              exact nomatch (List.append_eq_nil_iff.mp z).2
            have el : atI (((xs.take (i + 1)).map sp2).map spP) (-1) = some (.tup [.int (sp2 xs[i]).1, .int (sp2 xs[i]).2]) := by
              rw [et, List.map_append, List.map_append]
              exact atI_last
            unfold spP at ex
            simp_arith [hne, decide_false]
            rw [ex]
            simp_all_arith [el]
            refine ⟨?_, .refl⟩
            simp only [tSp, gx, hn, Nat.add_sub_cancel, gy, Bool.true_and, Nat.succ_ne_zero, decide_false, Bool.false_or]
      · cases hf : fw (tSp last xs) xs.length with
        | none =>
          have e : spansB last (.tup xs) = true := by show (rowB 1 3 (.tup xs) && (fw (tSp last xs) xs.length).isNone) = true; rw [hr, hf]; rfl
          simp_all_arith [ixV, isNone, e]
          exact kp
        | some i =>
          have e : spansB last (.tup xs) = false := by show (rowB 1 3 (.tup xs) && (fw (tSp last xs) xs.length).isNone) = false; rw [hr, hf]; rfl
          simp_all_arith [ixV, isNone, e]
          exact kp
    | _ => cases hr
end
end K79
namespace K79
open PySem PySem.Spec PyProof.Rows L2 LamX NdefX G
section
variable {A : Str → Addr} {n : Nat} {st : Sto} {Q : PV → Sto → Prop} {xs : List PV} {ns : List Str} {last : Int}
def fdB (ns : List Str) (last : Int) : PV → Bool
  | .tup [a, b, c] => layB ns a && (spansB last b && numB 1 9 c)
  | _ => false
theorem w_find {v : PV} (h : Ok st v) : evK (D_is_find A n [.tup (ns.map PV.str), .int last, v]) st (.bl (fdB ns last v)) := by
  have w : ∀ {Q : PV → Sto → Prop}, ev (D_is_tuple_of A n [v, .int 3]) st Q ↔ Q (.bl (lenB 3 v)) st := w_tuple_of (m := 3) h
  unfold evK
  by_cases hz : lenB 3 v = true
  · obtain ⟨x, y, z, rfl⟩ : ∃ x y z, v = .tup [x, y, z] := by
      cases v with
      | tup xs =>
        have : xs.length = 3 := of_decide_eq_true hz
        match xs, this with
        | [x, y, z], _ => exact ⟨x, y, z, rfl⟩
      | _ => cases hz
    have ox := h.items x (by simp)
    have oy := h.items y (by simp)
    have oz := h.items z (by simp)
    unfold D_is_find; refine ev_fn rfl ?_; unfold b_is_find; simp_all_arith [w, hz, w_layer ox]
    cases h1 : layB ns x with
    | false =>
      simp_all_arith [fdB, h1]
      exact .refl
    | true =>
      simp_all_arith
      refine (w_spans oy).use fun st2 kp => ?_
      cases h2 : spansB last y with
      | false =>
        simp_all_arith [fdB, h1, h2]
        exact kp
      | true =>
        simp_all_arith [fdB, h1, h2, w_weight (oz.kp kp)]
        exact kp
  · have hz' : lenB 3 v = false := by simpa using hz
    have e : fdB ns last v = false := by
      unfold fdB
      split
      · cases hz'
      · rfl
    unfold D_is_find; refine ev_fn rfl ?_; unfold b_is_find; simp_all_arith [w, hz', e]
    exact .refl
def tFd (ns : List Str) (last : Int) (xs : List PV) (i : Nat) : Bool := fdB ns last (gI xs i)
theorem w_wrong_find (h : Ok st (.tup xs)) : evK (D_wrong_find A n [.tup (ns.map PV.str), .int last, .tup xs]) st (ixV (fw (tFd ns last xs) xs.length)) := by
  unfold evK
  unfold D_wrong_find; refine ev_fn rfl ?_; unfold b_wrong_find; simp_all_arith
  refine (e_lamG (xs := xs) (t := tFd ns last xs) (caps := [.int last, .tup (ns.map PV.str)]) (by simp_arith [implies_true]) rfl h.len fun i x st2 hx ht kp => ?_).use fun st2 kp => ⟨rfl, kp⟩
  have ox : Ok st2 x := (h.at_ hx).kp kp
  unfold lamD dl_wrong_find_0 evK
  simp_arith
  refine (w_find ox).mono fun y st3 ⟨ey, k3⟩ => ⟨?_, k3⟩
  rw [ey]
  unfold tFd
  rw [gI_at hx]
/-- what is wrong of a row: none: nothing; else its index, if it has one -/
def wr (l m : Int) (t : List PV → Nat → Bool) (v : PV) : Option (Option Nat) := match v with
  | .tup xs => if rowB l m v then (fw (t xs) xs.length).map some else some none
  | _ => some none
def xN (C : Str) : Str := if C = "InvalidNumber" then "given" else "index"
/-- how m ends: with nothing, or with an exception of class C about x -/
def Ends (A : Str → Addr) (m : M PV) (st : Sto) (w : Option (Str × PV)) : Prop := match w with
  | none => evK m st .non
  | some (C, x) => evX m st fun C' fs st' => C' = A C ∧ fs = [(xN C, x)] ∧ Keep [] st st'
def wE (C : Str) (w : Option (Option Nat)) : Option (Str × PV) := w.map fun o => (C, ixV o)
theorem xN_ix {C : Str} (h : C ≠ "InvalidNumber") : xN C = "index" := if_neg h
theorem c_layers {v : PV} (h : Ok st v) : Ends A (D_check_layers A n [v]) st (wE "InvalidLayers" (wr 1 7 tLay v)) := by
  have hx : xN "InvalidLayers" = "index" := xN_ix (by decide +kernel)
  cases hr : rowB 1 7 v with
  | false =>
    have e : wr 1 7 tLay v = some none := by
      cases v with
      | tup xs => show (if rowB 1 7 (.tup xs) = true then _ else _) = _; rw [hr]; rfl
      | _ => rfl
    rw [e]
    unfold D_check_layers; refine evX_fn rfl ?_; unfold b_check_layers
    simp_all_arith [w_row h, hr]
    refine evS_raise ?_
    simp_arith
    first | exact ⟨rfl, by rw [hx]; rfl, .refl⟩ | exact ⟨by rw [hx]; rfl, .refl⟩ | exact ⟨by rw [hx], .refl⟩ | exact ⟨rfl, by rw [hx], .refl⟩
  | true =>
    cases v with
    | tup xs =>
      have e : wr 1 7 tLay (.tup xs) = (fw (tLay xs) xs.length).map some := by show (if rowB 1 7 (.tup xs) = true then _ else _) = _; rw [hr]; rfl
      rw [e]
      cases hf : fw (tLay xs) xs.length with
      | none =>
        show evK _ _ _
        unfold evK D_check_layers; refine ev_fn rfl ?_; unfold b_check_layers
        simp_all_arith [w_row h, hr]
        refine (w_wrong_layer h).use fun st2 kp => ?_
        rw [hf]
        simp_all_arith [ixV, isNone]
        exact kp
      | some i =>
        unfold D_check_layers; refine evX_fn rfl ?_; unfold b_check_layers
        simp_all_arith [w_row h, hr]
        refine (w_wrong_layer h).use fun st2 kp => ?_
        rw [hf]
        simp_all_arith [ixV, isNone]
        refine evS_raise ?_
        simp_arith
        first | exact ⟨rfl, by rw [hx]; rfl, kp⟩ | exact ⟨by rw [hx]; rfl, kp⟩ | exact ⟨by rw [hx], kp⟩ | exact ⟨rfl, by rw [hx], kp⟩
    | _ => cases hr
theorem c_last {v : PV} (h : Ok st v) : Ends A (D_check_last A n [v]) st (if numB 1 20 v then none else some ("InvalidNumber", v)) := by
  have hx : xN "InvalidNumber" = "given" := if_pos rfl
  cases hr : numB 1 20 v with
  | false =>
    unfold D_check_last; refine evX_fn rfl ?_; unfold b_check_last
    simp_all_arith [w_between h, hr]
    refine evS_raise ?_
    simp_arith
    first | exact ⟨rfl, by rw [hx]; rfl, .refl⟩ | exact ⟨by rw [hx]; rfl, .refl⟩ | exact ⟨by rw [hx], .refl⟩ | exact ⟨rfl, by rw [hx], .refl⟩
  | true =>
    show evK _ _ _
    unfold evK D_check_last; refine ev_fn rfl ?_; unfold b_check_last
    simp_all_arith [w_between h, hr]
    exact .refl
theorem c_relations {v : PV} (h : Ok st v) : Ends A (D_check_relations A n [.tup (ns.map PV.str), v]) st (wE "InvalidRelations" (wr 0 16 (tRel ns) v)) := by
  have hx : xN "InvalidRelations" = "index" := xN_ix (by decide +kernel)
  cases hr : rowB 0 16 v with
  | false =>
    have e : wr 0 16 (tRel ns) v = some none := by
      cases v with
      | tup xs => show (if rowB 0 16 (.tup xs) = true then _ else _) = _; rw [hr]; rfl
      | _ => rfl
    rw [e]
    unfold D_check_relations; refine evX_fn rfl ?_; unfold b_check_relations
    simp_all_arith [w_row h, hr]
    refine evS_raise ?_
    simp_arith
    first | exact ⟨rfl, by rw [hx]; rfl, .refl⟩ | exact ⟨by rw [hx]; rfl, .refl⟩ | exact ⟨by rw [hx], .refl⟩ | exact ⟨rfl, by rw [hx], .refl⟩
  | true =>
    cases v with
    | tup xs =>
      have e : wr 0 16 (tRel ns) (.tup xs) = (fw (tRel ns xs) xs.length).map some := by show (if rowB 0 16 (.tup xs) = true then _ else _) = _; rw [hr]; rfl
      rw [e]
      cases hf : fw (tRel ns xs) xs.length with
      | none =>
        show evK _ _ _
        unfold evK D_check_relations; refine ev_fn rfl ?_; unfold b_check_relations
        simp_all_arith [w_row h, hr]
        refine (w_wrong_relation h).use fun st2 kp => ?_
        rw [hf]
        simp_all_arith [ixV, isNone]
        exact kp
      | some i =>
        unfold D_check_relations; refine evX_fn rfl ?_; unfold b_check_relations
        simp_all_arith [w_row h, hr]
        refine (w_wrong_relation h).use fun st2 kp => ?_
        rw [hf]
        simp_all_arith [ixV, isNone]
        refine evS_raise ?_
        simp_arith
        first | exact ⟨rfl, by rw [hx]; rfl, kp⟩ | exact ⟨by rw [hx]; rfl, kp⟩ | exact ⟨by rw [hx], kp⟩ | exact ⟨rfl, by rw [hx], kp⟩
    | _ => cases hr
theorem c_doubts {v : PV} (h : Ok st v) : Ends A (D_check_doubts A n [.tup (ns.map PV.str), v]) st (wE "InvalidDoubts" (wr 0 4 (tDb ns) v)) := by
  have hx : xN "InvalidDoubts" = "index" := xN_ix (by decide +kernel)
  cases hr : rowB 0 4 v with
  | false =>
    have e : wr 0 4 (tDb ns) v = some none := by
      cases v with
      | tup xs => show (if rowB 0 4 (.tup xs) = true then _ else _) = _; rw [hr]; rfl
      | _ => rfl
    rw [e]
    unfold D_check_doubts; refine evX_fn rfl ?_; unfold b_check_doubts
    simp_all_arith [w_row h, hr]
    refine evS_raise ?_
    simp_arith
    first | exact ⟨rfl, by rw [hx]; rfl, .refl⟩ | exact ⟨by rw [hx]; rfl, .refl⟩ | exact ⟨by rw [hx], .refl⟩ | exact ⟨rfl, by rw [hx], .refl⟩
  | true =>
    cases v with
    | tup xs =>
      have e : wr 0 4 (tDb ns) (.tup xs) = (fw (tDb ns xs) xs.length).map some := by show (if rowB 0 4 (.tup xs) = true then _ else _) = _; rw [hr]; rfl
      rw [e]
      cases hf : fw (tDb ns xs) xs.length with
      | none =>
        show evK _ _ _
        unfold evK D_check_doubts; refine ev_fn rfl ?_; unfold b_check_doubts
        simp_all_arith [w_row h, hr]
        refine (w_wrong_doubt h).use fun st2 kp => ?_
        rw [hf]
        simp_all_arith [ixV, isNone]
        exact kp
      | some i =>
        unfold D_check_doubts; refine evX_fn rfl ?_; unfold b_check_doubts
        simp_all_arith [w_row h, hr]
        refine (w_wrong_doubt h).use fun st2 kp => ?_
        rw [hf]
        simp_all_arith [ixV, isNone]
        refine evS_raise ?_
        simp_arith
        first | exact ⟨rfl, by rw [hx]; rfl, kp⟩ | exact ⟨by rw [hx]; rfl, kp⟩ | exact ⟨by rw [hx], kp⟩ | exact ⟨rfl, by rw [hx], kp⟩
    | _ => cases hr
theorem c_finds {v : PV} (h : Ok st v) : Ends A (D_check_finds A n [.tup (ns.map PV.str), .int last, v]) st (wE "InvalidFinds" (wr 0 12 (tFd ns last) v)) := by
  have hx : xN "InvalidFinds" = "index" := xN_ix (by decide +kernel)
  cases hr : rowB 0 12 v with
  | false =>
    have e : wr 0 12 (tFd ns last) v = some none := by
      cases v with
      | tup xs => show (if rowB 0 12 (.tup xs) = true then _ else _) = _; rw [hr]; rfl
      | _ => rfl
    rw [e]
    unfold D_check_finds; refine evX_fn rfl ?_; unfold b_check_finds
    simp_all_arith [w_row h, hr]
    refine evS_raise ?_
    simp_arith
    first | exact ⟨rfl, by rw [hx]; rfl, .refl⟩ | exact ⟨by rw [hx]; rfl, .refl⟩ | exact ⟨by rw [hx], .refl⟩ | exact ⟨rfl, by rw [hx], .refl⟩
  | true =>
    cases v with
    | tup xs =>
      have e : wr 0 12 (tFd ns last) (.tup xs) = (fw (tFd ns last xs) xs.length).map some := by show (if rowB 0 12 (.tup xs) = true then _ else _) = _; rw [hr]; rfl
      rw [e]
      cases hf : fw (tFd ns last xs) xs.length with
      | none =>
        show evK _ _ _
        unfold evK D_check_finds; refine ev_fn rfl ?_; unfold b_check_finds
        simp_all_arith [w_row h, hr]
        refine (w_wrong_find h).use fun st2 kp => ?_
        rw [hf]
        simp_all_arith [ixV, isNone]
        exact kp
      | some i =>
        unfold D_check_finds; refine evX_fn rfl ?_; unfold b_check_finds
        simp_all_arith [w_row h, hr]
        refine (w_wrong_find h).use fun st2 kp => ?_
        rw [hf]
        simp_all_arith [ixV, isNone]
        refine evS_raise ?_
        simp_arith
        first | exact ⟨rfl, by rw [hx]; rfl, kp⟩ | exact ⟨by rw [hx]; rfl, kp⟩ | exact ⟨by rw [hx], kp⟩ | exact ⟨rfl, by rw [hx], kp⟩
    | _ => cases hr
end
end K79
namespace K79
open PySem PySem.Spec PyProof.Rows L2 LamX NdefX G
theorem gI_map {α : Type} {f : α → PV} {l : List α} {i : Nat} (h : i < l.length) : gI (l.map f) i = f l[i] := gI_at (by rw [List.getElem?_map, List.getElem?_eq_getElem h]; rfl)
theorem nm_name {x : Str} (h : x ∈ NM) : nameB (.str x) = true ∧ x.length ≤ 1000 := by
  have : ∀ x ∈ NM, nameB (.str x) = true ∧ x.length ≤ 1000 := by decide +kernel
  exact this x h
theorem kn_len {x : Str} (h : x ∈ KN) : x.length ≤ 1000 := by
  have : ∀ x ∈ KN, x.length ≤ 1000 := by decide +kernel
  exact this x h
theorem rel_ok {ns : List Str} {r : R3} (h : RelOk ns r) : relB ns (relP r) = true := by
  obtain ⟨h1, h2, h3, h4⟩ := h
  show (decide (r.1 ∈ KN) && (decide (r.2.1 ∈ ns) && (decide (r.2.2 ∈ ns) && !decide (r.2.1 = r.2.2)))) = true
  simp [h1, h2, h3, h4]
theorem span_ok {last : Int} {s : Span} (h : 0 ≤ s.1 ∧ s.1 ≤ s.2 ∧ s.2 ≤ last) : spanB last (spP s) = true := by
  obtain ⟨h1, h2, h3⟩ := h
  show (decide (0 ≤ s.1 ∧ s.1 ≤ last) && (decide (0 ≤ s.2 ∧ s.2 ≤ last) && decide (s.1 ≤ s.2))) = true
  simp only [Bool.and_eq_true, decide_eq_true_eq]
  omega
theorem spans_ok {last : Int} {sp : List Span} (h : SpOk last sp) : spansB last (.tup (sp.map spP)) = true := by
  show (rowB 1 3 (.tup (sp.map spP)) && (fw (tSp last (sp.map spP)) (sp.map spP).length).isNone) = true
  rw [Bool.and_eq_true]
  constructor
  · show decide (1 ≤ ((sp.map spP).length : Int) ∧ ((sp.map spP).length : Int) ≤ 3) = true
    rw [decide_eq_true_eq, List.length_map]
    have := h.len
    have := List.length_pos_iff.mpr h.ne
    omega
  · rw [fw_no fun i hi => ?_]
    · rfl
    · rw [List.length_map] at hi
      unfold tSp
      rw [gI_map hi, span_ok (h.at_ _ (List.getElem_mem hi)), Bool.true_and, Bool.or_eq_true, decide_eq_true_eq, decide_eq_true_eq]
      by_cases h0 : i = 0
      · exact .inl h0
      · right
        rw [gI_map (show i - 1 < sp.length by omega)]
        exact List.pairwise_iff_getElem.mp h.apart (i - 1) i (by omega) hi (by omega)
section
variable {s : Site5}
theorem wr_layers (v : Valid s) : wr 1 7 tLay (.tup (s.ns.map PV.str)) = none := by
  have hr : rowB 1 7 (.tup (s.ns.map PV.str)) = true := by
    show decide (1 ≤ ((s.ns.map PV.str).length : Int) ∧ ((s.ns.map PV.str).length : Int) ≤ 7) = true
    rw [decide_eq_true_eq, List.length_map]
    have := v.n1
    have := v.n7
    omega
  show (if rowB 1 7 (.tup (s.ns.map PV.str)) = true then (fw (tLay (s.ns.map PV.str)) (s.ns.map PV.str).length).map some else some none) = none
  rw [if_pos hr, fw_no fun i hi => ?_]
  · rfl
  · rw [List.length_map] at hi
    unfold tLay
    rw [gI_map hi, (nm_name (v.nm _ (List.getElem_mem hi))).1, Bool.true_and, Bool.or_eq_true, decide_eq_true_eq]
    by_cases h0 : i = 0
    · exact .inl h0
    · right
      rw [gI_map (show i - 1 < s.ns.length by omega)]
      exact List.pairwise_iff_getElem.mp v.asc (i - 1) i (by omega) hi (by omega)
theorem wr_rels {ns : List Str} {rels : List R3} (hl : rels.length ≤ 16) (hok : ∀ r ∈ rels, RelOk ns r) (nd : rels.Nodup) : wr 0 16 (tRel ns) (.tup (rels.map relP)) = none := by
  have hr : rowB 0 16 (.tup (rels.map relP)) = true := by
    show decide (0 ≤ ((rels.map relP).length : Int) ∧ ((rels.map relP).length : Int) ≤ 16) = true
    rw [decide_eq_true_eq, List.length_map]
    omega
  show (if rowB 0 16 (.tup (rels.map relP)) = true then (fw (tRel ns (rels.map relP)) (rels.map relP).length).map some else some none) = none
  rw [if_pos hr, fw_no fun i hi => ?_]
  · rfl
  · rw [List.length_map] at hi
    unfold tRel
    have e : ((rels.map relP).take i).map r3 = rels.take i := by
      rw [← List.map_take, List.map_map]
      exact List.map_id _
    have e2 : r3 (relP rels[i]) = rels[i] := rfl
    rw [gI_map hi, rel_ok (hok _ (List.getElem_mem hi)), e, e2, Bool.true_and, Bool.not_eq_true', decide_eq_false_iff_not]
    intro z
    obtain ⟨j, hj, e3⟩ := List.mem_iff_getElem.mp z
    rw [List.length_take] at hj
    rw [List.getElem_take] at e3
    have := (List.getElem_inj nd).mp e3
    omega
theorem wr_dbs {ns : List Str} {dbs : List D4} (hl : dbs.length ≤ 4) (hok : ∀ d ∈ dbs, RelOk ns (d3 d) ∧ 1 ≤ d.2.2.2 ∧ d.2.2.2 ≤ 9) (nd : (dbs.map d3).Nodup) : wr 0 4 (tDb ns) (.tup (dbs.map dbP)) = none := by
  have hr : rowB 0 4 (.tup (dbs.map dbP)) = true := by
    show decide (0 ≤ ((dbs.map dbP).length : Int) ∧ ((dbs.map dbP).length : Int) ≤ 4) = true
    rw [decide_eq_true_eq, List.length_map]
    omega
  show (if rowB 0 4 (.tup (dbs.map dbP)) = true then (fw (tDb ns (dbs.map dbP)) (dbs.map dbP).length).map some else some none) = none
  rw [if_pos hr, fw_no fun i hi => ?_]
  · rfl
  · rw [List.length_map] at hi
    unfold tDb
    have e : (((dbs.map dbP).take i).map d4).map d3 = (dbs.map d3).take i := by
      rw [← List.map_take, List.map_map, List.map_map, ← List.map_take]
      rfl
    have e2 : d4 (dbP dbs[i]) = dbs[i] := rfl
    obtain ⟨h1, h2, h3⟩ := hok _ (List.getElem_mem hi)
    have e4 : dbB ns (dbP dbs[i]) = true := by
      show (relB ns (relP (d3 dbs[i])) && decide (1 ≤ dbs[i].2.2.2 ∧ dbs[i].2.2.2 ≤ 9)) = true
      rw [rel_ok h1, Bool.true_and, decide_eq_true_eq]
      exact ⟨h2, h3⟩
    rw [gI_map hi, e4, e, e2, Bool.true_and, Bool.not_eq_true', decide_eq_false_iff_not]
    intro z
    obtain ⟨j, hj, e3⟩ := List.mem_iff_getElem.mp z
    rw [List.length_take, List.length_map] at hj
    rw [List.getElem_take, List.getElem_map] at e3
    have e5 : (dbs.map d3)[j]'(by rw [List.length_map]; omega) = (dbs.map d3)[i]'(by rw [List.length_map]; omega) := by
      rw [List.getElem_map, List.getElem_map]
      exact e3
    have := (List.getElem_inj nd).mp e5
    omega
theorem wr_fds {ns : List Str} {last : Int} {fds : List F3} (hl : fds.length ≤ 12) (hok : ∀ f ∈ fds, f.1 ∈ ns ∧ SpOk last f.2.1 ∧ 1 ≤ f.2.2 ∧ f.2.2 ≤ 9) : wr 0 12 (tFd ns last) (.tup (fds.map fdP)) = none := by
  have hr : rowB 0 12 (.tup (fds.map fdP)) = true := by
    show decide (0 ≤ ((fds.map fdP).length : Int) ∧ ((fds.map fdP).length : Int) ≤ 12) = true
    rw [decide_eq_true_eq, List.length_map]
    omega
  show (if rowB 0 12 (.tup (fds.map fdP)) = true then (fw (tFd ns last (fds.map fdP)) (fds.map fdP).length).map some else some none) = none
  rw [if_pos hr, fw_no fun i hi => ?_]
  · rfl
  · rw [List.length_map] at hi
    obtain ⟨h1, h2, h3⟩ := hok _ (List.getElem_mem hi)
    unfold tFd
    rw [gI_map hi]
    show (decide (fds[i].1 ∈ ns) && (spansB last (.tup (fds[i].2.1.map spP)) && decide (1 ≤ fds[i].2.2 ∧ fds[i].2.2 ≤ 9))) = true
    rw [spans_ok h2]
    simp [h1, h3]
variable {st : Sto}
theorem ok_strs {ns : List Str} (hl : ns.length ≤ 1000) (h : ∀ x ∈ ns, x.length ≤ 1000) : Ok st (.tup (ns.map PV.str)) := .tup _ (by rw [List.length_map]; exact hl) fun x hx => by
  obtain ⟨y, hy, rfl⟩ := List.mem_map.mp hx
  exact .str _ (h y hy)
theorem oks_nil : ∀ x ∈ ([] : List PV), Ok st x := fun x h => nomatch h
theorem oks_cons {x : PV} {xs : List PV} (h : Ok st x) (hs : ∀ x ∈ xs, Ok st x) : ∀ y ∈ x :: xs, Ok st y := fun y hy => by
  cases hy with
  | head => exact h
  | tail _ hy => exact hs y hy
theorem ok_rel {r : R3} (v : Valid s) (h : RelOk s.ns r) : Ok st (.str r.1) ∧ Ok st (.str r.2.1) ∧ Ok st (.str r.2.2) := ⟨.str _ (kn_len h.1), .str _ (nm_name (v.nm _ h.2.1)).2, .str _ (nm_name (v.nm _ h.2.2.1)).2⟩
theorem ok_ns (v : Valid s) : Ok st (.tup (s.ns.map PV.str)) := ok_strs (by have := v.n7; omega) fun x hx => (nm_name (v.nm x hx)).2
theorem ok_rels (v : Valid s) : Ok st (.tup (s.rels.map relP)) := .tup _ (by have := v.r16; rw [List.length_map]; omega) fun x hx => by
  obtain ⟨r, hr, rfl⟩ := List.mem_map.mp hx
  obtain ⟨h1, h2, h3⟩ := ok_rel (st := st) v (v.rok r hr)
  exact .tup _ (by simp) (oks_cons h1 (oks_cons h2 (oks_cons h3 oks_nil)))
theorem ok_dbs (v : Valid s) : Ok st (.tup (s.dbs.map dbP)) := .tup _ (by have := v.d4; rw [List.length_map]; omega) fun x hx => by
  obtain ⟨d, hd, rfl⟩ := List.mem_map.mp hx
  obtain ⟨h1, h2, h3⟩ := ok_rel (st := st) v (v.dok d hd).1
  exact .tup _ (by simp) (oks_cons h1 (oks_cons h2 (oks_cons h3 (oks_cons (.int _) oks_nil))))
theorem ok_fds (v : Valid s) : Ok st (.tup (s.fds.map fdP)) := .tup _ (by have := v.f12; rw [List.length_map]; omega) fun x hx => by
  obtain ⟨f, hf, rfl⟩ := List.mem_map.mp hx
  obtain ⟨h1, h2, h3⟩ := v.fok f hf
  refine .tup _ (by simp) (oks_cons (.str _ (nm_name (v.nm _ h1)).2) (oks_cons (.tup _ (by have := h2.len; rw [List.length_map]; omega) fun x hx => ?_) (oks_cons (.int _) oks_nil)))
  obtain ⟨p, hp, rfl⟩ := List.mem_map.mp hx
  exact .tup _ (by simp) (oks_cons (.int _) (oks_cons (.int _) oks_nil))
def fsOf (s : Site5) : List (Str × PV) := [("layers", .tup (s.ns.map PV.str)), ("last", .int s.last), ("relations", .tup (s.rels.map relP)), ("doubts", .tup (s.dbs.map dbP)), ("finds", .tup (s.fds.map fdP))]
theorem putG_ne {f g : Str} {v w : PV} {r : List (Str × PV)} (h : (decide (f = g)) = false) : putG g w ((f, v) :: r) = (f, v) :: putG g w r := if_neg (of_decide_eq_false h)
theorem putG_nil {g : Str} {w : PV} : putG g w [] = [(g, w)] := rfl
theorem pn1 : (decide (("layers" : Str) = "last")) = false := by decide +kernel
theorem pn2 : (decide (("layers" : Str) = "relations")) = false := by decide +kernel
theorem pn3 : (decide (("last" : Str) = "relations")) = false := by decide +kernel
theorem pn4 : (decide (("layers" : Str) = "doubts")) = false := by decide +kernel
theorem pn5 : (decide (("last" : Str) = "doubts")) = false := by decide +kernel
theorem pn6 : (decide (("relations" : Str) = "doubts")) = false := by decide +kernel
theorem pn7 : (decide (("layers" : Str) = "finds")) = false := by decide +kernel
theorem pn8 : (decide (("last" : Str) = "finds")) = false := by decide +kernel
theorem pn9 : (decide (("relations" : Str) = "finds")) = false := by decide +kernel
theorem pn10 : (decide (("doubts" : Str) = "finds")) = false := by decide +kernel
variable {A : Str → Addr} {n : Nat} {Q : PV → Sto → Prop}
theorem e_init {p : Nat} (v : Valid s) (h : st[p]? = some (.ins (A "Site") [])) (q : ∀ st', Keep [p] st st' → st'[p]? = some (.ins (A "Site") (fsOf s)) → Q .non st') : ev (D_Sitedd_initdd A n [.loc p, .tup (s.ns.map PV.str), .int s.last, .tup (s.rels.map relP), .tup (s.dbs.map dbP), .tup (s.fds.map fdP)]) st Q := by
  unfold D_Sitedd_initdd; refine ev_fn rfl ?_; unfold b_Sitedd_initdd
  refine evS_seq (evS_expr ?_)
  try simp_arith
  have c1 := c_layers (A := A) (n := n) (st := st) (ok_ns v)
  rw [wr_layers v] at c1
  refine evK.use c1 fun st1 k1 => ?_
  refine evS_seq (evS_expr ?_)
  try simp_arith
  have c2 := c_last (A := A) (n := n) (st := st1) (v := .int s.last) (.int _)
  have e2 : numB 1 20 (.int s.last) = true := decide_eq_true ⟨v.l1, v.l20⟩
  rw [e2] at c2
  refine evK.use c2 fun st2 k2 => ?_
  refine evS_seq (evS_expr ?_)
  try simp_arith
  have c3 := c_relations (A := A) (n := n) (st := st2) (ns := s.ns) (ok_rels v)
  rw [wr_rels v.r16 v.rok v.rnd] at c3
  refine evK.use c3 fun st3 k3 => ?_
  refine evS_seq (evS_expr ?_)
  try simp_arith
  have c4 := c_doubts (A := A) (n := n) (st := st3) (ns := s.ns) (ok_dbs v)
  rw [wr_dbs v.d4 v.dok v.dnd] at c4
  refine evK.use c4 fun st4 k4 => ?_
  refine evS_seq (evS_expr ?_)
  try simp_arith
  have c5 := c_finds (A := A) (n := n) (st := st4) (ns := s.ns) (last := s.last) (ok_fds v)
  rw [wr_fds v.f12 v.fok] at c5
  refine evK.use c5 fun st5 k5 => ?_
  have K5 := (((k1.trans k2).trans k3).trans k4).trans k5
  have h5 := K5.get h (fun z => nomatch z)
  show evS _ _ _ _
  simp_all_arith [ev_setF h5, ev_setF (get_set h5 _), putG_nil, putG_ne pn1, putG_ne pn2, putG_ne pn3, putG_ne pn4, putG_ne pn5, putG_ne pn6, putG_ne pn7, putG_ne pn8, putG_ne pn9, putG_ne pn10]
  exact q _ (K5.any.trans (.set (by simp))) (get_set h5 _)
theorem ev_dMake {C : Addr} {F : List PV → M PV} {as : Slo → M (List PV)} {ds : List PV} {ε : Slo} (h : ev (as ε) st fun xs st1 => ev (F (.loc st1.length :: (xs ++ ds))) (st1 ++ [.ins C []]) fun y st2 => y = .non ∧ Q (.loc st1.length) st2) : ev (dMake C F ds as ε) st Q := by
  unfold dMake
  refine ev_bind.mpr (h.mono fun xs st1 h => ?_)
  refine ev_bind.mpr (ev_newO.mpr (ev_bind.mpr (h.mono fun y st2 ⟨e, q⟩ => ?_)))
  subst e
  exact ev_pure.mpr q
theorem keep_new {p : Nat} {st' : Sto} {o : Ob} (hp : p = st.length) (k : Keep [p] (st ++ [o]) st') : Keep [] st st' := k.appL.mono fun i hi hlt => by
  rw [List.mem_singleton.mp hi, hp] at hlt
  exact absurd hlt (Nat.lt_irrefl _)
theorem e_made (v : Valid s) (q : ∀ (p : Nat) (st' : Sto), p = st.length → st'[p]? = some (.ins (A "Site") (fsOf s)) → Keep [] st st' → Q (.loc p) st') : ev (D__law_made A n [partsP s]) st Q := by
  unfold D__law_made; refine ev_fn rfl ?_; unfold b__law_made partsP
  refine evS_ret ?_
  refine ev_dMake ?_
  simp_arith
  exact e_init v get_new fun st' k g => ⟨rfl, q _ st' rfl g (keep_new rfl k)⟩
end
end K79
namespace K79
open PySem PySem.Spec PyProof.Rows L2 LamX NdefX G
/-- deeds of a right form, whatever their elements -/
inductive Dd where
  | rel (a b c : PV) | dbt (a b c d : PV) | fnd (a b c : PV) | stk (a b : PV) | tru (a : PV) | bud (a : PV)
def Dd.pv : Dd → PV
  | .rel a b c => .tup [.str "relate", a, b, c]
  | .dbt a b c d => .tup [.str "doubt", a, b, c, d]
  | .fnd a b c => .tup [.str "find", a, b, c]
  | .stk a b => .tup [.str "strike", a, b]
  | .tru a => .tup [.str "trust", a]
  | .bud a => .tup [.str "budget", a]
def neS (x : Str) : PV → Bool
  | .str y => !decide (x = y)
  | _ => true
/-- a layer unlike the upper one -/
def othB (ns : List Str) (b : PV) : PV → Bool
  | .str x => decide (x ∈ ns) && neS x b
  | _ => false
def lotB : PV → Bool
  | .str x => decide (x ∈ (["relation", "doubt", "find"] : List Str))
  | _ => false
def natB : PV → Bool
  | .int i => decide (0 ≤ i)
  | _ => false
def Dd.rs (ns : List Str) (last : Int) : Dd → List Bool
  | .rel a b c => [kindB a, layB ns b, othB ns b c]
  | .dbt a b c d => [kindB a, layB ns b, othB ns b c, numB 1 9 d]
  | .fnd a b c => [layB ns a, spansB last b, numB 1 9 c]
  | .stk a b => [lotB a, natB b]
  | .tru a => [natB a]
  | .bud a => [numB 0 99 a]
/-- what texts are held against -/
def Cm (st : Sto) (v : PV) : Prop := ∀ st', Keep [] st st' → ∀ (x : Str) {Q : PV → Sto → Prop}, ev (fNe (.str x) v) st' Q ↔ Q (.bl (neS x v)) st'
def Dd.Okk (st : Sto) : Dd → Prop
  | .rel a b c => Ok st a ∧ Ok st b ∧ Ok st c ∧ Cm st b
  | .dbt a b c d => Ok st a ∧ Ok st b ∧ Ok st c ∧ Ok st d ∧ Cm st b
  | .fnd a b c => Ok st a ∧ Ok st b ∧ Ok st c
  | .stk a b => Ok st a ∧ Ok st b
  | .tru a => Ok st a
  | .bud a => Ok st a
section
variable {A : Str → Addr} {n p : Nat} {st st' : Sto} {Q : PV → Sto → Prop} {s : Site5}
theorem Cm.kp {v : PV} (h : Cm st v) (k : Keep [] st st') : Cm st' v := fun st2 k2 => h st2 (k.trans k2)
theorem Dd.Okk.kp {d : Dd} (h : d.Okk st) (k : Keep [] st st') : d.Okk st' := by
  cases d with
  | rel a b c => exact ⟨h.1.kp k, h.2.1.kp k, h.2.2.1.kp k, h.2.2.2.kp k⟩
  | dbt a b c d => exact ⟨h.1.kp k, h.2.1.kp k, h.2.2.1.kp k, h.2.2.2.1.kp k, h.2.2.2.2.kp k⟩
  | fnd a b c => exact ⟨h.1.kp k, h.2.1.kp k, h.2.2.kp k⟩
  | stk a b => exact ⟨h.1.kp k, h.2.kp k⟩
  | tru a => exact Ok.kp h k
  | bud a => exact Ok.kp h k
theorem cm_str {y : Str} : Cm st (.str y) := fun st' _ x Q => ev_neS
theorem cm_of {v : PV} {d : PyData} (hv : ∀ st, toD st 60 v = some d) (hs : shp d = true) (hd : ∀ x : Str, PyData.eqv (.str x) d = false) (hn : ∀ x, neS x v = true) : Cm st v := fun st' _ x Q => by
  rw [ev_fNe, hn x]
  constructor
  · rintro ⟨d1, e1, _, d2, e2, _, q⟩
    rw [hv] at e2
    cases e2
    cases e1
    rw [hd] at q
    exact q
  · intro q
    exact ⟨_, rfl, rfl, _, hv st', hs, by rw [hd]; exact q⟩
theorem cm_non : Cm st .non := cm_of (fun _ => rfl) (by decide) (fun _ => rfl) (fun _ => rfl)
theorem cm_int {i : Int} : Cm st (.int i) := cm_of (fun _ => rfl) rfl (fun _ => rfl) (fun _ => rfl)
theorem cm_tup {y : Str} : Cm st (.tup [.str y]) := cm_of (d := .tuple [.str y]) (fun st => toD_tup (.cons rfl .nil)) (by unfold shp; rw [PyData.depth, PyData.depthAll, PyData.depthAll, PyData.depth]; decide) (fun _ => rfl) (fun _ => rfl)
theorem ev_fldE {C : Addr} {f : Str} {fs : List (Str × PV)} {p : Nat} {v : PV} (h : st[p]? = some (.ins C fs)) (hl : fs.lookup f = some v) : ev (fFld C f (.loc p)) st Q ↔ Q v st := by
  rw [ev_fld h, hl]
  exact ⟨fun ⟨a, e, q⟩ => by cases e; exact q, fun q => ⟨_, rfl, q⟩⟩
theorem f_layers (h : st[p]? = some (.ins (A "Site") (fsOf s))) : ev (fFld (A "Site") "layers" (.loc p)) st Q ↔ Q (.tup (s.ns.map PV.str)) st := ev_fldE h rfl
theorem f_last (h : st[p]? = some (.ins (A "Site") (fsOf s))) : ev (fFld (A "Site") "last" (.loc p)) st Q ↔ Q (.int s.last) st := ev_fldE h rfl
theorem f_rels (h : st[p]? = some (.ins (A "Site") (fsOf s))) : ev (fFld (A "Site") "relations" (.loc p)) st Q ↔ Q (.tup (s.rels.map relP)) st := ev_fldE h rfl
theorem f_dbs (h : st[p]? = some (.ins (A "Site") (fsOf s))) : ev (fFld (A "Site") "doubts" (.loc p)) st Q ↔ Q (.tup (s.dbs.map dbP)) st := ev_fldE h rfl
theorem f_fds (h : st[p]? = some (.ins (A "Site") (fsOf s))) : ev (fFld (A "Site") "finds" (.loc p)) st Q ↔ Q (.tup (s.fds.map fdP)) st := ev_fldE h rfl
theorem w_whole {v : PV} (h : Ok st v) : ev (D_is_whole A n [v]) st Q ↔ Q (.bl (isI v && !isBl v)) st := by
  refine ev_iff ?_
  unfold D_is_whole; refine ev_fn rfl ?_; unfold b_is_whole; simp_all_arith [ev_isI h]
  cases hi : isI v with
  | true => simp_arith [ev_isBl h]
  | false => simp_arith
theorem w_number {v : PV} (h : Ok st v) : ev (D_is_number A n [v, .int 0, .non]) st Q ↔ Q (.bl (natB v)) st := by
  refine ev_iff ?_
  unfold D_is_number; refine ev_fn rfl ?_; unfold b_is_number; simp_all_arith [w_whole h]
  cases v with
  | int i =>
    simp_arith [isI, isBl]
    by_cases hi : 0 ≤ i
    · simp_arith [natB, hi, decide_true, ev_isN, isNone]
    · simp_arith [natB, hi, decide_false]
  | _ => simp_arith [isI, isBl, natB]
theorem w_budget {v : PV} (h : Ok st v) : ev (D_is_budget A n [v]) st Q ↔ Q (.bl (numB 0 99 v)) st := by
  refine ev_iff ?_
  unfold D_is_budget; refine ev_fn rfl ?_; unfold b_is_budget; simp_all_arith [w_between h]
theorem w_other {a b c : PV} {w : Str} {r : List PV} (hp : st[p]? = some (.ins (A "Site") (fsOf s))) (hc : Ok st c) (hb : Cm st b) : ev (D_is_other A n [.loc p, .tup (.str w :: a :: b :: r), c]) st Q ↔ Q (.bl (othB s.ns b c)) st := by
  refine ev_iff ?_
  unfold D_is_other; refine ev_fn rfl ?_; unfold b_is_other; simp_all_arith [f_layers hp, w_layer hc]
  cases c with
  | str x =>
    by_cases hx : x ∈ s.ns
    · simp_arith [layB, othB, hx, decide_true]
      refine (hb st .refl x).mpr ?_
      simp_arith
    · simp_arith [layB, othB, hx, decide_false]
  | _ => simp_arith [layB, othB]
def KVS : List (Str × Int) := [("relate", 4), ("doubt", 5), ("find", 4), ("strike", 3), ("trust", 2), ("budget", 2)]
theorem w_formG {w : Str} {r : List PV} {b : Bool} {i : Int} (hw : w.length ≤ 1000) (hk : kinO (KVS.map (·.1)) ["Budget", ""] w = some b) (hi : b = true → KVS.lookup w = some i) : ev (D_has_form A n [.tup (.str w :: r)]) st Q ↔ Q (.bl (b && decide (((r.length + 1 : Nat) : Int) = i))) st := by
  refine ev_iff ?_
  unfold D_has_form
  refine ev_fn rfl ?_
  unfold b_has_form
  refine evS_seq (evS_if ?_)
  have hz : ¬ (((r.length + 1 : Nat) : Int) = 0) := by omega
  simp_arith [w_string (.str w hw), isStr, hz]
  refine evS_next ?_
  show evS _ _ _ _
  refine evS_ret ?_
  simp only [ev_vAnd]
  refine ev_kin ?_
  simp_arith
  refine ⟨w, b, rfl, hk, ?_⟩
  cases b with
  | false => simp_arith
  | true =>
    simp_arith
    refine ev_kix ?_
    simp_arith
    refine ⟨w, i, rfl, hi rfl, ?_⟩
    simp_arith
theorem w_form (d : Dd) : ev (D_has_form A n [d.pv]) st Q ↔ Q (.bl true) st := by
  cases d with
  | rel a b c => exact (w_formG (w := "relate") (b := true) (i := 4) (by decide +kernel) (by decide +kernel) (fun _ => by decide +kernel))
  | dbt a b c d => exact (w_formG (w := "doubt") (b := true) (i := 5) (by decide +kernel) (by decide +kernel) (fun _ => by decide +kernel))
  | fnd a b c => exact (w_formG (w := "find") (b := true) (i := 4) (by decide +kernel) (by decide +kernel) (fun _ => by decide +kernel))
  | stk a b => exact (w_formG (w := "strike") (b := true) (i := 3) (by decide +kernel) (by decide +kernel) (fun _ => by decide +kernel))
  | tru a => exact (w_formG (w := "trust") (b := true) (i := 2) (by decide +kernel) (by decide +kernel) (fun _ => by decide +kernel))
  | bud a => exact (w_formG (w := "budget") (b := true) (i := 2) (by decide +kernel) (by decide +kernel) (fun _ => by decide +kernel))
/-- what is no such tuple -/
inductive NF (st : Sto) : PV → Prop
  | non : NF st .non
  | nil : NF st (.tup [])
  | lst (l : Nat) (xs : List PV) (h : st[l]? = some (.lst xs)) : NF st (.loc l)
  | str (x : Str) (h : x.length ≤ 1000) : NF st (.str x)
  | word (x : PV) : NF st (.tup [.str "Budget", x])
  | rel3 (a b : PV) : NF st (.tup [.str "relate", a, b])
  | fnd3 (a b : PV) : NF st (.tup [.str "find", a, b])
  | int (i : Int) (x : PV) : NF st (.tup [.int i, x])
theorem NF.kp {v : PV} (h : NF st v) (k : Keep [] st st') : NF st' v := by
  cases h with
  | non => exact .non
  | nil => exact .nil
  | lst l xs h => exact .lst l xs (k.get h (fun z => nomatch z))
  | str x h => exact .str x h
  | word x => exact .word x
  | rel3 a b => exact .rel3 a b
  | fnd3 a b => exact .fnd3 a b
  | int i x => exact .int i x
theorem w_noform {v : PV} (h : NF st v) : ev (D_has_form A n [v]) st Q ↔ Q (.bl false) st := by
  have no : ∀ {v : PV}, Ok st v → isTup v = false → (ev (D_has_form A n [v]) st Q ↔ Q (.bl false) st) := fun {v} o ht => by
    refine ev_iff ?_
    unfold D_has_form
    refine ev_fn rfl ?_
    unfold b_has_form
    refine evS_seq (evS_if ?_)
    simp_arith [ev_isTup o, ht]
    refine evS_ret ?_
    simp_arith
  cases h with
  | non => exact no .non rfl
  | str x h => exact no (.str x h) rfl
  | lst l xs h => exact no (.lst l xs h) rfl
  | nil =>
    refine ev_iff ?_
    unfold D_has_form
    refine ev_fn rfl ?_
    unfold b_has_form
    refine evS_seq (evS_if ?_)
    simp_arith
    refine evS_ret ?_
    simp_arith
  | word x => exact (w_formG (w := "Budget") (b := false) (i := 0) (by decide +kernel) (by decide +kernel) (fun z => nomatch z))
  | rel3 a b => exact (w_formG (w := "relate") (b := true) (i := 4) (by decide +kernel) (by decide +kernel) (fun _ => by decide +kernel))
  | fnd3 a b => exact (w_formG (w := "find") (b := true) (i := 4) (by decide +kernel) (by decide +kernel) (fun _ => by decide +kernel))
  | int i x =>
    refine ev_iff ?_
    unfold D_has_form
    refine ev_fn rfl ?_
    unfold b_has_form
    refine evS_seq (evS_if ?_)
    have h20 : ¬ ((2 : Int) = 0) := by decide
    simp_arith [w_string (.int i), isStr, h20]
    refine evS_ret ?_
    simp_arith
theorem w_lot {v : PV} (h : Ok st v) {d : Slo → M PV} {ε : Slo} (hd : ∀ {Q : PV → Sto → Prop}, ev (d ε) st Q ↔ Q v st) : ev (vAnd (dCall (D_is_string A n) [] (aCons d aNil)) (dBin (fIn false) d (dC (.ktup [.str "relation", .str "doubt", .str "find"]))) ε) st Q ↔ Q (.bl (lotB v)) st := by
  refine ev_iff ?_
  simp_arith [hd, w_string h]
  cases v with
  | str x =>
    simp_arith [isStr, hd]
    refine (en_str.ev_inK (neg := false) (a := x) ["relation", "doubt", "find"] (by decide)).mpr ?_
    exact ⟨rfl, rfl⟩
  | _ => simp_arith [isStr, lotB]
theorem ev_in2S {w a b : Str} : ev (fIn false (.str w) (.tup [.str a, .str b])) st Q ↔ Q (.bl (decide (w ∈ [a, b]))) st := en_str.ev_inT (neg := false) [a, b] (by decide)
def Lbs (bs : List Bool) (y : PV) (st : Sto) : Prop := ∃ l, y = .loc l ∧ st[l]? = some (.lst (bs.map PV.bl))
theorem w_rights {d : Dd} (hp : st[p]? = some (.ins (A "Site") (fsOf s))) (o : d.Okk st) : ev (D_are_right A n [.loc p, d.pv]) st fun y st' => Lbs (d.rs s.ns s.last) y st' ∧ Keep [] st st' := by
  have w1 : ("relate" : Str) ∈ (["relate", "doubt"] : List Str) := by decide +kernel
  have w2 : ("doubt" : Str) ∈ (["relate", "doubt"] : List Str) := by decide +kernel
  have w3 : ("find" : Str) ∉ (["relate", "doubt"] : List Str) := by decide +kernel
  have w4 : ("strike" : Str) ∉ (["relate", "doubt"] : List Str) := by decide +kernel
  have w5 : ("trust" : Str) ∉ (["relate", "doubt"] : List Str) := by decide +kernel
  have w6 : ("budget" : Str) ∉ (["relate", "doubt"] : List Str) := by decide +kernel
  have z1 : ("doubt" : Str) ≠ "relate" := by decide +kernel
  have z2 : ("strike" : Str) ≠ "find" := by decide +kernel
  have z3 : ("trust" : Str) ≠ "find" := by decide +kernel
  have z4 : ("budget" : Str) ≠ "find" := by decide +kernel
  have z5 : ("trust" : Str) ≠ "strike" := by decide +kernel
  have z6 : ("budget" : Str) ≠ "strike" := by decide +kernel
  have z7 : ("budget" : Str) ≠ "trust" := by decide +kernel
  unfold D_are_right
  refine ev_fn rfl ?_
  unfold b_are_right
  cases d with
  | rel a b c =>
    obtain ⟨oa, ob, oc, cb⟩ := o
    unfold Dd.pv Dd.rs
    refine evS_seq (evS_asg ?_)
    simp_arith
    refine evS_gN ?_
    show evS _ _ _ _
    refine evS_seq (evS_if ?_)
    simp_arith [ev_in2S, w1]
    refine evS_seq (evS_asg ?_)
    simp_arith [w_kind oa, f_layers hp, w_layer ob, w_other hp oc cb]
    refine evS_gN ?_
    show evS _ _ _ _
    refine evS_ret ?_
    simp_arith
    exact ⟨⟨_, rfl, get_new⟩, .app⟩
  | dbt a b c d =>
    obtain ⟨oa, ob, oc, od, cb⟩ := o
    unfold Dd.pv Dd.rs
    refine evS_seq (evS_asg ?_)
    simp_arith
    refine evS_gN ?_
    show evS _ _ _ _
    refine evS_seq (evS_if ?_)
    simp_arith [ev_in2S, w2]
    refine evS_seq (evS_asg ?_)
    simp_arith [w_kind oa, f_layers hp, w_layer ob, w_other hp oc cb]
    refine evS_gN ?_
    show evS _ _ _ _
    refine evS_ret ?_
    simp_arith [z1]
    refine (w_weight (od.kp .app)).mpr ?_
    try simp_arith
    refine (ev_addLL (get_old get_new) get_new).mpr ⟨by simp, ⟨_, rfl, get_new⟩, Keep.app.appR.appR⟩
  | fnd a b c =>
    obtain ⟨oa, ob, oc⟩ := o
    unfold Dd.pv Dd.rs
    refine evS_seq (evS_asg ?_)
    simp_arith
    refine evS_gN ?_
    show evS _ _ _ _
    refine evS_seq (evS_if ?_)
    simp_arith [ev_in2S, w3]
    refine evS_next ?_
    show evS _ _ _ _
    refine evS_seq (evS_if ?_)
    simp_arith
    refine evS_ret ?_
    simp_arith [f_layers hp, w_layer oa, f_last hp]
    refine (w_spans ob).use fun st1 k1 => ?_
    try simp_arith
    refine (w_weight (oc.kp k1)).mpr ?_
    try simp_arith
    exact ⟨⟨_, rfl, get_new⟩, k1.appR⟩
  | stk a b =>
    obtain ⟨oa, ob⟩ := o
    unfold Dd.pv Dd.rs
    refine evS_seq (evS_asg ?_)
    simp_arith
    refine evS_gN ?_
    show evS _ _ _ _
    refine evS_seq (evS_if ?_)
    simp_arith [ev_in2S, w4]
    refine evS_next ?_
    show evS _ _ _ _
    refine evS_seq (evS_if ?_)
    simp_arith [z2]
    refine evS_next ?_
    show evS _ _ _ _
    refine evS_seq (evS_if ?_)
    simp_arith
    refine evS_ret ?_
    rw [ev_dLst, ev_aCons]
    refine (w_lot oa (fun {Q} => by simp_arith)).mpr ?_
    simp_arith [w_number ob]
    exact ⟨⟨_, rfl, get_new⟩, .app⟩
  | tru a =>
    have oa : Ok st a := o
    unfold Dd.pv Dd.rs
    refine evS_seq (evS_asg ?_)
    simp_arith
    refine evS_gN ?_
    show evS _ _ _ _
    refine evS_seq (evS_if ?_)
    simp_arith [ev_in2S, w5]
    refine evS_next ?_
    show evS _ _ _ _
    refine evS_seq (evS_if ?_)
    simp_arith [z3]
    refine evS_next ?_
    show evS _ _ _ _
    refine evS_seq (evS_if ?_)
    simp_arith [z5]
    refine evS_next ?_
    show evS _ _ _ _
    refine evS_ret ?_
    simp_arith [w_number oa]
    exact ⟨⟨_, rfl, get_new⟩, .app⟩
  | bud a =>
    have oa : Ok st a := o
    unfold Dd.pv Dd.rs
    refine evS_seq (evS_asg ?_)
    simp_arith
    refine evS_gN ?_
    show evS _ _ _ _
    refine evS_seq (evS_if ?_)
    simp_arith [ev_in2S, w6]
    refine evS_next ?_
    show evS _ _ _ _
    refine evS_seq (evS_if ?_)
    simp_arith [z4]
    refine evS_next ?_
    show evS _ _ _ _
    refine evS_seq (evS_if ?_)
    simp_arith [z6]
    refine evS_next ?_
    show evS _ _ _ _
    refine evS_ret ?_
    simp_arith [z7, w_budget oa]
    exact ⟨⟨_, rfl, get_new⟩, .app⟩
theorem fst_false {bs : List Bool} {i : Nat} (h : bs.findIdx? (fun z => decide (z = false)) = some i) : false ∈ bs := by
  obtain ⟨hi, h1, _⟩ := List.findIdx?_eq_some_iff_getElem.mp h
  have : bs[i] = false := of_decide_eq_true h1
  rw [← this]
  exact List.getElem_mem hi
def BadX (A : Str → Addr) (st : Sto) (j : Nat) : Addr → List (Str × PV) → Sto → Prop := fun C fs st' => C = A "InvalidDeed" ∧ fs = [(("index" : Str), .int j)] ∧ Keep [] st st'
theorem w_checkN {v : PV} (h : NF st v) : evX (D_check_deed A n [.loc p, v]) st (BadX A st 0) := by
  unfold D_check_deed; refine evX_fn rfl ?_; unfold b_check_deed
  refine evS_seq (evS_if ?_)
  simp_arith [w_noform h]
  refine evS_raise ?_
  simp_arith
  exact ⟨rfl, rfl, .refl⟩
theorem w_checkX {d : Dd} {i : Nat} (hp : st[p]? = some (.ins (A "Site") (fsOf s))) (o : d.Okk st) (hi : (d.rs s.ns s.last).findIdx? (fun z => decide (z = false)) = some i) : evX (D_check_deed A n [.loc p, d.pv]) st (BadX A st (i + 1)) := by
  unfold D_check_deed; refine evX_fn rfl ?_; unfold b_check_deed
  refine evS_seq (evS_if ?_)
  simp_arith [w_form d]
  refine evS_next ?_
  show evS _ _ _ _
  refine evS_seq (evS_asg ?_)
  simp_arith
  refine (w_rights hp o).mono fun y st1 ⟨⟨l, e, g⟩, k1⟩ => ?_
  subst e
  refine evS_gN ?_
  show evS _ _ _ _
  refine evS_if ?_
  simp_arith
  refine (en_bl.ev_inL (neg := false) (a := false) _ g (by decide)).mpr ?_
  have hf := fst_false hi
  simp_arith [nb, hf]
  refine evS_raise ?_
  simp_arith
  refine ⟨isLst_of g, (ev_indexB g hi).mpr ?_⟩
  simp_arith
  refine ⟨rfl, ?_, k1⟩
  rw [show ((i + 1 : Nat) : Int) = 1 + (i : Int) by omega]
theorem w_checkO {d : Dd} (hp : st[p]? = some (.ins (A "Site") (fsOf s))) (o : d.Okk st) (hi : false ∉ d.rs s.ns s.last) : evK (D_check_deed A n [.loc p, d.pv]) st .non := by
  unfold evK D_check_deed; refine ev_fn rfl ?_; unfold b_check_deed
  refine evS_seq (evS_if ?_)
  simp_arith [w_form d]
  refine evS_next ?_
  show evS _ _ _ _
  refine evS_seq (evS_asg ?_)
  simp_arith
  refine (w_rights hp o).mono fun y st1 ⟨⟨l, e, g⟩, k1⟩ => ?_
  subst e
  refine evS_gN ?_
  show evS _ _ _ _
  refine evS_if ?_
  simp_arith
  refine (en_bl.ev_inL (neg := false) (a := false) _ g (by decide)).mpr ?_
  simp_arith [nb, hi]
  refine evS_next ?_
  exact k1
end
end K79
namespace K79
open PySem PySem.Spec PyProof.Rows L2 LamX NdefX G
theorem putG_eq {f : Str} {v w : PV} {r : List (Str × PV)} : putG f w ((f, v) :: r) = (f, w) :: r := if_pos rfl
theorem bn1 : (decide (("site" : Str) = "budget")) = false := by decide +kernel
theorem bn2 : (decide (("site" : Str) = "deeds")) = false := by decide +kernel
theorem bn3 : (decide (("budget" : Str) = "deeds")) = false := by decide +kernel
theorem bn4 : (decide (("site" : Str) = "past")) = false := by decide +kernel
theorem bn5 : (decide (("budget" : Str) = "past")) = false := by decide +kernel
theorem bn6 : (decide (("deeds" : Str) = "past")) = false := by decide +kernel
theorem bn7 : (decide (("site" : Str) = "begun")) = false := by decide +kernel
theorem bn8 : (decide (("budget" : Str) = "begun")) = false := by decide +kernel
theorem bn9 : (decide (("deeds" : Str) = "begun")) = false := by decide +kernel
theorem bn10 : (decide (("past" : Str) = "begun")) = false := by decide +kernel
def bkF (p : Nat) (b : Int) (ds : List PV) (pp : Nat) (bg : PV) : List (Str × PV) := [("site", .loc p), ("budget", .int b), ("deeds", .tup ds), ("past", .loc pp), ("begun", bg)]
/-- a book: its place, its site's, its past's -/
structure Bk (A : Str → Addr) (s : Site5) (pb p pp : Nat) (b : Int) (ds : List PV) (st : Sto) : Prop where
  bk : ∃ bg, st[pb]? = some (.ins (A "Book") (bkF p b ds pp bg))
  si : st[p]? = some (.ins (A "Site") (fsOf s))
  pa : ∃ xs, st[pp]? = some (.lst xs) ∧ xs.length ≤ ds.length
section
variable {A : Str → Addr} {n p pb pp : Nat} {st st' : Sto} {Q : PV → Sto → Prop} {s : Site5} {b : Int} {ds : List PV}
theorem Bk.kp {S : List Nat} (h : Bk A s pb p pp b ds st) (k : Keep S st st') (h1 : pb ∉ S) (h2 : p ∉ S) (h3 : pp ∉ S) : Bk A s pb p pp b ds st' := by
  obtain ⟨⟨bg, e⟩, e2, xs, e3, l⟩ := h
  exact ⟨⟨bg, k.get e h1⟩, k.get e2 h2, xs, k.get e3 h3, l⟩
theorem Bk.k0 (h : Bk A s pb p pp b ds st) (k : Keep [] st st') : Bk A s pb p pp b ds st' := h.kp k (fun z => nomatch z) (fun z => nomatch z) (fun z => nomatch z)
theorem b_site (h : Bk A s pb p pp b ds st) : ev (fFld (A "Book") "site" (.loc pb)) st Q ↔ Q (.loc p) st := by
  obtain ⟨bg, e⟩ := h.bk
  exact ev_fldE e rfl
theorem b_budget (h : Bk A s pb p pp b ds st) : ev (fFld (A "Book") "budget" (.loc pb)) st Q ↔ Q (.int b) st := by
  obtain ⟨bg, e⟩ := h.bk
  exact ev_fldE e rfl
theorem b_deeds (h : Bk A s pb p pp b ds st) : ev (fFld (A "Book") "deeds" (.loc pb)) st Q ↔ Q (.tup ds) st := by
  obtain ⟨bg, e⟩ := h.bk
  exact ev_fldE e rfl
theorem b_past (h : Bk A s pb p pp b ds st) : ev (fFld (A "Book") "past" (.loc pb)) st Q ↔ Q (.loc pp) st := by
  obtain ⟨bg, e⟩ := h.bk
  exact ev_fldE e rfl
theorem e_check_site (h : st[p]? = some (.ins (A "Site") (fsOf s))) : ev (D_check_site A n [.loc p]) st Q ↔ Q .non st := by
  refine ev_iff ?_
  unfold D_check_site; refine ev_fn rfl ?_; unfold b_check_site; simp_all_arith [ev_isC h]
theorem e_check_budget (h0 : 0 ≤ b) (h1 : b ≤ 99) : ev (D_check_budget A n [.int b]) st Q ↔ Q .non st := by
  refine ev_iff ?_
  have e : numB 0 99 (.int b) = true := decide_eq_true ⟨h0, h1⟩
  unfold D_check_budget; refine ev_fn rfl ?_; unfold b_check_budget; simp_all_arith [w_budget (.int b), e]
theorem e_book {as : Slo → M (List PV)} {ε : Slo} (h0 : 0 ≤ b) (h1 : b ≤ 99) (has : ev (as ε) st fun xs st1 => ∃ p, xs = [.loc p, .int b] ∧ st1[p]? = some (.ins (A "Site") (fsOf s)) ∧ Keep [] st st1) (q : ∀ pb p pp st', st.length ≤ pb → st.length ≤ pp → pb ≠ pp → Bk A s pb p pp b [] st' → Keep [] st st' → Q (.loc pb) st') : ev (dMake (A "Book") (D_Bookdd_initdd A n) [] as ε) st Q := by
  refine ev_dMake (has.mono fun xs st1 ⟨p, e, hp, k1⟩ => ?_)
  subst e
  unfold D_Bookdd_initdd
  refine ev_fn rfl ?_
  unfold b_Bookdd_initdd
  have hp1 := get_old (t := [.ins (A "Book") []]) hp
  refine evS_seq (evS_expr ?_)
  simp_arith [e_check_site hp1]
  show evS _ _ _ _
  refine evS_seq (evS_expr ?_)
  simp_arith [e_check_budget h0 h1]
  show evS _ _ _ _
  have g0 := get_new (st := st1) (o := Ob.ins (A "Book") [])
  have g := get_set g0
  simp_all_arith [ev_setF g0, ev_setF (g _), putG_nil, putG_ne bn1, putG_ne bn2, putG_ne bn3, putG_ne bn4, putG_ne bn5, putG_ne bn6, putG_ne bn7, putG_ne bn8, putG_ne bn9, putG_ne bn10]
  refine (ev_setF (get_old (g _))).mpr ⟨by simp, ?_⟩
  rw [putG_ne bn4, putG_ne bn5, putG_ne bn6, putG_nil]
  have g5 := get_set (get_old (t := [.lst []]) (g (.ins (A "Book") [("site", .loc p), ("budget", .int b), ("deeds", .tup [])]))) (.ins (A "Book") [("site", .loc p), ("budget", .int b), ("deeds", .tup []), ("past", .loc (List.set (st1 ++ [Ob.ins (A "Book") []]) st1.length (Ob.ins (A "Book") [("site", PV.loc p), ("budget", PV.int b), ("deeds", PV.tup [])])).length)])
  refine evS_fld ?_
  simp_arith
  refine (ev_setF g5).mpr ⟨by simp, ?_⟩
  rw [putG_ne bn7, putG_ne bn8, putG_ne bn9, putG_ne bn10, putG_nil]
  have hl : (List.set (st1 ++ [Ob.ins (A "Book") []]) st1.length (Ob.ins (A "Book") [("site", PV.loc p), ("budget", PV.int b), ("deeds", PV.tup [])])).length = st1.length + 1 := by simp
  have hlp := get_lt hp
  have kk : ∀ o : Ob, Keep [st1.length] (st1 ++ [Ob.ins (A "Book") []]) (List.set (List.set (List.set (st1 ++ [Ob.ins (A "Book") []]) st1.length (Ob.ins (A "Book") [("site", PV.loc p), ("budget", PV.int b), ("deeds", PV.tup [])]) ++ [Ob.lst []]) st1.length (Ob.ins (A "Book") [("site", .loc p), ("budget", .int b), ("deeds", .tup []), ("past", .loc (List.set (st1 ++ [Ob.ins (A "Book") []]) st1.length (Ob.ins (A "Book") [("site", PV.loc p), ("budget", PV.int b), ("deeds", PV.tup [])])).length)])) st1.length o) := fun o => (((Keep.set (by simp)).trans .app).trans (.set (by simp))).trans (.set (by simp))
  have K : ∀ o : Ob, Keep [] st1 _ := fun o => keep_new rfl (kk o)
  refine q st1.length p _ _ k1.len (by have := k1.len; omega) (by rw [hl]; omega) ⟨⟨_, get_set (get_set (get_old (g _)) _) _⟩, (K _).get hp (fun z => nomatch z), [], ?_, Nat.le_refl _⟩ (k1.trans (K _))
  rw [List.getElem?_set_ne (by rw [hl]; omega), List.getElem?_set_ne (by rw [hl]; omega)]
  exact get_new
end
end K79
namespace K79
open PySem PySem.Spec PyProof.Rows L2 LamX NdefX G
section
variable {A : Str → Addr} {n p pb pp : Nat} {st st' : Sto} {Q : PV → Sto → Prop} {s : Site5} {b : Int} {ds : List PV}
theorem e_do_bad {v : PV} {j : Nat} (h : Bk A s pb p pp b ds st) (hx : evX (D_check_deed A n [.loc p, v]) st (BadX A st j)) : evX (D_Book_do A n [.loc pb, v]) st (BadX A st j) := by
  unfold D_Book_do; refine evX_fn rfl ?_; unfold b_Book_do
  refine evS_seq (evS_exprX (evX_dCall ?_))
  simp_arith [b_site h]
  exact hx
theorem n_br : ("budget" : Str) ≠ "relate" := by decide +kernel
theorem n_bt : ("budget" : Str) ≠ "trust" := by decide +kernel
theorem n_bd : ("budget" : Str) ≠ "doubt" := by decide +kernel
theorem n_bf : ("budget" : Str) ≠ "find" := by decide +kernel
theorem n_bs : ("budget" : Str) ≠ "strike" := by decide +kernel
theorem n_sr : ("strike" : Str) ≠ "relate" := by decide +kernel
theorem n_st : ("strike" : Str) ≠ "trust" := by decide +kernel
theorem n_sd : ("strike" : Str) ≠ "doubt" := by decide +kernel
theorem n_sf : ("strike" : Str) ≠ "find" := by decide +kernel
theorem n_tr : ("trust" : Str) ≠ "relate" := by decide +kernel
theorem n_td : ("trust" : Str) ≠ "doubt" := by decide +kernel
theorem n_tf : ("trust" : Str) ≠ "find" := by decide +kernel
theorem n_ts : ("trust" : Str) ≠ "strike" := by decide +kernel
theorem n_fl : ("find" : Str) ≠ "relation" := by decide +kernel
theorem n_fd : ("find" : Str) ≠ "doubt" := by decide +kernel
theorem i_b : ("budget" : Str) ∉ (["relate", "trust"] : List Str) := by decide +kernel
theorem i_s : ("strike" : Str) ∉ (["relate", "trust"] : List Str) := by decide +kernel
theorem i_t : ("trust" : Str) ∈ (["relate", "trust"] : List Str) := by decide +kernel
theorem ev_nin2S {w a b : Str} : ev (fIn true (.str w) (.tup [.str a, .str b])) st Q ↔ Q (.bl (!decide (w ∈ [a, b]))) st := en_str.ev_inT (neg := true) [a, b] (by decide)
theorem r_bud {c : Int} (hp : st[p]? = some (.ins (A "Site") (fsOf s))) (hc : b < c) : ev (D_reason_against A n [.loc p, .int b, .tup [.str "budget", .int c]]) st Q ↔ Q .non st := by
  have h1 : ∀ {Q : PV → Sto → Prop}, ev (D_is_full A n [.loc p, .tup [.str "budget", .int c]]) st Q ↔ Q (.bl false) st := fun {Q} => by
    refine ev_iff ?_
    unfold D_is_full; refine ev_fn rfl ?_; unfold b_is_full; simp_all_arith [ev_in2S, i_b, n_bd, n_bf]
  have h2 : ∀ {Q : PV → Sto → Prop}, ev (D_is_twice A n [.loc p, .tup [.str "budget", .int c]]) st Q ↔ Q (.bl false) st := fun {Q} => by
    refine ev_iff ?_
    unfold D_is_twice; refine ev_fn rfl ?_; unfold b_is_twice; simp_all_arith [n_br, n_bd, n_bt]
  have h3 : ∀ {Q : PV → Sto → Prop}, ev (D_lacks_index A n [.loc p, .tup [.str "budget", .int c]]) st Q ↔ Q (.bl false) st := fun {Q} => by
    refine ev_iff ?_
    unfold D_lacks_index; refine ev_fn rfl ?_; unfold b_lacks_index; simp_all_arith [n_bs, n_bt]
  have hc2 : ¬ c < b := by omega
  have hc3 : ¬ c = b := by omega
  have h4 : ∀ {Q : PV → Sto → Prop}, ev (D_bars_all A n [.loc p, .int b, .tup [.str "budget", .int c]]) st Q ↔ Q (.bl false) st := fun {Q} => by
    refine ev_iff ?_
    unfold D_bars_all; refine ev_fn rfl ?_; unfold b_bars_all; simp_all_arith [ev_nin2S, i_b, hc2]
  refine ev_iff ?_
  unfold D_reason_against; refine ev_fn rfl ?_; unfold b_reason_against; simp_all_arith [h1, h2, h3, h4, hc3]
theorem c_bud {c : Int} (hp : st[p]? = some (.ins (A "Site") (fsOf s))) (hc : b < c) : ev (D_check_barred A n [.loc p, .int b, .tup [.str "budget", .int c]]) st Q ↔ Q .non st := by
  refine ev_iff ?_
  unfold D_check_barred; refine ev_fn rfl ?_; unfold b_check_barred; simp_all_arith [r_bud hp hc, ev_isN, isNone]
/-- the deeds that lack their thing -/
def Lack (s : Site5) : Dd → Prop
  | .stk a b => a = .str "find" ∧ b = .int 99
  | .tru a => a = .int 99
  | _ => False
theorem r_lack {d : Dd} (v : Valid s) (hr : s.rels.length ≤ 15) (hp : st[p]? = some (.ins (A "Site") (fsOf s))) (hl : Lack s d) : ev (D_reason_against A n [.loc p, .int b, d.pv]) st Q ↔ Q (.str "index") st := by
  have hr2 : ¬ ((s.rels.length : Int) = 16) := by omega
  have hd : (s.dbs.length : Int) ≤ 99 := by have := v.d4; omega
  have hf : (s.fds.length : Int) ≤ 99 := by have := v.f12; omega
  have h1 : ∀ {Q : PV → Sto → Prop}, ev (D_is_full A n [.loc p, d.pv]) st Q ↔ Q (.bl false) st := fun {Q} => by
    refine ev_iff ?_
    cases d with
    | stk a b =>
      obtain ⟨rfl, rfl⟩ := hl
      unfold Dd.pv
      unfold D_is_full; refine ev_fn rfl ?_; unfold b_is_full; simp_all_arith [ev_in2S, i_s, n_sd, n_sf]
    | tru a =>
      cases hl
      unfold Dd.pv
      unfold D_is_full; refine ev_fn rfl ?_; unfold b_is_full; simp_all_arith [ev_in2S, i_t, f_rels hp, List.length_map, hr2]
    | _ => exact hl.elim
  have h2 : ∀ {Q : PV → Sto → Prop}, ev (D_is_twice A n [.loc p, d.pv]) st Q ↔ Q (.bl false) st := fun {Q} => by
    refine ev_iff ?_
    cases d with
    | stk a b =>
      obtain ⟨rfl, rfl⟩ := hl
      unfold Dd.pv
      unfold D_is_twice; refine ev_fn rfl ?_; unfold b_is_twice; simp_all_arith [n_sr, n_sd, n_st]
    | tru a =>
      cases hl
      unfold Dd.pv
      unfold D_is_twice; refine ev_fn rfl ?_; unfold b_is_twice; simp_all_arith [n_tr, n_td, f_dbs hp, List.length_map, hd]
    | _ => exact hl.elim
  have h3 : ∀ {Q : PV → Sto → Prop}, ev (D_lacks_index A n [.loc p, d.pv]) st Q ↔ Q (.bl true) st := fun {Q} => by
    refine ev_iff ?_
    cases d with
    | stk a b =>
      obtain ⟨rfl, rfl⟩ := hl
      unfold Dd.pv
      have h4 : ∀ {Q : PV → Sto → Prop}, ev (D_lot_of A n [.loc p, .str "find"]) st Q ↔ Q (.tup (s.fds.map fdP)) st := fun {Q} => by
        refine ev_iff ?_
        unfold D_lot_of; refine ev_fn rfl ?_; unfold b_lot_of; simp_all_arith [n_fl, n_fd, f_fds hp]
      unfold D_lacks_index; refine ev_fn rfl ?_; unfold b_lacks_index; simp_all_arith [h4, List.length_map, hf]
    | tru a =>
      cases hl
      unfold Dd.pv
      unfold D_lacks_index; refine ev_fn rfl ?_; unfold b_lacks_index; simp_all_arith [n_ts, f_dbs hp, List.length_map, hd]
    | _ => exact hl.elim
  refine ev_iff ?_
  unfold D_reason_against; refine ev_fn rfl ?_; unfold b_reason_against; simp_all_arith [h1, h2, h3]
def BarX (A : Str → Addr) (st : Sto) : Addr → List (Str × PV) → Sto → Prop := fun C fs st' => C = A "Barred" ∧ fs = [(("reason" : Str), .str "index")] ∧ Keep [] st st'
theorem e_do_lack {d : Dd} (v : Valid s) (hr : s.rels.length ≤ 15) (h : Bk A s pb p pp b ds st) (hl : Lack s d) : evX (D_Book_do A n [.loc pb, d.pv]) st (BarX A st) := by
  have o : d.Okk st := by
    cases d with
    | stk a b =>
      obtain ⟨rfl, rfl⟩ := hl
      exact ⟨.str _ (by decide +kernel), .int _⟩
    | tru a =>
      cases hl
      exact Ok.int _
    | _ => exact hl.elim
  have hi : false ∉ d.rs s.ns s.last := by
    cases d with
    | stk a b =>
      obtain ⟨rfl, rfl⟩ := hl
      have e1 : lotB (.str "find") = true := by decide +kernel
      have e2 : natB (.int 99) = true := by decide
      show ¬ false ∈ [lotB (.str "find"), natB (.int 99)]
      rw [e1, e2]
      decide
    | tru a =>
      cases hl
      have e2 : natB (.int 99) = true := by decide
      show ¬ false ∈ [natB (.int 99)]
      rw [e2]
      decide
    | _ => exact hl.elim
  unfold D_Book_do; refine evX_fn rfl ?_; unfold b_Book_do
  refine evS_seq (evS_expr ?_)
  simp_arith [b_site h]
  refine (w_checkO h.si o hi).use fun st1 k1 => ?_
  have h1 := h.k0 k1
  show evS _ _ _ _
  refine evS_seq (evS_exprX (evX_dCall ?_))
  simp_arith [b_site h1, b_budget h1]
  unfold D_check_barred; refine evX_fn rfl ?_; unfold b_check_barred
  refine evS_seq (evS_asg ?_)
  simp_arith [r_lack v hr h1.si hl]
  refine evS_gN ?_
  show evS _ _ _ _
  refine evS_if ?_
  simp_arith [ev_isN, isNone]
  refine evS_raise ?_
  simp_arith
  exact ⟨rfl, rfl, k1⟩
theorem e_do_bud {c : Int} (h : Bk A s pb p pp b ds st) (hne : pb ≠ pp) (hpp : p ≠ pp) (hpb : p ≠ pb) (hl : ds.length ≤ 100) (hb : 0 ≤ b) (hc : b < c) (hc2 : c ≤ 99) (q : ∀ st', Bk A s pb p pp c (ds ++ [.tup [.str "budget", .int c]]) st' → Keep [pb, pp] st st' → Q .non st') : ev (D_Book_do A n [.loc pb, .tup [.str "budget", .int c]]) st Q := by
  have o : (Dd.bud (.int c)).Okk st := Ok.int _
  have hi : false ∉ (Dd.bud (.int c)).rs s.ns s.last := by
    have e1 : numB 0 99 (.int c) = true := decide_eq_true ⟨by omega, hc2⟩
    show ¬ false ∈ [numB 0 99 (.int c)]
    rw [e1]
    decide
  unfold D_Book_do; refine ev_fn rfl ?_; unfold b_Book_do
  refine evS_seq (evS_expr ?_)
  simp_arith [b_site h]
  refine (w_checkO (d := .bud (.int c)) h.si o hi).use fun st1 k1 => ?_
  have h1 := h.k0 k1
  show evS _ _ _ _
  refine evS_seq (evS_expr ?_)
  simp_arith [b_site h1, b_budget h1, c_bud h1.si hc]
  show evS _ _ _ _
  refine evS_seq (evS_expr ?_)
  obtain ⟨xs, g1, lx⟩ := h1.pa
  simp_arith [b_past h1, b_site h1, b_budget h1]
  refine ⟨isLst_of g1, (ev_append g1).mpr ⟨by rw [sizeLine_eq]; omega, ?_⟩⟩
  obtain ⟨bg, e1⟩ := h1.bk
  have e2 : (st1.set pp (.lst (xs ++ [.tup [.loc p, .int b]])))[pb]? = some (.ins (A "Book") (bkF p b ds pp bg)) := by rw [List.getElem?_set_ne (Ne.symm hne)]; exact e1
  have s2 : (st1.set pp (.lst (xs ++ [.tup [.loc p, .int b]])))[p]? = some (.ins (A "Site") (fsOf s)) := by rw [List.getElem?_set_ne (Ne.symm hpp)]; exact h1.si
  have p2 := get_set g1 (.lst (xs ++ [.tup [.loc p, .int b]]))
  have k2 : Keep [pb, pp] st (st1.set pp (.lst (xs ++ [.tup [.loc p, .int b]]))) := k1.any.trans (.set (by simp))
  generalize st1.set pp (.lst (xs ++ [.tup [.loc p, .int b]])) = st2 at *
  have h2 : Bk A s pb p pp b ds st2 → True := fun _ => trivial
  show evS _ _ _ _
  refine evS_seq (evS_fld ?_)
  have fd : ∀ {Q : PV → Sto → Prop}, ev (fFld (A "Book") "deeds" (.loc pb)) st2 Q ↔ Q (.tup ds) st2 := ev_fldE e2 rfl
  simp_arith [fd]
  refine ⟨by omega, ?_⟩
  refine (ev_setF e2).mpr ⟨by unfold bkF; simp, ?_⟩
  have e3 : putG "deeds" (.tup (ds ++ [.tup [.str "budget", .int c]])) (bkF p b ds pp bg) = bkF p b (ds ++ [.tup [.str "budget", .int c]]) pp bg := by
    unfold bkF
    rw [putG_ne bn2, putG_ne bn3, putG_eq]
  rw [e3]
  have e4 := get_set e2 (.ins (A "Book") (bkF p b (ds ++ [.tup [.str "budget", .int c]]) pp bg))
  have s4 : (st2.set pb (.ins (A "Book") (bkF p b (ds ++ [.tup [.str "budget", .int c]]) pp bg)))[p]? = some (.ins (A "Site") (fsOf s)) := by rw [List.getElem?_set_ne (Ne.symm hpb)]; exact s2
  have p4 : (st2.set pb (.ins (A "Book") (bkF p b (ds ++ [.tup [.str "budget", .int c]]) pp bg)))[pp]? = some (.lst (xs ++ [.tup [.loc p, .int b]])) := by rw [List.getElem?_set_ne hne]; exact p2
  have k4 : Keep [pb, pp] st (st2.set pb (.ins (A "Book") (bkF p b (ds ++ [.tup [.str "budget", .int c]]) pp bg))) := k2.trans (.set (by simp))
  generalize st2.set pb (.ins (A "Book") (bkF p b (ds ++ [.tup [.str "budget", .int c]]) pp bg)) = st3 at *
  show evS _ _ _ _
  have hs : ∀ {Q : PV → Sto → Prop}, ev (D_state_behind A n [.loc p, .int b, .tup [.str "budget", .int c]]) st3 Q ↔ Q (.tup [.loc p, .int c]) st3 := fun {Q} => by
    refine ev_iff ?_
    unfold D_state_behind; refine ev_fn rfl ?_; unfold b_state_behind; simp_all_arith
  refine evS_asg ?_
  have f1 : ∀ {Q : PV → Sto → Prop}, ev (fFld (A "Book") "site" (.loc pb)) st3 Q ↔ Q (.loc p) st3 := ev_fldE e4 rfl
  have f2 : ∀ {Q : PV → Sto → Prop}, ev (fFld (A "Book") "budget" (.loc pb)) st3 Q ↔ Q (.int b) st3 := ev_fldE e4 rfl
  simp_arith [f1, f2, hs]
  refine evS_gTu ?_
  simp_arith
  refine evS_gsCons (evS_gFld ?_)
  simp_arith
  refine (ev_setF e4).mpr ⟨by unfold bkF; simp, ?_⟩
  have e5 : putG "site" (.loc p) (bkF p b (ds ++ [.tup [.str "budget", .int c]]) pp bg) = bkF p b (ds ++ [.tup [.str "budget", .int c]]) pp bg := by
    unfold bkF
    rw [putG_eq]
  rw [e5]
  have e6 := get_set e4 (.ins (A "Book") (bkF p b (ds ++ [.tup [.str "budget", .int c]]) pp bg))
  refine evS_gsCons (evS_gFld ?_)
  simp_arith
  refine (ev_setF e6).mpr ⟨by unfold bkF; simp, ?_⟩
  have e7 : putG "budget" (.int c) (bkF p b (ds ++ [.tup [.str "budget", .int c]]) pp bg) = bkF p c (ds ++ [.tup [.str "budget", .int c]]) pp bg := by
    unfold bkF
    rw [putG_ne bn1, putG_eq]
  rw [e7]
  refine evS_gsNil ?_
  refine q _ ⟨⟨bg, get_set e6 _⟩, ?_, xs ++ [.tup [.loc p, .int b]], ?_, by rw [List.length_append, List.length_append]; simp; omega⟩ ((k4.trans (.set (by simp))).trans (.set (by simp)))
  · rw [List.getElem?_set_ne (Ne.symm hpb), List.getElem?_set_ne (Ne.symm hpb)]
    exact s4
  · rw [List.getElem?_set_ne hne, List.getElem?_set_ne hne]
    exact p4
end
end K79
namespace K79
open PySem PySem.Spec PyProof.Rows L2 LamX NdefX G
section
variable {A : Str → Addr} {n p pb pp : Nat} {st st' : Sto} {Q : PV → Sto → Prop} {s : Site5} {b : Int} {ds : List PV}
def CL : List Str := ["InvalidLayers", "InvalidNumber", "InvalidRelations", "InvalidDoubts", "InvalidFinds", "InvalidDeed", "Barred"]
def Dst (A : Str → Addr) : Prop := (CL.map A).Nodup
theorem Dst.ne (h : Dst A) {C D : Str} (hC : C ∈ CL) (hD : D ∈ CL) (hn : C ≠ D) : A C ≠ A D := fun e => by
  have inj : ∀ {l : List Str}, (l.map A).Nodup → ∀ x ∈ l, ∀ y ∈ l, A x = A y → x = y := fun {l} hl => by
    induction l with
    | nil => intro x hx; cases hx
    | cons a l ih =>
      rw [List.map_cons, List.nodup_cons] at hl
      intro x hx y hy e
      rcases List.mem_cons.mp hx with hx2 | hx2
      · rcases List.mem_cons.mp hy with hy2 | hy2
        · rw [hx2, hy2]
        · exact absurd (show A a ∈ l.map A by rw [← hx2, e]; exact List.mem_map_of_mem hy2) hl.1
      · rcases List.mem_cons.mp hy with hy2 | hy2
        · exact absurd (show A a ∈ l.map A by rw [← hy2, ← e]; exact List.mem_map_of_mem hx2) hl.1
        · exact ih hl.2 x hx2 y hy2 e
  exact hn (inj h C hC D hD e)
theorem mt_at (h : Dst A) {C : Str} (hC : C ∈ CL) {l : List (Str × Bool)} {b : Bool} (hl : ∀ q ∈ l, q.1 ∈ CL) (hk : l.lookup C = some b) : mtOf A l (A C) = some b := by
  unfold mtOf
  induction l with
  | nil => cases hk
  | cons q l ih =>
    obtain ⟨D, b'⟩ := q
    rw [List.map_cons, List.lookup_cons]
    rw [List.lookup_cons] at hk
    by_cases e : C = D
    · subst e
      rw [beq_self_eq_true] at hk
      rw [beq_self_eq_true]
      exact hk
    · have e1 : (C == D) = false := beq_eq_false_iff_ne.mpr e
      have e2 : (A C == A D) = false := beq_eq_false_iff_ne.mpr (h.ne hC (hl (D, b') List.mem_cons_self) e)
      rw [e1] at hk
      rw [e2]
      exact ih (fun q hq => hl q (List.mem_cons_of_mem _ hq)) hk
theorem cl_sub {l : List (Str × Bool)} (e : l.map (·.1) = CL) : ∀ q ∈ l, q.1 ∈ CL := fun q hq => by rw [← e]; exact List.mem_map_of_mem hq
theorem cl_deed : ("InvalidDeed" : Str) ∈ CL := by decide +kernel
theorem cl_bar : ("Barred" : Str) ∈ CL := by decide +kernel
theorem bk_do {bg : PV} : (bkF p b ds pp bg).lookup ("do" : Str) = none := rfl
theorem e_barred_bud {c : Int} (h : Bk A s pb p pp b ds st) (hne : pb ≠ pp) (hpp : p ≠ pp) (hpb : p ≠ pb) (hl : ds.length ≤ 100) (hb : 0 ≤ b) (hc : b < c) (hc2 : c ≤ 99) (q : ∀ st', Bk A s pb p pp c (ds ++ [.tup [.str "budget", .int c]]) st' → Keep [pb, pp] st st' → Q (.str "") st') : ev (D__law_barred A n [.loc pb, .tup [.str "budget", .int c]]) st Q := by
  unfold D__law_barred
  refine ev_fn rfl ?_
  unfold b__law_barred
  obtain ⟨bg, e⟩ := h.bk
  refine evS_seq (evS_try ?_)
  refine evS_expr (ev_meth ?_)
  simp_arith
  refine ⟨_, _, rfl, e, bk_do, ?_⟩
  refine e_do_bud h hne hpp hpb hl hb hc hc2 fun st1 h1 k1 => ?_
  show evS _ _ _ _
  refine evS_ret ?_
  simp_arith
  exact q st1 h1 k1
theorem e_index_bad {v : PV} {j : Nat} (hA : Dst A) (h : Bk A s pb p pp b ds st) (hx : evX (D_check_deed A n [.loc p, v]) st (BadX A st j)) : evK (D__law_index A n [.loc pb, v]) st (.int j) := by
  unfold evK D__law_index
  refine ev_fn rfl ?_
  unfold b__law_index
  obtain ⟨bg, e⟩ := h.bk
  refine evS_seq (evS_try ?_)
  refine evS_exprX (evX_meth ?_)
  simp_arith
  refine ⟨_, _, rfl, e, bk_do, ?_⟩
  refine (e_do_bad h hx).mono fun C fs st1 ⟨e1, e2, k1⟩ => ?_
  subst e1 e2
  show evS _ _ _ _
  refine evS_hd (mt_at hA cl_deed (cl_sub rfl) (by decide +kernel)) rfl ?_
  show evS (sRet _) [some (.loc pb), some v, none] _ _
  refine evS_ret ?_
  simp only [ev_dIf, ev_dTr]
  refine (ev_xi (i := 2) (b := true) rfl (mt_at hA cl_deed (cl_sub rfl) (by decide +kernel))).mpr ?_
  simp_arith
  refine (ev_xf (i := 2) (p := .int j) rfl (by simp) (by rw [List.lookup_cons, beq_self_eq_true])).mpr ?_
  exact ⟨rfl, k1⟩
theorem e_index_lack {d : Dd} (hA : Dst A) (v : Valid s) (hr : s.rels.length ≤ 15) (h : Bk A s pb p pp b ds st) (hl : Lack s d) : evK (D__law_index A n [.loc pb, d.pv]) st .non := by
  unfold evK D__law_index
  refine ev_fn rfl ?_
  unfold b__law_index
  obtain ⟨bg, e⟩ := h.bk
  refine evS_seq (evS_try ?_)
  refine evS_exprX (evX_meth ?_)
  simp_arith
  refine ⟨_, _, rfl, e, bk_do, ?_⟩
  refine (e_do_lack v hr h hl).mono fun C fs st1 ⟨e1, e2, k1⟩ => ?_
  subst e1 e2
  show evS _ _ _ _
  refine evS_hdN (mt_at hA cl_bar (cl_sub rfl) (by decide +kernel)) ?_
  refine evS_hd0 (mt_at hA cl_bar (cl_sub rfl) (by decide +kernel)) rfl ?_
  show evS (sRet (dC .non)) _ _ _
  refine evS_ret ?_
  simp_arith
  exact k1
end
end K79
namespace K79
open PySem PySem.Spec PyProof.Rows L2 LamX NdefX G
theorem f0 {r : List Bool} : (false :: r).findIdx? (fun z => decide (z = false)) = some 0 := rfl
theorem f1 {r : List Bool} : (true :: false :: r).findIdx? (fun z => decide (z = false)) = some 1 := rfl
theorem f2 {r : List Bool} : (true :: true :: false :: r).findIdx? (fun z => decide (z = false)) = some 2 := rfl
theorem f3 {r : List Bool} : (true :: true :: true :: false :: r).findIdx? (fun z => decide (z = false)) = some 3 := rfl
/-- the list that may stand for spans -/
def FL (l0 : Nat) (st : Sto) : Prop := ∃ xs, st[l0]? = some (.lst xs)
theorem FL.kp {l0 : Nat} {S : List Nat} {st st' : Sto} (h : FL l0 st) (k : Keep S st st') (n : l0 ∉ S) : FL l0 st' := by
  obtain ⟨xs, e⟩ := h
  exact ⟨xs, k.get e n⟩
theorem FL.lt {l0 : Nat} {st : Sto} (h : FL l0 st) : l0 < st.length := by
  obtain ⟨xs, e⟩ := h
  exact get_lt e
/-- a deed of another form, with its index -/
def Due (l0 : Nat) (s : Site5) (x : PV) : Prop := ∃ (v : PV) (j : Nat), x = .tup [v, .int j] ∧ j ≤ 5 ∧ ((j = 0 ∧ ∀ st, FL l0 st → NF st v) ∨ ∃ (d : Dd) (i : Nat), v = d.pv ∧ (∀ st, FL l0 st → d.Okk st) ∧ (d.rs s.ns s.last).findIdx? (fun z => decide (z = false)) = some i ∧ j = i + 1)
theorem dueN {l0 : Nat} {s : Site5} {v : PV} (h : ∀ st, FL l0 st → NF st v) : Due l0 s (.tup [v, .int 0]) := ⟨v, 0, rfl, by decide, .inl ⟨rfl, h⟩⟩
theorem dueD {l0 : Nat} {s : Site5} (d : Dd) (i : Nat) (hi : i ≤ 4) (ok : ∀ st, FL l0 st → d.Okk st) (hf : (d.rs s.ns s.last).findIdx? (fun z => decide (z = false)) = some i) {v j : PV} (ev : v = d.pv) (ej : j = .int ((i + 1 : Nat) : Int)) : Due l0 s (.tup [v, j]) := by
  subst ev ej
  exact ⟨d.pv, i + 1, rfl, by omega, .inr ⟨d, i, rfl, ok, hf, rfl⟩⟩
theorem all_nil {P : PV → Prop} : ∀ x ∈ ([] : List PV), P x := fun x h => nomatch h
theorem all_cons {P : PV → Prop} {x : PV} {xs : List PV} (h : P x) (hs : ∀ x ∈ xs, P x) : ∀ y ∈ x :: xs, P y := fun y hy => by
  cases hy with
  | head => exact h
  | tail _ hy => exact hs y hy
section
variable {A : Str → Addr} {n m : Nat} {st st' : Sto} {Q : PV → Sto → Prop} {s : Site5}
structure OddV (s : Site5) (v : PV) : Prop where
  k : kindB v = false
  l : layB s.ns v = false
  o : ∀ b, othB s.ns b v = false
  t : lotB v = false
  ok : ∀ st, Ok st v
  cm : ∀ st, Cm st v
theorem not_in (v : Valid s) {x : Str} (h : x ∉ NM) : x ∉ s.ns := fun z => h (v.nm x z)
theorem odd_str (v : Valid s) {x : Str} (h : x ∉ NM) (h1 : x ∉ KN) (h2 : x ∉ (["relation", "doubt", "find"] : List Str)) (h3 : x.length ≤ 1000) : OddV s (.str x) :=
  ⟨decide_eq_false h1, decide_eq_false (not_in v h), fun b => by show (decide (x ∈ s.ns) && neS x b) = false; rw [decide_eq_false (not_in v h)]; rfl, decide_eq_false h2, fun _ => .str x h3, fun _ => cm_str⟩
theorem odd_all (v : Valid s) : ∀ x ∈ ([.str "nosuch", .non, .int 5, .str "Ash", .str "", .tup [.str "ash"]] : List PV), OddV s x :=
  all_cons (odd_str v (by decide +kernel) (by decide +kernel) (by decide +kernel) (by decide +kernel)) (all_cons ⟨rfl, rfl, fun _ => rfl, rfl, fun _ => .non, fun _ => cm_non⟩ (all_cons ⟨rfl, rfl, fun _ => rfl, rfl, fun _ => .int _, fun _ => cm_int⟩
    (all_cons (odd_str v (by decide +kernel) (by decide +kernel) (by decide +kernel) (by decide +kernel)) (all_cons (odd_str v (by decide +kernel) (by decide +kernel) (by decide +kernel) (by decide +kernel)) (all_cons ⟨rfl, rfl, fun _ => rfl, rfl, fun _ => .tup _ (by simp) (oks_cons (.str _ (by decide +kernel)) oks_nil), fun _ => cm_tup⟩ all_nil)))))
def WtV (v : PV) : Prop := numB 1 9 v = false ∧ ∀ st, Ok st v
def NuV (v : PV) : Prop := natB v = false ∧ ∀ st, Ok st v
def BuV (v : PV) : Prop := numB 0 99 v = false ∧ ∀ st, Ok st v
theorem wt_all : ∀ x ∈ ([.int 0, .int 10, .non, .bl true, .str "1", .tup [.int 1]] : List PV), WtV x :=
  all_cons ⟨by decide, fun _ => .int _⟩ (all_cons ⟨by decide, fun _ => .int _⟩ (all_cons ⟨rfl, fun _ => .non⟩ (all_cons ⟨rfl, fun _ => .bl _⟩ (all_cons ⟨rfl, fun _ => .str _ (by decide +kernel)⟩ (all_cons ⟨rfl, fun _ => .tup _ (by simp) (oks_cons (.int _) oks_nil)⟩ all_nil)))))
theorem nu_all : ∀ x ∈ ([.int (-1), .non, .str "0", .bl true, .tup [.int 0]] : List PV), NuV x :=
  all_cons ⟨by decide, fun _ => .int _⟩ (all_cons ⟨rfl, fun _ => .non⟩ (all_cons ⟨rfl, fun _ => .str _ (by decide +kernel)⟩ (all_cons ⟨rfl, fun _ => .bl _⟩ (all_cons ⟨rfl, fun _ => .tup _ (by simp) (oks_cons (.int _) oks_nil)⟩ all_nil))))
theorem bu_all : ∀ x ∈ ([.int (-1), .int 100, .non, .bl true, .str "1"] : List PV), BuV x :=
  all_cons ⟨by decide, fun _ => .int _⟩ (all_cons ⟨by decide, fun _ => .int _⟩ (all_cons ⟨rfl, fun _ => .non⟩ (all_cons ⟨rfl, fun _ => .bl _⟩ (all_cons ⟨rfl, fun _ => .str _ (by decide +kernel)⟩ all_nil))))
def SpV (l0 : Nat) (last : Int) (v : PV) : Prop := spansB last v = false ∧ ∀ st, FL l0 st → Ok st v
theorem sp_bad0 {last : Int} {x : PV} {r : List PV} (h : spanB last x = false) : spansB last (.tup (x :: r)) = false := by
  show (rowB 1 3 (.tup (x :: r)) && (fw (tSp last (x :: r)) (x :: r).length).isNone) = false
  have h0 : tSp last (x :: r) 0 = false := by
    show (spanB last x && (decide ((0 : Nat) = 0) || _)) = false
    rw [h]
    rfl
  rw [fw_at (by simp) h0 (fun l hl => absurd hl (Nat.not_lt_zero l))]
  simp
theorem sp_bad1 {last a b c d : Int} (hl : 0 ≤ a ∧ a ≤ b ∧ b ≤ last) (h : c < b + 2) : spansB last (.tup [.tup [.int a, .int b], .tup [.int c, .int d]]) = false := by
  show (rowB 1 3 (.tup [.tup [.int a, .int b], .tup [.int c, .int d]]) && (fw (tSp last [.tup [.int a, .int b], .tup [.int c, .int d]]) 2).isNone) = false
  have h0 : tSp last [.tup [.int a, .int b], .tup [.int c, .int d]] 0 = true := by
    show (spanB last (spP (a, b)) && (decide ((0 : Nat) = 0) || _)) = true
    rw [span_ok hl]
    rfl
  have h1 : tSp last [.tup [.int a, .int b], .tup [.int c, .int d]] 1 = false := by
    show (spanB last (.tup [.int c, .int d]) && (decide ((1 : Nat) = 0) || decide (b + 2 ≤ c))) = false
    rw [decide_eq_false (show ¬ b + 2 ≤ c by omega)]
    simp
  rw [fw_at (j := 1) (by decide) h1 (fun l hl => by rw [show l = 0 by omega]; exact h0)]
  simp
theorem sp_all {l0 : Nat} {last : Int} (hl : 1 ≤ last) : ∀ x ∈ ([.tup [], .tup [.tup [.int 3, .int 2]], .tup [.tup [.int 0, .int (last + 1)]], .loc l0, .tup [.tup [.int 0, .int 0], .tup [.int 1, .int 1]], .tup [.tup [.int 0, .int 0], .tup [.int 0, .int 0]], .tup [.tup [.int 0]], .non] : List PV), SpV l0 last x := by
  have o2 : ∀ (a b : Int) (st : Sto), Ok st (.tup [.int a, .int b]) := fun a b st => .tup _ (by simp) (oks_cons (.int _) (oks_cons (.int _) oks_nil))
  refine all_cons ⟨rfl, fun _ _ => .tup _ (by simp) oks_nil⟩ (all_cons ⟨sp_bad0 ?_, fun _ _ => .tup _ (by simp) (oks_cons (o2 _ _ _) oks_nil)⟩ (all_cons ⟨sp_bad0 ?_, fun _ _ => .tup _ (by simp) (oks_cons (o2 _ _ _) oks_nil)⟩ (all_cons ⟨rfl, fun st ⟨_, h⟩ => .lst _ _ h⟩
    (all_cons ⟨sp_bad1 ⟨by decide, by decide, by omega⟩ (by decide), fun _ _ => .tup _ (by simp) (oks_cons (o2 _ _ _) (oks_cons (o2 _ _ _) oks_nil))⟩ (all_cons ⟨sp_bad1 ⟨by decide, by decide, by omega⟩ (by decide), fun _ _ => .tup _ (by simp) (oks_cons (o2 _ _ _) (oks_cons (o2 _ _ _) oks_nil))⟩
      (all_cons ⟨sp_bad0 rfl, fun _ _ => .tup _ (by simp) (oks_cons (.tup _ (by simp) (oks_cons (.int _) oks_nil)) oks_nil)⟩ (all_cons ⟨rfl, fun _ _ => .non⟩ all_nil)))))))
  · show (decide (0 ≤ (3 : Int) ∧ 3 ≤ last) && (decide (0 ≤ (2 : Int) ∧ 2 ≤ last) && decide ((3 : Int) ≤ 2))) = false
    simp
  · show (decide (0 ≤ (0 : Int) ∧ 0 ≤ last) && (decide (0 ≤ last + 1 ∧ last + 1 ≤ last) && decide ((0 : Int) ≤ last + 1))) = false
    rw [decide_eq_false (show ¬ (0 ≤ last + 1 ∧ last + 1 ≤ last) by omega)]
    simp
/-- all of a list are such deeds -/
def AllD (l0 : Nat) (s : Site5) (st : Sto) (p k : Nat) : Prop := ∃ xs, st[p]? = some (.lst xs) ∧ xs.length = k ∧ ∀ x ∈ xs, Due l0 s x
theorem AllD.kp {l0 p k : Nat} {S : List Nat} (h : AllD l0 s st p k) (kp : Keep S st st') (hp : p ∉ S) : AllD l0 s st' p k := by
  obtain ⟨xs, g, r⟩ := h
  exact ⟨xs, kp.get g hp, r⟩
theorem ev_addD {l0 p k : Nat} {ys : List PV} (h : AllD l0 s st p k) (hk : k + ys.length ≤ 100) (hy : ∀ x ∈ ys, Due l0 s x) (q : ∀ p' st', st.length ≤ p' → Keep [] st st' → AllD l0 s st' p' (k + ys.length) → Q (.loc p') st') : ev (fAdd (.loc p) (.loc st.length)) (st ++ [.lst ys]) Q := by
  obtain ⟨xs, g, l, hx⟩ := h
  refine (ev_addLL (get_old g) get_new).mpr ⟨by rw [List.length_append]; omega, ?_⟩
  exact q _ _ (by simp) Keep.app.appR ⟨_, get_new, by rw [List.length_append, l], fun x hx' => (List.mem_append.mp hx').elim (hx x) (hy x)⟩
theorem flat_one {α : Type} {x : α} {k : Nat} : (List.replicate k [x]).flatten = List.replicate k x := by
  induction k with
  | zero => rfl
  | succ k ih => rw [List.replicate_succ, List.flatten_cons, ih, List.replicate_succ]; rfl
theorem ev_mulT1 {x : PV} {k : Nat} (h1 : 1 ≤ k) (h2 : k ≤ 1000) : ev (fMulT (.tup [x]) (.int k)) st Q ↔ Q (.tup (List.replicate k x)) st := by
  refine ev_iff ?_
  show ev (if (k : Int) = 1 then pure (PV.tup [x]) else (need (!([x] : List PV).isEmpty && decide (2 ≤ (k : Int) ∧ (k : Int) ≤ 1000 ∧ ([x] : List PV).length ≤ 1000)) >>= fun _ => pure (PV.tup (List.replicate (k : Int).toNat [x]).flatten))) st _
  by_cases h : (k : Int) = 1
  · rw [if_pos h]
    have : k = 1 := by omega
    subst this
    exact ev_pure.mpr ⟨rfl, rfl⟩
  · rw [if_neg h, ev_bind, ev_need, ev_pure]
    refine ⟨?_, ?_, rfl⟩
    · simp only [List.isEmpty_cons, Bool.not_false, Bool.true_and, decide_eq_true_eq, List.length_singleton]
      omega
    · rw [Int.toNat_natCast, flat_one]
end
end K79
namespace K79
open PySem PySem.Spec PyProof.Rows L2 LamX NdefX G
section
variable {A : Str → Addr} {n m : Nat} {st st' : Sto} {Q : PV → Sto → Prop} {s : Site5}
theorem atI_end {l : List Str} (h : l ≠ []) : ∃ x ∈ l, atI (l.map PV.str) (-1) = some (.str x) := by
  obtain ⟨m, x, rfl⟩ := snoc_of h
  rw [List.map_append]
  exact ⟨x, by simp, atI_last⟩
theorem e_odd (v : Valid s) (h : Dr m st) (q : ∀ (x : PV) (l0 : Nat) (st' : Sto), Due l0 s x → FL l0 st' → Keep [m] st st' → Dr m st' → Q x st') : ev (D__law_odd A n [.loc m, partsP s]) st Q := by
  unfold D__law_odd
  refine ev_fn rfl ?_
  unfold b__law_odd partsP
  refine evS_seq (evS_par3 ?_)
  try simp_arith
  refine e_pickN h (by simp) (by simp) fun odd st1 hodd k1 d1 => ?_
  have od := odd_all v odd hodd
  clear hodd
  try simp_arith
  refine ⟨_, _, _, rfl, ?_⟩
  show evS _ _ _ _
  refine evS_seq (evS_par ?_)
  try simp_arith
  have hne : s.ns ≠ [] := by intro z; have := v.n1; rw [z] at this; simp at this
  have hone : atI (s.ns.map PV.str) 0 = some (.str (s.ns[0]'(by have := v.n1; omega))) := by
    have := atI_nat (xs := s.ns.map PV.str) (i := 0) (by rw [List.length_map]; have := v.n1; omega)
    simpa using this
  obtain ⟨ot, hot, eot⟩ := atI_end hne
  have hon : s.ns[0]'(by have := v.n1; omega) ∈ s.ns := List.getElem_mem _
  generalize s.ns[0]'(by have := v.n1; omega) = one at hone hon
  refine ⟨_, hone, ?_⟩
  refine ⟨_, eot, ?_⟩
  refine ⟨_, _, rfl, ?_⟩
  show evS _ _ _ _
  refine evS_seq (evS_par ?_)
  try simp_arith
  refine e_pickN d1 (by simp) (by simp) fun wt st2 hwt k2 d2 => ?_
  have w := wt_all wt hwt
  clear hwt
  try simp_arith
  refine e_pickN d2 (by simp) (by simp) fun nu st3 hnu k3 d3 => ?_
  have nb := nu_all nu hnu
  clear hnu
  try simp_arith
  refine ⟨_, _, rfl, ?_⟩
  show evS _ _ _ _
  refine evS_seq (evS_asg ?_)
  try simp_arith
  refine (ev_mulT1 (k := 2) (by decide) (by decide)).mpr ?_
  try simp_arith
  have n3 : st3.length ≠ m := Nat.ne_of_gt d3.lt
  refine e_pickN d3.app (by simp) (by simp) fun sp st4 hsp k4 d4 => ?_
  have sv := sp_all (l0 := st3.length) v.l1 sp (by simpa using hsp)
  clear hsp
  have g4 : FL st3.length st4 := ⟨_, k4.get get_new (by simpa using n3)⟩
  have lm : st3.length ≠ m := n3
  have K4 : Keep [m] st st4 := (((k1.trans k2).trans k3).trans .app).trans k4
  have e1 : st3.length < st4.length := g4.lt
  generalize st3.length = l0 at *
  clear k1 k2 k3 k4 d1 d2 d3 h
  refine evS_gN ?_
  show evS _ _ _ _
  have okS : ∀ (x : Str) (st : Sto), x ∈ s.ns → Ok st (.str x) := fun x st hx => .str _ (nm_name (v.nm x hx)).2
  have okK : ∀ (x : Str) (st : Sto), x ∈ KN → Ok st (.str x) := fun x st hx => .str _ (kn_len hx)
  have kA : ("above" : Str) ∈ KN := by decide +kernel
  have kC : ("cuts" : Str) ∈ KN := by decide +kernel
  have kS : ("same" : Str) ∈ KN := by decide +kernel
  have kb : ∀ x : Str, x ∈ KN → kindB (.str x) = true := fun x hx => decide_eq_true hx
  have lb : ∀ x : Str, x ∈ s.ns → layB s.ns (.str x) = true := fun x hx => decide_eq_true hx
  have ob : ∀ x : Str, othB s.ns (.str x) (.str x) = false := fun x => by show (decide (x ∈ s.ns) && !decide (x = x)) = false; simp
  -- the first three
  refine evS_seq (evS_asg ?_)
  try simp_arith
  have A0 : AllD l0 s (st4 ++ [Ob.lst [PV.tup [.tup [.str "relate", odd, .str one, .str ot], .int 1], .tup [.tup [.str "relate", .str "above", odd, .str ot], .int 2], .tup [.tup [.str "relate", .str "cuts", .str one, odd], .int 3]]]) st4.length 3 := by
    refine ⟨_, get_new, rfl, all_cons (dueD (.rel odd (.str one) (.str ot)) 0 (by decide) (fun st _ => ⟨od.ok st, okS _ _ hon, okS _ _ hot, cm_str⟩) ?_ rfl rfl) (all_cons (dueD (.rel (.str "above") odd (.str ot)) 1 (by decide) (fun st _ => ⟨okK _ _ kA, od.ok st, okS _ _ hot, od.cm st⟩) ?_ rfl rfl) (all_cons (dueD (.rel (.str "cuts") (.str one) odd) 2 (by decide) (fun st _ => ⟨okK _ _ kC, okS _ _ hon, od.ok st, cm_str⟩) ?_ rfl rfl) all_nil))⟩
    · show ([kindB odd, _, _] : List Bool).findIdx? _ = _
      rw [od.k]
      exact f0
    · show ([kindB _, layB s.ns odd, _] : List Bool).findIdx? _ = _
      rw [kb _ kA, od.l]
      exact f1
    · show ([kindB _, layB s.ns _, othB s.ns _ odd] : List Bool).findIdx? _ = _
      rw [kb _ kC, lb _ hon, od.o]
      exact f2
  have G0 : FL l0 (st4 ++ [Ob.lst [PV.tup [.tup [.str "relate", odd, .str one, .str ot], .int 1], .tup [.tup [.str "relate", .str "above", odd, .str ot], .int 2], .tup [.tup [.str "relate", .str "cuts", .str one, odd], .int 3]]]) := g4.kp (S := []) .app (fun z => nomatch z)
  have K0 : Keep [m] st (st4 ++ [Ob.lst [PV.tup [.tup [.str "relate", odd, .str one, .str ot], .int 1], .tup [.tup [.str "relate", .str "above", odd, .str ot], .int 2], .tup [.tup [.str "relate", .str "cuts", .str one, odd], .int 3]]]) := K4.appR
  have D0 : Dr m (st4 ++ [Ob.lst [PV.tup [.tup [.str "relate", odd, .str one, .str ot], .int 1], .tup [.tup [.str "relate", .str "above", odd, .str ot], .int 2], .tup [.tup [.str "relate", .str "cuts", .str one, odd], .int 3]]]) := d4.app
  generalize st4 ++ [Ob.lst [PV.tup [.tup [.str "relate", odd, .str one, .str ot], .int 1], .tup [.tup [.str "relate", .str "above", odd, .str ot], .int 2], .tup [.tup [.str "relate", .str "cuts", .str one, odd], .int 3]]] = s0 at *
  generalize st4.length = p0 at *
  refine evS_gN ?_
  show evS _ _ _ _
  -- two more
  refine evS_seq (evS_asg ?_)
  try simp_arith
  refine ev_addD A0 (by simp) (all_cons (dueD (.rel (.str "same") (.str one) (.str one)) 2 (by decide) (fun st _ => ⟨okK _ _ kS, okS _ _ hon, okS _ _ hon, cm_str⟩) ?_ rfl rfl) (all_cons (dueD (.dbt odd odd (.str one) (.int 1)) 0 (by decide) (fun st _ => ⟨od.ok st, od.ok st, okS _ _ hon, .int _, od.cm st⟩) ?_ rfl rfl) all_nil)) fun p1 s1 hp1 k1 A1 => ?_
  · show ([kindB _, layB s.ns _, othB s.ns _ _] : List Bool).findIdx? _ = _
    rw [kb _ kS, lb _ hon, ob]
    exact f2
  · show ([kindB odd, _, _, _] : List Bool).findIdx? _ = _
    rw [od.k]
    exact f0
  refine evS_gN ?_
  show evS _ _ _ _
  refine evS_seq (evS_asg ?_)
  try simp_arith
  refine ev_addD A1 (by simp) (all_cons (dueD (.dbt (.str "above") (.str ot) (.str ot) wt) 2 (by decide) (fun st _ => ⟨okK _ _ kA, okS _ _ hot, okS _ _ hot, w.2 st, cm_str⟩) ?_ rfl rfl) (all_cons (dueD (.fnd odd sp wt) 0 (by decide) (fun st h => ⟨od.ok st, sv.2 st h, w.2 st⟩) ?_ rfl rfl) all_nil)) fun p2 s2 hp2 k2 A2 => ?_
  · show ([kindB _, layB s.ns _, othB s.ns _ _, _] : List Bool).findIdx? _ = _
    rw [kb _ kA, lb _ hot, ob]
    exact f2
  · show ([layB s.ns odd, _, _] : List Bool).findIdx? _ = _
    rw [od.l]
    exact f0
  refine evS_gN ?_
  show evS _ _ _ _
  refine evS_seq (evS_asg ?_)
  try simp_arith
  have s00 : spansB s.last (.tup [.tup [.int 0, .int 0]]) = true := spans_ok (sp := [(0, 0)]) ⟨by simp, by simp, fun x hx => by rw [List.mem_singleton.mp hx]; exact ⟨by decide, by decide, by show (0 : Int) ≤ s.last; have := v.l1; omega⟩, List.pairwise_singleton _ _⟩
  have o00 : ∀ st : Sto, Ok st (.tup [.tup [.int 0, .int 0]]) := fun st => .tup _ (by simp) (oks_cons (.tup _ (by simp) (oks_cons (.int _) (oks_cons (.int _) oks_nil))) oks_nil)
  refine ev_addD A2 (by simp) (all_cons (dueD (.fnd (.str one) sp wt) 1 (by decide) (fun st h => ⟨okS _ _ hon, sv.2 st h, w.2 st⟩) ?_ rfl rfl) (all_cons (dueD (.fnd (.str one) (.tup [.tup [.int 0, .int 0]]) wt) 2 (by decide) (fun st h => ⟨okS _ _ hon, o00 st, w.2 st⟩) ?_ rfl rfl) all_nil)) fun p3 s3 hp3 k3 A3 => ?_
  · show ([layB s.ns _, spansB s.last sp, _] : List Bool).findIdx? _ = _
    rw [lb _ hon, sv.1]
    exact f1
  · show ([layB s.ns _, spansB s.last _, numB 1 9 wt] : List Bool).findIdx? _ = _
    rw [lb _ hon, s00, w.1]
    exact f2
  refine evS_gN ?_
  show evS _ _ _ _
  refine evS_seq (evS_asg ?_)
  try simp_arith
  have lf : lotB (.str "find") = true := by decide +kernel
  have okf : ∀ st : Sto, Ok st (.str "find") := fun st => .str _ (by decide +kernel)
  refine ev_addD A3 (by simp) (all_cons (dueD (.stk odd nu) 0 (by decide) (fun st _ => ⟨od.ok st, nb.2 st⟩) ?_ rfl rfl) (all_cons (dueD (.stk (.str "find") nu) 1 (by decide) (fun st _ => ⟨okf st, nb.2 st⟩) ?_ rfl rfl) (all_cons (dueD (.tru nu) 0 (by decide) (fun st _ => nb.2 st) ?_ rfl rfl) all_nil))) fun p4 s4 hp4 k4 A4 => ?_
  · show ([lotB odd, _] : List Bool).findIdx? _ = _
    rw [od.t]
    exact f0
  · show ([lotB _, natB nu] : List Bool).findIdx? _ = _
    rw [lf, nb.1]
    exact f1
  · show ([natB nu] : List Bool).findIdx? _ = _
    rw [nb.1]
    exact f0
  refine evS_gN ?_
  show evS _ _ _ _
  have KK4 : Keep [] s0 s4 := ((k1.trans k2).trans k3).trans k4
  have D4 : Dr m s4 := D0.kp KK4
  have n4 : p4 ≠ m := by have := D0.lt; have := k1.len; have := k2.len; have := k3.len; omega
  have l4 : l0 < p4 := by have := G0.lt; have := k1.len; have := k2.len; have := k3.len; omega
  have G4 := G0.kp KK4 (fun z => nomatch z)
  clear A0 A1 A2 A3 hp1 hp2 hp3 k1 k2 k3 k4
  refine evS_seq (evS_asg ?_)
  try simp_arith
  refine e_pickN D4 (by simp) (by simp) fun bu st5 hbu k5 d5 => ?_
  have bv := bu_all bu hbu
  clear hbu
  try simp_arith
  refine ev_addD (A4.kp k5 (by simpa using n4)) (by simp) (all_cons (dueD (.bud bu) 0 (by decide) (fun st _ => bv.2 st) ?_ rfl rfl) (all_cons (dueN fun st _ => .rel3 _ _) all_nil)) fun p5 s5 hp5 k6 A5 => ?_
  · show ([numB 0 99 bu] : List Bool).findIdx? _ = _
    rw [bv.1]
    exact f0
  have KK5 : Keep [m] s0 s5 := (KK4.any.trans k5).trans k6.any
  have D5 : Dr m s5 := d5.kp k6
  have G5 := (G4.kp k5 (by simpa using lm)).kp k6 (fun z => nomatch z)
  have hst : st.length ≤ p5 := by have := K0.len; have := KK4.len; have := k5.len; omega
  have n5 : p5 ≠ m := by have := d5.lt; omega
  have l5 : l0 < p5 := by have := k5.len; have := G4.lt; omega
  have KT := K0.trans KK5
  clear A4 k5 k6 KK5 KK4 D4 d5
  refine evS_gN ?_
  show evS _ _ _ _
  refine evS_seq (evS_expr ?_)
  try simp_arith
  obtain ⟨xs, gx, lx, hx⟩ := A5
  refine ⟨isLst_of gx, (ev_append gx).mpr ⟨by rw [sizeLine_eq, lx]; simp, ?_⟩⟩
  have hx6 : ∀ x ∈ xs ++ [PV.tup [.tup [.str "find", .str one, .tup [.tup [.int 0, .int 0]]], .int 0]], Due l0 s x := fun x hx' => (List.mem_append.mp hx').elim (hx x) (all_cons (dueN fun st _ => .fnd3 _ _) all_nil x)
  have g6 := get_set gx (.lst (xs ++ [PV.tup [.tup [.str "find", .str one, .tup [.tup [.int 0, .int 0]]], .int 0]]))
  have l6 : (xs ++ [PV.tup [.tup [.str "find", .str one, .tup [.tup [.int 0, .int 0]]], .int 0]]).length ≤ 30 := by rw [List.length_append, lx]; simp
  have G6 : FL l0 (s5.set p5 (.lst (xs ++ [PV.tup [.tup [.str "find", .str one, .tup [.tup [.int 0, .int 0]]], .int 0]]))) := G5.kp (S := [p5]) (.set (by simp)) (by simp; omega)
  have K6 : Keep [m] st (s5.set p5 (.lst (xs ++ [PV.tup [.tup [.str "find", .str one, .tup [.tup [.int 0, .int 0]]], .int 0]]))) := KT.setNew hst
  have D6 : Dr m (s5.set p5 (.lst (xs ++ [PV.tup [.tup [.str "find", .str one, .tup [.tup [.int 0, .int 0]]], .int 0]]))) := D5.setNew (Ne.symm n5)
  generalize xs ++ [PV.tup [.tup [.str "find", .str one, .tup [.tup [.int 0, .int 0]]], .int 0]] = ys at *
  generalize s5.set p5 (.lst ys) = s6 at *
  show evS _ _ _ _
  have fin : ∀ (zs : List PV) (s7 : Sto), s7[p5]? = some (.lst zs) → zs.length ≤ 31 → (∀ x ∈ zs, Due l0 s x) → FL l0 s7 → Keep [m] st s7 → Dr m s7 → ev (D__law_pick A n [.loc m, .loc (s7.length + 4)]) (s7 ++ [.lst [.str "budget", .int 1]] ++ [.lst [.tup [.non, .int 0], .tup [.tup [], .int 0], .tup [.loc s7.length, .int 0], .tup [.str "budget", .int 0], .tup [.tup [.str "Budget", .int 1], .int 0]]] ++ [.lst (zs ++ [.tup [.non, .int 0], .tup [.tup [], .int 0], .tup [.loc s7.length, .int 0], .tup [.str "budget", .int 0], .tup [.tup [.str "Budget", .int 1], .int 0]])] ++ [.lst [.tup [.tup [.int 5, .int 1], .int 0]]] ++ [.lst (zs ++ [.tup [.non, .int 0], .tup [.tup [], .int 0], .tup [.loc s7.length, .int 0], .tup [.str "budget", .int 0], .tup [.tup [.str "Budget", .int 1], .int 0]] ++ [.tup [.tup [.int 5, .int 1], .int 0]])]) Q := by
    intro zs s7 g7 l7 hz G7 K7 D7
    have e5 : s7.length + 4 = (s7 ++ [Ob.lst [PV.str "budget", .int 1]] ++ [Ob.lst [PV.tup [.non, .int 0], .tup [.tup [], .int 0], .tup [.loc s7.length, .int 0], .tup [PV.str "budget", .int 0], .tup [.tup [.str "Budget", .int 1], .int 0]]] ++ [Ob.lst (zs ++ [PV.tup [.non, .int 0], .tup [.tup [], .int 0], .tup [.loc s7.length, .int 0], .tup [PV.str "budget", .int 0], .tup [.tup [.str "Budget", .int 1], .int 0]])] ++ [Ob.lst [PV.tup [.tup [.int 5, .int 1], .int 0]]]).length := by simp
    rw [e5]
    refine e_pickN D7.app.app.app.app (by simp) (by simp; omega) fun x st8 hx k8 d8 => ?_
    have n7 : s7.length ≠ m := Nat.ne_of_gt D7.lt
    have G1 : FL s7.length st8 := ⟨_, k8.get (get_old (get_old (get_old get_new))) (by simpa using n7)⟩
    have G0' : FL l0 st8 := (G7.kp (S := []) Keep.app.appR.appR.appR (fun z => nomatch z)).kp k8 (by simpa using lm)
    have K8 : Keep [m] st st8 := (K7.trans Keep.app.appR.appR.appR).trans k8
    rcases List.mem_append.mp hx with hx | hx
    · rcases List.mem_append.mp hx with hx | hx
      · exact q x l0 st8 (hz x hx) G0' K8 d8
      · refine q x s7.length st8 ?_ G1 K8 d8
        exact all_cons (dueN fun _ _ => .non) (all_cons (dueN fun _ _ => .nil) (all_cons (dueN fun _ ⟨_, h⟩ => .lst _ _ h) (all_cons (dueN fun _ _ => .str _ (by decide +kernel)) (all_cons (dueN fun _ _ => .word _) all_nil)))) x hx
    · refine q x l0 st8 ?_ G0' K8 d8
      exact all_cons (dueN fun _ _ => .int _ _) all_nil x hx
  have rest : ∀ (zs : List PV) (s7 : Sto), s7[p5]? = some (.lst zs) → zs.length ≤ 31 → (∀ x ∈ zs, Due l0 s x) → FL l0 s7 → Keep [m] st s7 → Dr m s7 → evS (sSeq (sAsg (dBin fAdd (dVar 10) (dLst (aCons (dTup (aCons (dC .non) (aCons (dC (.int 0)) aNil))) (aCons (dTup (aCons (dTup aNil) (aCons (dC (.int 0)) aNil))) (aCons (dTup (aCons (dLst (aCons (dC (.str "budget")) (aCons (dC (.int 1)) aNil))) (aCons (dC (.int 0)) aNil))) (aCons (dTup (aCons (dC (.str "budget")) (aCons (dC (.int 0)) aNil))) (aCons (dTup (aCons (dTup (aCons (dC (.str "Budget")) (aCons (dC (.int 1)) aNil))) (aCons (dC (.int 0)) aNil))) aNil))))))) (gN 10)) (sRet (dCall (D__law_pick A n) [] (aCons (dVar 0) (aCons (dBin fAdd (dVar 10) (dLst (aCons (dTup (aCons (dTup (aCons (dC (.int 5)) (aCons (dC (.int 1)) aNil))) (aCons (dC (.int 0)) aNil))) aNil))) aNil))))) [some (.loc m), some (.tup [.tup (s.ns.map PV.str), .int s.last, .tup (s.rels.map relP), .tup (s.dbs.map dbP), .tup (s.fds.map fdP)]), some (.tup (s.ns.map PV.str)), some (.int s.last), some odd, some (.str one), some (.str ot), some wt, some nu, some sp, some (.loc p5)] s7 fun r st' => match r with
        | .nx _ => Q .non st'
        | .rt p => Q p st'
        | _ => False := by
    intro zs s7 g7 l7 hz G7 K7 D7
    refine evS_seq (evS_asg ?_)
    try simp_arith
    refine (ev_addLL (get_old (get_old g7)) get_new).mpr ⟨by simp; omega, ?_⟩
    refine evS_gN ?_
    show evS _ _ _ _
    refine evS_ret ?_
    try simp_arith
    refine (ev_addLL (get_old get_new) get_new).mpr ⟨by simp; omega, ?_⟩
    have := fin zs s7 g7 l7 hz G7 K7 D7
    simp only [List.length_append, List.length_cons, List.length_nil] at this ⊢
    exact this
  refine evS_seq (evS_if ?_)
  try simp_arith
  by_cases ho : one = ot
  · simp only [ho, decide_true, Bool.not_true, Bool.false_eq_true, if_false]
    refine evS_next ?_
    show evS _ _ _ _
    subst ho
    exact rest ys s6 g6 (by omega) hx6 G6 K6 D6
  · simp only [ho, decide_false, Bool.not_false, if_true]
    refine evS_expr ?_
    try simp_arith
    refine ⟨isLst_of g6, (ev_append g6).mpr ⟨by rw [sizeLine_eq]; omega, ?_⟩⟩
    show evS _ _ _ _
    refine rest _ _ (get_set g6 _) (by rw [List.length_append]; simp; omega) (fun x hx' => (List.mem_append.mp hx').elim (hx6 x) (all_cons (dueD (.dbt (.str "cuts") (.str ot) (.str one) wt) 3 (by decide) (fun st _ => ⟨okK _ _ kC, okS _ _ hot, okS _ _ hon, w.2 st, cm_str⟩) ?_ rfl rfl) all_nil x)) (G6.kp (S := [p5]) (.set (by simp)) (by simp; omega)) (K6.setNew hst) (D6.setNew (Ne.symm n5))
    show ([kindB _, layB s.ns _, othB s.ns _ _, numB 1 9 wt] : List Bool).findIdx? _ = _
    have e : othB s.ns (.str ot) (.str one) = true := by
      show (decide (one ∈ s.ns) && !decide (one = ot)) = true
      simp [hon, ho]
    rw [kb _ kC, lb _ hot, e, w.1]
    exact f3
end
end K79
namespace K79
open PySem PySem.Spec PyProof.Rows L2 LamX NdefX G
def dR (r : R3) : PyData := .tuple [.str r.1, .str r.2.1, .str r.2.2]
def dS (s : Span) : PyData := .tuple [.int s.1, .int s.2]
def dF (f : F3) : PyData := .tuple [.str f.1, .tuple (f.2.1.map dS), .int f.2.2]
def mkP (q : Str × Int) : PV := .tup [.str q.1, .int q.2]
def dM (q : Str × Int) : PyData := .tuple [.str q.1, .int q.2]
theorem en_span2 : En spP dS 1 := en_span
theorem en_fd : En fdP dF 3 := En.tup (EnR.cons (k := 0) (k2 := 2) (j := 2) en_str (EnR.cons (k := 2) (k2 := 0) (j := 2) en_span2.list (EnR.one en_int) (by decide) (by decide)) (by decide) (by decide))
theorem en_mk : En mkP dM 1 := En.tup (EnR.cons (k := 0) (k2 := 0) (j := 0) en_str (EnR.one en_int) (Nat.le_refl _) (Nat.le_refl _))
theorem nm_show {x : Str} (h : x ∈ NM) : chOk x = true ∧ x.length ≤ 8 := by
  have : ∀ x ∈ NM, chOk x = true ∧ x.length ≤ 8 := by decide +kernel
  exact this x h
theorem kn_show {x : Str} (h : x ∈ KN) : chOk x = true ∧ x.length ≤ 8 := by
  have : ∀ x ∈ KN, chOk x = true ∧ x.length ≤ 8 := by decide +kernel
  exact this x h
theorem shw_s {x : Str} (h : chOk x = true ∧ x.length ≤ 8) : Shw (.str x) 0 8 := (shw_str h.1).mono (Nat.le_refl _) h.2
theorem shw_rel {ns : List Str} (nm : ∀ x ∈ ns, x ∈ NM) {r : R3} (h : RelOk ns r) : Shw (dR r) 1 30 :=
  (ShwL.cons (shw_s (kn_show h.1)) (ShwL.cons (shw_s (nm_show (nm _ h.2.1))) (ShwL.cons (shw_s (nm_show (nm _ h.2.2.1))) (ShwL.nil (k := 0))))).tup.mono (by decide) (by decide)
theorem shw_span {last : Int} (hl : last ≤ 20) {s : Span} (h : 0 ≤ s.1 ∧ s.1 ≤ s.2 ∧ s.2 ≤ last) : Shw (dS s) 1 90 :=
  (ShwL.cons (shw_int h.1 (by omega)) (ShwL.cons (shw_int (by omega) (by omega)) (ShwL.nil (k := 0)))).tup.mono (by decide) (by decide)
theorem shw_fd {s : Site5} (v : Valid s) {f : F3} (hf : f ∈ s.fds) : Shw (dF f) 3 400 := by
  obtain ⟨h1, h2, h3, h4⟩ := v.fok f hf
  have e : ShwL (f.2.1.map dS) 1 (f.2.1.length * 91) := ShwL.map fun a ha => shw_span v.l20 (h2.at_ a ha)
  have e2 := e.mono (k' := 1) (w' := 300) (Nat.le_refl _) (by have := h2.len; omega)
  exact (ShwL.cons (shw_s (nm_show (v.nm _ h1))) (ShwL.cons e2.tup (ShwL.cons (shw_int (by omega) (by omega)) (ShwL.nil (k := 0))))).tup.mono (by decide) (by decide)
theorem shw_mk {q : Str × Int} (h : q.1 = "budget" ∧ 0 ≤ q.2 ∧ q.2 ≤ 99) : Shw (dM q) 1 60 := by
  have h1 : chOk q.1 = true ∧ q.1.length ≤ 8 := by
    rw [h.1]
    decide +kernel
  exact (ShwL.cons (shw_s h1) (ShwL.cons (shw_int h.2.1 (by omega)) (ShwL.nil (k := 0)))).tup.mono (by decide) (by decide)
section
variable {A : Str → Addr} {n m p pb pp : Nat} {st st' : Sto} {Q : PV → Sto → Prop} {s : Site5} {b : Int} {ds : List PV}
theorem ev_reprXL {l : Nat} {xs : List PV} {ds : List PyData} {k w : Nat} (e : st[l]? = some (.lst xs)) (hx : Paired (fun x d => toD st 59 x = some d) xs ds) (h : ShwL ds k w) (hk : k ≤ 59) (hw : w ≤ 1048576) : ev (fReprX [.loc l]) st Q ↔ Q (.str (PyData.shown (.list ds))) st := by
  have e2 : fReprX [.loc l] st = fRepr [.loc l] st := by
    show (match st[l]? with
      | some (.dK []) => some (Out.ok (PV.str (dictText [])), st)
      | _ => fRepr [.loc l] st) = _
    rw [e]
  have e3 := ev_reprL (Q := Q) (toD_lst e hx) h.lst (by omega) hw
  rw [← e3]
  unfold ev
  rw [e2]
theorem ev_reprXI {i : Int} (h : i.natAbs.log2 < 1920) : ev (fReprX [.int i]) st Q ↔ Q (.str (toString i)) st := by
  have e : fReprX [.int i] = (do need (decide ((i : Int).natAbs.log2 < 1920)); pure (.str (toString i))) := rfl
  rw [e, ev_bind, ev_need, ev_pure]
  exact ⟨fun h => h.2, fun q => ⟨decide_eq_true h, q⟩⟩
/-- what is told of a book -/
def told (s : Site5) (b : Int) (L : List (Str × Int)) : Str := PyData.shown (.list [.tuple (s.fds.map dF), .tuple (s.rels.map dR), .int b, .tuple (L.map dM)])
theorem e_told {L : List (Str × Int)} {ε : Slo} (v : Valid s) (h : Bk A s pb p pp b (L.map mkP) st) (h3 : ε[3]? = some (some (.loc pb))) (hb : 0 ≤ b ∧ b ≤ 99) (hL : ∀ q ∈ L, q.1 = "budget" ∧ 0 ≤ q.2 ∧ q.2 ≤ 99) (lL : L.length ≤ 50) (q : ∀ st', Keep [] st st' → Q (.str (told s b L)) st') :
    ev (dCB fReprX (aCons (dLst (aCons (dUn (fFld (A "Site") "finds") (dUn (fFld (A "Book") "site") (dVar 3))) (aCons (dUn (fFld (A "Site") "relations") (dUn (fFld (A "Book") "site") (dVar 3))) (aCons (dUn (fFld (A "Book") "budget") (dVar 3)) (aCons (dUn (fFld (A "Book") "deeds") (dVar 3)) aNil))))) aNil) ε) st Q := by
  have hv : ∀ {Q : PV → Sto → Prop}, ev (dVar 3 ε) st Q ↔ Q (.loc pb) st := fun {Q} => by
    rw [ev_dVar, h3]
    exact ⟨fun ⟨p, e, q⟩ => by cases e; exact q, fun q => ⟨_, rfl, q⟩⟩
  simp only [ev_dCB, ev_aCons, ev_dLst, ev_dUn, ev_aNil, hv, b_site h, b_budget h, b_deeds h, f_fds h.si, f_rels h.si]
  refine ⟨by simp, ?_⟩
  refine (ev_reprXL (k := 4) (w := 20000) get_new (.cons (en_fd.list.to _ s.fds 58 (by decide)) (.cons (en_rel.list.to _ s.rels 58 (by decide)) (.cons rfl (.cons (en_mk.list.to _ L 58 (by decide)) .nil)))) ?_ (by decide) (by decide)).mpr (q _ .app)
  have w1 : ShwL (s.fds.map dF) 3 (s.fds.length * 401) := ShwL.map fun a ha => shw_fd v ha
  have w2 : ShwL (s.rels.map dR) 1 (s.rels.length * 31) := ShwL.map fun a ha => shw_rel v.nm (v.rok a ha)
  have w3 : ShwL (L.map dM) 1 (L.length * 61) := ShwL.map fun a ha => shw_mk (hL a ha)
  have l1 := v.f12
  have l2 := v.r16
  exact (ShwL.cons w1.tup (ShwL.cons w2.tup (ShwL.cons (shw_int hb.1 (by omega)) (ShwL.cons w3.tup (ShwL.nil (k := 0)))))).mono (by decide) (by omega)
end
end K79
namespace K79
open PySem PySem.Spec PyProof.Rows L2 LamX NdefX G
section
variable {A : Str → Addr} {n m p pb pp : Nat} {st st' st1 st2 : Sto} {Q : PV → Sto → Prop} {s : Site5} {b : Int} {ds : List PV}
theorem keep_far {S : List Nat} (a : Keep S st st1) {T : List Nat} (b : Keep T st1 st2) (h : ∀ i ∈ T, st.length ≤ i) : Keep S st st2 := ⟨Nat.le_trans a.len b.len, fun i hi hn => (b.at_ i (Nat.lt_of_lt_of_le hi a.len) fun z => absurd (h i z) (by omega)).trans (a.at_ i hi hn)⟩
theorem Bk.p_pp (h : Bk A s pb p pp b ds st) : p ≠ pp := fun z => by
  obtain ⟨xs, e, _⟩ := h.pa
  have := h.si
  rw [z, e] at this
  cases this
theorem Bk.pb_pp (h : Bk A s pb p pp b ds st) : pb ≠ pp := fun z => by
  obtain ⟨xs, e, _⟩ := h.pa
  obtain ⟨bg, e2⟩ := h.bk
  rw [z, e] at e2
  cases e2
theorem ly_si : ("layers" : Str) ≠ "site" := by decide +kernel
theorem Bk.p_pb (h : Bk A s pb p pp b ds st) : p ≠ pb := fun z => by
  obtain ⟨bg, e2⟩ := h.bk
  have e := h.si
  rw [z, e2] at e
  have e3 := (Ob.ins.inj (Option.some.inj e)).2
  have e4 := (List.cons.inj e3).1
  exact ly_si (Prod.mk.inj e4).1.symm
theorem Bk.p_m (h : Bk A s pb p pp b ds st) (d : Dr m st) : p ≠ m := fun z => by
  obtain ⟨f, u, t, e, _⟩ := d
  have := h.si
  rw [z, e] at this
  cases this
theorem Bk.pb_m (h : Bk A s pb p pp b ds st) (d : Dr m st) : pb ≠ m := fun z => by
  obtain ⟨f, u, t, e, _⟩ := d
  obtain ⟨bg, e2⟩ := h.bk
  rw [z, e] at e2
  cases e2
theorem Bk.km (h : Bk A s pb p pp b ds st) (d : Dr m st) (hp : pp ≠ m) (k : Keep [m] st st') : Bk A s pb p pp b ds st' := h.kp k (by simpa using h.pb_m d) (by simpa using h.p_m d) (by simpa using hp)
theorem log_le {j : Nat} (h : j ≤ 5) : ((j : Int)).natAbs.log2 < 1920 := by
  have e : ((j : Int)).natAbs = j := by omega
  rw [e]
  have := Nat.log2_le_self j
  omega
theorem e_right (hA : Dst A) (h : Dr m st) : ev (D__law_right A n [.loc m]) st fun y st' => y = .bl true ∧ Keep [m] st st' := by
  unfold D__law_right
  refine ev_fn rfl ?_
  unfold b__law_right
  refine evS_seq (evS_par ?_)
  try simp_arith
  refine e_small h fun s st1 v n4 l5 r4 d2 f5 k1 d1 => ?_
  try simp_arith
  refine e_draw d1 (by decide) (by decide) fun b0 st2 b0l b0h k2 dr2 => ?_
  try simp_arith
  refine ⟨_, _, rfl, ?_⟩
  show evS _ _ _ _
  have K2 := k1.trans k2
  refine evS_seq (evS_asg ?_)
  refine e_book (s := s) (b := 2 + b0) (by omega) (by omega) ?_ fun pb p pp st3 hpb hpp hbp B3 k3 => ?_
  · try simp_arith
    refine e_made v fun p st3 ep hp k3 => ?_
    try simp_arith
    exact ⟨p, rfl, hp, k3⟩
  have D3 := dr2.kp k3
  have K3 := K2.trans k3.any
  have hppm : pp ≠ m := by have := dr2.lt; omega
  have fpb : st.length ≤ pb := by have := K2.len; omega
  have fpp : st.length ≤ pp := by have := K2.len; omega
  have n1 := B3.p_pp
  have n2 := B3.pb_pp
  have n3 := B3.p_pb
  clear hpb hpp k3 dr2 k1 k2 d1
  refine evS_gN ?_
  show evS _ _ _ _
  -- three deeds that are done
  refine evS_seq (evS_for (fun i ε2 st4 => ∃ (b : Int) (L : List (Str × Int)) (e4 : Option PV), ε2 = [some (.loc m), some (partsP s), some (.int (2 + b0)), some (.loc pb), e4, none, none, none] ∧ Bk A s pb p pp b (L.map mkP) st4 ∧ 0 ≤ b ∧ b ≤ 10 + 2 * i ∧ L.length = i ∧ (∀ q ∈ L, q.1 = "budget" ∧ 0 ≤ q.2 ∧ q.2 ≤ 99) ∧ Keep [m] st st4 ∧ Dr m st4) ?_)
  try simp_arith
  refine ⟨_, rng1_int (by decide), _, rfl, ⟨2 + b0, [], _, rfl, B3, by omega, by omega, rfl, (fun _ z => nomatch z), K3, D3⟩, ?_, ?_⟩
  · rintro i x ε2 st4 hx ⟨b, L, e4, rfl, B4, bl, bh, lL, hL, K4, D4⟩
    obtain ⟨hi, rfl⟩ := rngP_get hx
    have hi3 : i < 3 := hi
    refine evS_gN ?_
    show evS _ _ _ _
    refine evS_expr ?_
    try simp_arith
    refine (b_budget B4).mpr ?_
    try simp_arith
    refine e_draw D4 (by decide) (by decide) fun r st5 r0 r1 k5 d5 => ?_
    try simp_arith
    have B5 := B4.km D4 hppm k5
    refine e_barred_bud (c := b + 1 + r) B5 n2 n1 n3 (by rw [List.length_map]; omega) bl (by omega) (by omega) fun st6 B6 k6 => ?_
    have hpbm := B5.pb_m d5
    refine ⟨b + 1 + r, L ++ [(("budget" : Str), b + 1 + r)], _, rfl, ?_, by omega, by omega, by rw [List.length_append, lL]; rfl, ?_, keep_far (K4.trans k5) k6 ?_, d5.keep k6 ?_⟩
    · rw [List.map_append]
      exact B6
    · intro q hq
      rcases List.mem_append.mp hq with z | z
      · exact hL q z
      · rw [List.mem_singleton.mp z]
        exact ⟨rfl, by show 0 ≤ b + 1 + r; omega, by show b + 1 + r ≤ 99; omega⟩
    · intro i hi
      simp only [List.mem_cons, List.not_mem_nil, or_false] at hi
      rcases hi with rfl | rfl <;> assumption
    · simp only [List.mem_cons, List.not_mem_nil, or_false, not_or]
      exact ⟨fun z => hpbm z.symm, fun z => hppm z.symm⟩
  rintro ε2 st4 ⟨b, L, e4, rfl, B4, bl, bh, lL, hL, K4, D4⟩
  have l3 : L.length = 3 := lL
  have bh2 : b ≤ 16 := by
    have : ((rngP 0 (3 : Int).toNat).length : Int) = 3 := rfl
    rw [this] at bh
    omega
  clear bh lL B3 D3 K3
  show evS _ _ _ _
  refine evS_seq (evS_asg ?_)
  refine e_told v B4 rfl ⟨bl, by omega⟩ hL (by omega) fun st5 k5 => ?_
  have B5 := B4.k0 k5
  have D5 := D4.kp k5
  have K5 := K4.trans k5.any
  clear k5 K4 D4 B4
  refine evS_gN ?_
  show evS _ _ _ _
  refine evS_seq (evS_for (fun i ε2 st6 => ∃ (e4 e6 e7 : Option PV), ε2 = [some (.loc m), some (partsP s), some (.int (2 + b0)), some (.loc pb), e4, some (.str (told s b L)), e6, e7] ∧ Bk A s pb p pp b (L.map mkP) st6 ∧ Keep [m] st st6 ∧ Dr m st6) ?_)
  try simp_arith
  refine ⟨_, rng1_int (by decide), _, rfl, ⟨_, _, _, rfl, B5, K5, D5⟩, ?_, ?_⟩
  · rintro i x ε2 st6 hx ⟨e4, e6, e7, rfl, B6, K6, D6⟩
    refine evS_gN ?_
    show evS _ _ _ _
    refine evS_seq (evS_asg ?_)
    try simp_arith
    refine e_odd v D6 fun x l0 st7 du fl k7 d7 => ?_
    have B7 := B6.km D6 hppm k7
    have K7 := K6.trans k7
    obtain ⟨w, j, rfl, hj, hd⟩ := du
    have bad : evX (D_check_deed A n [.loc p, w]) st7 (BadX A st7 j) := by
      rcases hd with ⟨rfl, hn⟩ | ⟨d, i, rfl, ok, hf, rfl⟩
      · exact w_checkN (hn st7 fl)
      · exact w_checkX B7.si (ok st7 fl) hf
    refine evS_gTu ?_
    try simp_arith
    refine evS_gsCons (evS_gN ?_)
    refine evS_gsCons (evS_gN ?_)
    refine evS_gsNil ?_
    show evS _ _ _ _
    refine evS_seq (evS_if ?_)
    try simp_arith
    refine (e_index_bad hA B7 bad).use fun st8 k8 => ?_
    try simp_arith
    refine (ev_reprXI (log_le hj)).mpr ?_
    try simp_arith
    refine (ev_reprXI (log_le hj)).mpr ?_
    simp_arith [ev_neS]
    refine evS_next ?_
    show evS _ _ _ _
    have B8 := B7.k0 k8
    have D8 := d7.kp k8
    have K8 := K7.trans k8.any
    refine evS_if ?_
    simp only [ev_dB, ev_dBin]
    refine e_told v B8 rfl ⟨bl, by omega⟩ hL (by omega) fun st9 k9 => ?_
    simp_arith [ev_neS]
    refine evS_next ?_
    exact ⟨_, _, _, rfl, B8.k0 k9, K8.trans k9.any, D8.kp k9⟩
  · rintro ε2 st6 ⟨e4, e6, e7, rfl, B6, K6, D6⟩
    show evS _ _ _ _
    refine evS_ret ?_
    simp only [ev_vAnd, ev_dBin]
    try simp_arith
    refine (e_index_lack (d := .stk (.str "find") (.int 99)) hA v (by omega) B6 ⟨rfl, rfl⟩).use fun st7 k7 => ?_
    simp_arith [ev_isN, isNone]
    refine (e_index_lack (d := .tru (.int 99)) hA v (by omega) (B6.k0 k7) rfl).use fun st8 k8 => ?_
    simp_arith [ev_isN, isNone]
    exact (K6.trans k7.any).trans k8.any
end
end K79
namespace K79
open PySem PySem.Spec PyProof.Rows L2 LamX NdefX G
section
variable {A : Str → Addr} {n m : Nat} {st st' : Sto} {Q : PV → Sto → Prop} {ε : Slo}
theorem atI_map {l : List Int} {i : Nat} (h : i < l.length) : atI (l.map PV.int) (i : Int) = some (.int l[i]) := by
  rw [atI_nat (by simpa using h)]
  simp
theorem e_pool {ns : List Int} {i : Nat} (hl : ns.length ≤ 63) (q : ∀ (m : Nat) (st' : Sto), st.length ≤ m → Keep [] st st' → Dr m st' → Q (.loc m) st') : ev (D__law_pool A n [.scr ns, .int i]) st Q := by
  have s1 : small64 70001 = true := by decide
  have s2 : small64 5009 = true := by decide
  have s3 : small64 48271 = true := by decide
  have s4 : small64 1033 = true := by decide
  have p1 : (decide (0 ≤ (18 : Int)) && decide ((18 : Int) ≤ 1000) && decide ((10 : Int).natAbs < 2 ^ 64)) = true := by decide
  unfold D__law_pool
  refine ev_fn rfl ?_
  unfold b__law_pool
  have own : ev (dIf (dB (dBin fLt (dVar 1) (dCB fLen (aCons (dVar 0) aNil)))) (dCB fInt (aCons (dBin fIx (dVar 0) (dVar 1)) aNil)) (dBin fAdd (dBin fMulT (dC (.int 70001)) (dVar 1)) (dC (.int 89))) [some (.scr ns), some (.int i), none, none, none]) st fun x st1 => (∃ o : Int, x = .int o) ∧ st1 = st := by
    try simp_arith
    by_cases hc : (i : Int) < ns.length
    · simp only [if_pos hc]
      try simp_arith
      refine (show ev (lift (atI (ns.map PV.int) (i : Int))) _ _ from ev_lift.mpr ⟨_, atI_map (by omega), ?_⟩)
      try simp_arith
      exact ⟨_, rfl⟩
    · simp only [if_neg hc]
      simp_arith [s1, Bool.true_or]
      exact ⟨_, rfl⟩
  refine evS_seq (evS_par ?_)
  rw [ev_aCons]
  refine own.mono fun x st1 ⟨⟨o, e⟩, e2⟩ => ?_
  subst e e2
  simp_arith [s2, Bool.true_or]
  refine ⟨_, _, rfl, ?_⟩
  show evS _ _ _ _
  have src : ev (dSrc (dSl (dVar 0) oNone (oSome (dC (.int 6)))) [some (.scr ns), some (.int i), some (.int o), some (.int (60017 + 5009 * (i : Int))), none]) st1 fun s st2 => ∃ l : List Int, s = .live st1.length ∧ st2 = st1 ++ [.lst (l.map PV.int)] := by
    simp_arith
    refine ev_slS.mpr ?_
    have e : cutP (ns.map PV.int) none (some 6) = (ns.take 6).map PV.int := by
      rw [show (6 : Int) = ((6 : Nat) : Int) from rfl, cut_take, List.map_take]
    rw [e]
    refine ⟨by rw [List.length_map, List.length_take]; omega, ?_⟩
    exact (ev_srcL get_new).mpr ⟨_, rfl, rfl⟩
  obtain ⟨_, _, es, l, rfl, rfl⟩ := src
  refine evS_seq (evS_forD (fun j ε2 st2 => ∃ (s : Int) (B : Option PV), ε2 = [some (PV.scr ns), some (PV.int i), some (.int o), some (.int s), B] ∧ st2 = st1 ++ [.lst (l.map PV.int)]) ⟨_, _, es, l.map PV.int, ?_, ?_, ?_, ?_⟩)
  · rintro j ε2 st2 ⟨s, B, rfl, rfl⟩
    exact dws_live get_new
  · exact ⟨_, _, rfl, rfl⟩
  · rintro j x ε2 st2 hx ⟨s, B, rfl, rfl⟩
    obtain ⟨y, hy, rfl⟩ := map_at hx
    simp_all_arith [s3, Bool.or_true, Bool.true_or]
    exact ⟨_, _, rfl⟩
  · rintro ε2 st2 ⟨s, B, rfl, rfl⟩
    show evS _ _ _ _
    have fin : ∀ (f z : Int), 0 ≤ f → Q (.loc (st1 ++ [Ob.lst (l.map PV.int)]).length) (st1 ++ [Ob.lst (l.map PV.int)] ++ [Ob.lst [.int (z % 2147482937), .int f, .int 0]]) := fun f z hf => q _ _ (by simp) (.trans .app .app) ⟨_, f, 0, get_new, hf, small_mod _⟩
    refine evS_ret ?_
    simp_arith [s4, Bool.or_true]
    by_cases h0 : o < 0
    · simp only [if_pos h0]
      try simp_arith
      try simp only [if_pos h0]
      exact fin (-o) _ (by omega)
    · simp only [if_neg h0]
      simp_arith [ev_powII]
      refine ⟨by decide, ?_⟩
      by_cases h1 : (10 : Int) ^ (18 : Int).toNat ≤ o
      · simp only [if_pos h1]
        try simp_arith
        try simp only [if_neg h0]
        exact fin o _ (by omega)
      · simp only [if_neg h1]
        try simp_arith
        exact fin 0 _ (by decide)
theorem law_true (A : Str → Addr) (hA : Dst A) (ns : List Int) (hl : ns.length ≤ 63) : ∃ st', D_law A 0 [.scr ns] [] = some (.ok (.bl true), st') := by
  have key : ev (D_law A 0 [.scr ns]) [] fun y _ => y = .bl true := by
    unfold D_law; refine ev_fn rfl ?_; unfold b_law; simp_all_arith
    refine (kAll (xs := rngP 0 (max 2 (min ns.length 3))) (F := fun _ => true) ?_).mono fun y st1 h => h.mono fun z st2 ⟨ez, kp⟩ => ?_
    · simp_arith
      have e : (if (if (3 : Int) < (ns.length : Int) then (3 : Int) else ns.length) > 2 then (if (3 : Int) < (ns.length : Int) then (3 : Int) else ns.length) else 2) = ((max 2 (min ns.length 3) : Nat) : Int) := by
        split <;> split <;> omega
      have h3 : max 2 (min ns.length 3) ≤ 3 := by omega
      rw [e]
      refine ⟨_, rng1_int (by omega), by rw [Int.toNat_natCast]; exact dwk_fix, by rw [rngP_len]; omega, fun x hx st2 kp => ?_, .refl⟩
      obtain ⟨j, hj⟩ := List.getElem?_of_mem hx
      obtain ⟨hj2, rfl⟩ := rngP_get hj
      simp_all_arith
      refine ⟨_, rfl, .refl, ?_⟩
      simp_arith
      refine e_pool hl fun m st3 hm kp3 dr => ?_
      simp_all_arith
      refine (e_right hA dr).mono fun y st4 ⟨ey, kp4⟩ => ⟨ey, ?_⟩
      exact ((kp3.any (S := [m])).trans kp4).mono fun i hi hlt => by
        rw [List.mem_singleton.mp hi] at hlt
        omega
    · rw [ez]
      simp
  obtain ⟨y, st', e, rfl⟩ := key
  exact ⟨st', e⟩
end
end K79
namespace G
open PySem PySem.Spec PyProof.Rows L2 LamX NdefX
theorem tabs0 {tfn : List (He.Defn × Str)} {K : PySem.W.Frag} {sa : Addr} {ns : List Int} {bs : List Addr} {H : Hp} (h : ∀ p ∈ tfn, H (He.cT K p.1).2 = some (.tbl #[])) : TabsN (ctOf tfn K sa ns bs).T H := by
  intro q hq
  obtain ⟨p, hp, rfl⟩ := List.mem_map.mp hq
  exact ⟨#[], h p hp, trivial, fun pos cv e => nomatch e⟩
theorem sim0 {tfn : List (He.Defn × Str)} {K : PySem.W.Frag} {sa : Addr} {ns : List Int} {H : Hp} (h : ∀ p ∈ tfn, H (He.cT K p.1).2 = some (.tbl #[])) (hs : SqL K H sa (ns.map V.int)) : Sim (ctOf tfn K sa ns []) [] H [] := by
  refine ⟨List.nodup_nil, rfl, (fun n a o h1 _ => nomatch h1), tabs0 h, ?_, List.prefix_refl _⟩
  rcases hs with h1 | h1
  · exact .inr ⟨h1, fun z => nomatch z⟩
  · exact .inl h1
section
variable {l : PySem.W.OpenLaw} {fa : List He.Fa} {fn : List He.DefD} {ts : List He.Tab} {tf : List He.Defn} {ex : PySem.W.Frag → Bool} {w : World} {h : Heap} {mg : Str → Option Value} {K : PySem.W.Frag} {tfn : List (He.Defn × Str)} {D : He.DefD} {x : Str} {k n : Nat} {F : List PV → M PV} {f : Addr}
theorem lawG_of (htf : tf = tfn.map (·.1)) (KX : K.In h) (hns : h.Ns mainGlobals mg) (c : He.SaysX fa fn ts tf ex w h K) (hf : f = He.fAd K D.at_) (hd : D.dfl = []) (hF : ∃ fd, Fd K D fd)
    (hcal : ∀ base : Heap, Top fa fn ts tf ex w h base mg K → ∀ (sa : Addr) (ns : List Int), Cal l.prog w K mg base (ctOf tfn K sa ns []) k "law" D [x] F)
    (hb : ∀ (kV doc pm : Value) (an : Option Addr) (cdv ct : Value) (us : List Value), us.length = [x].length → bindArgs (PySem.W.fnOf D.name D.qual D.params D.body D.scope .none kV doc pm an cdv ct) ⟨us, []⟩ = pure ([x].zip us))
    (hlaw : ∀ ns : List Int, ns.length ≤ n → (∀ z ∈ ns, Builtin.Int.intBits z ≤ 1048576) → ∃ st', F [.scr ns] [] = some (.ok (.bl true), st')) : LawG l w K k n x mg f h := by
  obtain ⟨fd, Fu⟩ := hF
  have e0 : D.dvs K = [] := by unfold He.DefD.dvs; rw [hd]; rfl
  have Fu2 := Fu
  unfold Fd at Fu2
  rw [e0] at Fu2
  subst hf
  refine ⟨fd, tf.map (He.cT K), fun p hp => ?_, fun p hp => ?_, fun p hp => ?_, fun s u => Fu2.bindsA (ps := [x]) hb s [u] rfl, fun a ns hl hbits => ?_⟩
  · obtain ⟨q, hq, rfl⟩ := List.mem_map.mp hp
    exact c.empty q hq
  · obtain ⟨q, hq, rfl⟩ := List.mem_map.mp hp
    exact c.out q hq
  · obtain ⟨q, hq, rfl⟩ := List.mem_map.mp hp
    exact PySem.W.codeHd_of_K KX (c.hd q hq)
  · refine ⟨spG (ctOf tfn K a ns []) F [x].length, fun H hT hS => ?_, fun base KB nb hTB => ?_⟩
    · obtain ⟨st', e⟩ := hlaw ns hl hbits
      refine ⟨rfl, [.scr ns], [], [], _, st', .cons .scr .nil, sim0 (fun p hp => ?_) hS, e, fun y μ' H' x' rv s' => ?_⟩
      · refine hT _ (List.mem_map.mpr ⟨p.1, ?_, rfl⟩)
        rw [htf]
        exact List.mem_map.mpr ⟨p, hp, rfl⟩
      · cases rv
        rfl
    · obtain ⟨fd2, Fo, Fu3⟩ := (hcal base ⟨KB, nb, c, fun p hp => hTB _ (List.mem_map.mpr ⟨p, hp, rfl⟩)⟩ a ns).ex
      have : fd2 = fd := by
        obtain ⟨_, _, _, _, _, _, _, _, _, _, _, h1, _⟩ := Fu3.ex
        obtain ⟨_, _, _, _, _, _, _, _, _, _, _, h2, _⟩ := Fu.ex
        rw [h1] at h2
        cases h2
        rfl
      rw [← this]
      exact Fo.ok
end
end G
namespace K79
open PySem PySem.Spec PyProof.Rows L2 LamX NdefX G
theorem dst_c {w : World} {h : Heap} {K : PySem.W.Frag} (c : He.SaysX fa fn ts tf ex w h K) : ((["InvalidLayers", "InvalidNumber", "InvalidRelations", "InvalidDoubts", "InvalidFinds", "InvalidDeed", "Barred"] : List PySem.Str).map (He.ga K)).Nodup := of_decide_eq_true ((He.ba (He.ba (He.ba (He.ba (He.ba (He.ba (He.ba (He.ba (He.ba (He.ba (He.ba (He.ba (He.ba (He.ba (He.ba (He.ba (He.ba (He.ba c.more).2).2).2).2).2).2).2).2).2).2).2).2).2).2).2).2).2).2)
theorem law_fact {w : World} {h : Heap} {mg : Str → Option Value} {K : PySem.W.Frag} {f : Addr} (KX : K.In h) (hns : h.Ns mainGlobals mg) (hmg : mg ("law" : Str) = some (.ref f)) (c : He.SaysX fa fn ts tf ex w h K) : LawG PySem.Challenge.rw_digyears_k79_deeds_of_another_form w K 18 63 "script" mg f h := by
  have e := hmg.symm.trans (He.glo_ok KX hns (x := "law") (c.t.d.facts (f := .glo "law") (by unfold fa; simp)))
  cases e
  exact lawG_of (D := d_law) (tfn := tfn) rfl KX hns c rfl rfl (c.t.d.defs (d := d_law) (by unfold fn; simp)) (fun base T sa ns => c_law T) (fun _ _ _ _ _ _ us hl => match us, hl with | [_], _ => rfl) (fun ns hl _ => law_true _ (dst_c c) ns hl)
end K79
open PySem PySem.W PySem.Calls PyProof.Rows
theorem PySem.Challenge.cw_digyears_k79_deeds_of_another_form_holds : PySem.Challenge.rw_digyears_k79_deeds_of_another_form.Holds := by
  w_on; o_law
  refine HandSHeadRun.head_any (r := OpenLaw.row PySem.Challenge.rw_digyears_k79_deeds_of_another_form) (q := view (OpenLaw.row PySem.Challenge.rw_digyears_k79_deeds_of_another_form).prog [122]) (H := K79.hk) (ob := K79.ob) (M := 15000) (loose := K79.loose) (d := HandSHeadRun.topDef (OpenLaw.row PySem.Challenge.rw_digyears_k79_deeds_of_another_form).prog 122) (kwd := []) K79.ob_eq
    (by kernel_rfl) (fun s => by kernel_rfl) K79.run (by kernel_rfl) (by kernel_rfl) (by kernel_rfl) (by rfl) (by first | assumption | decide +kernel) (by decide +kernel) ⟨rfl, rfl, rfl, rfl, rfl, by decide +kernel⟩ ?hw ?hc
  case hw => w_witness2
  case hc =>
    refine G.walk_g (l := PySem.Challenge.rw_digyears_k79_deeds_of_another_form) (n := 63) (k := 18) (x := "script") rfl (by decide) (by kernel_rfl) ⟨rfl, by decide, by decide⟩ ?F
    intro w mg fa h Y GG hmg0
    obtain ⟨K, KX, c⟩ := Y
    have hmg : mg ("law" : PySem.Str) = some (.ref fa) := by
      have e : (HandSHeadRun.topDef (OpenLaw.row PySem.Challenge.rw_digyears_k79_deeds_of_another_form).prog 122).name = ("law" : PySem.Str) := by kernel_rfl
      rw [← e]
      exact hmg0
    exact ⟨K, KX, K79.law_fact KX GG hmg c⟩
