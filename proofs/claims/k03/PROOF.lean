import PyProof.Rows.All
import HandS.ForMost
import HandS.ForExc
import HandS.Lambda
import HandS.IsInst
import HandS.Conv
import HandS.Wide
import HandS.ExcValue
import HandS.TupAny
import HandS.TupMul
import HandS.Steps
import HandS.Deep
import HandS.Star
import HandS.ExcIs
import KE.GoesZip
import KE.GoesEnum
import HandS.TryOnly
import HandS.Defaults
import HandS.CallLocal
import HandS.Small
import KE.KDictList
import HandS.HeadHook4
import KE.KStateDown
import HandS.Head0
import HandS.Head1
import HandS.Head2
import HandS.HeadEnd
import HandS.HeadWalk
import PyProof.ExcBaseAll.ValueError
import PySem.Challenge.RW_nearesttoall_k03_whole_spans_of_lots
set_option Elab.async false
set_option linter.all false
set_option autoImplicit false
set_option maxRecDepth 100000
section
namespace Dm
open PySem PySem.Spec L2

/-- plain data -/
inductive D where
  | non | bl (b : Bool) | int (i : Int) | str (s : List Nat)
  | tup (xs : List D) | lst (xs : List D)
  | dic (ks vs : List D)
  | fn (x : Str) | ty (n : String) | exo (c : Str) (p : Option Int) | cel (n : Nat) | scr (ns : List Int)
  deriving Inhabited

abbrev S (l : List Nat) : Str := ⟨l.toArray⟩
theorem S_inj {a b : List Nat} (h : S a = S b) : a = b := by
  have h1 : a.toArray = b.toArray := by injection h
  simpa using congrArg Array.toList h1
theorem S_list (x : Str) : S x.cps.toList = x := by cases x; simp [S]
theorem S_len (l : List Nat) : (S l).length = l.length := by show l.toArray.size = l.length; simp

/-- the settled region, the cells -/
structure Reg where
  Z : Addr → Prop
  cs : List Addr
  dis : ∀ a ∈ cs, ¬ Z a

/-- an exception object that is kept as a value -/
def ExV (cls : Value) (a : Addr) : HO := .ext fun h => ∃ (oe : Obj) (vs : Array Value), h.get? a = some oe ∧ oe.cls = cls ∧ oe.dict = none ∧ oe.data = .fields vs

/-- a list of the written part -/
def KL (K : PySem.W.Frag) (a : Addr) (xs : List V) : Prop := ∃ (o : Obj) (its : Array Value) (n : Nat), K.lookup a = some o ∧ o.cls = .type "list" ∧ o.dict = none ∧ o.data = .seq its n ∧ its.size ≤ sizeLine ∧ Vals xs its.toList
mutual
def Rep (K : PySem.W.Frag) (mg : Str → Option Value) (g : Reg) (H : Hp) : D → V → Prop
  | .non, v => v = .non
  | .bl b, v => v = .bl b
  | .int i, v => v = .int i
  | .str s, v => v = .str (S s)
  | .tup xs, v => ∃ a vs, v = .ref a ∧ g.Z a ∧ H a = some (.tup vs) ∧ Reps K mg g H xs vs
  | .lst xs, v => ∃ a vs, v = .ref a ∧ g.Z a ∧ H a = some (.lst vs) ∧ Reps K mg g H xs vs
  | .dic ks vs, v => ∃ a ps, v = .ref a ∧ g.Z a ∧ H a = some (.dK ps) ∧ Reps K mg g H ks (ps.map fun p => kV p.1) ∧ Reps K mg g H vs (ps.map (·.2))
  | .fn x, v => ∃ f, mg x = some (.ref f) ∧ v = .ref f
  | .ty n, v => v = .ty n
  | .exo c _, v => ∃ a C, v = .ref a ∧ mg c = some (.ref C) ∧ g.Z a ∧ H a = some (ExV (.ref C) a)
  | .cel n, v => ∃ a, v = .ref a ∧ g.cs[n]? = some a
  | .scr ns, v => ∃ a, v = .ref a ∧ ((g.Z a ∧ Rd H a (.lst (ns.map V.int))) ∨ KL K a (ns.map V.int))
def Reps (K : PySem.W.Frag) (mg : Str → Option Value) (g : Reg) (H : Hp) : List D → List V → Prop
  | [], vs => vs = []
  | d :: ds, vs => ∃ v r, vs = v :: r ∧ Rep K mg g H d v ∧ Reps K mg g H ds r
end

/-- the content of what may change: a list, a dict, its items settled -/
def Cont (K : PySem.W.Frag) (mg : Str → Option Value) (g : Reg) (H : Hp) : D → Addr → Prop
  | .lst xs, a => ∃ vs, H a = some (.lst vs) ∧ Reps K mg g H xs vs
  | .dic ks vs, a => ∃ ps, H a = some (.dK ps) ∧ Reps K mg g H ks (ps.map fun p => kV p.1) ∧ Reps K mg g H vs (ps.map (·.2))
  | _, _ => False

def NoTbl (o : HO) : Prop := ∀ ps, o ≠ .tbl ps
/-- nothing stands there, but perhaps a table -/
def Fr (H : Hp) (a : Addr) : Prop := ∀ o, H a = some o → ¬ NoTbl o
theorem fr_none {H : Hp} {a : Addr} (h : H a = none) : Fr H a := fun o e => by rw [h] at e; cases e
/-- growth of the settled region -/
structure Grow (g : Reg) (H : Hp) (g' : Reg) : Prop where
  up : ∀ a, g.Z a → g'.Z a
  new : ∀ a, g'.Z a → g.Z a ∨ Fr H a
  cs : ∃ more, g'.cs = g.cs ++ more ∧ ∀ a ∈ more, Fr H a

/-- what stood stands, but for cells and tables -/
structure Ext (g : Reg) (H H' : Hp) : Prop where
  keep : ∀ a o, H a = some o → NoTbl o → a ∉ g.cs → H' a = some o
  dom : ∀ a, Fr H' a → Fr H a

theorem Grow.refl (g : Reg) (H : Hp) : Grow g H g := ⟨fun _ h => h, fun _ h => .inl h, ⟨[], by simp, fun _ h => by cases h⟩⟩
theorem Ext.refl (g : Reg) (H : Hp) : Ext g H H := ⟨fun _ _ h _ _ => h, fun _ h => h⟩

structure Cel (T : List (Addr × Str)) (K : PySem.W.Frag) (mg : Str → Option Value) (g : Reg) (H : Hp) (Ss : List D) : Prop where
  len : g.cs.length = Ss.length
  nd : g.cs.Nodup
  at_ : ∀ (n : Nat) a d, g.cs[n]? = some a → Ss[n]? = some d → Cont K mg g H d a
  tabs : LamX.Tabs T H
  zt : ∀ a, g.Z a → ¬ Fr H a

section
variable {T : List (Addr × Str)} {K : PySem.W.Frag} {mg : Str → Option Value} {g g' g1 : Reg} {H H' H1 : Hp} {Ss S1 : List D}

theorem noTbl_lst {vs} : NoTbl (.lst vs) := fun ps z => nomatch z
theorem noTbl_tup {vs} : NoTbl (.tup vs) := fun ps z => nomatch z
theorem noTbl_dK {vs} : NoTbl (.dK vs) := fun ps z => nomatch z
theorem noTbl_frz {o vs} : NoTbl (.frz o vs) := fun ps z => nomatch z
theorem noTbl_ext {o} : NoTbl (.ext o) := fun ps z => nomatch z
theorem Cont.some {d : D} {a : Addr} (c : Cont K mg g H d a) : ∃ o, H a = some o ∧ NoTbl o ∧ Mut (some o) := by
  cases d with
  | lst xs => obtain ⟨vs, h, _⟩ := c; exact ⟨_, h, noTbl_lst, trivial⟩
  | dic ks vs => obtain ⟨ps, h, _⟩ := c; exact ⟨_, h, noTbl_dK, trivial⟩
  | _ => exact c.elim
theorem Cel.cell (c : Cel T K mg g H Ss) {a : Addr} (h : a ∈ g.cs) : ∃ o, H a = some o ∧ NoTbl o ∧ Mut (some o) := by
  obtain ⟨n, hn, e⟩ := List.getElem_of_mem h
  have hn' : n < Ss.length := by rw [← c.len]; exact hn
  exact (c.at_ n a _ (by rw [List.getElem?_eq_getElem hn, e]) (List.getElem?_eq_getElem hn')).some
theorem Cel.off (c : Cel T K mg g H Ss) {a : Addr} (h : Fr H a) : a ∉ g.cs := fun z => by
  obtain ⟨o, e, t, _⟩ := c.cell z
  exact h o e t
theorem Grow.trans (a : Grow g H g1) (e : Ext g H H1) (b : Grow g1 H1 g') : Grow g H g' := by
  obtain ⟨m1, e1, n1⟩ := a.cs
  obtain ⟨m2, e2, n2⟩ := b.cs
  refine ⟨fun x h => b.up x (a.up x h), fun x h => ?_, m1 ++ m2, by rw [e2, e1, List.append_assoc], fun x h => ?_⟩
  · rcases b.new x h with h | h
    · exact a.new x h
    · exact .inr (e.dom x h)
  · rcases List.mem_append.mp h with h | h
    · exact n1 x h
    · exact e.dom x (n2 x h)
theorem Grow.off (a : Grow g H g') {x : Addr} {o : HO} (h : H x = some o) (t : NoTbl o) (n : x ∉ g.cs) : x ∉ g'.cs := fun z => by
  obtain ⟨m1, e1, n1⟩ := a.cs
  rw [e1] at z
  rcases List.mem_append.mp z with z | z
  · exact n z
  · exact n1 x z o h t
theorem Grow.offZ (a : Grow g H g') {x : Addr} {o : HO} (h : H x = some o) (t : NoTbl o) (n : ¬ g.Z x) : ¬ g'.Z x := fun z => by
  rcases a.new x z with z | z
  · exact n z
  · exact z o h t
theorem Ext.trans (e : Ext g H H1) (a : Grow g H g1) (f : Ext g1 H1 H') : Ext g H H' :=
  ⟨fun x o h t n => f.keep x o (e.keep x o h t n) t (a.off h t n), fun x h => e.dom x (f.dom x h)⟩

theorem SqT.ext {a : Addr} {vs : List V} (h : SqT K H a vs) (e : Ext g H H') (n : a ∉ g.cs) : SqT K H' a vs := by
  rcases h with (h | ⟨o, h⟩) | h
  · exact .inl (.inl (e.keep _ _ h noTbl_tup n))
  · exact .inl (.inr ⟨o, e.keep _ _ h noTbl_frz n⟩)
  · exact .inr h
theorem SqL.ext {a : Addr} {vs : List V} (h : SqL K H a vs) (e : Ext g H H') (n : a ∉ g.cs) : SqL K H' a vs := by
  rcases h with (h | ⟨o, h⟩) | h
  · exact .inl (.inl (e.keep _ _ h noTbl_lst n))
  · exact .inl (.inr ⟨o, e.keep _ _ h noTbl_frz n⟩)
  · exact .inr h

/-- the region grew, whatever stood at the new places -/
structure Up (g g' : Reg) : Prop where
  up : ∀ a, g.Z a → g'.Z a
  cs : ∃ more, g'.cs = g.cs ++ more
theorem Grow.toUp (a : Grow g H g') : Up g g' := ⟨a.up, let ⟨m, e, _⟩ := a.cs; ⟨m, e⟩⟩
theorem Grow.zoff (g : Reg) {a : Addr} (h : g.Z a) : a ∉ g.cs := fun z => g.dis a z h
mutual
theorem Rep.up (a : Up g g') (e : Ext g H H') : ∀ {d : D} {v : V}, Rep K mg g H d v → Rep K mg g' H' d v
  | .non, v, h => h
  | .bl b, v, h => h
  | .int i, v, h => h
  | .str s, v, h => h
  | .tup xs, v, h => by
    obtain ⟨p, vs, rfl, z, q, r⟩ := h
    exact ⟨p, vs, rfl, a.up _ z, e.keep _ _ q noTbl_tup (Grow.zoff g z), Reps.up a e r⟩
  | .lst xs, v, h => by
    obtain ⟨p, vs, rfl, z, q, r⟩ := h
    exact ⟨p, vs, rfl, a.up _ z, e.keep _ _ q noTbl_lst (Grow.zoff g z), Reps.up a e r⟩
  | .dic ks vs, v, h => by
    obtain ⟨p, ps, rfl, z, q, r1, r2⟩ := h
    exact ⟨p, ps, rfl, a.up _ z, e.keep _ _ q noTbl_dK (Grow.zoff g z), Reps.up a e r1, Reps.up a e r2⟩
  | .fn x, v, h => h
  | .ty n, v, h => h
  | .exo c _, v, h => by
    obtain ⟨p, C, rfl, m, z, q⟩ := h
    exact ⟨p, C, rfl, m, a.up _ z, e.keep _ _ q noTbl_ext (Grow.zoff g z)⟩
  | .cel n, v, h => by
    obtain ⟨p, rfl, q⟩ := h
    obtain ⟨m1, e1⟩ := a.cs
    refine ⟨p, rfl, ?_⟩
    rw [e1, List.getElem?_append_left ((List.getElem?_eq_some_iff.mp q).1)]
    exact q
  | .scr ns, v, h => by
    obtain ⟨p, rfl, ⟨z, q | ⟨o, q⟩⟩ | q⟩ := h
    · exact ⟨p, rfl, .inl ⟨a.up _ z, .inl (e.keep _ _ q noTbl_lst (Grow.zoff g z))⟩⟩
    · exact ⟨p, rfl, .inl ⟨a.up _ z, .inr ⟨o, e.keep _ _ q noTbl_frz (Grow.zoff g z)⟩⟩⟩
    · exact ⟨p, rfl, .inr q⟩
theorem Reps.up (a : Up g g') (e : Ext g H H') : ∀ {ds : List D} {vs : List V}, Reps K mg g H ds vs → Reps K mg g' H' ds vs
  | [], vs, h => h
  | d :: ds, vs, h => by
    obtain ⟨v, r, rfl, h1, h2⟩ := h
    exact ⟨v, r, rfl, Rep.up a e h1, Reps.up a e h2⟩
end
theorem Rep.mono (a : Grow g H g') (e : Ext g H H') {d : D} {v : V} (h : Rep K mg g H d v) : Rep K mg g' H' d v := h.up a.toUp e
theorem Reps.mono (a : Grow g H g') (e : Ext g H H') {d : List D} {v : List V} (h : Reps K mg g H d v) : Reps K mg g' H' d v := h.up a.toUp e
theorem Cont.up {d : D} {p : Addr} (a : Up g g') (e : Ext g H H') (n : p ∉ g.cs) (h : Cont K mg g H d p) : Cont K mg g' H' d p := by
  cases d with
  | lst xs => obtain ⟨vs, h1, h2⟩ := h; exact ⟨vs, e.keep _ _ h1 noTbl_lst n, h2.up a e⟩
  | dic ks vs => obtain ⟨ps, h1, h2, h3⟩ := h; exact ⟨ps, e.keep _ _ h1 noTbl_dK n, h2.up a e, h3.up a e⟩
  | _ => exact h.elim
theorem Cont.mono {d : D} {p : Addr} (a : Grow g H g') (e : Ext g H H') (n : p ∉ g.cs) (h : Cont K mg g H d p) : Cont K mg g' H' d p := by
  cases d with
  | lst xs => obtain ⟨vs, h1, h2⟩ := h; exact ⟨vs, e.keep _ _ h1 noTbl_lst n, h2.mono a e⟩
  | dic ks vs => obtain ⟨ps, h1, h2, h3⟩ := h; exact ⟨ps, e.keep _ _ h1 noTbl_dK n, h2.mono a e, h3.mono a e⟩
  | _ => exact h.elim

/-- p settled, too -/
def Reg.add (g : Reg) (p : Addr) (h : p ∉ g.cs) : Reg := ⟨fun a => g.Z a ∨ a = p, g.cs, fun a ha z => z.elim (g.dis a ha) fun e => h (e ▸ ha)⟩
theorem Grow.add {p : Addr} (hn : Fr H p) (h : p ∉ g.cs) : Grow g H (g.add p h) :=
  ⟨fun _ z => .inl z, fun a z => z.elim .inl fun e => .inr (e ▸ hn), ⟨[], by simp [Reg.add], fun _ h => by cases h⟩⟩
end

/-- what may be read, settled or owned -/
def RepT (K : PySem.W.Frag) (mg : Str → Option Value) (g : Reg) (H : Hp) (d : D) (v : V) : Prop :=
  match d with
  | .lst xs => ∃ a, v = .ref a ∧ a ∉ g.cs ∧ Cont K mg g H (.lst xs) a
  | .dic ks vs => ∃ a, v = .ref a ∧ a ∉ g.cs ∧ Cont K mg g H (.dic ks vs) a
  | d => Rep K mg g H d v
/-- a new list or dict -/
def RepF (K : PySem.W.Frag) (mg : Str → Option Value) (H : Hp) (g' : Reg) (H' : Hp) (d : D) (v : V) : Prop :=
  ∃ a, v = .ref a ∧ Fr H a ∧ a ∉ g'.cs ∧ ¬ g'.Z a ∧ Cont K mg g' H' d a

section
variable {T : List (Addr × Str)} {K : PySem.W.Frag} {mg : Str → Option Value} {g g' g1 : Reg} {H H' H1 : Hp} {Ss S1 : List D} {d : D} {v : V}
theorem Rep.toT (h : Rep K mg g H d v) : RepT K mg g H d v := by
  cases d with
  | lst xs => obtain ⟨p, vs, rfl, z, q, r⟩ := h; exact ⟨p, rfl, Grow.zoff g z, vs, q, r⟩
  | dic ks vs => obtain ⟨p, ps, rfl, z, q, r1, r2⟩ := h; exact ⟨p, rfl, Grow.zoff g z, ps, q, r1, r2⟩
  | _ => exact h
theorem RepT.mono (a : Grow g H g') (e : Ext g H H') (h : RepT K mg g H d v) : RepT K mg g' H' d v := by
  cases d with
  | lst xs => obtain ⟨p, rfl, n, c⟩ := h; obtain ⟨o, ho, t, _⟩ := c.some; exact ⟨p, rfl, a.off ho t n, c.mono a e n⟩
  | dic ks vs => obtain ⟨p, rfl, n, c⟩ := h; obtain ⟨o, ho, t, _⟩ := c.some; exact ⟨p, rfl, a.off ho t n, c.mono a e n⟩
  | _ => exact Rep.mono a e h
theorem Reg.add_up {p : Addr} (h : p ∉ g.cs) : Up g (g.add p h) := ⟨fun _ z => .inl z, ⟨[], by simp [Reg.add]⟩⟩
theorem Cont.settle {a : Addr} (n : a ∉ g.cs) (c : Cont K mg g H d a) : Rep K mg (g.add a n) H d (.ref a) := by
  cases d with
  | lst xs => obtain ⟨vs, h1, h2⟩ := c; exact ⟨a, vs, rfl, .inr rfl, h1, h2.up (Reg.add_up n) (Ext.refl g H)⟩
  | dic ks vs => obtain ⟨ps, h1, h2, h3⟩ := c; exact ⟨a, ps, rfl, .inr rfl, h1, h2.up (Reg.add_up n) (Ext.refl g H), h3.up (Reg.add_up n) (Ext.refl g H)⟩
  | _ => exact c.elim
theorem RepF.toT (h : RepF K mg H g' H' d v) : RepT K mg g' H' d v := by
  obtain ⟨a, rfl, _, n, _, c⟩ := h
  cases d with
  | lst xs => exact ⟨a, rfl, n, c⟩
  | dic ks vs => exact ⟨a, rfl, n, c⟩
  | _ => exact c.elim
end
end Dm
end
section
namespace Dm
open PySem PySem.Spec L2

/-- an answer with the cells behind it -/
inductive R (α : Type) where
  | ok (a : α) (Ss : List D) | exc (c : Str) (p : Option Int) (Ss : List D) | bad
def R.bind {α β : Type} (r : R α) (f : α → List D → R β) : R β :=
  match r with
  | .ok a s => f a s
  | .exc c p s => .exc c p s
  | .bad => .bad
@[simp] theorem R.bind_ok {α β : Type} {a : α} {s} {f : α → List D → R β} : (R.ok a s).bind f = f a s := rfl
@[simp] theorem R.bind_exc {α β : Type} {c p s} {f : α → List D → R β} : (R.exc c p s : R α).bind f = .exc c p s := rfl
@[simp] theorem R.bind_bad {α β : Type} {f : α → List D → R β} : (R.bad : R α).bind f = .bad := rfl

inductive Slot where
  | val (d : D) | own (d : D)
abbrev DEnv := List (Option Slot)
abbrev M (α : Type) := DEnv → List D → R α

def Own (ρ : DEnv) (σ : St) (i : Nat) (a : Addr) : Prop := (∃ d, ρ[i]? = some (some (Slot.own d))) ∧ σ[i]? = some (some (V.ref a))
structure REnv (K : PySem.W.Frag) (mg : Str → Option Value) (g : Reg) (H : Hp) (ρ : DEnv) (σ : St) : Prop where
  len : ρ.length = σ.length
  val : ∀ (i : Nat) (d : D), ρ[i]? = some (some (Slot.val d)) → ∃ v, σ[i]? = some (some v) ∧ Rep K mg g H d v
  own : ∀ (i : Nat) (d : D), ρ[i]? = some (some (Slot.own d)) → ∃ a, σ[i]? = some (some (V.ref a)) ∧ Cont K mg g H d a ∧ ¬ g.Z a ∧ a ∉ g.cs
  sep : ∀ (i j : Nat) (a : Addr), Own ρ σ i a → Own ρ σ j a → i = j

abbrev Wish := Str → Option Int → Hp → Prop
abbrev Kind := D → Hp → Reg → Hp → V → Prop

section
variable (T : List (Addr × Str)) (K : PySem.W.Frag) (mg : Str → Option Value) (Wx : Wish)
def kR : Kind := fun d _ g' H' v => Rep K mg g' H' d v
def kP : Kind := fun d _ g' H' v => RepT K mg g' H' d v
def kF : Kind := fun d H g' H' v => RepF K mg H g' H' d v
/-- the state behind -/
structure Nxt (g : Reg) (H : Hp) (S' : List D) (g' : Reg) (H' : Hp) : Prop where
  gr : Grow g H g'
  ex : Ext g H H'
  ce : Cel T K mg g' H' S'
def ResG {α β : Type} (k : α → Hp → Reg → Hp → β → Prop) (g : Reg) (H : Hp) (r : R α) (Q : β → Hp → Prop) : Prop :=
  match r with
  | .ok d S' => ∀ g' H' v, Nxt T K mg g H S' g' H' → k d H g' H' v → Q v H'
  | .exc c p S' => ∀ g' H', Nxt T K mg g H S' g' H' → Wx c p H'
  | .bad => False
def tK (k : Kind) (m : M D) : TE := fun σ H Q => ∃ g ρ Ss, REnv K mg g H ρ σ ∧ Cel T K mg g H Ss ∧ ResG T K mg Wx k g H (m ρ Ss) Q
def kB : Bool → Hp → Reg → Hp → Bool → Prop := fun b _ _ _ c => c = b
def tT (m : M Bool) : TT := fun σ H Q => ∃ g ρ Ss, REnv K mg g H ρ σ ∧ Cel T K mg g H Ss ∧ ResG T K mg Wx kB g H (m ρ Ss) Q
def RepTs (g : Reg) (H : Hp) : List D → List V → Prop
  | [], vs => vs = []
  | d :: ds, vs => ∃ v r, vs = v :: r ∧ RepT K mg g H d v ∧ RepTs g H ds r
def kRs : List D → Hp → Reg → Hp → List V → Prop := fun ds _ g' H' vs => Reps K mg g' H' ds vs
def kPs : List D → Hp → Reg → Hp → List V → Prop := fun ds _ g' H' vs => RepTs K mg g' H' ds vs
def tAs (k : List D → Hp → Reg → Hp → List V → Prop) (m : M (List D)) : TA := fun σ H Q => ∃ g ρ Ss, REnv K mg g H ρ σ ∧ Cel T K mg g H Ss ∧ ResG T K mg Wx k g H (m ρ Ss) Q
end

section
variable {T : List (Addr × Str)} {K : PySem.W.Frag} {mg : Str → Option Value} {Wx : Wish} {g g' g1 : Reg} {H H' H1 : Hp} {Ss S1 S2 : List D} {ρ : DEnv} {σ : St}
theorem Nxt.refl (c : Cel T K mg g H Ss) : Nxt T K mg g H Ss g H := ⟨Grow.refl g H, Ext.refl g H, c⟩
theorem Nxt.trans (a : Nxt T K mg g H S1 g1 H1) (b : Nxt T K mg g1 H1 S2 g' H') : Nxt T K mg g H S2 g' H' :=
  ⟨a.gr.trans a.ex b.gr, a.ex.trans a.gr b.ex, b.ce⟩
theorem REnv.mono (e : REnv K mg g H ρ σ) (n : Nxt T K mg g H S1 g' H') : REnv K mg g' H' ρ σ := by
  refine ⟨e.len, fun i d h => ?_, fun i d h => ?_, e.sep⟩
  · obtain ⟨v, h1, h2⟩ := e.val i d h
    exact ⟨v, h1, h2.mono n.gr n.ex⟩
  · obtain ⟨a, h1, h2, h3, h4⟩ := e.own i d h
    obtain ⟨o, ho, t, _⟩ := h2.some
    exact ⟨a, h1, h2.mono n.gr n.ex h4, n.gr.offZ ho t h3, n.gr.off ho t h4⟩
/-- behind a part: the rest from there -/
theorem ResG.then {α β γ δ : Type} {k : α → Hp → Reg → Hp → β → Prop} {k2 : γ → Hp → Reg → Hp → δ → Prop} (hk : ∀ c H g' H' v H0, Ext g H0 H → k2 c H g' H' v → k2 c H0 g' H' v) {r : R α} {f : α → List D → R γ} {Q : δ → Hp → Prop} {P : β → Hp → Prop}
    (h : ResG T K mg Wx k2 g H (r.bind f) Q) (hP : ∀ d S' g' H' v, r = .ok d S' → Nxt T K mg g H S' g' H' → k d H g' H' v → ResG T K mg Wx k2 g' H' (f d S') Q → P v H') : ResG T K mg Wx k g H r P := by
  cases r with
  | bad => exact h
  | exc c p S' => exact h
  | ok d S' =>
    intro g' H' v n kk
    refine hP d S' g' H' v rfl n kk ?_
    have h' : ResG T K mg Wx k2 g H (f d S') Q := h
    cases e : f d S' with
    | bad => rw [e] at h'; exact h'
    | exc c p S2 =>
      rw [e] at h'
      exact fun g2 H2 n2 => h' g2 H2 (n.trans n2)
    | ok b S2 =>
      rw [e] at h'
      exact fun g2 H2 v2 n2 k2' => h' g2 H2 v2 (n.trans n2) (hk _ _ _ _ _ _ n.ex k2')
theorem ResG.imp {α β : Type} {k k2 : α → Hp → Reg → Hp → β → Prop} {r : R α} {Q P : β → Hp → Prop} (h : ResG T K mg Wx k g H r Q) (hk : ∀ d S' g' H' v, r = .ok d S' → Nxt T K mg g H S' g' H' → k2 d H g' H' v → (∀ g' v', Nxt T K mg g H S' g' H' → k d H g' H' v' → Q v' H') → P v H') : ResG T K mg Wx k2 g H r P := by
  cases r with
  | bad => exact h
  | exc c p S' => exact h
  | ok d S' => exact fun g' H' v n kk => hk d S' g' H' v rfl n kk fun g2 v2 n2 q => h g2 H' v2 n2 q
end

section
variable {X : Cx} {T : List (Addr × Str)} {Wx : Wish} {e a b : Expr} {m ma mb : M D}
theorem pe_imp {t t' : TE} (h : PE X e t) (i : ∀ σ H Q, t' σ H Q → t σ H Q) : PE X e t' := ⟨fun pins s σ H Q I w => h.run pins s σ H Q I (i _ _ _ w)⟩
theorem pt_imp {t t' : TT} (h : PT X e t) (i : ∀ σ H Q, t' σ H Q → t σ H Q) : PT X e t' := ⟨fun pins s σ H Q I w => h.run pins s σ H Q I (i _ _ _ w)⟩
theorem pa_imp {es : List Expr} {t t' : TA} (h : PA X es t) (i : ∀ σ H Q, t' σ H Q → t σ H Q) : PA X es t' := ⟨fun pos pins s σ H Q I w => h.run pos pins s σ H Q I (i _ _ _ w)⟩
theorem ps_imp {st : Stmt} {t t' : TS} (h : PS X st t) (i : ∀ D σ H, t' D σ H → t D σ H) : PS X st t' := ⟨fun pins s σ H D I w => h.run pins s σ H D I (i _ _ _ w)⟩
theorem pss_imp {st : List Stmt} {t t' : TS} (h : PSs X st t) (i : ∀ D σ H, t' D σ H → t D σ H) : PSs X st t' := ⟨fun pins s σ H D I w => h.run pins s σ H D I (i _ _ _ w)⟩
variable (X T Wx)
/-- an expression's value; a readable one (owned, too); a new one -/
abbrev DE (e : Expr) (m : M D) : Prop := PE X e (tK T X.K X.mg Wx (kR X.K X.mg) m)
abbrev DP (e : Expr) (m : M D) : Prop := PE X e (tK T X.K X.mg Wx (kP X.K X.mg) m)
abbrev DF (e : Expr) (m : M D) : Prop := PE X e (tK T X.K X.mg Wx (kF X.K X.mg) m)
abbrev DT (e : Expr) (m : M Bool) : Prop := PT X e (tT T X.K X.mg Wx m)
abbrev DAs (es : List Expr) (m : M (List D)) : Prop := PA X es (tAs T X.K X.mg Wx (kRs X.K X.mg) m)
abbrev DPs (es : List Expr) (m : M (List D)) : Prop := PA X es (tAs T X.K X.mg Wx (kPs X.K X.mg) m)
variable {X T Wx}
theorem DE.toP (h : DE X T Wx e m) : DP X T Wx e m := pe_imp h fun σ H Q ⟨g, ρ, Ss, e, c, r⟩ => ⟨g, ρ, Ss, e, c, r.imp fun d S' g' H' v _ n k q => q g' v n k.toT⟩
theorem DF.toP (h : DF X T Wx e m) : DP X T Wx e m := pe_imp h fun σ H Q ⟨g, ρ, Ss, e, c, r⟩ => ⟨g, ρ, Ss, e, c, r.imp fun d S' g' H' v _ n k q => q g' v n k.toT⟩
theorem Cont.up' {K : PySem.W.Frag} {mg : Str → Option Value} {g : Reg} {H : Hp} {d : D} {a p : Addr} (h : Cont K mg g H d a) (n : p ∉ g.cs) : Cont K mg (g.add p n) H d a := by
  cases d with
  | lst xs => obtain ⟨vs, h1, h2⟩ := h; exact ⟨vs, h1, h2.up (Reg.add_up n) (Ext.refl _ _)⟩
  | dic ks vs => obtain ⟨ps, h1, h2, h3⟩ := h; exact ⟨ps, h1, h2.up (Reg.add_up n) (Ext.refl _ _), h3.up (Reg.add_up n) (Ext.refl _ _)⟩
  | _ => exact h.elim
theorem Cel.add {K : PySem.W.Frag} {mg : Str → Option Value} {g : Reg} {H : Hp} {Ss : List D} (c : Cel T K mg g H Ss) {p : Addr} (n : p ∉ g.cs) (t : ¬ Fr H p) : Cel T K mg (g.add p n) H Ss :=
  ⟨c.len, c.nd, fun i a d h1 h2 => (c.at_ i a d h1 h2).up' n, c.tabs, fun a z => z.elim (c.zt a) fun e => e ▸ t⟩
theorem DF.toE (h : DF X T Wx e m) : DE X T Wx e m := pe_imp h fun σ H Q ⟨g, ρ, Ss, e, c, r⟩ => ⟨g, ρ, Ss, e, c, r.imp fun d S' g' H' v _ n k q => by
  obtain ⟨a, rfl, h1, h2, h3, h4⟩ := k
  refine q (g'.add a h2) _ ⟨⟨fun b z => .inl (n.gr.up b z), fun b z => z.elim (n.gr.new b) fun e => .inr (e ▸ h1), n.gr.cs⟩, n.ex, n.ce.add h2 (by obtain ⟨o, ho, t, _⟩ := h4.some; exact fun f => f o ho t)⟩ (h4.settle h2)⟩

/-! ### names, constants -/
def mVar (i : Nat) : M D := fun ρ Ss => match ρ[i]? with
  | some (some (Slot.val d)) => .ok d Ss
  | _ => .bad
def mPeek (i : Nat) : M D := fun ρ Ss => match ρ[i]? with
  | some (some (Slot.val d)) => .ok d Ss
  | some (some (Slot.own d)) => .ok d Ss
  | _ => .bad
def mLit (d : D) : M D := fun _ Ss => .ok d Ss
theorem de_var {i : Nat} {x : Str} {pos : Pos} (hN : X.N[i]? = some x) (hv : Vis X.env.scope x) (hd : (x == ("__debug__" : Str)) = false) (hcd : (x == ("__classdict__" : Str)) = false) : DE X T Wx (.Name x pos) (mVar i) :=
  pe_imp (pe_var hN hv hd hcd) fun σ H Q ⟨g, ρ, Ss, e, c, r⟩ => by
    unfold mVar at r
    split at r
    · rename_i d hd
      obtain ⟨v, h1, h2⟩ := e.val i d hd
      exact ⟨v, h1, r g H v (Nxt.refl c) h2⟩
    · exact r.elim
theorem dp_peek {i : Nat} {x : Str} {pos : Pos} (hN : X.N[i]? = some x) (hv : Vis X.env.scope x) (hd : (x == ("__debug__" : Str)) = false) (hcd : (x == ("__classdict__" : Str)) = false) : DP X T Wx (.Name x pos) (mPeek i) :=
  pe_imp (pe_var hN hv hd hcd) fun σ H Q ⟨g, ρ, Ss, e, c, r⟩ => by
    unfold mPeek at r
    split at r
    · rename_i d hd
      obtain ⟨v, h1, h2⟩ := e.val i d hd
      exact ⟨v, h1, r g H v (Nxt.refl c) h2.toT⟩
    · rename_i d hd
      obtain ⟨a, h1, h2, h3, h4⟩ := e.own i d hd
      refine ⟨.ref a, h1, r g H _ (Nxt.refl c) ?_⟩
      cases d with
      | lst xs => exact ⟨a, rfl, h4, h2⟩
      | dic ks vs => exact ⟨a, rfl, h4, h2⟩
      | _ => exact h2.elim
    · exact r.elim
theorem de_lit {d : D} {v : V} (h : PE X e (tC v)) (r : ∀ g H, Rep X.K X.mg g H d v) : DE X T Wx e (mLit d) :=
  pe_imp h fun σ H Q ⟨g, ρ, Ss, _, c, q⟩ => q g H v (Nxt.refl c) (r g H)
theorem de_int {i j pos} : DE X T Wx (.Constant (.int i) j pos) (mLit (.int i)) := de_lit pe_int fun _ _ => rfl
theorem de_bl {i j pos} : DE X T Wx (.Constant (.bool i) j pos) (mLit (.bl i)) := de_lit pe_bl fun _ _ => rfl
theorem de_non {j pos} : DE X T Wx (.Constant .none j pos) (mLit .non) := de_lit pe_non fun _ _ => rfl
theorem de_str {x j pos} : DE X T Wx (.Constant (.str x) j pos) (mLit (.str x.cps.toList)) := de_lit pe_str fun _ _ => by show V.str x = V.str _; rw [S_list]
end
end Dm
end
section
namespace Dm
open PySem PySem.Spec L2

/-! ### new objects -/
section
variable {T : List (Addr × Str)} {K : PySem.W.Frag} {mg : Str → Option Value} {g : Reg} {H : Hp} {Ss : List D} {Q : V → Hp → Prop} {p : Addr} {o : HO} {ds ks : List D} {vs : List V}
theorem ext_new (hn : H p = none) : Ext g H (upd H p o) :=
  ⟨fun a u h _ _ => by rw [upd_ne (ne_of_none h hn)]; exact h, fun a h => by
    by_cases e : a = p
    · rw [e]; exact fr_none hn
    · exact fun u hu => h u (by rw [upd_ne e]; exact hu)⟩
theorem keeps_new (hn : H p = none) : ∀ b u, H b = some u → upd H p o b = some u := fun b u h => by rw [upd_ne (ne_of_none h hn)]; exact h
theorem Cel.new (c : Cel T K mg g H Ss) (hn : H p = none) : Cel T K mg g (upd H p o) Ss :=
  ⟨c.len, c.nd, fun i a d h1 h2 => by
    have k := c.at_ i a d h1 h2
    have hp : p ∉ g.cs := c.off (fr_none hn)
    have up : Up g g := ⟨fun _ z => z, [], by simp⟩
    cases d with
    | lst xs => obtain ⟨vs, q1, q2⟩ := k; exact ⟨vs, keeps_new hn _ _ q1, q2.up up (ext_new hn)⟩
    | dic ks vs => obtain ⟨ps, q1, q2, q3⟩ := k; exact ⟨ps, keeps_new hn _ _ q1, q2.up up (ext_new hn), q3.up up (ext_new hn)⟩
    | _ => exact k.elim, c.tabs.ext (keeps_new hn), fun a z e => c.zt a z ((ext_new (g := g) hn).dom a e)⟩
theorem nxt_new (c : Cel T K mg g H Ss) (hn : H p = none) (ot : NoTbl o) : Nxt T K mg g H Ss (g.add p (c.off (fr_none hn))) (upd H p o) :=
  ⟨Grow.add (fr_none hn) (c.off (fr_none hn)), ext_new hn, (c.new hn).add (c.off (fr_none hn)) (fun f => f o upd_same ot)⟩
theorem nxt_newF (c : Cel T K mg g H Ss) (hn : H p = none) : Nxt T K mg g H Ss g (upd H p o) := ⟨Grow.refl g H, ext_new hn, c.new hn⟩
theorem Reps.at_new (c : Cel T K mg g H Ss) (hn : H p = none) (r : Reps K mg g H ds vs) : Reps K mg (g.add p (c.off (fr_none hn))) (upd H p o) ds vs :=
  r.mono (Grow.add (fr_none hn) (c.off (fr_none hn))) (ext_new hn)
theorem Reps.at_newF (hn : H p = none) (r : Reps K mg g H ds vs) : Reps K mg g (upd H p o) ds vs := r.mono (Grow.refl g H) (ext_new hn)
theorem new_lst (c : Cel T K mg g H Ss) (q : ∀ g' H' z, Nxt T K mg g H Ss g' H' → kR K mg (.lst ds) H g' H' z → Q z H') (r : Reps K mg g H ds vs) : ∀ p, H p = none → Q (.ref p) (upd H p (.lst vs)) := fun p hn =>
  q _ _ _ (nxt_new c hn noTbl_lst) ⟨p, vs, rfl, .inr rfl, upd_same, r.at_new c hn⟩
theorem new_lstF (c : Cel T K mg g H Ss) (q : ∀ g' H' z, Nxt T K mg g H Ss g' H' → kF K mg (.lst ds) H g' H' z → Q z H') (r : Reps K mg g H ds vs) : ∀ p, H p = none → Q (.ref p) (upd H p (.lst vs)) := fun p hn =>
  q _ _ _ (nxt_newF c hn) ⟨p, rfl, fr_none hn, c.off (fr_none hn), fun z => c.zt p z (fr_none hn), vs, upd_same, r.at_newF hn⟩
theorem new_tup (c : Cel T K mg g H Ss) (q : ∀ g' H' z, Nxt T K mg g H Ss g' H' → kR K mg (.tup ds) H g' H' z → Q z H') (r : Reps K mg g H ds vs) : ∀ p, H p = none → Q (.ref p) (upd H p (.tup vs)) := fun p hn =>
  q _ _ _ (nxt_new c hn noTbl_tup) ⟨p, vs, rfl, .inr rfl, upd_same, r.at_new c hn⟩
end

/-! ### data of the library's kind -/
mutual
def D.py : D → PyData
  | .non => .none
  | .bl b => .bool b
  | .int i => .int i
  | .str s => .str (S s)
  | .tup xs => .tuple (D.pys xs)
  | .lst xs => .list (D.pys xs)
  | _ => .dict []
def D.pys : List D → List PyData
  | [] => []
  | x :: xs => D.py x :: D.pys xs
end
mutual
/-- plain data of a depth of at most n -/
def D.ok : Nat → D → Bool
  | _, .non => true
  | _, .bl _ => true
  | _, .int _ => true
  | _, .str s => s.all (· < 0x110000)
  | n + 1, .tup xs => D.oks n xs
  | n + 1, .lst xs => D.oks n xs
  | _, _ => false
def D.oks : Nat → List D → Bool
  | _, [] => true
  | n, x :: xs => D.ok n x && D.oks n xs
end
mutual
theorem D.ok_lay : ∀ (n : Nat) (d : D), D.ok n d = true → d.py.canLay0 = true ∧ d.py.depth ≤ n
  | _, .non, _ => ⟨rfl, Nat.zero_le _⟩
  | _, .bl _, _ => ⟨rfl, Nat.zero_le _⟩
  | _, .int _, _ => ⟨rfl, Nat.zero_le _⟩
  | _, .str s, h => ⟨by
    have h' : s.all (· < 0x110000) = true := by simpa [D.ok] using h
    show PyData.strOk (S s) = true
    unfold PyData.strOk
    simpa using h', Nat.zero_le _⟩
  | n + 1, .tup xs, h => by
    obtain ⟨h1, h2⟩ := D.oks_lay n xs (by simpa [D.ok] using h)
    exact ⟨h1, Nat.succ_le_succ h2⟩
  | n + 1, .lst xs, h => by
    obtain ⟨h1, h2⟩ := D.oks_lay n xs (by simpa [D.ok] using h)
    exact ⟨h1, Nat.succ_le_succ h2⟩
  | 0, .tup _, h => by simp [D.ok] at h
  | 0, .lst _, h => by simp [D.ok] at h
  | _, .dic _ _, h => by simp [D.ok] at h
  | _, .fn _, h => by simp [D.ok] at h
  | _, .ty _, h => by simp [D.ok] at h
  | _, .exo _ _, h => by simp [D.ok] at h
  | _, .cel _, h => by simp [D.ok] at h
  | _, .scr _, h => by simp [D.ok] at h
theorem D.oks_lay : ∀ (n : Nat) (ds : List D), D.oks n ds = true → PyData.canLayAll0 (D.pys ds) = true ∧ PyData.depthAll (D.pys ds) ≤ n
  | _, [], _ => ⟨rfl, Nat.zero_le _⟩
  | n, x :: xs, h => by
    have h' : D.ok n x = true ∧ D.oks n xs = true := by simpa [D.oks] using h
    obtain ⟨a1, a2⟩ := D.ok_lay n x h'.1
    obtain ⟨b1, b2⟩ := D.oks_lay n xs h'.2
    refine ⟨?_, ?_⟩
    · show (PyData.canLay0 x.py && PyData.canLayAll0 (D.pys xs)) = true
      rw [a1, b1]; rfl
    · show max (PyData.depth x.py) (PyData.depthAll (D.pys xs)) ≤ n
      omega
end
theorem D.ok_shaped {n : Nat} {d : D} (h : D.ok n d = true) (hn : n ≤ 64) : SeqAt.shaped d.py = true := by
  obtain ⟨a, b⟩ := D.ok_lay n d h
  unfold SeqAt.shaped
  rw [a, decide_eq_true (Nat.le_trans b hn)]; rfl
section
variable {K : PySem.W.Frag} {mg : Str → Option Value} {g : Reg} {H : Hp}
mutual
theorem Rep.dp : ∀ (n : Nat) (d : D) (v : V), D.ok n d = true → Rep K mg g H d v → Dp K H v d.py
  | _, .non, _, _, h => by rw [show _ = V.non from h]; exact .non
  | _, .bl b, _, _, h => by rw [show _ = V.bl b from h]; exact .bl b
  | _, .int i, _, _, h => by rw [show _ = V.int i from h]; exact .int i
  | _, .str s, _, _, h => by rw [show _ = V.str (S s) from h]; exact .str _
  | n + 1, .tup xs, v, k, h => by
    obtain ⟨a, vs, rfl, _, h1, h2⟩ := h
    exact .tup (SqT.of h1) (Reps.dp n xs vs (by simpa [D.ok] using k) h2)
  | n + 1, .lst xs, v, k, h => by
    obtain ⟨a, vs, rfl, _, h1, h2⟩ := h
    exact .lst (SqL.of h1) (Reps.dp n xs vs (by simpa [D.ok] using k) h2)
  | 0, .tup _, _, h, _ => by simp [D.ok] at h
  | 0, .lst _, _, h, _ => by simp [D.ok] at h
  | _, .dic _ _, _, h, _ => by simp [D.ok] at h
  | _, .fn _, _, h, _ => by simp [D.ok] at h
  | _, .ty _, _, h, _ => by simp [D.ok] at h
  | _, .exo _ _, _, h, _ => by simp [D.ok] at h
  | _, .cel _, _, h, _ => by simp [D.ok] at h
  | _, .scr _, _, h, _ => by simp [D.ok] at h
theorem Reps.dp : ∀ (n : Nat) (ds : List D) (vs : List V), D.oks n ds = true → Reps K mg g H ds vs → DpAll K H vs (D.pys ds)
  | _, [], _, _, h => by rw [show _ = ([] : List V) from h]; exact .nil
  | n, x :: xs, _, k, h => by
    obtain ⟨v, r, rfl, h1, h2⟩ := h
    have k' : D.ok n x = true ∧ D.oks n xs = true := by simpa [D.oks] using k
    exact .cons (Rep.dp n x v k'.1 h1) (Reps.dp n xs r k'.2 h2)
end
theorem RepT.dp {n : Nat} {d : D} {v : V} (k : D.ok n d = true) (h : RepT K mg g H d v) : Dp K H v d.py := by
  cases d with
  | lst xs =>
    obtain ⟨a, rfl, _, vs, h1, h2⟩ := h
    cases n with
    | zero => simp [D.ok] at k
    | succ n => exact .lst (SqL.of h1) (Reps.dp n xs vs (by simpa [D.ok] using k) h2)
  | dic ks vs => cases n <;> simp [D.ok] at k
  | _ => exact Rep.dp (mg := mg) (g := g) n _ v k h
theorem Reps.length : ∀ {ds : List D} {vs : List V}, Reps K mg g H ds vs → vs.length = ds.length
  | [], _, h => by rw [show _ = ([] : List V) from h]; rfl
  | _ :: _, _, h => by obtain ⟨v, r, rfl, _, h2⟩ := h; rw [List.length_cons, List.length_cons, Reps.length h2]
theorem Reps.append : ∀ {ds es : List D} {vs us : List V}, Reps K mg g H ds vs → Reps K mg g H es us → Reps K mg g H (ds ++ es) (vs ++ us)
  | [], _, _, _, h, k => by rw [show _ = ([] : List V) from h]; exact k
  | _ :: _, _, _, _, h, k => by obtain ⟨v, r, rfl, h1, h2⟩ := h; exact ⟨v, r ++ _, rfl, h1, Reps.append h2 k⟩
theorem Reps.get : ∀ {ds : List D} {vs : List V} {i : Nat} {d : D}, Reps K mg g H ds vs → ds[i]? = some d → ∃ v, vs[i]? = some v ∧ Rep K mg g H d v
  | _ :: _, _, 0, d, h, e => by
    obtain ⟨v, r, rfl, h1, _⟩ := h
    simp at e; subst e
    exact ⟨v, rfl, h1⟩
  | _ :: _, _, i + 1, d, h, e => by
    obtain ⟨v, r, rfl, _, h2⟩ := h
    obtain ⟨u, q1, q2⟩ := Reps.get (i := i) h2 (by simpa using e)
    exact ⟨u, by simpa using q1, q2⟩
theorem Reps.take : ∀ {ds : List D} {vs : List V} (n : Nat), Reps K mg g H ds vs → Reps K mg g H (ds.take n) (vs.take n)
  | [], _, n, h => by rw [show _ = ([] : List V) from h]; simp [Reps]
  | _ :: _, _, 0, h => by simp [Reps]
  | _ :: _, _, n + 1, h => by obtain ⟨v, r, rfl, h1, h2⟩ := h; exact ⟨v, r.take n, rfl, h1, Reps.take n h2⟩
theorem Reps.drop : ∀ {ds : List D} {vs : List V} (n : Nat), Reps K mg g H ds vs → Reps K mg g H (ds.drop n) (vs.drop n)
  | [], _, n, h => by rw [show _ = ([] : List V) from h]; simp [Reps]
  | _ :: _, _, 0, h => h
  | _ :: _, _, n + 1, h => by obtain ⟨v, r, rfl, h1, h2⟩ := h; exact Reps.drop n h2
theorem Reps.rep {ds : List D} {vs : List V} (h : Reps K mg g H ds vs) : ∀ n : Nat, Reps K mg g H (List.replicate n ds).flatten (List.replicate n vs).flatten
  | 0 => rfl
  | n + 1 => by simpa [List.replicate_succ] using h.append (Reps.rep h n)
theorem Reps.reverse {ds : List D} {vs : List V} (h : Reps K mg g H ds vs) : Reps K mg g H ds.reverse vs.reverse := by
  induction ds generalizing vs with
  | nil => rw [show _ = ([] : List V) from h]; rfl
  | cons d ds ih =>
    obtain ⟨v, r, rfl, h1, h2⟩ := h
    have h3 : Reps K mg g H [d] [v] := ⟨v, [], rfl, h1, rfl⟩
    have h4 := Reps.append (ih h2) h3
    simpa using h4
theorem Reps.set : ∀ {ds : List D} {vs : List V} (i : Nat) {d : D} {v : V}, Reps K mg g H ds vs → Rep K mg g H d v → Reps K mg g H (ds.set i d) (vs.set i v)
  | [], _, _, _, _, h, _ => by rw [show _ = ([] : List V) from h]; rfl
  | _ :: _, _, 0, _, _, h, k => by obtain ⟨v, r, rfl, _, h2⟩ := h; exact ⟨_, r, rfl, k, h2⟩
  | _ :: _, _, i + 1, _, _, h, k => by obtain ⟨v, r, rfl, h1, h2⟩ := h; exact ⟨v, _, rfl, h1, Reps.set i h2 k⟩
end
end Dm
end
section
namespace Dm
open PySem PySem.Spec L2

def ofO (o : Option D) (Ss : List D) : R D := match o with
  | some d => .ok d Ss
  | none => .bad
def mOp2 (F : D → D → Option D) (ma mb : M D) : M D := fun ρ Ss => (ma ρ Ss).bind fun d1 S1 => (mb ρ S1).bind fun d2 S2 => ofO (F d1 d2) S2
def mOp1 (F : D → Option D) (ma : M D) : M D := fun ρ Ss => (ma ρ Ss).bind fun d1 S1 => ofO (F d1) S1

def OpD (X : Cx) (T : List (Addr × Str)) (k : Kind) (f : Value → Value → Sem Value) (F : D → D → Option D) : Prop :=
  ∀ (g : Reg) (H : Hp) (Ss : List D) (d1 d2 d : D) (x y : V) (Q : VK), Cel T X.K X.mg g H Ss → RepT X.K X.mg g H d1 x → RepT X.K X.mg g H d2 y → F d1 d2 = some d →
    (∀ g' H' z, Nxt T X.K X.mg g H Ss g' H' → k d H g' H' z → Q z H') → ∃ r, OpR X f r ∧ r x y H Q
def UnD (X : Cx) (T : List (Addr × Str)) (k : Kind) (f : Value → Sem Value) (F : D → Option D) : Prop :=
  ∀ (g : Reg) (H : Hp) (Ss : List D) (d1 d : D) (x : V) (Q : VK), Cel T X.K X.mg g H Ss → RepT X.K X.mg g H d1 x → F d1 = some d →
    (∀ g' H' z, Nxt T X.K X.mg g H Ss g' H' → k d H g' H' z → Q z H') → ∃ r, UnR X f r ∧ r x H Q
def KMono {α β : Type} (k : α → Hp → Reg → Hp → β → Prop) : Prop := ∀ (g : Reg) c H g' H' v H0, Ext g H0 H → k c H g' H' v → k c H0 g' H' v

section
variable {X : Cx} {T : List (Addr × Str)} {Wx : Wish} {a b : Expr} {ma mb : M D} {k : Kind} {K : PySem.W.Frag} {mg : Str → Option Value}
theorem kR_mono : KMono (kR K mg) := fun _ _ _ _ _ _ _ _ h => h
theorem kP_mono : KMono (kP K mg) := fun _ _ _ _ _ _ _ _ h => h
theorem kF_mono : KMono (kF K mg) := fun _ _ _ _ _ _ _ e ⟨a, h1, h2, h3⟩ => ⟨a, h1, e.dom a h2, h3⟩
theorem kB_mono : KMono kB := fun _ _ _ _ _ _ _ _ h => h
theorem kRs_mono : KMono (kRs K mg) := fun _ _ _ _ _ _ _ _ h => h
theorem kPs_mono : KMono (kPs K mg) := fun _ _ _ _ _ _ _ _ h => h
/-- two parts, then what is made of both -/
theorem two_parts {γ δ : Type} {k2 : γ → Hp → Reg → Hp → δ → Prop} (hk : KMono k2) {σ : L2.St} {H : Hp} {g : Reg} {ρ : DEnv} {Ss : List D} {f : D → D → List D → R γ} {Q : δ → Hp → Prop} {Rr : V → V → Hp → Prop} (e : REnv X.K X.mg g H ρ σ) (c : Cel T X.K X.mg g H Ss)
    (h : ResG T X.K X.mg Wx k2 g H ((ma ρ Ss).bind fun d1 S1 => (mb ρ S1).bind fun d2 S2 => f d1 d2 S2) Q)
    (hR : ∀ d1 d2 S2 g2 H2 x y, REnv X.K X.mg g2 H2 ρ σ → Cel T X.K X.mg g2 H2 S2 → RepT X.K X.mg g2 H2 d1 x → RepT X.K X.mg g2 H2 d2 y → ResG T X.K X.mg Wx k2 g2 H2 (f d1 d2 S2) Q → Rr x y H2) :
    tK T X.K X.mg Wx (kP X.K X.mg) ma σ H fun x H1 => tK T X.K X.mg Wx (kP X.K X.mg) mb σ H1 fun y H2 => Rr x y H2 :=
  ⟨g, ρ, Ss, e, c, h.then (hk g) fun d1 S1 g1 H1 x _ n1 k1 h1 => ⟨g1, ρ, S1, e.mono n1, n1.ce, h1.then (hk g1) fun d2 S2 g2 H2 y _ n2 k2 h2 =>
    hR d1 d2 S2 g2 H2 x y ((e.mono n1).mono n2) n2.ce (RepT.mono n2.gr n2.ex k1) k2 h2⟩⟩
theorem pe_op2 {op : Operator} {F : D → D → Option D} {pos : Pos} (hk : KMono k) (ho : OpD X T k (binaryOp op) F) (ha : DP X T Wx a ma) (hb : DP X T Wx b mb) : PE X (.BinOp a op b pos) (tK T X.K X.mg Wx k (mOp2 F ma mb)) := by
  refine ⟨fun pins s σ H Q I ⟨g, ρ, Ss, e, c, r⟩ => ?_⟩
  refine wpAny_BinOp (binT (R := fun x y H2 => ∃ r, OpR X (binaryOp op) r ∧ r x y H2 Q) ha hb I (two_parts hk e c r fun d1 d2 S2 g2 H2 x y _ c2 r1 r2 h => ?_) fun v u s2 x y H2 I2 rx ry q => ?_)
  · cases hF : F d1 d2 with
    | none => rw [hF] at h; exact h.elim
    | some d => rw [hF] at h; exact ho g2 H2 S2 d1 d2 d x y Q c2 r1 r2 hF h
  · obtain ⟨r, hr, q⟩ := q
    exact hr pins s2 σ H2 x y v u Q I2 rx ry q
theorem pe_cmp2 {op : CmpOp} {F : D → D → Option D} {pos : Pos} (hk : KMono k) (ho : OpD X T k (compareOp op) F) (ha : DP X T Wx a ma) (hb : DP X T Wx b mb) (hm : behindInMarks op b = false) : PE X (.Compare a [op] [b] pos) (tK T X.K X.mg Wx k (mOp2 F ma mb)) := by
  refine ⟨fun pins s σ H Q I ⟨g, ρ, Ss, e, c, r⟩ => ?_⟩
  refine wpAny_Compare1 (binT (R := fun x y H2 => ∃ r, OpR X (compareOp op) r ∧ r x y H2 Q) ha hb I (two_parts hk e c r fun d1 d2 S2 g2 H2 x y _ c2 r1 r2 h => ?_) fun v u s2 x y H2 I2 rx ry q => ?_) hm
  · cases hF : F d1 d2 with
    | none => rw [hF] at h; exact h.elim
    | some d => rw [hF] at h; exact ho g2 H2 S2 d1 d2 d x y Q c2 r1 r2 hF h
  · obtain ⟨r, hr, q⟩ := q
    exact hr pins s2 σ H2 x y v u Q I2 rx ry q
theorem pe_un1 {op : UnaryOp} {F : D → Option D} {pos : Pos} (hk : KMono k) (ho : UnD X T k (unaryOp op) F) (ha : DP X T Wx a ma) : PE X (.UnaryOp op a pos) (tK T X.K X.mg Wx k (mOp1 F ma)) := by
  refine ⟨fun pins s σ H Q I ⟨g, ρ, Ss, e, c, r⟩ => ?_⟩
  refine PyProof.Rows.UnaryOp_ (thn (ha.run pins s σ H (fun x H1 => ∃ r, UnR X (unaryOp op) r ∧ r x H1 Q) I ⟨g, ρ, Ss, e, c, r.then (hk g) fun d1 S1 g1 H1 x _ n1 k1 h1 => ?_⟩) fun v s1 ⟨x, H1, I1, r1, q⟩ => ?_)
  · cases hF : F d1 with
    | none => rw [hF] at h1; exact h1.elim
    | some d => rw [hF] at h1; exact ho g1 H1 S1 d1 d x Q n1.ce k1 hF h1
  · obtain ⟨r, hr, q⟩ := q
    exact hr pins s1 σ H1 x v Q I1 r1 q
end
end Dm
end
section
namespace Dm
open PySem PySem.Spec L2

abbrev big : Nat := 16777216
theorem big_eq : sizeLine = big := by decide

def addD : D → D → Option D
  | .int i, .int j => some (.int (i + j))
  | .str a, .str b => if a.length + b.length ≤ big then some (.str (a ++ b)) else none
  | .tup a, .tup b => if a.length + b.length ≤ big then some (.tup (a ++ b)) else none
  | .lst a, .lst b => if a.length + b.length ≤ big then some (.lst (a ++ b)) else none
  | _, _ => none
def catD : D → D → Option D
  | .lst a, .lst b => if a.length + b.length ≤ big then some (.lst (a ++ b)) else none
  | _, _ => none
def subD : D → D → Option D
  | .int i, .int j => some (.int (i - j))
  | _, _ => none
def mulOk (i j : Int) : Prop := i.natAbs.log2 + j.natAbs.log2 < 100000000
instance (i j : Int) : Decidable (mulOk i j) := inferInstanceAs (Decidable (_ < _))
def repOk (n : Nat) (k : Int) : Prop := 2 ≤ k ∧ k ≤ 1000 ∧ n ≤ 1000 ∧ n ≠ 0
instance (n : Nat) (k : Int) : Decidable (repOk n k) := inferInstanceAs (Decidable (_ ∧ _))
def mulD : D → D → Option D
  | .int i, .int j => if mulOk i j then some (.int (i * j)) else none
  | .str a, .int k => if 0 ≤ k ∧ k ≤ 1000 ∧ a.length ≤ 1000 then some (.str (List.replicate k.toNat a).flatten) else none
  | .tup a, .int k => if repOk a.length k then some (.tup (List.replicate k.toNat a).flatten) else none
  | .lst a, .int k => if 0 ≤ k ∧ k ≤ 1000 ∧ a.length ≤ 1000 then some (.lst (List.replicate k.toNat a).flatten) else none
  | _, _ => none
def repF : D → D → Option D
  | .lst a, .int k => if 0 ≤ k ∧ k ≤ 1000 ∧ a.length ≤ 1000 then some (.lst (List.replicate k.toNat a).flatten) else none
  | _, _ => none
def divOk (j : Int) : Prop := 0 < j ∧ j.natAbs.log2 < 9000
instance (j : Int) : Decidable (divOk j) := inferInstanceAs (Decidable (_ ∧ _))
def fdivD : D → D → Option D
  | .int i, .int j => if divOk j then some (.int (i / j)) else none
  | _, _ => none
def modD : D → D → Option D
  | .int i, .int j => if 0 < j then some (.int (i % j)) else none
  | _, _ => none
def powD : D → D → Option D
  | .int i, .int j => if 0 ≤ j ∧ j ≤ 1000 ∧ i.natAbs < 2 ^ 64 then some (.int (i ^ j.toNat)) else none
  | _, _ => none
def negD : D → Option D
  | .int i => some (.int (-i))
  | _ => none
def eqB (d e : D) : Bool := PyData.eqv d.py e.py
def eqD (d e : D) : Option D := if D.ok 60 d && D.ok 60 e then some (.bl (eqB d e)) else none
def neD (d e : D) : Option D := if D.ok 60 d && D.ok 60 e then some (.bl (!eqB d e)) else none
def ltD : D → D → Option D
  | .int i, .int j => some (.bl (decide (i < j)))
  | .str a, .str b => some (.bl (decide (a < b)))
  | _, _ => none
def leD : D → D → Option D
  | .int i, .int j => some (.bl (decide (i ≤ j)))
  | .str a, .str b => some (.bl (!decide (b < a)))
  | _, _ => none
def gtD : D → D → Option D
  | .int i, .int j => some (.bl (decide (j < i)))
  | .str a, .str b => some (.bl (decide (b < a)))
  | _, _ => none
def geD : D → D → Option D
  | .int i, .int j => some (.bl (decide (j ≤ i)))
  | .str a, .str b => some (.bl (!decide (a < b)))
  | _, _ => none
def isNon : D → Bool
  | .non => true
  | _ => false
def isD : D → D → Option D
  | d, .non => some (.bl (isNon d))
  | _, _ => none
def isntD : D → D → Option D
  | d, .non => some (.bl (!isNon d))
  | _, _ => none
/-- x in y -/
def inB : D → D → Option Bool
  | .str [c], .str s => some (decide (c ∈ s))
  | d, .lst ds => if D.ok 60 d && D.oks 60 ds then some (ds.any fun z => eqB z d) else none
  | d, .tup ds => if D.ok 0 d && D.oks 0 ds then some (ds.any fun z => eqB z d) else none
  | _, _ => none
def inD (d e : D) : Option D := (inB d e).map .bl
def ninD (d e : D) : Option D := (inB d e).map fun b => .bl (!b)

section
variable {X : Cx} {T : List (Addr × Str)}
theorem RepT.int_ {K : PySem.W.Frag} {mg : Str → Option Value} {g : Reg} {H : Hp} {i : Int} {v : V} (h : RepT K mg g H (.int i) v) : v = .int i := h
theorem RepT.str_ {K : PySem.W.Frag} {mg : Str → Option Value} {g : Reg} {H : Hp} {i : List Nat} {v : V} (h : RepT K mg g H (.str i) v) : v = .str (S i) := h
theorem S_app (a b : List Nat) : S a ++ S b = S (a ++ b) := by
  show (⟨a.toArray ++ b.toArray⟩ : Str) = ⟨(a ++ b).toArray⟩
  simp
abbrev kk (X : Cx) : Kind := kR X.K X.mg

theorem fin_ {g : Reg} {H : Hp} {Ss : List D} {d : D} {v : V} {Q : VK} (c : Cel T X.K X.mg g H Ss) (q : ∀ g' H' z, Nxt T X.K X.mg g H Ss g' H' → kR X.K X.mg d H g' H' z → Q z H') (r : Rep X.K X.mg g H d v) : Q v H := q g H v (Nxt.refl c) r
theorem od_add : OpD X T (kk X) (binaryOp .Add) addD := by
  intro g H Ss d1 d2 d x y Q c r1 r2 hF q
  unfold addD at hF
  split at hF
  · cases hF
    exact ⟨_, op_add, _, _, r1, r2, fin_ c q rfl⟩
  · split at hF
    · rename_i a b hl
      cases hF
      exact ⟨_, op_add_str, _, _, r1, r2, by rw [S_len, S_len, big_eq]; exact hl, fin_ c q (by rw [S_app]; rfl)⟩
    · cases hF
  · split at hF
    · rename_i a b hl
      cases hF
      obtain ⟨p, vs, rfl, z1, h1, h2⟩ := r1
      obtain ⟨p', vs', rfl, z1', h1', h2'⟩ := r2
      have l1 := h2.length
      have l2 := h2'.length
      refine ⟨_, op_catA, p, p', vs, vs', rfl, rfl, SqT.of h1, SqT.of h1', by rw [l1, l2, big_eq]; exact hl, fun e => ?_, fun _ e => ?_, fun _ _ => new_tup c q (h2.append h2')⟩
      · subst e
        refine fin_ c q ⟨p', vs', rfl, z1', h1', ?_⟩
        exact h2.append h2'
      · subst e
        refine fin_ c q ⟨p, vs, rfl, z1, h1, ?_⟩
        have := h2.append h2'
        rwa [List.append_nil] at this
    · cases hF
  · split at hF
    · rename_i a b hl
      cases hF
      obtain ⟨p, rfl, z1, vs, h1, h2⟩ := r1
      obtain ⟨p', rfl, z1', vs', h1', h2'⟩ := r2
      exact ⟨_, op_cat, p, p', vs, vs', rfl, rfl, h1, h1', by rw [h2.length, h2'.length, big_eq]; exact hl, new_lst c q (h2.append h2')⟩
    · cases hF
  · cases hF
theorem od_cat : OpD X T (kF X.K X.mg) (binaryOp .Add) catD := by
  intro g H Ss d1 d2 d x y Q c r1 r2 hF q
  unfold catD at hF
  split at hF
  · split at hF
    · rename_i a b hl
      cases hF
      obtain ⟨p, rfl, z1, vs, h1, h2⟩ := r1
      obtain ⟨p', rfl, z1', vs', h1', h2'⟩ := r2
      exact ⟨_, op_cat, p, p', vs, vs', rfl, rfl, h1, h1', by rw [h2.length, h2'.length, big_eq]; exact hl, new_lstF c q (h2.append h2')⟩
    · cases hF
  · cases hF
theorem od_sub : OpD X T (kk X) (binaryOp .Sub) subD := by
  intro g H Ss d1 d2 d x y Q c r1 r2 hF q
  unfold subD at hF
  split at hF
  · cases hF; exact ⟨_, op_sub, _, _, r1, r2, fin_ c q rfl⟩
  · cases hF
theorem mulOk.ok {i j : Int} (h : mulOk i j) : IntMulOk i j := by
  have b : ∀ x : Int, Builtin.Int.intBits x ≤ x.natAbs.log2 + 1 := fun x => by
    unfold Builtin.Int.intBits
    split <;> omega
  have h1 := b i
  have h2 := b j
  have h3 : i.natAbs.log2 + j.natAbs.log2 < 100000000 := h
  have e : bitsLine = 134217728 := by decide
  unfold IntMulOk
  intro z
  rw [Bool.and_eq_true] at z
  have z2 := z.2
  unfold Builtin.Int.intTooBig at z2
  have z3 := of_decide_eq_true z2
  rw [e] at z3
  omega
theorem op_mulD : OpR X (binaryOp .Mult) (rI mulOk fun i j => .int (i * j)) := opI fun _ _ _ _ _ _ _ hc q => PyProof.Rows.mul_int q (mulOk.ok hc)
theorem txt_mul (a : List Nat) (k : Int) (h0 : 0 ≤ k) : PySem.Txt.mul (S a) k = S (List.replicate k.toNat a).flatten := by
  unfold PySem.Txt.mul
  split
  · rename_i h
    have : k.toNat = 0 := by omega
    rw [this]; rfl
  · split
    · rename_i h1 h2
      simp only [Bool.or_eq_true, beq_iff_eq] at h2
      rcases h2 with h2 | h2
      · subst h2; simp
      · rw [S_len] at h2
        have : a = [] := List.length_eq_zero_iff.mp h2
        subst this
        simp
    · show (⟨_⟩ : Str) = ⟨_⟩
      congr 1
      have key : ∀ (n : Nat) (acc : List Nat), List.foldl (fun x1 x2 => x1 ++ x2) acc.toArray (List.replicate n a.toArray) = (acc ++ (List.replicate n a).flatten).toArray := by
        intro n
        induction n with
        | zero => intro acc; simp
        | succ n ih => intro acc; rw [List.replicate_succ, List.replicate_succ, List.foldl_cons, List.flatten_cons, ← List.append_assoc, ← ih]; simp
      have := key k.toNat []
      simpa using this
theorem op_mul_str : OpR X (binaryOp .Mult) (fun x y H Q => ∃ a k, x = .str (S a) ∧ y = .int k ∧ 0 ≤ k ∧ k ≤ 1000 ∧ a.length ≤ 1000 ∧ Q (.str (S (List.replicate k.toNat a).flatten)) H) := by
  intro pins s σ H x y v u Q I rx ry h
  obtain ⟨a, k, rfl, rfl, h0, h1, h2, q⟩ := h
  obtain ⟨t, rfl⟩ := rx
  obtain ⟨t', rfl⟩ := ry
  refine PySem.SB.mul ⟨?_, fun _ _ => ?_, fun _ _ => ?_⟩ fun t' n => ⟨.str (PySem.Txt.mul (S a) k), H, I.tok _, ⟨_, rfl⟩, ?_⟩
  · have e1 : decide (k < -(2 ^ 63 : Int)) = false := decide_eq_false (by omega)
    have e2 : decide (k ≥ 2 ^ 63) = false := decide_eq_false (by omega)
    rw [e1, e2]; rfl
  · rw [S_len]
    rename_i hk _
    have hk' : 1 ≤ k := by omega
    have : (2 ^ 63 - 1 : Int) / 1000 ≤ (2 ^ 63 - 1) / k := by
      apply Int.le_ediv_of_mul_le (by omega)
      omega
    omega
  · rw [S_len]
    unfold Builtin.Str.tooLong
    apply decide_eq_false
    have : a.length * k.toNat ≤ 1000 * 1000 := Nat.mul_le_mul h2 (by omega)
    have e := big_eq
    have e2 : big = 16777216 := rfl
    omega
  · rw [txt_mul a k h0]; exact q
theorem od_mul : OpD X T (kk X) (binaryOp .Mult) mulD := by
  intro g H Ss d1 d2 d x y Q c r1 r2 hF q
  unfold mulD at hF
  split at hF
  · split at hF
    · rename_i h
      cases hF; exact ⟨_, op_mulD, _, _, r1, r2, h, fin_ c q rfl⟩
    · cases hF
  · split at hF
    · rename_i h
      cases hF; exact ⟨_, op_mul_str, _, _, r1, r2, h.1, h.2.1, h.2.2, fin_ c q rfl⟩
    · cases hF
  · split at hF
    · rename_i a k h
      cases hF
      obtain ⟨p, vs, rfl, z1, h1, h2⟩ := r1
      refine ⟨_, op_repT, p, _, vs, rfl, r2, SqT.of h1, fun e => ?_, h.1, h.2.1, by rw [h2.length]; exact h.2.2.1, new_tup c q (h2.rep _)⟩
      rw [e] at h2
      exact h.2.2.2 (by rw [← h2.length]; rfl)
    · cases hF
  · split at hF
    · rename_i a k h
      cases hF
      obtain ⟨p, rfl, z1, vs, h1, h2⟩ := r1
      refine ⟨_, op_rep, p, _, vs, rfl, r2, h1, by omega, by omega, ?_, new_lst c q (h2.rep _)⟩
      rw [h2.length, big_eq]
      exact Nat.le_trans (Nat.mul_le_mul h.2.2 (show k.toNat ≤ 1000 by omega)) (by decide)
    · cases hF
  · cases hF
theorem od_rep : OpD X T (kF X.K X.mg) (binaryOp .Mult) repF := by
  intro g H Ss d1 d2 d x y Q c r1 r2 hF q
  unfold repF at hF
  split at hF
  · split at hF
    · rename_i a k h
      cases hF
      obtain ⟨p, rfl, z1, vs, h1, h2⟩ := r1
      refine ⟨_, op_rep, p, _, vs, rfl, r2, h1, by omega, by omega, ?_, new_lstF c q (h2.rep _)⟩
      rw [h2.length, big_eq]
      exact Nat.le_trans (Nat.mul_le_mul h.2.2 (show k.toNat ≤ 1000 by omega)) (by decide)
    · cases hF
  · cases hF
theorem od_fdiv : OpD X T (kk X) (binaryOp .FloorDiv) fdivD := by
  intro g H Ss d1 d2 d x y Q c r1 r2 hF q
  unfold fdivD at hF
  split at hF
  · split at hF
    · rename_i h
      cases hF; exact ⟨_, op_fdivW, _, _, r1, r2, h, fin_ c q rfl⟩
    · cases hF
  · cases hF
theorem od_mod : OpD X T (kk X) (binaryOp .Mod) modD := by
  intro g H Ss d1 d2 d x y Q c r1 r2 hF q
  unfold modD at hF
  split at hF
  · split at hF
    · rename_i h
      cases hF; exact ⟨_, op_mod, _, _, r1, r2, h, fin_ c q rfl⟩
    · cases hF
  · cases hF
theorem od_pow : OpD X T (kk X) (binaryOp .Pow) powD := by
  intro g H Ss d1 d2 d x y Q c r1 r2 hF q
  unfold powD at hF
  split at hF
  · split at hF
    · rename_i h
      cases hF; exact ⟨_, op_pow, _, _, r1, r2, ⟨h.1, by omega, h.2.2⟩, fin_ c q rfl⟩
    · cases hF
  · cases hF
theorem ud_neg : UnD X T (kk X) (unaryOp .USub) negD := by
  intro g H Ss d1 d x Q c r1 hF q
  unfold negD at hF
  split at hF
  · cases hF; exact ⟨_, un_neg, _, r1, fin_ c q rfl⟩
  · cases hF
theorem od_eq (hu : X.A.units + 64 < cLine) : OpD X T (kk X) (compareOp .Eq) eqD := by
  intro g H Ss d1 d2 d x y Q c r1 r2 hF q
  unfold eqD at hF
  split at hF
  · rename_i h
    cases hF
    rw [Bool.and_eq_true] at h
    exact ⟨_, op_eqD hu, _, _, r1.dp h.1, r2.dp h.2, D.ok_shaped h.1 (by decide), D.ok_shaped h.2 (by decide), fin_ c q rfl⟩
  · cases hF
theorem od_ne (hu : X.A.units + 64 < cLine) : OpD X T (kk X) (compareOp .NotEq) neD := by
  intro g H Ss d1 d2 d x y Q c r1 r2 hF q
  unfold neD at hF
  split at hF
  · rename_i h
    cases hF
    rw [Bool.and_eq_true] at h
    exact ⟨_, op_neD hu, _, _, r1.dp h.1, r2.dp h.2, D.ok_shaped h.1 (by decide), D.ok_shaped h.2 (by decide), fin_ c q rfl⟩
  · cases hF
theorem S_cps (a : List Nat) : (S a).cps.toList = a := by show a.toArray.toList = a; simp
theorem od_lt : OpD X T (kk X) (compareOp .Lt) ltD := by
  intro g H Ss d1 d2 d x y Q c r1 r2 hF q
  unfold ltD at hF
  split at hF
  · cases hF; exact ⟨_, op_lt, _, _, r1, r2, fin_ c q rfl⟩
  · cases hF; exact ⟨_, op_lt_str, _, _, r1, r2, fin_ c q (by rw [S_cps, S_cps]; rfl)⟩
  · cases hF
theorem od_le : OpD X T (kk X) (compareOp .LtE) leD := by
  intro g H Ss d1 d2 d x y Q c r1 r2 hF q
  unfold leD at hF
  split at hF
  · cases hF; exact ⟨_, op_le, _, _, r1, r2, fin_ c q rfl⟩
  · cases hF; exact ⟨_, op_le_str, _, _, r1, r2, fin_ c q (by rw [S_cps, S_cps]; rfl)⟩
  · cases hF
theorem od_gt : OpD X T (kk X) (compareOp .Gt) gtD := by
  intro g H Ss d1 d2 d x y Q c r1 r2 hF q
  unfold gtD at hF
  split at hF
  · cases hF; exact ⟨_, op_gt, _, _, r1, r2, fin_ c q rfl⟩
  · cases hF; exact ⟨_, op_gt_str, _, _, r1, r2, fin_ c q (by rw [S_cps, S_cps]; rfl)⟩
  · cases hF
theorem od_ge : OpD X T (kk X) (compareOp .GtE) geD := by
  intro g H Ss d1 d2 d x y Q c r1 r2 hF q
  unfold geD at hF
  split at hF
  · cases hF; exact ⟨_, op_ge, _, _, r1, r2, fin_ c q rfl⟩
  · cases hF; exact ⟨_, op_ge_str, _, _, r1, r2, fin_ c q (by rw [S_cps, S_cps]; rfl)⟩
  · cases hF
theorem RepT.non_iff {K : PySem.W.Frag} {mg : Str → Option Value} {g : Reg} {H : Hp} {d : D} {v : V} (h : RepT K mg g H d v) : decide (v = .non) = isNon d := by
  cases d with
  | non => rw [show v = V.non from h]; rfl
  | bl b => rw [show v = V.bl b from h]; rfl
  | int b => rw [show v = V.int b from h]; rfl
  | str b => rw [show v = V.str (S b) from h]; rfl
  | ty b => rw [show v = V.ty b from h]; rfl
  | tup xs => obtain ⟨a, _, rfl, _⟩ := h; rfl
  | lst xs => obtain ⟨a, rfl, _⟩ := h; rfl
  | dic ks vs => obtain ⟨a, rfl, _⟩ := h; rfl
  | fn x => obtain ⟨a, _, rfl⟩ := h; rfl
  | exo x p => obtain ⟨a, _, rfl, _⟩ := h; rfl
  | cel x => obtain ⟨a, rfl, _⟩ := h; rfl
  | scr x => obtain ⟨a, rfl, _⟩ := h; rfl
theorem od_is : OpD X T (kk X) (compareOp .Is) isD := by
  intro g H Ss d1 d2 d x y Q c r1 r2 hF q
  unfold isD at hF
  split at hF
  · cases hF; exact ⟨_, op_isN, r2, fin_ c q (by rw [r1.non_iff]; rfl)⟩
  · cases hF
theorem od_isnt : OpD X T (kk X) (compareOp .IsNot) isntD := by
  intro g H Ss d1 d2 d x y Q c r1 r2 hF q
  unfold isntD at hF
  split at hF
  · cases hF; exact ⟨_, op_notN, r2, fin_ c q (by rw [r1.non_iff]; rfl)⟩
  · cases hF
theorem D.oks_mem : ∀ {n : Nat} {ds : List D} {d : D}, D.oks n ds = true → d ∈ ds → D.ok n d = true
  | n, x :: xs, d, h, m => by
    have h' : D.ok n x = true ∧ D.oks n xs = true := by simpa [D.oks] using h
    rcases List.mem_cons.mp m with e | m
    · rw [e]; exact h'.1
    · exact D.oks_mem h'.2 m
theorem pys_map : ∀ ds : List D, D.pys ds = ds.map D.py
  | [] => rfl
  | x :: xs => by rw [D.pys, pys_map xs]; rfl
theorem flat_of {K : PySem.W.Frag} {mg : Str → Option Value} {g : Reg} {H : Hp} {d : D} {v : V} (k : D.ok 0 d = true) (h : Rep K mg g H d v) : flatV v = true := by
  cases d with
  | non => rw [show v = V.non from h]; rfl
  | bl b => rw [show v = V.bl b from h]; rfl
  | int b => rw [show v = V.int b from h]; rfl
  | str b => rw [show v = V.str (S b) from h]; rfl
  | _ => simp [D.ok] at k
theorem eqV_of {K : PySem.W.Frag} {mg : Str → Option Value} {g : Reg} {H : Hp} {d e : D} {v u : V} (k : D.ok 0 d = true) (h : Rep K mg g H d v) (k2 : D.ok 0 e = true) (h2 : Rep K mg g H e u) : eqV v u = eqB d e := by
  cases d with
  | non => rw [show v = V.non from h]; cases e with
    | non => rw [show u = V.non from h2]; rfl
    | bl b => rw [show u = V.bl b from h2]; rfl
    | int b => rw [show u = V.int b from h2]; rfl
    | str b => rw [show u = V.str (S b) from h2]; rfl
    | _ => simp [D.ok] at k2
  | bl b => rw [show v = V.bl b from h]; cases e with
    | non => rw [show u = V.non from h2]; rfl
    | bl b => rw [show u = V.bl b from h2]; rfl
    | int b => rw [show u = V.int b from h2]; rfl
    | str b => rw [show u = V.str (S b) from h2]; rfl
    | _ => simp [D.ok] at k2
  | int b => rw [show v = V.int b from h]; cases e with
    | non => rw [show u = V.non from h2]; rfl
    | bl b => rw [show u = V.bl b from h2]; rfl
    | int b => rw [show u = V.int b from h2]; rfl
    | str b => rw [show u = V.str (S b) from h2]; rfl
    | _ => simp [D.ok] at k2
  | str b => rw [show v = V.str (S b) from h]; cases e with
    | non => rw [show u = V.non from h2]; rfl
    | bl b => rw [show u = V.bl b from h2]; rfl
    | int b => rw [show u = V.int b from h2]; rfl
    | str b => rw [show u = V.str (S b) from h2]; rfl
    | _ => simp [D.ok] at k2
  | _ => simp [D.ok] at k
theorem flats_of {K : PySem.W.Frag} {mg : Str → Option Value} {g : Reg} {H : Hp} : ∀ {ds : List D} {vs : List V}, D.oks 0 ds = true → Reps K mg g H ds vs → vs.all flatV = true
  | [], _, _, h => by rw [show _ = ([] : List V) from h]; rfl
  | x :: xs, _, k, h => by
    obtain ⟨v, r, rfl, h1, h2⟩ := h
    have k' : D.ok 0 x = true ∧ D.oks 0 xs = true := by simpa [D.oks] using k
    rw [List.all_cons, flat_of k'.1 h1, flats_of k'.2 h2]; rfl
theorem inV_of {K : PySem.W.Frag} {mg : Str → Option Value} {g : Reg} {H : Hp} {d : D} {v : V} (k : D.ok 0 d = true) (h : Rep K mg g H d v) : ∀ {ds : List D} {vs : List V}, D.oks 0 ds = true → Reps K mg g H ds vs → inV v vs = ds.any fun z => eqB z d
  | [], _, _, h => by rw [show _ = ([] : List V) from h]; rfl
  | x :: xs, _, k2, h2 => by
    obtain ⟨u, r, rfl, h3, h4⟩ := h2
    have k' : D.ok 0 x = true ∧ D.oks 0 xs = true := by simpa [D.oks] using k2
    have ih := inV_of k h k'.2 h4
    unfold inV at ih ⊢
    rw [List.any_cons, List.any_cons, eqV_of k'.1 h3 k h, ih]
theorem RepT.flat {K : PySem.W.Frag} {mg : Str → Option Value} {g : Reg} {H : Hp} {d : D} {v : V} (k : D.ok 0 d = true) (h : RepT K mg g H d v) : Rep K mg g H d v := by
  cases d with
  | lst xs => simp [D.ok] at k
  | dic xs ys => simp [D.ok] at k
  | _ => exact h
theorem in_core (hu : X.A.units + 65 < cLine) {g : Reg} {H : Hp} {Ss : List D} {d1 d2 : D} {b : Bool} {x y : V} (r1 : RepT X.K X.mg g H d1 x) (r2 : RepT X.K X.mg g H d2 y) (hF : inB d1 d2 = some b) :
    (∃ r, OpR X (compareOp .In) r ∧ ∀ Q : VK, Q (.bl b) H → r x y H Q) ∧ (∃ r, OpR X (compareOp .NotIn) r ∧ ∀ Q : VK, Q (.bl (!b)) H → r x y H Q) := by
  unfold inB at hF
  split at hF
  · rename_i c s
    cases hF
    refine ⟨⟨_, op_in_sign, fun Q q => ⟨c, _, r1, r2, ?_⟩⟩, ⟨_, op_notIn_sign, fun Q q => ⟨c, _, r1, r2, ?_⟩⟩⟩
    · rw [S_cps]; exact q
    · rw [S_cps]; exact q
  · split at hF
    · rename_i ds h
      cases hF
      rw [Bool.and_eq_true] at h
      have hl : D.ok 61 (.lst ds) = true := by simpa [D.ok] using h.2
      have e : (D.pys ds).any (fun z => PyData.eqv z d1.py) = ds.any fun z => eqB z d1 := by
        rw [pys_map, List.any_map]; rfl
      refine ⟨⟨_, op_inD hu, fun Q q => ⟨_, _, r1.dp h.1, r2.dp hl, D.ok_shaped h.1 (by decide), D.ok_shaped hl (by decide), ?_⟩⟩, ⟨_, op_notInD hu, fun Q q => ⟨_, _, r1.dp h.1, r2.dp hl, D.ok_shaped h.1 (by decide), D.ok_shaped hl (by decide), ?_⟩⟩⟩
      · rw [e]; exact q
      · rw [e]; exact q
    · cases hF
  · split at hF
    · rename_i d ds _ h
      cases hF
      rw [Bool.and_eq_true] at h
      obtain ⟨p, vs, rfl, z, h1, h2⟩ := r2
      have r1' := r1.flat h.1
      refine ⟨⟨_, op_in_seq, fun Q q => ⟨p, vs, rfl, .inr (SqT.of h1), flat_of h.1 r1', flats_of h.2 h2, ?_⟩⟩, ⟨_, op_notIn_seq, fun Q q => ⟨p, vs, rfl, .inr (SqT.of h1), flat_of h.1 r1', flats_of h.2 h2, ?_⟩⟩⟩
      · rw [inV_of h.1 r1' h.2 h2]; exact q
      · rw [inV_of h.1 r1' h.2 h2]; exact q
    · cases hF
  · cases hF
theorem od_in (hu : X.A.units + 65 < cLine) : OpD X T (kk X) (compareOp .In) inD := by
  intro g H Ss d1 d2 d x y Q c r1 r2 hF q
  unfold inD at hF
  obtain ⟨b, hb, rfl⟩ := Option.map_eq_some_iff.mp hF
  obtain ⟨⟨r, h1, h2⟩, _⟩ := in_core (Ss := Ss) hu r1 r2 hb
  exact ⟨r, h1, h2 Q (fin_ c q rfl)⟩
theorem od_nin (hu : X.A.units + 65 < cLine) : OpD X T (kk X) (compareOp .NotIn) ninD := by
  intro g H Ss d1 d2 d x y Q c r1 r2 hF q
  unfold ninD at hF
  obtain ⟨b, hb, rfl⟩ := Option.map_eq_some_iff.mp hF
  obtain ⟨_, r, h1, h2⟩ := in_core (Ss := Ss) hu r1 r2 hb
  exact ⟨r, h1, h2 Q (fin_ c q rfl)⟩
end
end Dm
end
section
namespace Dm
open PySem PySem.Spec L2

/-! ### truth, tests -/
def truD : D → Option Bool
  | .non => some false
  | .bl b => some b
  | .int i => some (i != 0)
  | .str s => if s.length ≤ big then some (!s.isEmpty) else none
  | .tup xs => some (!xs.isEmpty)
  | .lst xs => some (!xs.isEmpty)
  | .dic ks _ => some (!ks.isEmpty)
  | _ => none
def ofB (o : Option Bool) (Ss : List D) : R Bool := match o with
  | some d => .ok d Ss
  | none => .bad
def mTru (m : M D) : M Bool := fun ρ Ss => (m ρ Ss).bind fun d S1 => ofB (truD d) S1
def mNotT (m : M Bool) : M Bool := fun ρ Ss => (m ρ Ss).bind fun b S1 => .ok (!b) S1
def mAndT (m n : M Bool) : M Bool := fun ρ Ss => (m ρ Ss).bind fun b S1 => if b = true then n ρ S1 else .ok false S1
def mOrT (m n : M Bool) : M Bool := fun ρ Ss => (m ρ Ss).bind fun b S1 => if b = true then .ok true S1 else n ρ S1
def mIte {α : Type} (c : M Bool) (m n : M α) : M α := fun ρ Ss => (c ρ Ss).bind fun b S1 => if b = true then m ρ S1 else n ρ S1
def mBl (m : M Bool) : M D := fun ρ Ss => (m ρ Ss).bind fun b S1 => .ok (.bl b) S1
/-- a value that is a bool -/
def asB (m : M D) : M Bool := fun ρ Ss => (m ρ Ss).bind fun d S1 => match d with
  | .bl b => .ok b S1
  | _ => .bad

section
variable {X : Cx} {T : List (Addr × Str)} {Wx : Wish} {a b c : Expr} {ma mb mc : M D} {na nb : M Bool} {k : Kind} {pos : Pos} {rest : List Expr}
theorem RepT.isEmpty {K : PySem.W.Frag} {mg : Str → Option Value} {g : Reg} {H : Hp} {xs : List D} {vs : List V} (h : Reps K mg g H xs vs) : vs.isEmpty = xs.isEmpty := by
  cases xs with
  | nil => rw [show vs = [] from h]; rfl
  | cons x xs => obtain ⟨v, r, rfl, _⟩ := h; rfl
theorem truV_of {g : Reg} {H : Hp} {d : D} {v : V} {b : Bool} (r : RepT X.K X.mg g H d v) (h : truD d = some b) : TruV X.K v H b := by
  cases d with
  | non => rw [show v = V.non from r]; cases h; exact rfl
  | bl b => rw [show v = V.bl b from r]; cases h; exact rfl
  | int i => rw [show v = V.int i from r]; cases h; exact rfl
  | str s =>
    rw [show v = V.str (S s) from r]
    simp only [truD] at h
    split at h
    · rename_i hl
      cases h
      refine ⟨by rw [S_len, big_eq]; exact hl, ?_⟩
      rw [S_len]
      cases s with
      | nil => rfl
      | cons x s => simp; omega
    · cases h
  | tup xs =>
    obtain ⟨p, vs, rfl, _, h1, h2⟩ := r
    cases h
    exact .inr (.inl ⟨vs, SqT.of h1, by rw [RepT.isEmpty h2]⟩)
  | lst xs =>
    obtain ⟨p, rfl, _, vs, h1, h2⟩ := r
    cases h
    exact .inl ⟨vs, SqL.of h1, by rw [RepT.isEmpty h2]⟩
  | dic ks ws =>
    obtain ⟨p, rfl, _, ps, h1, h2, _⟩ := r
    cases h
    refine .inr (.inr ⟨ps, h1, ?_⟩)
    have := RepT.isEmpty h2
    rw [← this]
    cases ps <;> rfl
  | _ => cases h
theorem dt_plain (h : DP X T Wx a ma) (he : ∀ whole, isTrue a X.env whole = (do let v ← whole; standAt a.pos; holding [v] (truthy v))) : DT X T Wx a (mTru ma) :=
  pt_imp (pt_truth h he) fun σ H Q ⟨g, ρ, Ss, e, c, r⟩ => ⟨g, ρ, Ss, e, c, r.then (kB_mono g) fun d S1 g1 H1 v _ n k h1 => by
    cases hF : truD d with
    | none => rw [hF] at h1; exact h1.elim
    | some b => rw [hF] at h1; exact ⟨b, truV_of k hF, h1 g1 H1 b (Nxt.refl n.ce) rfl⟩⟩
theorem dt_not (h : DT X T Wx a na) : DT X T Wx (.UnaryOp .Not a pos) (mNotT na) :=
  pt_imp (pt_not h) fun σ H Q ⟨g, ρ, Ss, e, c, r⟩ => ⟨g, ρ, Ss, e, c, r.then (kB_mono g) fun d S1 g1 H1 v _ n k h1 => by
    subst k; exact h1 g1 H1 _ (Nxt.refl n.ce) rfl⟩
/-- a test whatever its 'whole' is -/
abbrev DW (X : Cx) (T : List (Addr × Str)) (Wx : Wish) (e : Expr) (m : M Bool) : Prop := PW X e (tT T X.K X.mg Wx m)
theorem pw_imp {e : Expr} {t t' : TT} (h : PW X e t) (i : ∀ σ H Q, t' σ H Q → t σ H Q) : PW X e t' := ⟨fun wh pins s σ H Q I w => h.run wh pins s σ H Q I (i _ _ _ w)⟩
theorem dw_and1 (h : DT X T Wx a na) : DW X T Wx (.BoolOp .And [a] pos) na := pw_and1 h
theorem dw_or1 (h : DT X T Wx a na) : DW X T Wx (.BoolOp .Or [a] pos) na := pw_or1 h
theorem dw_and (h : DT X T Wx a na) (h2 : DW X T Wx (.BoolOp .And (b :: rest) pos) nb) : DW X T Wx (.BoolOp .And (a :: b :: rest) pos) (mAndT na nb) :=
  pw_imp (pw_and h h2) fun σ H Q ⟨g, ρ, Ss, e, c, r⟩ => ⟨g, ρ, Ss, e, c, r.then (kB_mono g) fun d S1 g1 H1 v _ n k h1 => by
    subst k
    cases v with
    | true => exact ⟨g1, ρ, S1, e.mono n, n.ce, h1⟩
    | false => exact h1 g1 H1 _ (Nxt.refl n.ce) rfl⟩
theorem dw_or (h : DT X T Wx a na) (h2 : DW X T Wx (.BoolOp .Or (b :: rest) pos) nb) : DW X T Wx (.BoolOp .Or (a :: b :: rest) pos) (mOrT na nb) :=
  pw_imp (pw_or h h2) fun σ H Q ⟨g, ρ, Ss, e, c, r⟩ => ⟨g, ρ, Ss, e, c, r.then (kB_mono g) fun d S1 g1 H1 v _ n k h1 => by
    subst k
    cases v with
    | false => exact ⟨g1, ρ, S1, e.mono n, n.ce, h1⟩
    | true => exact h1 g1 H1 _ (Nxt.refl n.ce) rfl⟩
theorem dt_ite {c0 : Expr} {ne : M Bool} (h : DT X T Wx c0 na) (h1 : DT X T Wx a nb) (h2 : DT X T Wx b ne) : DT X T Wx (.IfExp c0 a b pos) (mIte na nb ne) := by
  refine ⟨fun pins s σ H Q I ⟨g, ρ, Ss, e, c, r⟩ => ?_⟩
  show wpAny (model X.prog X.w) X.A (do if ← PySem.isTrue c0 X.env (eval c0 X.env) then PySem.isTrue a X.env (eval a X.env) else PySem.isTrue b X.env (eval b X.env)) _ _ _
  refine wpAny_bind (thn (h.run pins s σ H (fun b H1 => tT T X.K X.mg Wx (if b = true then nb else ne) σ H1 Q) I ⟨g, ρ, Ss, e, c, r.then (kB_mono g) fun d S1 g1 H1 v _ n k h1 => by
    subst k
    refine ⟨g1, ρ, S1, e.mono n, n.ce, ?_⟩
    cases v <;> exact h1⟩) fun b s1 ⟨H1, I1, q⟩ => ?_)
  cases b with
  | true => exact h1.run pins s1 σ H1 Q I1 q
  | false => exact h2.run pins s1 σ H1 Q I1 q
/-- a comparison as a test -/
theorem dt_cmp2 {op : CmpOp} {F : D → D → Option D} (ho : OpD X T (kk X) (compareOp op) F) (ha : DP X T Wx a ma) (hb : DP X T Wx b mb) (hm : behindInMarks op b = false) : DT X T Wx (.Compare a [op] [b] pos) (mTru (mOp2 F ma mb)) := by
  refine ⟨fun pins s σ H Q I ⟨g, ρ, Ss, e, c, r⟩ => ?_⟩
  have hp := pe_cmp2 (pos := pos) kR_mono ho ha hb hm
  refine wpAny_isTrue_Compare1 (binT (R := fun x y H2 => ∃ r, OpR X (compareOp op) r ∧ r x y H2 fun z H3 => ∃ bb, TruV X.K z H3 bb ∧ Q bb H3) ha hb I ?_ fun v u s2 x y H2 I2 rx ry q => ?_) hm
  · refine two_parts (Q := Q) kB_mono e c (f := fun d1 d2 S2 => (ofO (F d1 d2) S2).bind fun d S1 => ofB (truD d) S1) ?_ fun d1 d2 S2 g2 H2 x y _ c2 r1 r2 h => ?_
    · have e2 : mTru (mOp2 F ma mb) ρ Ss = (ma ρ Ss).bind fun d1 S1 => (mb ρ S1).bind fun d2 S2 => (ofO (F d1 d2) S2).bind fun d S1 => ofB (truD d) S1 := by
        unfold mTru mOp2
        cases ma ρ Ss with
        | ok d1 S1 =>
          simp only [R.bind_ok]
          cases mb ρ S1 <;> rfl
        | exc _ _ _ => rfl
        | bad => rfl
      rw [e2] at r
      exact r
    · cases hF : F d1 d2 with
      | none => rw [hF] at h; exact h.elim
      | some d =>
        rw [hF] at h
        have h' : ResG T X.K X.mg Wx kB g2 H2 (ofB (truD d) S2) Q := h
        refine ho g2 H2 S2 d1 d2 d x y _ c2 r1 r2 hF fun g' H' z n kz => ?_
        cases ht : truD d with
        | none => rw [ht] at h'; exact h'.elim
        | some bb =>
          rw [ht] at h'
          exact ⟨bb, truV_of kz.toT ht, h' g' H' bb n rfl⟩
  · obtain ⟨r, hr, q⟩ := q
    refine thn (hr pins s2 σ H2 x y v u _ I2 rx ry q) fun cv s3 ⟨z, H3, I3, rz, bb, tv, q3⟩ => ?_
    exact tru_ok pins s3 σ H3 z cv Q I3 rz ⟨bb, tv, q3⟩

/-! ### not, and, or, if as values -/
theorem de_not (h : DE X T Wx a ma) : DE X T Wx (.UnaryOp .Not a pos) (mBl (mNotT (asB ma))) :=
  pe_imp (pe_not h) fun σ H Q ⟨g, ρ, Ss, e, c, r⟩ => ⟨g, ρ, Ss, e, c, by
    have e2 : mBl (mNotT (asB ma)) ρ Ss = (ma ρ Ss).bind fun d S1 => match d with | .bl b => .ok (.bl (!b)) S1 | _ => .bad := by
      unfold mBl mNotT asB
      cases ma ρ Ss with
      | ok d S1 => cases d <;> rfl
      | exc _ _ _ => rfl
      | bad => rfl
    rw [e2] at r
    refine r.then (kR_mono g) fun d S1 g1 H1 v _ n k h1 => ?_
    cases d with
    | bl b => rw [show v = V.bl b from k]; exact ⟨b, rfl, h1 g1 H1 _ (Nxt.refl n.ce) rfl⟩
    | _ => exact h1.elim⟩
/-- a bool, then the other if it is so -/
def mAndV (m n : M D) : M D := fun ρ Ss => (asB m ρ Ss).bind fun b S1 => if b = true then n ρ S1 else .ok (.bl false) S1
def mOrV (m n : M D) : M D := fun ρ Ss => (asB m ρ Ss).bind fun b S1 => if b = true then .ok (.bl true) S1 else n ρ S1
theorem asB_then {K : PySem.W.Frag} {mg : Str → Option Value} {g : Reg} {H : Hp} {ρ : DEnv} {Ss : List D} {f : Bool → List D → R D} {Q P : V → Hp → Prop}
    (h : ResG T K mg Wx (kR K mg) g H ((asB ma ρ Ss).bind f) Q) (hP : ∀ b S1 g1 H1, Nxt T K mg g H S1 g1 H1 → ResG T K mg Wx (kR K mg) g1 H1 (f b S1) Q → P (.bl b) H1) : ResG T K mg Wx (kR K mg) g H (ma ρ Ss) P := by
  have e2 : (asB ma ρ Ss).bind f = (ma ρ Ss).bind fun d S1 => match d with | .bl b => f b S1 | _ => .bad := by
    unfold asB
    cases ma ρ Ss with
    | ok d S1 => cases d <;> rfl
    | exc _ _ _ => rfl
    | bad => rfl
  rw [e2] at h
  refine h.then (kR_mono g) fun d S1 g1 H1 v _ n k h1 => ?_
  cases d with
  | bl b => rw [show v = V.bl b from k]; exact hP b S1 g1 H1 n h1
  | _ => exact h1.elim
theorem de_one {op} (h : DE X T Wx a ma) : DE X T Wx (.BoolOp op [a] pos) ma := pe_one h
theorem de_and (h : DE X T Wx a ma) (h2 : DE X T Wx (.BoolOp .And (b :: rest) pos) mb) : DE X T Wx (.BoolOp .And (a :: b :: rest) pos) (mAndV ma mb) :=
  pe_imp (pe_and h h2) fun σ H Q ⟨g, ρ, Ss, e, c, r⟩ => ⟨g, ρ, Ss, e, c, asB_then r fun b S1 g1 H1 n h1 => ⟨b, rfl, by
    cases b with
    | true => exact ⟨g1, ρ, S1, e.mono n, n.ce, h1⟩
    | false => exact h1 g1 H1 _ (Nxt.refl n.ce) rfl⟩⟩
theorem de_or (h : DE X T Wx a ma) (h2 : DE X T Wx (.BoolOp .Or (b :: rest) pos) mb) : DE X T Wx (.BoolOp .Or (a :: b :: rest) pos) (mOrV ma mb) :=
  pe_imp (pe_or h h2) fun σ H Q ⟨g, ρ, Ss, e, c, r⟩ => ⟨g, ρ, Ss, e, c, asB_then r fun b S1 g1 H1 n h1 => ⟨b, rfl, by
    cases b with
    | false => exact ⟨g1, ρ, S1, e.mono n, n.ce, h1⟩
    | true => exact h1 g1 H1 _ (Nxt.refl n.ce) rfl⟩⟩
theorem pe_ite (hk : KMono k) (h : DT X T Wx c na) (h1 : PE X a (tK T X.K X.mg Wx k ma)) (h2 : PE X b (tK T X.K X.mg Wx k mb)) : PE X (.IfExp c a b pos) (tK T X.K X.mg Wx k (mIte na ma mb)) :=
  pe_imp (pe_ifExp h h1 h2) fun σ H Q ⟨g, ρ, Ss, e, c, r⟩ => ⟨g, ρ, Ss, e, c, r.then (hk g) fun d S1 g1 H1 v _ n k h1 => by
    subst k
    cases v with
    | true => exact ⟨g1, ρ, S1, e.mono n, n.ce, h1⟩
    | false => exact ⟨g1, ρ, S1, e.mono n, n.ce, h1⟩⟩
end
end Dm
end
section
namespace Dm
open PySem PySem.Spec L2

/-! ### what any rule serves -/
def uOp (X : Cx) (f : Value → Value → Sem Value) : R2 := fun x y H Q => ∃ r, OpR X f r ∧ r x y H Q
theorem opU {X : Cx} {f : Value → Value → Sem Value} : OpR X f (uOp X f) := fun pins s σ H x y v u Q I rx ry ⟨r, h, q⟩ => h pins s σ H x y v u Q I rx ry q
def uIx (X : Cx) : R2 := fun x y H Q => ∃ r, IxR X r ∧ r x y H Q
theorem ixU {X : Cx} : IxR X (uIx X) := fun a b pins s σ H x y v u Q I rx ry ⟨r, h, q⟩ hs => h a b pins s σ H x y v u Q I rx ry q hs
def uSl (X : Cx) : V → Option Int → Option Int → Hp → VK → Prop := fun x l u H Q => ∃ r, SlR X r ∧ r x l u H Q
theorem slU {X : Cx} : SlR X (uSl X) := fun pins s σ H x v vl vu lo hi sl Q I rx hs pl pu ⟨r, h, q⟩ => h pins s σ H x v vl vu lo hi sl Q I rx hs pl pu q
def uCall (X : Cx) (f : Value) : List V → Hp → VK → Prop := fun xs H Q => ∃ r, CallR X f r ∧ r xs H Q
theorem callU {X : Cx} {f : Value} : CallR X f (uCall X f) := fun pins s σ H xs us Q I r ⟨rr, h, q⟩ => h pins s σ H xs us Q I r q

/-! ### lists of expressions -/
def isStar : Expr → Bool
  | .Starred _ _ => true
  | _ => false
theorem star_plain {e : Expr} {es : List Expr} {env : Env} (h : isStar e = false) : starEach (e :: es) env = (false, eval e env) :: starEach es env := by
  cases e <;> first | rfl | (exact absurd h (by simp [isStar]))
theorem star_none {env : Env} {pos : Pos} : ∀ {es : List Expr}, es.all (fun e => !isStar e) = true → (backTo pos (starEach es env)).any (·.1) = false
  | [], _ => rfl
  | e :: es, h => by
    rw [List.all_cons, Bool.and_eq_true, Bool.not_eq_true'] at h
    rw [star_plain h.1]
    show (false || (backTo pos (starEach es env)).any (·.1)) = false
    rw [star_none h.2]; rfl
theorem star_all {env : Env} {pos : Pos} : ∀ {es : List Expr}, es.all (fun e => !isStar e) = true → (backTo pos (starEach es env)).all (fun x => !x.1) = true
  | [], _ => rfl
  | e :: es, h => by
    rw [List.all_cons, Bool.and_eq_true, Bool.not_eq_true'] at h
    rw [star_plain h.1]
    show (!false && (backTo pos (starEach es env)).all (fun x => !x.1)) = true
    rw [star_all h.2]; rfl
def mNil : M (List D) := fun _ Ss => .ok [] Ss
def mCons (m : M D) (ms : M (List D)) : M (List D) := fun ρ Ss => (m ρ Ss).bind fun d S1 => (ms ρ S1).bind fun ds S2 => .ok (d :: ds) S2
def itemsD : D → Option (List D)
  | .tup xs => some xs
  | .lst xs => some xs
  | _ => none
def mStar (m : M D) (ms : M (List D)) : M (List D) := fun ρ Ss => (m ρ Ss).bind fun d S1 => match itemsD d with
  | some xs => (ms ρ S1).bind fun ds S2 => .ok (xs ++ ds) S2
  | none => .bad
section
variable {X : Cx} {T : List (Addr × Str)} {Wx : Wish} {e : Expr} {es : List Expr} {m : M D} {ms : M (List D)} {k : Kind} {pos : Pos}
theorem das_nil : DAs X T Wx [] mNil := pa_imp pa_nil fun σ H Q ⟨g, ρ, Ss, e, c, r⟩ => r g H [] (Nxt.refl c) rfl
theorem dps_nil : DPs X T Wx [] mNil := pa_imp pa_nil fun σ H Q ⟨g, ρ, Ss, e, c, r⟩ => r g H [] (Nxt.refl c) rfl
theorem das_cons (h : DE X T Wx e m) (hs : DAs X T Wx es ms) (hp : isStar e = false) : DAs X T Wx (e :: es) (mCons m ms) :=
  pa_imp (pa_cons h hs (star_plain hp)) fun σ H Q ⟨g, ρ, Ss, e, c, r⟩ => ⟨g, ρ, Ss, e, c, r.then (kRs_mono g) fun d S1 g1 H1 v _ n k h1 => ⟨g1, ρ, S1, e.mono n, n.ce, h1.then (kRs_mono g1) fun ds S2 g2 H2 vs _ n2 k2 h2 =>
    h2 g2 H2 _ (Nxt.refl n2.ce) ⟨v, vs, rfl, Rep.mono n2.gr n2.ex k, k2⟩⟩⟩
theorem dps_cons (h : DP X T Wx e m) (hs : DPs X T Wx es ms) (hp : isStar e = false) : DPs X T Wx (e :: es) (mCons m ms) :=
  pa_imp (pa_cons h hs (star_plain hp)) fun σ H Q ⟨g, ρ, Ss, e, c, r⟩ => ⟨g, ρ, Ss, e, c, r.then (kPs_mono g) fun d S1 g1 H1 v _ n k h1 => ⟨g1, ρ, S1, e.mono n, n.ce, h1.then (kPs_mono g1) fun ds S2 g2 H2 vs _ n2 k2 h2 =>
    h2 g2 H2 _ (Nxt.refl n2.ce) ⟨v, vs, rfl, RepT.mono n2.gr n2.ex k, k2⟩⟩⟩
theorem RepT.items {g : Reg} {H : Hp} {d : D} {v : V} {xs : List D} (h : RepT X.K X.mg g H d v) (hi : itemsD d = some xs) : ∃ a vs, v = .ref a ∧ (SqT X.K H a vs ∨ SqL X.K H a vs) ∧ Reps X.K X.mg g H xs vs := by
  cases d with
  | tup ys => cases hi; obtain ⟨a, vs, rfl, _, h1, h2⟩ := h; exact ⟨a, vs, rfl, .inl (SqT.of h1), h2⟩
  | lst ys => cases hi; obtain ⟨a, rfl, _, vs, h1, h2⟩ := h; exact ⟨a, vs, rfl, .inr (SqL.of h1), h2⟩
  | _ => cases hi
theorem das_star {p : Pos} (h : DP X T Wx e m) (hs : DAs X T Wx es ms) : DAs X T Wx (.Starred e p :: es) (mStar m ms) :=
  pa_imp (StX.pa_star h hs) fun σ H Q ⟨g, ρ, Ss, e, c, r⟩ => ⟨g, ρ, Ss, e, c, r.then (kRs_mono g) fun d S1 g1 H1 v _ n k h1 => by
    cases hi : itemsD d with
    | none => rw [hi] at h1; exact h1.elim
    | some xs =>
      rw [hi] at h1
      obtain ⟨a, vs, rfl, hq, hr⟩ := k.items hi
      exact ⟨a, vs, rfl, hq, g1, ρ, S1, e.mono n, n.ce, h1.then (kRs_mono g1) fun ds S2 g2 H2 us _ n2 k2 h2 => h2 g2 H2 _ (Nxt.refl n2.ce) ((hr.mono n2.gr n2.ex).append k2)⟩⟩

/-! ### displays -/
def mTup (ms : M (List D)) : M D := fun ρ Ss => (ms ρ Ss).bind fun ds S1 => if ds.length ≤ big then .ok (.tup ds) S1 else .bad
def mLst (ms : M (List D)) : M D := fun ρ Ss => (ms ρ Ss).bind fun ds S1 => if ds.length ≤ big then .ok (.lst ds) S1 else .bad
theorem de_tup {x1 : Nat} (hs : DAs X T Wx es ms) : DE X T Wx (.Tuple es x1 pos) (mTup ms) :=
  pe_imp (pe_tup hs) fun σ H Q ⟨g, ρ, Ss, e, c, r⟩ => ⟨g, ρ, Ss, e, c, r.then (kR_mono g) fun ds S1 g1 H1 vs _ n k h1 => by
    by_cases hl : ds.length ≤ big
    · rw [if_pos hl] at h1
      exact ⟨by rw [Reps.length k, big_eq]; exact hl, new_tup n.ce h1 k⟩
    · rw [if_neg hl] at h1; exact h1.elim⟩
theorem df_lst (hs : DAs X T Wx es ms) : DF X T Wx (.List es pos) (mLst ms) :=
  pe_imp (pe_lst hs) fun σ H Q ⟨g, ρ, Ss, e, c, r⟩ => ⟨g, ρ, Ss, e, c, r.then (kF_mono g) fun ds S1 g1 H1 vs _ n k h1 => by
    by_cases hl : ds.length ≤ big
    · rw [if_pos hl] at h1
      exact ⟨by rw [Reps.length k, big_eq]; exact hl, new_lstF n.ce h1 k⟩
    · rw [if_neg hl] at h1; exact h1.elim⟩

/-! ### x[i] -/
def keyB : D → D → Bool
  | .int i, .int j => decide (i = j)
  | .str a, .str b => decide (a = b)
  | _, _ => false
def dgetD : List D → List D → D → Option D
  | k :: ks, v :: vs, q => if keyB k q = true then some v else dgetD ks vs q
  | _, _, _ => none
def idxD : D → D → Option D
  | .tup xs, .int i => if xs.length ≤ big then atI xs i else none
  | .lst xs, .int i => if xs.length ≤ big then atI xs i else none
  | .str s, .int i => if s.length ≤ big then (atI s i).map fun c => .str [c] else none
  | .dic ks vs, q => dgetD ks vs q
  | _, _ => none
/-- x[i], x perhaps a cell -/
def mIdx (ma mb : M D) : M D := fun ρ Ss => (ma ρ Ss).bind fun d1 S1 => (mb ρ S1).bind fun d2 S2 => match d1 with
  | .cel n => match S2[n]? with
    | some d => ofO (idxD d d2) S2
    | none => .bad
  | _ => ofO (idxD d1 d2) S2
theorem atI_map {α β : Type} (f : α → β) (xs : List α) (i : Int) : atI (xs.map f) i = (atI xs i).map f := by
  unfold atI
  rw [List.length_map]
  cases ixN xs.length i with
  | none => rfl
  | some j => simp
theorem Reps.atI {K : PySem.W.Frag} {mg : Str → Option Value} {g : Reg} {H : Hp} {ds : List D} {vs : List V} {i : Int} {d : D} (h : Reps K mg g H ds vs) (e : L2.atI ds i = some d) : ∃ v, L2.atI vs i = some v ∧ Rep K mg g H d v := by
  unfold L2.atI at e ⊢
  rw [h.length]
  cases hj : ixN ds.length i with
  | none => rw [hj] at e; cases e
  | some j =>
    rw [hj] at e
    exact h.get e
theorem ix_dict (hu : X.A.units + 1 < cLine) : IxR X (fun x y H Q => ∃ a v, x = .ref a ∧ DGet H a y (some v) ∧ Q v H) := by
  intro value slice pins s σ H x y v u Q I rx ry ⟨a, w, ex, gg, q⟩ hs
  subst ex
  obtain rfl : v = Value.ref a := rx
  exact PyProof.Rows.tail_any (dict_typeIs I gg) PySem.F.slot_dict_getitem.lookup (d_getItem hu I gg ry fun w' s3 I3 rw' => ⟨w, H, I3, rw', q⟩) hs
theorem keyB_of {K : PySem.W.Frag} {mg : Str → Option Value} {g : Reg} {H : Hp} {d q : D} {k : Key} {y : V} (h : Rep K mg g H d (kV k)) (hq : RepT K mg g H q y) (hd : keyB d q = true) : y = kV k := by
  cases d with
  | int i =>
    cases q with
    | int j =>
      have e : i = j := of_decide_eq_true hd
      rw [show y = V.int j from hq, show kV k = V.int i from h, e]
    | _ => cases hd
  | str i =>
    cases q with
    | str j =>
      have e : i = j := of_decide_eq_true hd
      rw [show y = V.str (S j) from hq, show kV k = V.str (S i) from h, e]
    | _ => cases hd
  | _ => cases hd
theorem keyB_not {K : PySem.W.Frag} {mg : Str → Option Value} {g : Reg} {H : Hp} {d q : D} {k : Key} {y : V} (h : Rep K mg g H d (kV k)) (hq : RepT K mg g H q y) (hd : keyB d q = false) : y ≠ kV k := by
  intro e
  subst e
  cases k with
  | inl i =>
    cases d with
    | int j =>
      have e1 : i = j := by have := (show V.int i = V.int j from h); injection this
      cases q with
      | int l =>
        have e2 : i = l := by have := (show V.int i = V.int l from hq); injection this
        rw [← e1, ← e2] at hd
        simp [keyB] at hd
      | tup xs => obtain ⟨a, _, z, _⟩ := hq; cases z
      | lst xs => obtain ⟨a, z, _⟩ := hq; cases z
      | dic _ _ => obtain ⟨a, z, _⟩ := hq; cases z
      | fn x => obtain ⟨a, _, z⟩ := hq; cases z
      | exo x p => obtain ⟨a, _, z, _⟩ := hq; cases z
      | cel x => obtain ⟨a, z, _⟩ := hq; cases z
      | scr x => obtain ⟨a, z, _⟩ := hq; cases z
      | non => cases hq
      | bl _ => cases hq
      | str _ => cases hq
      | ty _ => cases hq
    | tup xs => obtain ⟨a, _, z, _⟩ := h; cases z
    | lst xs => obtain ⟨a, _, z, _⟩ := h; cases z
    | dic _ _ => obtain ⟨a, _, z, _⟩ := h; cases z
    | fn x => obtain ⟨a, _, z⟩ := h; cases z
    | exo x p => obtain ⟨a, _, z, _⟩ := h; cases z
    | cel x => obtain ⟨a, z, _⟩ := h; cases z
    | scr x => obtain ⟨a, z, _⟩ := h; cases z
    | non => cases h
    | bl _ => cases h
    | str _ => cases h
    | ty _ => cases h
  | inr i =>
    cases d with
    | str j =>
      have e1 : i = S j := by have := (show V.str i = V.str (S j) from h); injection this
      cases q with
      | str l =>
        have e2 : i = S l := by have := (show V.str i = V.str (S l) from hq); injection this
        have e3 : j = l := S_inj (e1.symm.trans e2)
        rw [e3] at hd
        simp [keyB] at hd
      | tup xs => obtain ⟨a, _, z, _⟩ := hq; cases z
      | lst xs => obtain ⟨a, z, _⟩ := hq; cases z
      | dic _ _ => obtain ⟨a, z, _⟩ := hq; cases z
      | fn x => obtain ⟨a, _, z⟩ := hq; cases z
      | exo x p => obtain ⟨a, _, z, _⟩ := hq; cases z
      | cel x => obtain ⟨a, z, _⟩ := hq; cases z
      | scr x => obtain ⟨a, z, _⟩ := hq; cases z
      | non => cases hq
      | bl _ => cases hq
      | int _ => cases hq
      | ty _ => cases hq
    | tup xs => obtain ⟨a, _, z, _⟩ := h; cases z
    | lst xs => obtain ⟨a, _, z, _⟩ := h; cases z
    | dic _ _ => obtain ⟨a, _, z, _⟩ := h; cases z
    | fn x => obtain ⟨a, _, z⟩ := h; cases z
    | exo x p => obtain ⟨a, _, z, _⟩ := h; cases z
    | cel x => obtain ⟨a, z, _⟩ := h; cases z
    | scr x => obtain ⟨a, z, _⟩ := h; cases z
    | non => cases h
    | bl _ => cases h
    | int _ => cases h
    | ty _ => cases h
theorem kV_inj {a b : Key} (h : kV a = kV b) : a = b := by
  cases a <;> cases b <;> simp [kV] at h <;> rw [h]
theorem keyOf {K : PySem.W.Frag} {mg : Str → Option Value} {g : Reg} {H : Hp} {q : D} {y : V} (hq : RepT K mg g H q y) : ∀ {ks vs : List D} {ps : List (Key × V)} {d : D}, Reps K mg g H ks (ps.map fun p => kV p.1) → Reps K mg g H vs (ps.map (·.2)) → dgetD ks vs q = some d →
    ∃ k v, y = kV k ∧ valV ps k = some v ∧ Rep K mg g H d v
  | [], _, _, _, _, _, h => by simp [dgetD] at h
  | _ :: _, [], _, _, _, _, h => by simp [dgetD] at h
  | k :: ks, w :: vs, [], d, h1, _, _ => by obtain ⟨v, r, z, _⟩ := h1; cases z
  | k :: ks, w :: vs, p :: ps, d, h1, h2, h => by
    obtain ⟨v1, r1, z1, a1, b1⟩ := h1
    obtain ⟨v2, r2, z2, a2, b2⟩ := h2
    simp only [List.map_cons, List.cons.injEq] at z1 z2
    obtain ⟨rfl, rfl⟩ := z1
    obtain ⟨rfl, rfl⟩ := z2
    unfold dgetD at h
    by_cases hk : keyB k q = true
    · rw [if_pos hk] at h
      cases h
      refine ⟨p.1, p.2, keyB_of a1 hq hk, ?_, a2⟩
      unfold valV
      rw [List.find?_cons_of_pos (by simp)]
      rfl
    · rw [if_neg hk] at h
      obtain ⟨k', v', e1, e2, e3⟩ := keyOf hq b1 b2 h
      refine ⟨k', v', e1, ?_, e3⟩
      have hne : ¬ p.1 = k' := fun e => keyB_not a1 hq (by simpa using hk) (by rw [e1, e])
      unfold valV at e2 ⊢
      rw [List.find?_cons_of_neg (by simpa using hne)]
      exact e2
theorem idx_core (hu : X.A.units + 1 < cLine) {g : Reg} {H : Hp} {Ss : List D} {d1 d2 d : D} {x y : V} (c : Cel T X.K X.mg g H Ss) (r1 : RepT X.K X.mg g H d1 x) (r2 : RepT X.K X.mg g H d2 y) (hF : idxD d1 d2 = some d) :
    ∃ v, Rep X.K X.mg g H d v ∧ ∀ Q : VK, Q v H → uIx X x y H Q := by
  unfold idxD at hF
  split at hF
  · split at hF
    · obtain ⟨p, vs, rfl, z, h1, h2⟩ := r1
      obtain ⟨v, e1, e2⟩ := h2.atI hF
      exact ⟨v, e2, fun Q q => ⟨_, ix_tup, p, vs, _, v, rfl, r2, SqT.of h1, e1, q⟩⟩
    · cases hF
  · split at hF
    · obtain ⟨p, rfl, z, vs, h1, h2⟩ := r1
      obtain ⟨v, e1, e2⟩ := h2.atI hF
      exact ⟨v, e2, fun Q q => ⟨_, ix_list, p, vs, _, v, rfl, r2, SqL.of h1, e1, q⟩⟩
    · cases hF
  · split at hF
    · rename_i hl
      obtain ⟨ch, hc, rfl⟩ := Option.map_eq_some_iff.mp hF
      refine ⟨.str (S [ch]), rfl, fun Q q => ⟨_, ix_str, _, _, ch, r1, r2, by rw [S_len, big_eq]; exact hl, ?_, q⟩⟩
      rw [S_cps]; exact hc
    · cases hF
  · rename_i ks vs _
    obtain ⟨p, rfl, z, ps, h1, h2, h3⟩ := r1
    obtain ⟨k, v, e1, e2, e3⟩ := keyOf r2 h2 h3 hF
    subst e1
    exact ⟨v, e3, fun Q q => ⟨_, ix_dict hu, p, v, rfl, e2 ▸ DGet.k h1, q⟩⟩
  · cases hF
theorem Cel.readT {K : PySem.W.Frag} {mg : Str → Option Value} {g : Reg} {H : Hp} {Ss : List D} (c : Cel T K mg g H Ss) {n : Nat} {a : Addr} {d : D} (h : g.cs[n]? = some a) (e : Ss[n]? = some d) : Cont K mg g H d a := c.at_ n a d h e
theorem idx_cell (hu : X.A.units + 1 < cLine) {g : Reg} {H : Hp} {d1 d2 d : D} {a : Addr} {y : V} (r1 : Cont X.K X.mg g H d1 a) (r2 : RepT X.K X.mg g H d2 y) (hF : idxD d1 d2 = some d) :
    ∃ v, Rep X.K X.mg g H d v ∧ ∀ Q : VK, Q v H → uIx X (.ref a) y H Q := by
  unfold idxD at hF
  split at hF
  · exact r1.elim
  · split at hF
    · obtain ⟨vs, h1, h2⟩ := r1
      obtain ⟨v, e1, e2⟩ := h2.atI hF
      exact ⟨v, e2, fun Q q => ⟨_, ix_list, a, vs, _, v, rfl, r2, SqL.of h1, e1, q⟩⟩
    · cases hF
  · exact r1.elim
  · obtain ⟨ps, h1, h2, h3⟩ := r1
    obtain ⟨k, v, e1, e2, e3⟩ := keyOf r2 h2 h3 hF
    subst e1
    exact ⟨v, e3, fun Q q => ⟨_, ix_dict hu, a, v, rfl, e2 ▸ DGet.k h1, q⟩⟩
  · cases hF
def isSlice : Expr → Bool
  | .Slice _ _ _ _ => true
  | _ => false
theorem plainIx {b : Expr} (h : isSlice b = false) : PlainIx b := by
  intro o i
  cases b <;> first | rfl | exact absurd h (by simp [isSlice])
theorem de_idx {a b : Expr} {ma mb : M D} (hu : X.A.units + 1 < cLine) (ha : DP X T Wx a ma) (hb : DP X T Wx b mb) (hs : isSlice b = false) : DE X T Wx (.Subscript a b pos) (mIdx ma mb) :=
  pe_imp (pe_ix ixU ha hb (plainIx hs)) fun σ H Q ⟨g, ρ, Ss, e, c, r⟩ => by
    refine two_parts kR_mono e c r fun d1 d2 S2 g2 H2 x y _ c2 r1 r2 h => ?_
    have core : ∀ d1, RepT X.K X.mg g2 H2 d1 x → ResG T X.K X.mg Wx (kR X.K X.mg) g2 H2 (ofO (idxD d1 d2) S2) Q → uIx X x y H2 Q := fun d1 r1 h => by
      cases hF : idxD d1 d2 with
      | none => rw [hF] at h; exact h.elim
      | some d =>
        rw [hF] at h
        obtain ⟨v, e1, e2⟩ := idx_core hu c2 r1 r2 hF
        exact e2 Q (h g2 H2 v (Nxt.refl c2) e1)
    cases d1 with
    | cel n =>
      obtain ⟨p, rfl, hp⟩ := r1
      dsimp only at h
      cases hS : S2[n]? with
      | none => rw [hS] at h; exact h.elim
      | some dd =>
        rw [hS] at h
        have h : ResG T X.K X.mg Wx (kR X.K X.mg) g2 H2 (ofO (idxD dd d2) S2) Q := h
        cases hF : idxD dd d2 with
        | none => rw [hF] at h; exact h.elim
        | some d =>
          rw [hF] at h
          obtain ⟨v, e1, e2⟩ := idx_cell hu (c2.readT hp hS) r2 hF
          exact e2 Q (h g2 H2 v (Nxt.refl c2) e1)
    | _ => exact core _ r1 h
end
end Dm
end
section
namespace Dm
open PySem PySem.Spec L2

theorem ResG.fwd {T : List (Addr × Str)} {K : PySem.W.Frag} {mg : Str → Option Value} {Wx : Wish} {α β : Type} {k : α → Hp → Reg → Hp → β → Prop} (hk : KMono k) {g g1 : Reg} {H H1 : Hp} {S1 : List D} {r : R α} {Q : β → Hp → Prop} (h : ResG T K mg Wx k g H r Q) (n : Nxt T K mg g H S1 g1 H1) : ResG T K mg Wx k g1 H1 r Q := by
  cases r with
  | bad => exact h
  | exc c p S2 => exact fun g2 H2 n2 => h g2 H2 (n.trans n2)
  | ok b S2 => exact fun g2 H2 v2 n2 k2 => h g2 H2 v2 (n.trans n2) (hk g _ _ _ _ _ _ n.ex k2)

/-! ### slices -/
def cut {α : Type} (xs : List α) (lo hi : Option Int) : List α := (xs.drop (HT.sIx xs.length 0 lo)).take (HT.sIx xs.length xs.length hi - HT.sIx xs.length 0 lo)
def slcD (d : D) (lo hi : Option Int) : Option D := match d with
  | .tup xs => some (.tup (cut xs lo hi))
  | .lst xs => some (.lst (cut xs lo hi))
  | .str s => if s.length ≤ big then some (.str (cut s lo hi)) else none
  | _ => none
def slcF (d : D) (lo hi : Option Int) : Option D := match d with
  | .lst xs => some (.lst (cut xs lo hi))
  | _ => none
def mNoPart : M (Option Int) := fun _ Ss => .ok none Ss
def mPart (m : M D) : M (Option Int) := fun ρ Ss => (m ρ Ss).bind fun d S1 => match d with
  | .int i => .ok (some i) S1
  | _ => .bad
def mSlc (F : D → Option Int → Option Int → Option D) (m : M D) (ml mh : M (Option Int)) : M D := fun ρ Ss => (m ρ Ss).bind fun d S1 => (ml ρ S1).bind fun lo S2 => (mh ρ S2).bind fun hi S3 => ofO (F d lo hi) S3
def kO : Option Int → Hp → Reg → Hp → Option Int → Prop := fun b _ _ _ c => c = b
theorem kO_mono : KMono kO := fun _ _ _ _ _ _ _ _ h => h
def tO (T : List (Addr × Str)) (K : PySem.W.Frag) (mg : Str → Option Value) (Wx : Wish) (m : M (Option Int)) : TO := fun σ H Q => ∃ g ρ Ss, REnv K mg g H ρ σ ∧ Cel T K mg g H Ss ∧ ResG T K mg Wx kO g H (m ρ Ss) Q
section
variable {X : Cx} {T : List (Addr × Str)} {Wx : Wish} {a b c : Expr} {e : Expr} {es : List Expr} {m ma mb mc : M D} {ms : M (List D)} {k : Kind} {pos p2 : Pos}
abbrev DO (X : Cx) (T : List (Addr × Str)) (Wx : Wish) (e : Option Expr) (m : M (Option Int)) : Prop := PO X e (tO T X.K X.mg Wx m)
theorem po_imp {e : Option Expr} {t t' : TO} (h : PO X e t) (i : ∀ σ H Q, t' σ H Q → t σ H Q) : PO X e t' := ⟨fun pins s σ H Q I w => h.run pins s σ H Q I (i _ _ _ w)⟩
theorem do_none : DO X T Wx none mNoPart := po_imp po_none fun σ H Q ⟨g, ρ, Ss, e, c, r⟩ => r g H none (Nxt.refl c) rfl
theorem do_some (h : DE X T Wx e m) : DO X T Wx (some e) (mPart m) := po_imp (po_some h) fun σ H Q ⟨g, ρ, Ss, e, c, r⟩ => ⟨g, ρ, Ss, e, c, r.then (kO_mono g) fun d S1 g1 H1 v _ n k h1 => by
  cases d with
  | int i => exact ⟨i, k, h1 g1 H1 _ (Nxt.refl n.ce) rfl⟩
  | _ => exact h1.elim⟩
def SlD (X : Cx) (T : List (Addr × Str)) (k : Kind) (F : D → Option Int → Option Int → Option D) : Prop :=
  ∀ (g : Reg) (H : Hp) (Ss : List D) (d1 d : D) (lo hi : Option Int) (x : V) (Q : VK), Cel T X.K X.mg g H Ss → RepT X.K X.mg g H d1 x → F d1 lo hi = some d →
    (∀ g' H' z, Nxt T X.K X.mg g H Ss g' H' → k d H g' H' z → Q z H') → uSl X x lo hi H Q
theorem pe_slc {F : D → Option Int → Option Int → Option D} {lo hi : Option Expr} {ml mh : M (Option Int)} (hk : KMono k) (hF : SlD X T k F) (h : DP X T Wx e m) (hl : DO X T Wx lo ml) (hh : DO X T Wx hi mh) :
    PE X (.Subscript e (.Slice lo hi none p2) pos) (tK T X.K X.mg Wx k (mSlc F m ml mh)) :=
  pe_imp (pe_slice slU h hl hh) fun σ H Q ⟨g, ρ, Ss, e, c, r⟩ => ⟨g, ρ, Ss, e, c, r.then (hk g) fun d S1 g1 H1 x _ n1 k1 h1 => ⟨g1, ρ, S1, e.mono n1, n1.ce, h1.then (hk g1) fun lo S2 g2 H2 y _ n2 k2 h2 =>
    ⟨g2, ρ, S2, (e.mono n1).mono n2, n2.ce, h2.then (hk g2) fun hi S3 g3 H3 z _ n3 k3 h3 => by
      subst k2; subst k3
      cases hd : F d y z with
      | none => rw [hd] at h3; exact h3.elim
      | some dd => rw [hd] at h3; exact hF g3 H3 S3 d dd y z x Q n3.ce (RepT.mono n3.gr n3.ex (RepT.mono n2.gr n2.ex k1)) hd h3⟩⟩⟩
theorem Reps.cut {K : PySem.W.Frag} {mg : Str → Option Value} {g : Reg} {H : Hp} {ds : List D} {vs : List V} {lo hi : Option Int} (h : Reps K mg g H ds vs) : Reps K mg g H (Dm.cut ds lo hi) (cutV vs lo hi) := by
  unfold Dm.cut cutV
  rw [h.length]
  exact (h.drop _).take _
theorem cut_whole {α : Type} {xs : List α} {lo hi : Option Int} (h : HT.sIx xs.length 0 lo = 0 ∧ HT.sIx xs.length xs.length hi = xs.length) : cut xs lo hi = xs := by
  unfold cut
  rw [h.1, h.2]; simp
theorem sd_slc : SlD X T (kk X) slcD := by
  intro g H Ss d1 d lo hi x Q c r hF q
  unfold slcD at hF
  split at hF
  · rename_i xs
    cases hF
    obtain ⟨p, vs, rfl, z, h1, h2⟩ := r
    refine ⟨_, sl_tupA, p, vs, rfl, SqT.of h1, fun hw => fin_ c q ?_, fun _ => new_tup c q h2.cut⟩
    rw [h2.length] at hw
    rw [cut_whole hw]
    exact ⟨p, vs, rfl, z, h1, h2⟩
  · cases hF
    obtain ⟨p, rfl, z, vs, h1, h2⟩ := r
    exact ⟨_, sl_list, p, vs, rfl, SqL.of h1, new_lst c q h2.cut⟩
  · split at hF
    · rename_i s hl
      cases hF
      refine ⟨_, sl_str, _, r, by rw [S_len, big_eq]; exact hl, fin_ c q ?_⟩
      unfold cutS
      rw [S_cps, S_len]; rfl
    · cases hF
  · cases hF
theorem sd_slcF : SlD X T (kF X.K X.mg) slcF := by
  intro g H Ss d1 d lo hi x Q c r hF q
  unfold slcF at hF
  split at hF
  · cases hF
    obtain ⟨p, rfl, z, vs, h1, h2⟩ := r
    exact ⟨_, sl_list, p, vs, rfl, SqL.of h1, new_lstF c q h2.cut⟩
  · cases hF

/-! ### a op b op' c -/
def mChain (F F' : D → D → Option D) (ma mb mc : M D) : M D := fun ρ Ss => (ma ρ Ss).bind fun d1 S1 => (mb ρ S1).bind fun d2 S2 => match F d1 d2 with
  | some (.bl true) => (mc ρ S2).bind fun d3 S3 => ofO (F' d2 d3) S3
  | some (.bl false) => .ok (.bl false) S2
  | _ => .bad
theorem chain_core {op op' : CmpOp} {F F' : D → D → Option D} (ho : OpD X T (kk X) (compareOp op) F) (ho' : OpD X T (kk X) (compareOp op') F') {σ : L2.St} {H : Hp} {Q : VK}
    (h : tK T X.K X.mg Wx (kR X.K X.mg) (mChain F F' ma mb mc) σ H Q) :
    tChain (uOp X (compareOp op)) (uOp X (compareOp op')) (tK T X.K X.mg Wx (kP X.K X.mg) ma) (tK T X.K X.mg Wx (kP X.K X.mg) mb) (tK T X.K X.mg Wx (kP X.K X.mg) mc) σ H Q := by
  obtain ⟨g, ρ, Ss, e, c, r⟩ := h
  refine two_parts kR_mono e c (f := fun d1 d2 S2 => match F d1 d2 with | some (.bl true) => (mc ρ S2).bind fun d3 S3 => ofO (F' d2 d3) S3 | some (.bl false) => .ok (.bl false) S2 | _ => .bad) r fun d1 d2 S2 g2 H2 x y e2 c2 r1 r2 h => ?_
  cases hF : F d1 d2 with
  | none => rw [hF] at h; exact h.elim
  | some d =>
    rw [hF] at h
    cases d with
    | bl b =>
      refine ho g2 H2 S2 d1 d2 _ x y _ c2 r1 r2 hF fun g3 H3 z n3 k3 => ⟨b, k3, ?_⟩
      cases b with
      | false => exact h g3 H3 _ n3 rfl
      | true =>
        refine ⟨g3, ρ, S2, e2.mono n3, n3.ce, ?_⟩
        have h' : ResG T X.K X.mg Wx (kR X.K X.mg) g3 H3 ((mc ρ S2).bind fun d3 S3 => ofO (F' d2 d3) S3) Q := ResG.fwd kR_mono h n3
        exact h'.then (kR_mono g3) fun d3 S3 g4 H4 w _ n4 k4 h4 => by
          cases hF' : F' d2 d3 with
          | none => rw [hF'] at h4; exact h4.elim
          | some d => rw [hF'] at h4; exact ho' g4 H4 S3 d2 d3 d y w Q n4.ce (RepT.mono n4.gr n4.ex (RepT.mono n3.gr n3.ex r2)) k4 hF' h4
    | _ => exact h.elim
theorem de_chain {op op' : CmpOp} {F F' : D → D → Option D} (ho : OpD X T (kk X) (compareOp op) F) (ho' : OpD X T (kk X) (compareOp op') F') (ha : DP X T Wx a ma) (hb : DP X T Wx b mb) (hc : DP X T Wx c mc) (hm : lastMarks [op, op'] [b, c] = false) :
    DE X T Wx (.Compare a [op, op'] [b, c] pos) (mChain F F' ma mb mc) := pe_imp (pe_chain opU opU ha hb hc hm) fun σ H Q h => chain_core ho ho' h
theorem ResG.tru {K : PySem.W.Frag} {mg : Str → Option Value} {g : Reg} {H : Hp} {r : R D} {Q : Bool → Hp → Prop} (h : ResG T K mg Wx kB g H (r.bind fun d S1 => match d with | .bl b => R.ok b S1 | _ => .bad) Q) : ResG T K mg Wx (kR K mg) g H r fun z H' => ∃ b, z = .bl b ∧ Q b H' :=
  h.then (kB_mono g) fun d S1 g1 H1 v _ n k h1 => by
    cases d with
    | bl b => exact ⟨b, k, h1 g1 H1 b (Nxt.refl n.ce) rfl⟩
    | _ => exact h1.elim
theorem dt_chain {op op' : CmpOp} {F F' : D → D → Option D} (ho : OpD X T (kk X) (compareOp op) F) (ho' : OpD X T (kk X) (compareOp op') F') (ha : DP X T Wx a ma) (hb : DP X T Wx b mb) (hc : DP X T Wx c mc) (hm : lastMarks [op, op'] [b, c] = false) :
    DT X T Wx (.Compare a [op, op'] [b, c] pos) (asB (mChain F F' ma mb mc)) := pt_imp (pt_chain opU opU ha hb hc hm) fun σ H Q ⟨g, ρ, Ss, e, c, r⟩ => chain_core ho ho' ⟨g, ρ, Ss, e, c, r.tru⟩

/-! ### built-in calls -/
def mCall (F : List D → Option D) (ms : M (List D)) : M D := fun ρ Ss => (ms ρ Ss).bind fun ds S1 => ofO (F ds) S1
def CallD (X : Cx) (T : List (Addr × Str)) (k : Kind) (f : Value) (F : List D → Option D) : Prop :=
  ∀ (g : Reg) (H : Hp) (Ss ds : List D) (d : D) (xs : List V) (Q : VK), Cel T X.K X.mg g H Ss → RepTs X.K X.mg g H ds xs → F ds = some d →
    (∀ g' H' z, Nxt T X.K X.mg g H Ss g' H' → k d H g' H' z → Q z H') → uCall X f xs H Q
theorem call_core {f : Value} {F : List D → Option D} (hk : KMono k) (hF : CallD X T k f F) {σ : L2.St} {H : Hp} {Q : VK} (h : tK T X.K X.mg Wx k (mCall F ms) σ H Q) : tCB (uCall X f) (tAs T X.K X.mg Wx (kPs X.K X.mg) ms) σ H Q := by
  obtain ⟨g, ρ, Ss, e, c, r⟩ := h
  exact ⟨g, ρ, Ss, e, c, r.then (hk g) fun ds S1 g1 H1 xs _ n k1 h1 => by
    cases hd : F ds with
    | none => rw [hd] at h1; exact h1.elim
    | some d => rw [hd] at h1; exact hF g1 H1 S1 ds d xs Q n.ce k1 hd h1⟩
theorem pe_cb {x : Str} {id : String} {F : List D → Option D} {p : Pos} (hk : KMono k) (hF : CallD X T k (.builtin id) F) (hg : Gl X x) (hm : X.mg x = none) (hv : bootBuiltins x = some (.builtin id)) (ha : DPs X T Wx (e :: es) ms) (hn : x ≠ "__name__") (hdb : (x == ("__debug__" : Str)) = false)
    (hs : (e :: es).all (fun e => !isStar e) = true) : PE X (.Call (.Name x p) (e :: es) [] pos) (tK T X.K X.mg Wx k (mCall F ms)) := by
  have h2 := hs
  rw [List.all_cons, Bool.and_eq_true, Bool.not_eq_true'] at h2
  exact pe_imp (pe_callB callU hg hm hv ha hn hdb (star_plain h2.1) (star_none h2.2)) fun σ H Q h => call_core hk hF h
theorem pe_ct {x : Str} {id : String} {F : List D → Option D} {p : Pos} (hk : KMono k) (hF : CallD X T k (.type id) F) (hg : Gl X x) (hm : X.mg x = none) (hv : bootBuiltins x = some (.type id)) (ha : DPs X T Wx (e :: es) ms) (hn : x ≠ "__name__") (hdb : (x == ("__debug__" : Str)) = false)
    (hs : (e :: es).all (fun e => !isStar e) = true) : PE X (.Call (.Name x p) (e :: es) [] pos) (tK T X.K X.mg Wx k (mCall F ms)) := by
  have h2 := hs
  rw [List.all_cons, Bool.and_eq_true, Bool.not_eq_true'] at h2
  exact pe_imp (pe_callTy callU hg hm hv ha hn hdb (star_plain h2.1) (star_none h2.2)) fun σ H Q h => call_core hk hF h

/-! ### methods of built-in types -/
def mMeth (N : D → Option (String × String)) (F : D → List D → Option D) (m : M D) (ms : M (List D)) : M D := fun ρ Ss => (m ρ Ss).bind fun d S1 => match N d with
  | some _ => (ms ρ S1).bind fun ds S2 => ofO (F d ds) S2
  | none => .bad
structure MethD (X : Cx) (T : List (Addr × Str)) (k : Kind) (name : Str) (N : D → Option (String × String)) (F : D → List D → Option D) : Prop where
  ty : ∀ d Tn id, N d = some (Tn, id) → PlainAttrs Tn ∧ PySem.Slot Tn name id ∧ typeOf (.builtin id) = pure (.type "method_descriptor")
  tv : ∀ (g : Reg) (H : Hp) d Tn id x, N d = some (Tn, id) → RepT X.K X.mg g H d x → tyV X.K Tn x H
  run : ∀ (g : Reg) (H : Hp) (Ss ds : List D) (d0 d : D) (Tn id : String) (x : V) (xs : List V) (Q : VK), N d0 = some (Tn, id) → Cel T X.K X.mg g H Ss → RepT X.K X.mg g H d0 x → RepTs X.K X.mg g H ds xs → F d0 ds = some d →
    (∀ g' H' z, Nxt T X.K X.mg g H Ss g' H' → k d H g' H' z → Q z H') → ∃ r, MtR X id r ∧ r x xs H Q
def isCall0 : Expr → Bool
  | .Call (.Name _ _) [] [] _ => true
  | _ => false
theorem base_plain {o : Expr} {name : Str} {env : Env} {w : Sem Value} (h : isCall0 o = false) : attributeBase o name env w = w := by
  unfold attributeBase
  split
  · exact absurd h (by simp [isCall0])
  · rfl
theorem meth_first {N : D → Option (String × String)} {F : D → List D → Option D} (hk : KMono k) {g : Reg} {H : Hp} {ρ : DEnv} {σ : L2.St} {Ss : List D} {Q : VK} (e : REnv X.K X.mg g H ρ σ) (r : ResG T X.K X.mg Wx k g H (mMeth N F m ms ρ Ss) Q) :
    ResG T X.K X.mg Wx (kP X.K X.mg) g H (m ρ Ss) fun x H1 => ∃ g1 d S1 Tn id, N d = some (Tn, id) ∧ REnv X.K X.mg g1 H1 ρ σ ∧ Cel T X.K X.mg g1 H1 S1 ∧ RepT X.K X.mg g1 H1 d x ∧ ResG T X.K X.mg Wx k g1 H1 ((ms ρ S1).bind fun ds S2 => ofO (F d ds) S2) Q :=
  r.then (hk g) fun d S1 g1 H1 x _ n k1 h1 => by
    cases hN : N d with
    | none => rw [hN] at h1; exact h1.elim
    | some t => obtain ⟨t1, t2⟩ := t; rw [hN] at h1; exact ⟨g1, d, S1, t1, t2, hN, e.mono n, n.ce, k1, h1⟩
theorem pe_mt {o : Expr} {name : Str} {apos cpos : Pos} {N : D → Option (String × String)} {F : D → List D → Option D} (hk : KMono k) (hM : MethD X T k name N F) (ho : DP X T Wx o m) (ha : DPs X T Wx (e :: es) ms) (hb : isCall0 o = false) (hs : (e :: es).all (fun e => !isStar e) = true) (hl : (apos.endLine == cpos.line) = true) (hn : (e :: es).length < 20) :
    PE X (.Call (.Attribute o name apos) (e :: es) [] cpos) (tK T X.K X.mg Wx k (mMeth N F m ms)) := by
  refine ⟨fun pins s σ H Q I ⟨g, ρ, Ss, e, c, r⟩ => ?_⟩
  refine wpAny_Call_method_late (base_plain hb) ?_ hl rfl (thn (ho.run pins s σ H _ I ⟨g, ρ, Ss, e, c, meth_first hk e r⟩) fun v s1 ⟨x, H1, I1, r1, g1, d, S1, Tn, id, hN, e1, c1, k1, h1⟩ => ?_)
  · rw [star_all hs]
    show (true && true && decide ((_ :: es).length + 0 + 0 < 30)) = true
    rw [decide_eq_true (by simp only [List.length_cons] at hn ⊢; omega)]; rfl
  · obtain ⟨t1, t2, t3⟩ := hM.ty d Tn id hN
    obtain ⟨h2, h3⟩ := tyV_is I1 r1 (hM.tv g1 H1 d Tn id x hN k1)
    refine ⟨Tn, id, t1, t2, t3, h2, h3, ?_⟩
    have hA := ha.run cpos pins s1 σ H1 (fun xs H2 => ∃ rr, MtR X id rr ∧ rr x xs H2 Q) I1 ⟨g1, ρ, S1, e1, c1, h1.then (hk g1) fun ds S2 g2 H2 xs _ n2 k2 h2 => by
      cases hd : F d ds with
      | none => rw [hd] at h2; exact h2.elim
      | some dd => rw [hd] at h2; exact hM.run g2 H2 S2 ds d dd Tn id x xs Q hN n2.ce (RepT.mono n2.gr n2.ex k1) k2 hd h2⟩
    have h4 := hs
    rw [List.all_cons, Bool.and_eq_true, Bool.not_eq_true'] at h4
    rw [star_plain h4.1] at hA ⊢
    refine Calls.callWith_builtin (by show (false || (backTo cpos (starEach es X.env)).any (·.1)) = false; rw [star_none h4.2]; rfl) (Calls.evalArgs_plain ?_)
    exact thn hA fun us s2 ⟨vs, H2, I2, r2, rr, hr, q2⟩ => hr pins s2 σ H2 x vs v us Q I2 r1 r2 q2
theorem pe_mt0 {o : Expr} {name : Str} {apos cpos : Pos} {N : D → Option (String × String)} {F : D → List D → Option D} (hk : KMono k) (hM : MethD X T k name N F) (ho : DP X T Wx o m) (hb : isCall0 o = false) (hl : (apos.endLine == cpos.line) = true) :
    PE X (.Call (.Attribute o name apos) [] [] cpos) (tK T X.K X.mg Wx k (mMeth N F m mNil)) := by
  refine ⟨fun pins s σ H Q I ⟨g, ρ, Ss, e, c, r⟩ => ?_⟩
  refine wpAny_Call_method0_late (base_plain hb) hl (thn (ho.run pins s σ H _ I ⟨g, ρ, Ss, e, c, meth_first hk e r⟩) fun v s1 ⟨x, H1, I1, r1, g1, d, S1, Tn, id, hN, e1, c1, k1, h1⟩ => ?_)
  obtain ⟨t1, t2, t3⟩ := hM.ty d Tn id hN
  obtain ⟨h2, h3⟩ := tyV_is I1 r1 (hM.tv g1 H1 d Tn id x hN k1)
  have h1 : ResG T X.K X.mg Wx k g1 H1 (ofO (F d []) S1) Q := h1
  cases hd : F d [] with
  | none => rw [hd] at h1; exact h1.elim
  | some dd =>
    rw [hd] at h1
    obtain ⟨rr, hr, q2⟩ := hM.run g1 H1 S1 [] d dd Tn id x [] Q hN c1 k1 rfl hd h1
    exact ⟨Tn, id, t1, t2, t3, h2, h3, Calls.callWith_builtin rfl (PySem.evalArgs_none (hr pins s1 σ H1 x [] v [] Q I1 r1 .nil q2))⟩
end
end Dm
end
section
namespace Dm
open PySem PySem.Spec L2

/-! ### built-in functions by data -/
section
variable {X : Cx} {T : List (Addr × Str)} {K : PySem.W.Frag} {mg : Str → Option Value} {g : Reg} {H : Hp}
theorem RepTs.one {d : D} {xs : List V} (h : RepTs K mg g H [d] xs) : ∃ x, xs = [x] ∧ RepT K mg g H d x := by
  obtain ⟨v, r, rfl, h1, h2⟩ := h
  rw [show r = [] from h2]; exact ⟨v, rfl, h1⟩
theorem RepTs.two {d e : D} {xs : List V} (h : RepTs K mg g H [d, e] xs) : ∃ x y, xs = [x, y] ∧ RepT K mg g H d x ∧ RepT K mg g H e y := by
  obtain ⟨v, r, rfl, h1, h2⟩ := h
  obtain ⟨y, rfl, h3⟩ := RepTs.one h2
  exact ⟨v, y, rfl, h1, h3⟩
theorem RepTs.three {d e f : D} {xs : List V} (h : RepTs K mg g H [d, e, f] xs) : ∃ x y z, xs = [x, y, z] ∧ RepT K mg g H d x ∧ RepT K mg g H e y ∧ RepT K mg g H f z := by
  obtain ⟨v, r, rfl, h1, h2⟩ := h
  obtain ⟨y, z, rfl, h3, h4⟩ := RepTs.two h2
  exact ⟨v, y, z, rfl, h1, h3, h4⟩

/-- len -/
def lenD : List D → Option D
  | [.str s] => if s.length ≤ big then some (.int s.length) else none
  | [.tup xs] => some (.int xs.length)
  | [.lst xs] => some (.int xs.length)
  | [.scr ns] => some (.int ns.length)
  | [.dic ks _] => some (.int ks.length)
  | _ => none
theorem cd_len : CallD X T (kk X) (.builtin "len") lenD := by
  intro g H Ss ds d xs Q c r hF q
  unfold lenD at hF
  split at hF
  · obtain ⟨x, rfl, rx⟩ := r.one
    split at hF
    · rename_i s hl
      cases hF
      exact ⟨_, call_len, x, s.length, rfl, by rw [show x = V.str (S s) from rx]; exact ⟨by rw [S_len, big_eq]; exact hl, (S_len s).symm⟩, fin_ c q rfl⟩
    · cases hF
  · obtain ⟨x, rfl, rx⟩ := r.one
    cases hF
    obtain ⟨p, vs, rfl, _, h1, h2⟩ := rx
    exact ⟨_, call_len, _, _, rfl, .inr ⟨vs, SqT.of h1, rfl⟩, fin_ c q (by rw [h2.length]; rfl)⟩
  · obtain ⟨x, rfl, rx⟩ := r.one
    cases hF
    obtain ⟨p, rfl, _, vs, h1, h2⟩ := rx
    exact ⟨_, call_len, _, _, rfl, .inl ⟨vs, SqL.of h1, rfl⟩, fin_ c q (by rw [h2.length]; rfl)⟩
  · obtain ⟨x, rfl, rx⟩ := r.one
    cases hF
    obtain ⟨p, rfl, hp⟩ := rx
    rename_i ns
    have e : (ns.map V.int).length = ns.length := List.length_map ..
    refine ⟨_, call_len, .ref p, ns.length, rfl, .inl ⟨ns.map V.int, ?_, e.symm⟩, fin_ c q rfl⟩
    rcases hp with ⟨_, hp⟩ | hp
    · exact .inl hp
    · exact .inr hp
  · obtain ⟨x, rfl, rx⟩ := r.one
    cases hF
    obtain ⟨p, rfl, _, ps, h1, h2, _⟩ := rx
    exact ⟨_, call_lenD, p, ps, rfl, h1, fin_ c q (by have := h2.length; rw [List.length_map] at this; rw [this]; rfl)⟩
  · cases hF

/-- isinstance -/
def tyN : D → Option String
  | .non => some "NoneType" | .bl _ => some "bool" | .int _ => some "int" | .str _ => some "str"
  | .tup _ => some "tuple" | .lst _ => some "list" | .dic _ _ => some "dict"
  | _ => none
def isiB (t n : String) : Bool := t == n || (t == "bool" && n == "int")
def tyNs : List String := ["NoneType", "bool", "int", "str", "tuple", "list", "dict"]
def isiN (d : D) (n : String) : Option Bool := if n ∈ tyNs then (tyN d).map fun t => isiB t n else none
def isiD : List D → Option D
  | [.exo c _, .fn c'] => if c = c' then some (.bl true) else none
  | [d, .ty n] => (isiN d n).map .bl
  | [d, .tup [.ty n, .ty m]] => match isiN d n, isiN d m with
    | some a, some b => some (.bl (a || b))
    | _, _ => none
  | _ => none
theorem kitB_all : (tyNs.all fun t => tyNs.all fun n => decide (kitB t n = some (isiB t n))) = true := by decide +kernel
theorem kitB_of {t n : String} (ht : t ∈ tyNs) (hn : n ∈ tyNs) : kitB t n = some (isiB t n) := by
  have h := List.all_eq_true.mp (List.all_eq_true.mp kitB_all t ht) n hn
  exact of_decide_eq_true h
theorem tyX_of {d : D} {v : V} {t : String} (r : RepT K mg g H d v) (h : tyN d = some t) : TyX K H v (.type t) ∧ t ∈ tyNs := by
  cases d with
  | non => cases h; rw [show v = V.non from r]; exact ⟨.base .non, by decide⟩
  | bl b => cases h; rw [show v = V.bl b from r]; exact ⟨.base (.bl b), by decide⟩
  | int i => cases h; rw [show v = V.int i from r]; exact ⟨.base (.int i), by decide⟩
  | str s => cases h; rw [show v = V.str (S s) from r]; exact ⟨.base (.str _), by decide⟩
  | tup xs =>
    cases h
    obtain ⟨p, vs, rfl, _, h1, _⟩ := r
    exact ⟨.base (.tup h1), by decide⟩
  | lst xs =>
    cases h
    obtain ⟨p, rfl, _, vs, h1, _⟩ := r
    exact ⟨.base (.lst h1), by decide⟩
  | dic ks vs =>
    cases h
    obtain ⟨p, rfl, _, ps, h1, _⟩ := r
    exact ⟨.base (.dK h1), by decide⟩
  | _ => cases h
/-- what the own exception classes must say -/
def ExFacts (X : Cx) (cs : List Str) : Prop := ∀ c ∈ cs, ∃ C, X.mg c = some (.ref C) ∧ ExcC X.K C
theorem exV_inst {h : Heap} {a C : Addr} (e : ∃ (oe : Obj) (vs : Array Value), h.get? a = some oe ∧ oe.cls = .ref C ∧ oe.dict = none ∧ oe.data = .fields vs) : PySem.W.InstAt h a (e.choose) C none := by
  obtain ⟨vs, h1, h2, h3, h4⟩ := e.choose_spec
  generalize e.choose = oe at *
  obtain ⟨oc, od, oda, osl⟩ := oe
  dsimp only at h2 h3 h4
  subst h2 h3 h4
  exact ⟨h1, rfl, rfl, trivial⟩
theorem tyN_T {d : D} {v : V} {t : String} (r : RepT K mg g H d v) (h : tyN d = some t) : TyX K H v (.type t) ∧ t ∈ tyNs := tyX_of r h
theorem isi_exo {c : Str} {C a : Addr} (F : ExcC X.K C) (hm : X.mg c = some (.ref C)) : CallR X (.builtin "isinstance") (fun xs H Q => xs = [.ref a, .ref C] ∧ H a = some (ExV (.ref C) a) ∧ Q (.bl true) H) := by
  intro pins s σ H xs us Q I r h
  obtain ⟨rfl, hE, q⟩ := h
  obtain ⟨u1, u2, rfl, r1, r2⟩ := vals2 r
  cases (show u1 = Value.ref a from r1)
  cases (show u2 = Value.ref C from r2)
  obtain ⟨hv, _, _⟩ := (show ObjOk X.prog X.w H s.heap a (ExV (.ref C) a) from I.hok a _ hE)
  have J := exV_inst hv
  exact PySem.W.kia_one (PySem.W.handS_kitx_exc F.hg F.hk F.hs F.hd F.ha F.hn F.ht F.hm) I.kIn J (show PySem.W.kitOne X.K (.ref C) (.ref C) = some true by unfold PySem.W.kitOne; rw [if_pos (by simp)]) (fun z => nomatch z) fun tk => ⟨.bl true, H, I.kept (t' := tk) fun _ _ z => z, rfl, q⟩
theorem isiN_of {d : D} {v : V} {n : String} {b : Bool} (r : RepT K mg g H d v) (h : isiN d n = some b) : ∃ t, TyX K H v (.type t) ∧ PySem.W.kitOne K (.type t) (.type n) = some b := by
  unfold isiN at h
  split at h
  · rename_i hn
    obtain ⟨t, ht, rfl⟩ := Option.map_eq_some_iff.mp h
    obtain ⟨h1, h2⟩ := tyX_of r ht
    exact ⟨t, h1, kit_ty (kitB_of h2 hn)⟩
  · cases h
theorem tyN_of {d : D} {n : String} {b : Bool} (h : isiN d n = some b) : ∃ t, tyN d = some t ∧ b = isiB t n ∧ n ∈ tyNs := by
  unfold isiN at h
  split at h
  · rename_i hn
    obtain ⟨t, ht, e⟩ := Option.map_eq_some_iff.mp h
    exact ⟨t, ht, e.symm, hn⟩
  · cases h
theorem cd_isi {cs : List Str} (F : ∀ c C, X.mg c = some (.ref C) → c ∈ cs → ExcC X.K C) (hcs : ∀ c, c ∈ cs) : True := trivial
/-- the classes of exceptions that may be asked -/
def isiC (cs : List Str) : List D → Option D
  | [.exo c _, .fn c'] => if c = c' ∧ c ∈ cs then some (.bl true) else none
  | [d, .ty n] => (isiN d n).map .bl
  | [d, .tup [.ty n, .ty m]] => match isiN d n, isiN d m with
    | some a, some b => some (.bl (a || b))
    | _, _ => none
  | _ => none
theorem cd_isC {cs : List Str} (F : ∀ c C, c ∈ cs → X.mg c = some (.ref C) → ExcC X.K C) : CallD X T (kk X) (.builtin "isinstance") (isiC cs) := by
  intro g H Ss ds d xs Q c r hF q
  unfold isiC at hF
  split at hF
  · split at hF
    · rename_i h
      obtain ⟨rfl, hc⟩ := h
      cases hF
      obtain ⟨x, y, rfl, r1, r2⟩ := r.two
      obtain ⟨a, C, rfl, hm, _, hE⟩ := r1
      obtain ⟨f, hf, rfl⟩ := r2
      rw [hm] at hf
      cases hf
      exact ⟨_, isi_exo (F _ C hc hm) hm, rfl, hE, fin_ c q rfl⟩
    · cases hF
  · obtain ⟨b, hb, rfl⟩ := Option.map_eq_some_iff.mp hF
    obtain ⟨x, y, rfl, r1, r2⟩ := r.two
    rw [show y = V.ty _ from r2]
    obtain ⟨t, h1, h2⟩ := isiN_of r1 hb
    exact ⟨_, call_isi, _, _, _, _, b, rfl, .ty _, h1, h2, fin_ c q rfl⟩
  · split at hF
    · rename_i n m _ a b ha hb
      cases hF
      obtain ⟨x, y, rfl, r1, r2⟩ := r.two
      obtain ⟨t, ht, e1, n1⟩ := tyN_of ha
      obtain ⟨t', ht', e2, n2⟩ := tyN_of hb
      rw [ht] at ht'
      cases ht'
      obtain ⟨h1, h2⟩ := tyX_of r1 ht
      obtain ⟨p, vs, rfl, _, hT, hv⟩ := r2
      obtain ⟨v1, s1, rfl, rv1, v2, s2, rfl, rv2, rfl⟩ := hv
      obtain rfl : v1 = V.ty _ := rv1
      obtain rfl : v2 = V.ty _ := rv2
      have k1 := kitB_of h2 n1
      have k2 := kitB_of h2 n2
      subst e1
      subst e2
      refine ⟨_, call_isiT, _, p, _, _, [.type _, .type _], _, rfl, hT, .cons (.ty _) (.cons (.ty _) .nil), h1, ?_, fin_ c q rfl⟩
      refine kitAny_cons (kit_ty k1) (fun e => ?_) fun e => by rw [e]; rfl
      rw [e, Bool.false_or]
      refine kitAny_cons (kit_ty k2) (fun e => ?_) fun e => e
      rw [e]; rfl
    · cases hF
  · cases hF
end
end Dm
end
section
namespace Dm
open PySem PySem.Spec L2

/-! ### lists of one kind -/
def intsOf : List D → Option (List Int)
  | [] => some []
  | .int i :: r => (intsOf r).map (i :: ·)
  | _ => none
def blsOf : List D → Option (List Bool)
  | [] => some []
  | .bl i :: r => (blsOf r).map (i :: ·)
  | _ => none
def strsOf : List D → Option (List (List Nat))
  | [] => some []
  | .str i :: r => (strsOf r).map (i :: ·)
  | _ => none
@[simp] theorem intsOf_map (ns : List Int) : intsOf (ns.map .int) = some ns := by
  induction ns with
  | nil => rfl
  | cons n ns ih => simp [intsOf, ih]
@[simp] theorem blsOf_map (ns : List Bool) : blsOf (ns.map .bl) = some ns := by
  induction ns with
  | nil => rfl
  | cons n ns ih => simp [blsOf, ih]
@[simp] theorem strsOf_map (ns : List (List Nat)) : strsOf (ns.map .str) = some ns := by
  induction ns with
  | nil => rfl
  | cons n ns ih => simp [strsOf, ih]
section
variable {X : Cx} {T : List (Addr × Str)} {K : PySem.W.Frag} {mg : Str → Option Value} {g : Reg} {H : Hp}
theorem ints_of : ∀ {ds : List D} {vs : List V} {ns : List Int}, Reps K mg g H ds vs → intsOf ds = some ns → vs = ns.map V.int
  | [], _, _, h, e => by cases e; exact h
  | d :: ds, _, ns, h, e => by
    obtain ⟨v, r, rfl, h1, h2⟩ := h
    cases d with
    | int i =>
      obtain ⟨ms, e1, rfl⟩ := Option.map_eq_some_iff.mp (show (intsOf ds).map (i :: ·) = some ns from e)
      rw [show v = V.int i from h1, ints_of h2 e1]; rfl
    | _ => cases e
theorem bls_of : ∀ {ds : List D} {vs : List V} {ns : List Bool}, Reps K mg g H ds vs → blsOf ds = some ns → vs = ns.map V.bl
  | [], _, _, h, e => by cases e; exact h
  | d :: ds, _, ns, h, e => by
    obtain ⟨v, r, rfl, h1, h2⟩ := h
    cases d with
    | bl i =>
      obtain ⟨ms, e1, rfl⟩ := Option.map_eq_some_iff.mp (show (blsOf ds).map (i :: ·) = some ns from e)
      rw [show v = V.bl i from h1, bls_of h2 e1]; rfl
    | _ => cases e
theorem strs_of : ∀ {ds : List D} {vs : List V} {ns : List (List Nat)}, Reps K mg g H ds vs → strsOf ds = some ns → vs = (ns.map S).map V.str
  | [], _, _, h, e => by cases e; exact h
  | d :: ds, _, ns, h, e => by
    obtain ⟨v, r, rfl, h1, h2⟩ := h
    cases d with
    | str i =>
      obtain ⟨ms, e1, rfl⟩ := Option.map_eq_some_iff.mp (show (strsOf ds).map (i :: ·) = some ns from e)
      rw [show v = V.str (S i) from h1, strs_of h2 e1]; rfl
    | _ => cases e

def sumD : List D → Option D
  | [.lst ds] => (intsOf ds).map fun ns => .int ns.sum
  | _ => none
def maxD : List D → Option D
  | [.lst ds] => (intsOf ds).bind fun ns => ns.max?.map .int
  | [.int i, .int j] => some (.int (max i j))
  | _ => none
def minD : List D → Option D
  | [.lst ds] => (intsOf ds).bind fun ns => ns.min?.map .int
  | [.int i, .int j] => some (.int (min i j))
  | _ => none
def allD : List D → Option D
  | [.lst ds] => (blsOf ds).map fun bs => .bl (bs.all id)
  | _ => none
def anyD : List D → Option D
  | [.lst ds] => (blsOf ds).map fun bs => .bl (bs.any id)
  | _ => none
def absD : List D → Option D
  | [.int i] => some (.int (if i < 0 then -i else i))
  | _ => none
def intD : List D → Option D
  | [.int i] => some (.int i)
  | [.bl b] => some (.int (if b then 1 else 0))
  | _ => none
def tupD : List D → Option D
  | [.tup xs] => some (.tup xs)
  | [.lst xs] => some (.tup xs)
  | _ => none
def lstF : List D → Option D
  | [.tup xs] => some (.lst xs)
  | [.lst xs] => some (.lst xs)
  | _ => none
theorem cd_sum (hc : X.calm = true) : CallD X T (kk X) (.builtin "sum") sumD := by
  intro g H Ss ds d xs Q c r hF q
  unfold sumD at hF
  split at hF
  · obtain ⟨ns, hn, rfl⟩ := Option.map_eq_some_iff.mp hF
    obtain ⟨x, rfl, p, rfl, _, vs, h1, h2⟩ := r.one
    rw [ints_of h2 hn] at h1
    exact ⟨_, cr_sum hc, p, ns, rfl, SqL.of h1, fin_ c q rfl⟩
  · cases hF
theorem max_uniq {ns : List Int} {m y : Int} (h : ns.max? = some m) (hy : y ∈ ns) (ha : ∀ z ∈ ns, z ≤ y) : y = m := by
  have h2 := List.max?_eq_some_iff.mp h
  have a1 := h2.2 y hy
  have a2 := ha m h2.1
  omega
theorem min_uniq {ns : List Int} {m y : Int} (h : ns.min? = some m) (hy : y ∈ ns) (ha : ∀ z ∈ ns, y ≤ z) : y = m := by
  have h2 := List.min?_eq_some_iff.mp h
  have a1 := h2.2 y hy
  have a2 := ha m h2.1
  omega
theorem cd_max (hc : X.calm = true) : CallD X T (kk X) (.builtin "max") maxD := by
  intro g H Ss ds d xs Q c r hF q
  unfold maxD at hF
  split at hF
  · obtain ⟨ns, hn, hF⟩ := Option.bind_eq_some_iff.mp hF
    obtain ⟨m, hm, rfl⟩ := Option.map_eq_some_iff.mp hF
    obtain ⟨x, rfl, p, rfl, _, vs, h1, h2⟩ := r.one
    rw [ints_of h2 hn] at h1
    have hl : 0 < ns.length := by cases ns with | nil => cases hm | cons => exact Nat.succ_pos _
    exact ⟨_, cr_max hc, p, ns, rfl, SqL.of h1, hl, fun y hy ha => by rw [max_uniq hm hy ha]; exact fin_ c q rfl⟩
  · cases hF
    obtain ⟨x, y, rfl, r1, r2⟩ := r.two
    rw [show x = V.int _ from r1, show y = V.int _ from r2]
    refine ⟨_, call_max2 hc, _, _, rfl, fin_ c q ?_⟩
    show V.int _ = V.int _
    congr 1
    split <;> omega
  · cases hF
theorem cd_min (hc : X.calm = true) : CallD X T (kk X) (.builtin "min") minD := by
  intro g H Ss ds d xs Q c r hF q
  unfold minD at hF
  split at hF
  · obtain ⟨ns, hn, hF⟩ := Option.bind_eq_some_iff.mp hF
    obtain ⟨m, hm, rfl⟩ := Option.map_eq_some_iff.mp hF
    obtain ⟨x, rfl, p, rfl, _, vs, h1, h2⟩ := r.one
    rw [ints_of h2 hn] at h1
    have hl : 0 < ns.length := by cases ns with | nil => cases hm | cons => exact Nat.succ_pos _
    exact ⟨_, cr_min hc, p, ns, rfl, SqL.of h1, hl, fun y hy ha => by rw [min_uniq hm hy ha]; exact fin_ c q rfl⟩
  · cases hF
    obtain ⟨x, y, rfl, r1, r2⟩ := r.two
    rw [show x = V.int _ from r1, show y = V.int _ from r2]
    refine ⟨_, call_min2 hc, _, _, rfl, fin_ c q ?_⟩
    show V.int _ = V.int _
    congr 1
    split <;> omega
  · cases hF
theorem cd_all (hc : X.calm = true) : CallD X T (kk X) (.builtin "all") allD := by
  intro g H Ss ds d xs Q c r hF q
  unfold allD at hF
  split at hF
  · obtain ⟨ns, hn, rfl⟩ := Option.map_eq_some_iff.mp hF
    obtain ⟨x, rfl, p, rfl, _, vs, h1, h2⟩ := r.one
    rw [bls_of h2 hn] at h1
    exact ⟨_, cr_all hc, p, ns, rfl, SqL.of h1, fin_ c q rfl⟩
  · cases hF
theorem cd_any (hc : X.calm = true) : CallD X T (kk X) (.builtin "any") anyD := by
  intro g H Ss ds d xs Q c r hF q
  unfold anyD at hF
  split at hF
  · obtain ⟨ns, hn, rfl⟩ := Option.map_eq_some_iff.mp hF
    obtain ⟨x, rfl, p, rfl, _, vs, h1, h2⟩ := r.one
    rw [bls_of h2 hn] at h1
    exact ⟨_, cr_any hc, p, ns, rfl, SqL.of h1, fin_ c q rfl⟩
  · cases hF
theorem cd_abs : CallD X T (kk X) (.builtin "abs") absD := by
  intro g H Ss ds d xs Q c r hF q
  unfold absD at hF
  split at hF
  · cases hF
    obtain ⟨x, rfl, r1⟩ := r.one
    exact ⟨_, call_abs, _, by rw [show x = V.int _ from r1], fin_ c q rfl⟩
  · cases hF
theorem cd_int : CallD X T (kk X) (.type "int") intD := by
  intro g H Ss ds d xs Q c r hF q
  unfold intD at hF
  split at hF
  · cases hF
    obtain ⟨x, rfl, r1⟩ := r.one
    exact ⟨_, call_int1, .inl ⟨_, by rw [show x = V.int _ from r1], fin_ c q rfl⟩⟩
  · cases hF
    obtain ⟨x, rfl, r1⟩ := r.one
    exact ⟨_, call_int1, .inr ⟨_, by rw [show x = V.bl _ from r1], fin_ c q rfl⟩⟩
  · cases hF
theorem cd_tup : CallD X T (kk X) (.type "tuple") tupD := by
  intro g H Ss ds d xs Q c r hF q
  unfold tupD at hF
  split at hF
  · cases hF
    obtain ⟨x, rfl, r1⟩ := r.one
    obtain ⟨p, vs, rfl, z, h1, h2⟩ := r1
    exact ⟨_, call_tuple_of, p, vs, rfl, .inr ⟨SqT.of h1, fin_ c q ⟨p, vs, rfl, z, h1, h2⟩⟩⟩
  · cases hF
    obtain ⟨x, rfl, p, rfl, z, vs, h1, h2⟩ := r.one
    exact ⟨_, call_tuple_of, p, vs, rfl, .inl ⟨SqL.of h1, new_tup c q h2⟩⟩
  · cases hF
theorem cd_lst : CallD X T (kF X.K X.mg) (.type "list") lstF := by
  intro g H Ss ds d xs Q c r hF q
  unfold lstF at hF
  split at hF
  · cases hF
    obtain ⟨x, rfl, r1⟩ := r.one
    obtain ⟨p, vs, rfl, z, h1, h2⟩ := r1
    exact ⟨_, call_list_of, p, vs, rfl, .inr (SqT.of h1), new_lstF c q h2⟩
  · cases hF
    obtain ⟨x, rfl, p, rfl, z, vs, h1, h2⟩ := r.one
    exact ⟨_, call_list_of, p, vs, rfl, .inl (SqL.of h1), new_lstF c q h2⟩
  · cases hF

/-! ### methods -/
abbrev joinL : List Nat → List (List Nat) → List Nat := TL.joinL
def nJoin : D → Option (String × String)
  | .str _ => some ("str", "str.join")
  | _ => none
def joinD (d : D) (ds : List D) : Option D := match d, ds with
  | .str s, [e] => match itemsD e with
    | some xs => (strsOf xs).bind fun ys => if (ys.map List.length).sum + ys.length * s.length ≤ big then some (.str (joinL s ys)) else none
    | none => none
  | _, _ => none
theorem tl_S (a : List Nat) : TL.tl (S a) = a := S_cps a
theorem txt_join (s : List Nat) (ys : List (List Nat)) : Txt.join (S s) (ys.map S) = S (joinL s ys) := by
  rw [TL.join_eq]
  have h := TL.tl_join (S s) (ys.map S)
  rw [tl_S, List.map_map] at h
  have e : (ys.map (TL.tl ∘ S)) = ys := by
    rw [show (TL.tl ∘ S) = id from funext fun a => tl_S a, List.map_id]
  rw [e] at h
  rw [← S_list (Str.join (S s) (ys.map S))]
  exact congrArg S h
theorem md_join : MethD X T (kk X) "join" nJoin joinD where
  ty := fun d Tn id h => by
    cases d <;> first | (cases h; exact ⟨F.plainAttrs_str, F.slot_str_join, F.type_str_join⟩) | cases h
  tv := fun g H d Tn id x h r => by
    cases d with
    | str s => cases h; rw [show x = V.str (S s) from r]; exact rfl
    | _ => cases h
  run := fun g H Ss ds d0 d Tn id x xs Q h c r rs hF q => by
    unfold joinD at hF
    split at hF
    · rename_i s e
      cases h
      cases hi : itemsD e with
      | none => rw [hi] at hF; cases hF
      | some zs =>
        rw [hi] at hF
        obtain ⟨ys, hy, hF⟩ := Option.bind_eq_some_iff.mp (show (strsOf zs).bind _ = some d from hF)
        split at hF
        · rename_i hl
          cases hF
          obtain ⟨y, rfl, ry⟩ := rs.one
          obtain ⟨a, vs, rfl, hq, hr⟩ := ry.items hi
          have ev := strs_of hr hy
          subst ev
          refine ⟨_, mt_join, S s, a, ys.map S, r, rfl, hq.elim .inr .inl, ?_, ?_⟩
          · rw [List.map_map, List.length_map, S_len]
            have e2 : (ys.map ((fun x => x.length) ∘ S)) = ys.map List.length := List.map_congr_left fun a _ => S_len a
            rw [e2]; exact hl
          · rw [txt_join]; exact fin_ c q rfl
        · cases hF
    · cases hF
def nIndex : D → Option (String × String)
  | .lst _ => some ("list", "list.index")
  | _ => none
def indexD (d : D) (ds : List D) : Option D := match d, ds with
  | .lst xs, [e] => if D.ok 60 e && D.oks 60 xs then (xs.findIdx? fun z => eqB z e).map fun (i : Nat) => D.int (i : Int) else none
  | _, _ => none
theorem md_index (hu : X.A.units + 65 < cLine) : MethD X T (kk X) "index" nIndex indexD where
  ty := fun d Tn id h => by
    cases d <;> first | (cases h; exact ⟨F.plainAttrs_list, F.slot_list_index, F.type_list_index⟩) | cases h
  tv := fun g H d Tn id x h r => by
    cases d with
    | lst s => cases h; obtain ⟨a, rfl, _, vs, h1, _⟩ := r; exact .inl ⟨rfl, vs, SqL.of h1⟩
    | _ => cases h
  run := fun g H Ss ds d0 d Tn id x xs Q h c r rs hF q => by
    unfold indexD at hF
    split at hF
    · rename_i zs e
      cases h
      split at hF
      · rename_i hk
        rw [Bool.and_eq_true] at hk
        obtain ⟨i, hi, rfl⟩ := Option.map_eq_some_iff.mp hF
        obtain ⟨y, rfl, ry⟩ := rs.one
        have hl : D.ok 61 (.lst zs) = true := by simpa [D.ok] using hk.2
        have r0 := r
        obtain ⟨a, rfl, _, vs, h1, h2⟩ := r
        obtain ⟨hlt, h3, h4⟩ := List.findIdx?_eq_some_iff_getElem.mp hi
        refine ⟨_, mt_indexD hu, a, y, e.py, D.pys zs, i, (zs[i]).py, rfl, rfl, RepT.dp hl r0, ry.dp hk.1, D.ok_shaped hl (by decide), D.ok_shaped hk.1 (by decide), ?_, h3, fun m z' hm hz => ?_, fin_ c q rfl⟩
        · rw [pys_map, List.getElem?_map, List.getElem?_eq_getElem hlt]; rfl
        · rw [pys_map, List.getElem?_map] at hz
          obtain ⟨w, hw, rfl⟩ := Option.map_eq_some_iff.mp hz
          have := h4 m hm
          obtain ⟨h5, h6⟩ := List.getElem?_eq_some_iff.mp hw
          rw [h6] at this
          simpa [eqB] using this
      · cases hF
    · cases hF
end
end Dm
end
section
namespace Dm
open PySem PySem.Spec L2 PyProof.Rows

/-! ### sources: lists, tuples, texts -/
inductive Src where
  | l (a : Addr) | t (a : Addr) | s (x : Str)
def Src.isV : Src → V → Prop
  | .l a, x => x = .ref a
  | .t a, x => x = .ref a
  | .s y, x => x = .str y
def Src.val (K : PySem.W.Frag) (H : Hp) : Src → List V → Prop
  | .l a, xs => SqL K H a xs
  | .t a, xs => SqT K H a xs
  | .s x, xs => xs = x.cps.toList.map fun c => V.str ⟨#[c]⟩
def Src.st (h : Heap) (it : Addr) (i : Nat) : Src → Prop
  | .l a => h.IsListIter it a i
  | .t a => h.IsTupleIter it a i
  | .s x => ∃ t, h.IsStrIter it (strIterType x) x t i
def Src.it (K : PySem.W.Frag) : Src → It
  | .l a => Itl K a
  | .t a => Itt K a
  | .s x => Its x
section
variable {X : Cx} {pins : List (Addr × Obj)} {σ : L2.St} {H H' : Hp} {s : Shared} {S S1 S2 : Src} {xs ys : List V} {it : Addr} {i : Nat}
theorem Src.val_inj (I : Inv X pins σ H s) (h : S.val X.K H xs) (h' : S.val X.K H ys) : xs = ys := by
  cases S with
  | l a => exact I.list_inj h h'
  | t a => exact I.tuple_inj h h'
  | s x => rw [show xs = _ from h, show ys = _ from h']
theorem Src.st_some {h : Heap} (st : S.st h it i) : ∃ o, h.get? it = some o ∧ ∀ v, o.data ≠ .cell v := by
  cases S with
  | l a => obtain ⟨o, e, c, d⟩ := st; exact ⟨o, e, fun v z => by rw [d] at z; cases z⟩
  | t a => obtain ⟨o, e, c, d⟩ := st; exact ⟨o, e, fun v z => by rw [d] at z; cases z⟩
  | s x => obtain ⟨t, o, e, c, d⟩ := st; exact ⟨o, e, fun v z => by rw [d] at z; cases z⟩
theorem Src.st_at {h h' : Heap} (st : S.st h it i) (k : ∀ o, h.get? it = some o → h'.get? it = some o) : S.st h' it i := by
  cases S with
  | l a => exact Heap.IsListIter.at st k
  | t a => exact Heap.IsTupleIter.at st k
  | s x => obtain ⟨t, o, e, r⟩ := st; exact ⟨t, o, k o e, r⟩
/-- not one of the iterator's own objects -/
theorem not_fp_base (I : Inv X pins σ H s) {a : Addr} {o : Obj} (h : X.base.get? a = some o) : ¬ FpOk X pins H a := fun f => by
  rcases f.2.2.2.1 with z | z
  · exact I.ok.noex a o h z
  · exact absurd (Nat.lt_of_lt_of_le (Heap.lt_size h) (Nat.le_trans I.ok.bsz z)) (Nat.lt_irrefl _)
theorem not_fp_L (I : Inv X pins σ H s) {a : Addr} (h : SqL X.K H a xs) : ¬ FpOk X pins H a := by
  rcases h with (h | ⟨o, h⟩) | ⟨o, its, n, hk, _⟩
  · exact fun f => by rw [f.1] at h; cases h
  · exact fun f => by rw [f.1] at h; cases h
  · exact not_fp_base I (I.ok.mod.kin a o hk)
theorem not_fp_T (I : Inv X pins σ H s) {a : Addr} (h : SqT X.K H a xs) : ¬ FpOk X pins H a := by
  rcases h with (h | ⟨o, h⟩) | ⟨o, its, n, hk, _⟩
  · exact fun f => by rw [f.1] at h; cases h
  · exact fun f => by rw [f.1] at h; cases h
  · exact not_fp_base I (I.ok.mod.kin a o hk)
theorem paired_at {vs : List V} {us : List Value} (h : Vals vs us) {j : Nat} {u : Value} (e : us[j]? = some u) : ∃ x, vs[j]? = some x ∧ RelV x u := by
  have hl : vs.length = us.length := h.length
  obtain ⟨hj, _⟩ := List.getElem?_eq_some_iff.mp e
  have hx : vs[j]? = some (vs[j]'(by rw [hl]; exact hj)) := List.getElem?_eq_getElem _
  obtain ⟨u', hu', r⟩ := h.get hx
  rw [e] at hu'; cases hu'
  exact ⟨_, hx, r⟩
/-- what a source's iterator draws at a state -/
theorem Src.draws (I : Inv X pins σ H s) (A : Around) (hh : A.handled = none) (hv : S.val X.K H xs) (st : S.st s.heap it i) (hf : FpOk X pins H it) :
    ∃ (fp : List Addr) (P : Nat → Value → Prop) (St : Nat → Heap → Prop), Draws X.prog X.w A it fp xs.length P St ∧ St i s.heap ∧ (∀ j v, P j v → ∃ x, xs[j]? = some x ∧ RelV x v) ∧ (∀ j h', St j h' → S.st h' it j) ∧ it ∈ fp ∧ ∀ b ∈ fp, b = it ∨ ¬ FpOk X pins H b := by
  cases S with
  | l a =>
    obtain ⟨its, rv, p, _⟩ := I.list hv
    have na := not_fp_L I hv
    have D := Draws.list (prog := X.prog) (w := X.w) (A := A) hh it a (fun e => na (e ▸ hf)) its.toArray
    have hl : its.toArray.size = xs.length := by rw [List.size_toArray]; exact rv.length.symm
    rw [hl] at D
    refine ⟨_, _, _, D, ⟨st, p.isList⟩, fun j v h => paired_at rv (by simpa using h), fun j h' z => z.1, by simp, fun b hb => ?_⟩
    rcases List.mem_cons.mp hb with e | e
    · exact .inl e
    · rw [List.mem_singleton.mp e]; exact .inr na
  | t a =>
    obtain ⟨its, rv, p, _⟩ := I.tuple hv
    have na := not_fp_T I hv
    have D := Draws.tuple (prog := X.prog) (w := X.w) (A := A) hh it a (fun e => na (e ▸ hf)) its.toArray
    have hl : its.toArray.size = xs.length := by rw [List.size_toArray]; exact rv.length.symm
    rw [hl] at D
    refine ⟨_, _, _, D, ⟨st, show s.heap.IsTuple a its.toArray from p⟩, fun j v h => paired_at rv (by simpa using h), fun j h' z => z.1, by simp, fun b hb => ?_⟩
    rcases List.mem_cons.mp hb with e | e
    · exact .inl e
    · rw [List.mem_singleton.mp e]; exact .inr na
  | s x =>
    obtain ⟨t, st⟩ := st
    have D := Draws.text (prog := X.prog) (w := X.w) (A := A) hh it x t
    have hl : x.cps.size = xs.length := by rw [show xs = _ from hv]; simp
    rw [hl] at D
    refine ⟨_, _, _, D, st, fun j v ⟨c, u, h, e⟩ => ⟨.str ⟨#[c]⟩, ?_, u, e⟩, fun j h' z => ⟨t, z⟩, by simp, fun b hb => .inl (by simpa using hb)⟩
    rw [show xs = _ from hv, List.getElem?_map, Array.getElem?_toList, h]; rfl
/-- a source's iterator is laid -/
theorem Src.begins (I : Inv X pins σ H s) {x : V} {v : Value} (hi : S.isV x) (r : RelV x v) (hv : S.val X.K H xs) :
    ∃ (o : Obj) (B : Heap → Prop), Begins v o B ∧ B s.heap ∧ ∀ h it, h.get? it = some o → S.st h it 0 := by
  cases S with
  | l a =>
    obtain rfl : x = .ref a := hi
    cases r
    obtain ⟨its, rv, p, _⟩ := I.list hv
    exact ⟨_, _, begins_list a its.toArray, p.isList, fun h it e => ⟨_, e, rfl, rfl⟩⟩
  | t a =>
    obtain rfl : x = .ref a := hi
    cases r
    obtain ⟨its, rv, p, _⟩ := I.tuple hv
    exact ⟨_, _, begins_tuple a its.toArray, show s.heap.IsTuple a its.toArray from p, fun h it e => ⟨_, e, rfl, rfl⟩⟩
  | s y =>
    obtain rfl : x = .str y := hi
    obtain ⟨t, rfl⟩ := r
    exact ⟨_, _, begins_text y t, trivial, fun h it e => ⟨t, _, e, rfl, rfl⟩⟩

/-- walking a source itself -/
def iSrc (K : PySem.W.Frag) (tl : TE) : TI := fun σ H R => tl σ H fun x H1 => ∃ S xs, S.isV x ∧ Src.val K H1 S xs ∧ R (S.it K) H1
theorem pi_src {tg e : Expr} {tl : TE} (hl : PE X e tl) : PI X tg e (iSrc X.K tl) := by
  refine ⟨fun pins s σ H R I h => ?_⟩
  refine thn (hl.run pins s σ H _ I h) fun v s1 ⟨x, H1, I1, r1, S, xs, hi, hv, q⟩ => ?_
  obtain ⟨o, B, bg, hb, hst⟩ := Src.begins I1 hi r1 hv
  refine bg.iter _ _ _ _ _ _ hb ?_
  have g := Heap.get?_push_size s1.heap (o := o) bg.free
  cases S with
  | l a => exact pi_one (tk := s1.toks) I1 o (turn_list a _) (hst _ _ g) q
  | t a => exact pi_one (tk := s1.toks) I1 o (turn_tuple a _) (hst _ _ g) q
  | s y =>
    obtain ⟨t, z⟩ := hst _ _ g
    refine pi_one (tk := s1.toks) I1 o (turn_str _ y t (strIterType y) ?_) z q
    unfold strIterType
    cases y.cps.all (· < 128)
    · exact .inr rfl
    · exact .inl rfl

/-! ### enumerate -/
def ItE (K : PySem.W.Frag) (S : Src) : It :=
  ⟨fun i H => ∃ (xs : List V) (x : V), S.val K H xs ∧ xs[i]? = some x, fun i H v H' => ∃ T x, v = .ref T ∧ H T = none ∧ H' = upd H T (.tup [.int (i : Nat), x]) ∧ ∀ xs, S.val K H xs → xs[i]? = some x, fun i H => ∃ xs : List V, S.val K H xs ∧ xs.length = i⟩
theorem turn_enumS {P : Program} {w : World} {K : PySem.W.Frag} {elts : List Expr} {kk : Nat} {tpos : Pos} (S : Src) (e it : Addr) :
    Turn P w K (.Tuple elts kk tpos) (ItE K S) [e, it] e (fun i h => (∃ old, IsEnum h e it ((i : Nat) : Int) old) ∧ S.st h it i ∧ e ≠ it) where
  mem := by simp
  obj := fun i h st b hb => by
    obtain ⟨⟨old, he⟩, hs, _⟩ := st
    have e' : b = e ∨ b = it := by simpa using hb
    rcases e' with z | z
    · rw [z]; exact ⟨_, he, fun v q => nomatch q⟩
    · rw [z]; exact (Src.st_some hs)
  keep := fun i h h' st k => let ⟨⟨old, he⟩, hi, hne⟩ := st; ⟨⟨old, k e (by simp) _ he⟩, Src.st_at hi fun o q => k it (by simp) o q, hne⟩
  item := by
    intro X hP hw hK hc i pins s σ H E I hf st hg
    subst hP hw hK
    obtain ⟨⟨old, he⟩, hit, hne⟩ := st
    obtain ⟨xs, x, hq, hx⟩ := hg
    obtain ⟨fp, P, St, D, st0, hP, hSt, mem, out⟩ := Src.draws I X.A.in1 (I.ok.hd hc) hq hit (hf it (by simp))
    have hi : i < xs.length := (List.getElem?_eq_some_iff.mp hx).1
    have hel : e < s.heap.objs.size := Heap.lt_size he
    have hil : it < s.heap.objs.size := by obtain ⟨_, q, _⟩ := (Src.st_some hit); exact Heap.lt_size q
    refine wpAny_pyNext_enum_itemD D he st0 hi hne (fun z => (out e z).elim hne fun n => n (hf e (by simp))) fun u h' tk hu ho hit' hT hsz hk => ?_
    obtain ⟨x', hx', ru⟩ := hP i u hu
    rw [hx] at hx'; cases hx'
    refine ⟨_, rfl, wpAny_letOwnedTupleGo_enum (s := { s with heap := h', toks := tk + 1 }) ho fun h'' he' sb => ?_⟩
    have hT2 : h''.get? s.heap.objs.size = some { cls := .type "tuple", data := .seq #[.int i tk, u] } := (sb.2 _ (Nat.ne_of_gt hel)).trans hT
    have new : ObjOk X.prog X.w (upd H s.heap.objs.size (.tup [.int (i : Nat), x])) h'' s.heap.objs.size (.tup [.int (i : Nat), x]) :=
      ⟨by show 2 ≤ sizeLine; decide, [.int i tk, u], .cons ⟨_, rfl⟩ (.cons ru .nil), ⟨_, hT2, rfl, _, rfl⟩⟩
    have I1 : Inv X pins σ (upd H s.heap.objs.size (.tup [.int (i : Nat), x])) { s with heap := h'', toks := tk + 1 } :=
      I.turnedNew (ch := [e, it]) (fun b ob hb q => (sb.2 b (fun z => hb (by simp [z]))).trans (hk b ob (fun z => hb (by simp [z])) (fun z => hb (by simp [z])) q)) hf (Nat.le_refl _) new
    refine ⟨.ref s.heap.objs.size, _, I1, rfl, ⟨_, x, rfl, I.hok.fresh (Nat.le_refl _), rfl, fun ys hy => by rw [Src.val_inj I hy hq]; exact hx⟩, ⟨⟨u, ?_⟩, Src.st_at (hSt _ _ hit') fun o q => (sb.2 it (Ne.symm hne)).trans q, hne⟩, fun b hb => ?_⟩
    · have e1 : ((i + 1 : Nat) : Int) = (i : Int) + 1 := by omega
      rw [e1]; exact he'
    · have hb' : b < s.heap.objs.size := by
        have e' : b = e ∨ b = it := by simpa using hb
        rcases e' with z | z
        · rw [z]; exact hel
        · rw [z]; exact hil
      rw [upd_ne (Nat.ne_of_lt hb')]
      exact (hf b hb).1
  done := by
    intro X hP hw hK hc i pins s σ H E I hf st hg
    subst hP hw hK
    obtain ⟨⟨old, he⟩, hit, hne⟩ := st
    obtain ⟨xs, hq, hx⟩ := hg
    obtain ⟨fp, P, St, D, st0, hP, hSt, mem, out⟩ := Src.draws I X.A.in1 (I.ok.hd hc) hq hit (hf it (by simp))
    obtain ⟨f0, f1, f2, f3, f4, f5⟩ := hf it (by simp)
    exact wpAny_pyNext_enum_endD D he (by rw [hx]; exact st0) fun h' eb => ⟨rfl, I.turned (t' := s.toks) (fun b o hb q => eb b o hb q) f0 f1 f3 f4 f5⟩
  self := fun A i s Q E st h => let ⟨⟨_, he⟩, _⟩ := st; wpAny_pyIter_enum he h
theorem meets_enumerate_newB1 {v : Value} {o : Obj} {H : Heap → Prop} (B : Begins v o H) :
    Meets (Builtin.«enumerate.__new__» ⟨[.type "enumerate", v], []⟩) (fun _ R s => H s.heap ∧
      R (.ok (.ret (.ref (s.heap.push o).objs.size))) { s with heap := (s.heap.push o).push { cls := .type "enumerate", data := .fields #[.none, .bool false, .ref s.heap.objs.size, rawInt 0, .none, .none] } }) :=
  .of_wp fun prog w A R s h => by
    obtain ⟨hp, g, d, tk, os⟩ := s; obtain ⟨h1, h⟩ := h
    have hsub := sub_enumerate
    have q1 : ∀ {A' : Around} {E : Value → Shared → Prop} {Q : Value → Shared → Prop}, Q (.ref hp.objs.size) ⟨hp.push o, g, d, tk, os⟩ → wpAny (model prog w) A' (pyIter v) Q E ⟨hp, g, d, tk, os⟩ :=
      fun q => B.iter prog w _ _ ⟨hp, g, d, tk, os⟩ _ h1 q
    wp_walk using q1
    refine wpAny_stack_any fun st => wpAny_pure ?_
    split
    · rename_i c _ _ _ _ _
      cases (c == Value.type "enumerate")
      · wp_walk using q1
        exact ⟨_, rfl, h⟩
      · wp_walk using q1
        exact ⟨_, rfl, h⟩
    · wp_walk using q1
      exact ⟨_, rfl, h⟩
theorem enum_begins1 {prog : Program} {w : World} {A : Around} {E : Value → Shared → Prop} {v : Value} {o : Obj} {H : Heap → Prop} {Q : Value → Shared → Prop} (B : Begins v o H) (h1 : H s.heap)
    (h : ∀ h', IsEnum h' (s.heap.objs.size + 1) s.heap.objs.size 0 .none → h'.get? s.heap.objs.size = some o → h'.objs.size = s.heap.objs.size + 2 →
      (∀ b o, s.heap.get? b = some o → h'.get? b = some o) → Q (.ref (s.heap.objs.size + 1)) { s with heap := h' }) :
    wpAny (model prog w) A (call (.type "enumerate") [v]) Q E s := by
  refine callType_new F.called_enumerate (by decide) (F.typeCall_enumerate_1 _) (F.newCall_enumerate_1 _) (fun obj => F.args_object_init_2 obj _) F.entry_enumerate_new
    (meets_enumerate_newB1 B) ⟨h1, ?_⟩
  have hz : (s.heap.push o).objs.size = s.heap.objs.size + 1 := Heap.size_push ..
  show _ ∧ _
  rw [hz]
  have he : IsEnum ((s.heap.push o).push { cls := .type "enumerate", data := .fields #[.none, .bool false, .ref s.heap.objs.size, rawInt 0, .none, .none] }) (s.heap.objs.size + 1) s.heap.objs.size 0 .none := by
    have := Heap.get?_push_size (s.heap.push o) (o := { cls := .type "enumerate", data := .fields #[.none, .bool false, .ref s.heap.objs.size, rawInt 0, .none, .none] }) rfl
    rw [hz] at this; exact this
  refine ⟨⟨_, he, rfl⟩, h _ he (Heap.get?_push_of_some _ (Heap.get?_push_size _ B.free)) (by rw [Heap.size_push, hz]) fun b o x => Heap.get?_push_of_some _ (Heap.get?_push_of_some _ x)⟩
def iEnS (K : PySem.W.Frag) (ta : TA) : TI := fun σ H R => ta σ H fun vs H1 => ∃ x S xs, vs = [x] ∧ Src.isV S x ∧ S.val K H1 xs ∧ R (ItE K S) H1
theorem pi_enS {e : Expr} {ta : TA} {p pos tpos : Pos} {elts : List Expr} {kk : Nat} (hg : Gl X "enumerate") (hm : X.mg "enumerate" = none) (ha : PA X [e] ta) (hs : starEach [e] X.env = [(false, eval e X.env)]) :
    PI X (.Tuple elts kk tpos) (.Call (.Name "enumerate" p) [e] [] pos) (iEnS X.K ta) := by
  refine ⟨fun pins s σ H R I h => ?_⟩
  refine Call_ (ld_blt I hg hm PyProof.Rows.boot_enumerate (PyProof.Rows.callWith_type1 (thn (ha.run pos pins s σ H _ I h) fun us s1 ⟨vs, H1, I1, r1, q1⟩ => ?_) hs rfl))
  obtain ⟨x, S, xs, ex, hi, hv, q⟩ := q1
  subst ex
  cases r1 with
  | cons r rr =>
    cases rr
    obtain ⟨o, B, bg, hb, hst⟩ := Src.begins I1 hi r hv
    refine enum_begins1 bg hb fun h' he ho hsz hk => wpAny_pyIter_enum he ?_
    have I2 : Inv X pins σ H1 { s1 with heap := h' } := I1.kept (t' := s1.toks) hk
    refine ⟨s1.heap.objs.size + 1, [s1.heap.objs.size + 1, s1.heap.objs.size], _, _, H1, rfl, I2, turn_enumS S (s1.heap.objs.size + 1) s1.heap.objs.size, ⟨⟨.none, he⟩, hst _ _ ho, Nat.succ_ne_self _⟩, fun b hb => ?_, q⟩
    have e' : b = s1.heap.objs.size + 1 ∨ b = s1.heap.objs.size := by simpa using hb
    have hle : s1.heap.objs.size ≤ b := by
      rcases e' with z | z
      · rw [z]; exact Nat.le_add_right _ _
      · rw [z]; exact Nat.le_refl _
    exact I1.fpOk hle (I1.hok.fresh hle)

/-! ### zip of two -/
def ItZ (K : PySem.W.Frag) (S1 S2 : Src) : It :=
  ⟨fun i H => ∃ (xs ys : List V) (x y : V), S1.val K H xs ∧ S2.val K H ys ∧ xs[i]? = some x ∧ ys[i]? = some y,
    fun i H v H' => ∃ T x y, v = .ref T ∧ H T = none ∧ H' = upd H T (.tup [x, y]) ∧ (∀ xs, S1.val K H xs → xs[i]? = some x) ∧ ∀ ys, S2.val K H ys → ys[i]? = some y,
    fun i H => ∃ xs ys : List V, S1.val K H xs ∧ S2.val K H ys ∧ i ≤ xs.length ∧ i ≤ ys.length ∧ (i = xs.length ∨ i = ys.length)⟩
theorem turn_zipS {P : Program} {w : World} {K : PySem.W.Frag} {elts : List Expr} {kk : Nat} {tpos : Pos} (S1 S2 : Src) {z TI TO i1 i2 : Addr} (nd : [z, TI, TO, i1, i2].Nodup) :
    Turn P w K (.Tuple elts kk tpos) (ItZ K S1 S2) [z, TI, TO, i1, i2] z (fun i h => IsZip h z TI TO .none ∧ IsTupOf2 h TI (.ref i1) (.ref i2) ∧ (∃ x y, IsTupOf2 h TO x y) ∧ S1.st h i1 i ∧ S2.st h i2 i) where
  mem := by simp
  obj := fun i h st c hc => by
    obtain ⟨hz, hTI, ⟨x, y, hTO⟩, h1, h2⟩ := st
    have e' : c = z ∨ c = TI ∨ c = TO ∨ c = i1 ∨ c = i2 := by simpa using hc
    rcases e' with q | q | q | q | q
    · rw [q]; exact ⟨_, hz, fun v q => nomatch q⟩
    · rw [q]; exact ⟨_, hTI, fun v q => nomatch q⟩
    · rw [q]; exact ⟨_, hTO, fun v q => nomatch q⟩
    · rw [q]; exact (Src.st_some h1)
    · rw [q]; exact (Src.st_some h2)
  keep := fun i h h' st k => by
    obtain ⟨hz, hTI, ⟨x, y, hTO⟩, h1, h2⟩ := st
    exact ⟨k z (by simp) _ hz, k TI (by simp) _ hTI, ⟨x, y, k TO (by simp) _ hTO⟩, Src.st_at h1 fun o q => k i1 (by simp) o q, Src.st_at h2 fun o q => k i2 (by simp) o q⟩
  item := by
    intro X hP hw hK hc i pins s σ H E I hf st hg
    subst hP hw hK
    obtain ⟨hz, hTI, ⟨x0, y0, hTO⟩, h1, h2⟩ := st
    obtain ⟨xs, ys, x, y, hqx, hqy, hx, hy⟩ := hg
    obtain ⟨fp1, P1, St1, D1, st1, hP1, hSt1, mem1, out1⟩ := Src.draws I X.A.in1 (I.ok.hd hc) hqx h1 (hf i1 (by simp))
    obtain ⟨fp2, P2, St2, D2, st2, hP2, hSt2, mem2, out2⟩ := Src.draws I X.A.in1 (I.ok.hd hc) hqy h2 (hf i2 (by simp))
    have hzl : z < s.heap.objs.size := Heap.lt_size hz
    simp only [List.nodup_cons, List.mem_cons, List.not_mem_nil, or_false, not_or, List.nodup_nil, not_false_eq_true, and_true] at nd
    obtain ⟨⟨n1, n2, n3, n4⟩, ⟨n5, n6, n7⟩, ⟨n8, n9⟩, n10⟩ := nd
    have o1 : ∀ b, b ∈ [z, TI, TO, i1, i2] → b ≠ i1 → b ∉ fp1 := fun b hb hne m => (out1 b m).elim hne fun n => n (hf b hb)
    have o2 : ∀ b, b ∈ [z, TI, TO, i1, i2] → b ≠ i2 → b ∉ fp2 := fun b hb hne m => (out2 b m).elim hne fun n => n (hf b hb)
    have Sp : ZipSep2 z TI TO i1 i2 fp1 fp2 := ⟨Ne.symm n1, Ne.symm n2, n5, n6, mem1, o1 z (by simp) n3, o1 TO (by simp) n8, n7, mem2, o2 z (by simp) n4, o2 TO (by simp) n9, o2 i1 (by simp) n10, o1 i2 (by simp) (Ne.symm n10)⟩
    refine wpAny_pyNext_zipD2_item Sp D1 D2 hz hTI hTO st1 st2 (List.getElem?_eq_some_iff.mp hx).1 (List.getElem?_eq_some_iff.mp hy).1 fun u u2 h' tk hu hu2 z' TO' h1' h2' hT hsz hk => ?_
    obtain ⟨x', hx', ru⟩ := hP1 i u hu
    rw [hx] at hx'; cases hx'
    obtain ⟨y', hy', ru2⟩ := hP2 i u2 hu2
    rw [hy] at hy'; cases hy'
    refine ⟨_, rfl, wpAny_letOwnedTupleGo_zip (s := { s with heap := h', toks := tk }) z' fun h'' z'' sb => ?_⟩
    have hT2 : h''.get? s.heap.objs.size = some { cls := .type "tuple", data := .seq #[u, u2] } := (sb.2 _ (Nat.ne_of_gt hzl)).trans hT
    have new : ObjOk X.prog X.w (upd H s.heap.objs.size (.tup [x, y])) h'' s.heap.objs.size (.tup [x, y]) :=
      ⟨by show 2 ≤ sizeLine; decide, [u, u2], .cons ru (.cons ru2 .nil), ⟨_, hT2, rfl, _, rfl⟩⟩
    have I1 : Inv X pins σ (upd H s.heap.objs.size (.tup [x, y])) { s with heap := h'', toks := tk } :=
      I.turnedNew (t' := tk) (ch := [z, TI, TO, i1, i2]) (fun c o hb q => (sb.2 c (fun q' => hb (by simp [q']))).trans (hk c o (fun q' => hb (by simp [q'])) (fun q' => hb (by simp [q'])) (fun q' => hb (by simp [q'])) (fun q' => hb (by simp [q'])) q)) hf (Nat.le_refl _) new
    refine ⟨.ref s.heap.objs.size, _, I1, rfl, ⟨_, x, y, rfl, I.hok.fresh (Nat.le_refl _), rfl, fun l hl => by rw [Src.val_inj I hl hqx]; exact hx, fun l hl => by rw [Src.val_inj I hl hqy]; exact hy⟩, ⟨z'', ?_, ⟨u, u2, ?_⟩, ?_, ?_⟩, fun c hcm => ?_⟩
    · exact (sb.2 _ Sp.TIz).trans (hk _ _ Sp.TIz Sp.TITO Sp.TIi1 Sp.TIi2 hTI)
    · exact (sb.2 _ Sp.TOz).trans TO'
    · exact Src.st_at (hSt1 _ _ h1') fun o q => (sb.2 _ (Ne.symm n3)).trans q
    · exact Src.st_at (hSt2 _ _ h2') fun o q => (sb.2 _ (Ne.symm n4)).trans q
    · have hlt : c < s.heap.objs.size := by
        have e' : c = z ∨ c = TI ∨ c = TO ∨ c = i1 ∨ c = i2 := by simpa using hcm
        rcases e' with q | q | q | q | q
        · rw [q]; exact hzl
        · rw [q]; exact Heap.lt_size hTI
        · rw [q]; exact Heap.lt_size hTO
        · rw [q]; obtain ⟨_, e1, _⟩ := (Src.st_some h1); exact Heap.lt_size e1
        · rw [q]; obtain ⟨_, e2, _⟩ := (Src.st_some h2); exact Heap.lt_size e2
      rw [upd_ne (Nat.ne_of_lt hlt)]
      exact (hf c hcm).1
  done := by
    intro X hP hw hK hc i pins s σ H E I hf st hg
    subst hP hw hK
    obtain ⟨hz, hTI, ⟨x0, y0, hTO⟩, h1, h2⟩ := st
    obtain ⟨xs, ys, hqx, hqy, l1, l2, hend⟩ := hg
    obtain ⟨fp1, P1, St1, D1, st1, hP1, hSt1, mem1, out1⟩ := Src.draws I X.A.in1 (I.ok.hd hc) hqx h1 (hf i1 (by simp))
    obtain ⟨fp2, P2, St2, D2, st2, hP2, hSt2, mem2, out2⟩ := Src.draws I X.A.in1 (I.ok.hd hc) hqy h2 (hf i2 (by simp))
    simp only [List.nodup_cons, List.mem_cons, List.not_mem_nil, or_false, not_or, List.nodup_nil, not_false_eq_true, and_true] at nd
    obtain ⟨⟨n1, n2, n3, n4⟩, ⟨n5, n6, n7⟩, ⟨n8, n9⟩, n10⟩ := nd
    have o1 : ∀ b, b ∈ [z, TI, TO, i1, i2] → b ≠ i1 → b ∉ fp1 := fun b hb hne m => (out1 b m).elim hne fun n => n (hf b hb)
    have o2 : ∀ b, b ∈ [z, TI, TO, i1, i2] → b ≠ i2 → b ∉ fp2 := fun b hb hne m => (out2 b m).elim hne fun n => n (hf b hb)
    have Sp : ZipSep2 z TI TO i1 i2 fp1 fp2 := ⟨Ne.symm n1, Ne.symm n2, n5, n6, mem1, o1 z (by simp) n3, o1 TO (by simp) n8, n7, mem2, o2 z (by simp) n4, o2 TO (by simp) n9, o2 i1 (by simp) n10, o1 i2 (by simp) (Ne.symm n10)⟩
    exact wpAny_pyNext_zipD2_end Sp D1 D2 hz hTI hTO st1 st2 l1 l2 hend fun h' tk hk => ⟨rfl, I.turnedL (t' := tk) (ch := [z, TI, TO, i1, i2]) (fun c o hb q =>
      hk c o (fun q' => hb (by simp [q'])) (fun q' => hb (by simp [q'])) (fun q' => hb (by simp [q'])) (fun q' => hb (by simp [q'])) q) hf⟩
  self := fun A i s Q E st h => wpAny_pyIter_zip st.1 h
def iZipS (K : PySem.W.Frag) (ta : TA) : TI := fun σ H R => ta σ H fun vs H1 => ∃ x y S1 S2 xs ys, vs = [x, y] ∧ Src.isV S1 x ∧ Src.isV S2 y ∧ S1.val K H1 xs ∧ S2.val K H1 ys ∧ R (ItZ K S1 S2) H1
theorem pi_zipS {e e2 : Expr} {ta : TA} {p pos tpos : Pos} {elts : List Expr} {kk : Nat} (hg : Gl X "zip") (hm : X.mg "zip" = none) (ha : PA X [e, e2] ta)
    (hs : starEach [e, e2] X.env = (false, eval e X.env) :: starEach [e2] X.env) (hpl : (backTo pos (starEach [e2] X.env)).any (·.1) = false) :
    PI X (.Tuple elts kk tpos) (.Call (.Name "zip" p) [e, e2] [] pos) (iZipS X.K ta) := by
  refine ⟨fun pins s σ H R I h => ?_⟩
  refine Call_ (ld_blt I hg hm PyProof.Rows.boot_zip (PyProof.Rows.callWith_type1 (thn (ha.run pos pins s σ H _ I h) fun us s1 ⟨vs, H1, I1, r1, q1⟩ => ?_) hs hpl))
  obtain ⟨x, y, S1, S2, xs, ys, ex, i1, i2, v1, v2, q⟩ := q1
  subst ex
  cases r1 with
  | cons r rr =>
    cases rr with
    | cons r' rr =>
      cases rr
      obtain ⟨o1, B1, bg1, hb1, hst1⟩ := Src.begins I1 i1 r v1
      obtain ⟨o2, B2, bg2, hb2, hst2⟩ := Src.begins I1 i2 r' v2
      refine zip_begins2 bg1 bg2 hb1 hb2 fun h' hz hTI hTO h1 h2 hsz hk => wpAny_pyIter_zip hz ?_
      have I2 : Inv X pins σ H1 { s1 with heap := h' } := I1.kept (t' := s1.toks) hk
      refine ⟨s1.heap.objs.size + 4, [s1.heap.objs.size + 4, s1.heap.objs.size + 2, s1.heap.objs.size + 3, s1.heap.objs.size, s1.heap.objs.size + 1], _, _, H1, rfl, I2, turn_zipS S1 S2 ?_, ⟨hz, hTI, ⟨_, _, hTO⟩, hst1 _ _ h1, hst2 _ _ h2⟩, fun c hcm => ?_, q⟩
      · have : ∀ n : Nat, [n + 4, n + 2, n + 3, n, n + 1].Nodup := fun n => by
          simp only [List.nodup_cons, List.mem_cons, List.not_mem_nil, or_false, not_or, List.nodup_nil, not_false_eq_true, and_true]
          omega
        exact this s1.heap.objs.size
      · have e' : c = s1.heap.objs.size + 4 ∨ c = s1.heap.objs.size + 2 ∨ c = s1.heap.objs.size + 3 ∨ c = s1.heap.objs.size ∨ c = s1.heap.objs.size + 1 := by simpa using hcm
        have hle : s1.heap.objs.size ≤ c := by
          rcases e' with z | z | z | z | z
          · rw [z]; exact Nat.le_add_right _ _
          · rw [z]; exact Nat.le_add_right _ _
          · rw [z]; exact Nat.le_add_right _ _
          · rw [z]; exact Nat.le_refl _
          · rw [z]; exact Nat.le_add_right _ _
        exact I1.fpOk hle (I1.hok.fresh hle)
end
end Dm
end
section
namespace Dm
open PySem PySem.Spec L2

/-! ### what is walked, as plain data -/
def KeepA (own : Bool) (g : Reg) (H H2 : Hp) : Prop := ∀ a o, (g.Z a ∨ (own = true ∧ a ∉ g.cs)) → H a = some o → NoTbl o → H2 a = some o
theorem KeepA.refl {own : Bool} {g : Reg} {H : Hp} : KeepA own g H H := fun _ _ _ h _ => h
theorem KeepA.ext {own : Bool} {g : Reg} {H H2 : Hp} (e : Ext g H H2) : KeepA own g H H2 := fun a o z h t => e.keep a o h t (z.elim (fun z => Grow.zoff g z) (·.2))
section
variable {K : PySem.W.Frag} {mg : Str → Option Value} {g g' : Reg} {H H' : Hp}
mutual
theorem Rep.upZ (a : Up g g') (e : ∀ a o, g.Z a → H a = some o → NoTbl o → H' a = some o) : ∀ {d : D} {v : V}, Rep K mg g H d v → Rep K mg g' H' d v
  | .non, v, h => h
  | .bl b, v, h => h
  | .int i, v, h => h
  | .str s, v, h => h
  | .tup xs, v, h => by
    obtain ⟨p, vs, rfl, z, q, r⟩ := h
    exact ⟨p, vs, rfl, a.up _ z, e _ _ z q noTbl_tup, Reps.upZ a e r⟩
  | .lst xs, v, h => by
    obtain ⟨p, vs, rfl, z, q, r⟩ := h
    exact ⟨p, vs, rfl, a.up _ z, e _ _ z q noTbl_lst, Reps.upZ a e r⟩
  | .dic ks vs, v, h => by
    obtain ⟨p, ps, rfl, z, q, r1, r2⟩ := h
    exact ⟨p, ps, rfl, a.up _ z, e _ _ z q noTbl_dK, Reps.upZ a e r1, Reps.upZ a e r2⟩
  | .fn x, v, h => h
  | .ty n, v, h => h
  | .exo c _, v, h => by
    obtain ⟨p, C, rfl, m, z, q⟩ := h
    exact ⟨p, C, rfl, m, a.up _ z, e _ _ z q noTbl_ext⟩
  | .cel n, v, h => by
    obtain ⟨p, rfl, q⟩ := h
    obtain ⟨m1, e1⟩ := a.cs
    refine ⟨p, rfl, ?_⟩
    rw [e1, List.getElem?_append_left ((List.getElem?_eq_some_iff.mp q).1)]
    exact q
  | .scr ns, v, h => by
    obtain ⟨p, rfl, ⟨z, q | ⟨o, q⟩⟩ | q⟩ := h
    · exact ⟨p, rfl, .inl ⟨a.up _ z, .inl (e _ _ z q noTbl_lst)⟩⟩
    · exact ⟨p, rfl, .inl ⟨a.up _ z, .inr ⟨o, e _ _ z q noTbl_frz⟩⟩⟩
    · exact ⟨p, rfl, .inr q⟩
theorem Reps.upZ (a : Up g g') (e : ∀ a o, g.Z a → H a = some o → NoTbl o → H' a = some o) : ∀ {ds : List D} {vs : List V}, Reps K mg g H ds vs → Reps K mg g' H' ds vs
  | [], vs, h => h
  | d :: ds, vs, h => by
    obtain ⟨v, r, rfl, h1, h2⟩ := h
    exact ⟨v, r, rfl, Rep.upZ a e h1, Reps.upZ a e h2⟩
end
end
def iterD : D → Option (List D)
  | .tup xs => some xs
  | .lst xs => some xs
  | .str s => some (s.map fun c => .str [c])
  | .scr ns => some (ns.map .int)
  | _ => none
section
variable (T : List (Addr × Str)) (K : PySem.W.Frag) (mg : Str → Option Value)
def ItD (own : Bool) (g : Reg) (H : Hp) (ds : List D) (J : It) : Prop := ∀ g2 H2 S2, Up g g2 → KeepA own g H H2 → Cel T K mg g2 H2 S2 → ∀ i,
  (∀ d, ds[i]? = some d → J.go i H2 ∧ ∀ x H3, J.yld i H2 x H3 → ∃ g3, Nxt T K mg g2 H2 S2 g3 H3 ∧ Rep K mg g3 H3 d x) ∧ (ds.length = i → J.stop i H2)
def kI (own : Bool) : List D → Hp → Reg → Hp → It → Prop := fun ds _ g' H' J => ItD T K mg own g' H' ds J
def tI (Wx : Wish) (own : Bool) (m : M (List D)) : TI := fun σ H R => ∃ g ρ Ss, REnv K mg g H ρ σ ∧ Cel T K mg g H Ss ∧ ResG T K mg Wx (kI T K mg own) g H (m ρ Ss) R
end
theorem kI_mono {T : List (Addr × Str)} {K : PySem.W.Frag} {mg : Str → Option Value} {own : Bool} : KMono (kI T K mg own) := fun _ _ _ _ _ _ _ _ h => h
section
variable {X : Cx} {T : List (Addr × Str)} {K : PySem.W.Frag} {mg : Str → Option Value} {Wx : Wish} {own : Bool} {g g2 : Reg} {H H2 : Hp} {d : D} {v : V} {ds es : List D} {tg e e2 : Expr} {m : M D} {ms : M (List D)} {p pos tpos : Pos}
variable (X T Wx) in
abbrev DI (tg e : Expr) (own : Bool) (m : M (List D)) : Prop := PI X tg e (tI T X.K X.mg Wx own m)
theorem pi_imp {t t' : TI} (h : PI X tg e t) (i : ∀ σ H R, t' σ H R → t σ H R) : PI X tg e t' := ⟨fun pins s σ H R I w => h.run pins s σ H R I (i _ _ _ w)⟩
/-- a source, kept while it is walked -/
def SrcK (K : PySem.W.Frag) (mg : Str → Option Value) (own : Bool) (g : Reg) (H : Hp) (ds : List D) (v : V) : Prop :=
  ∃ (S : Src) (xs : List V), S.isV v ∧ ∀ g2 H2, Up g g2 → KeepA own g H H2 → S.val K H2 xs ∧ Reps K mg g2 H2 ds xs
theorem reps_ints {ns : List Int} : Reps K mg g H (ns.map .int) (ns.map V.int) := by
  induction ns with
  | nil => rfl
  | cons n ns ih => exact ⟨_, _, rfl, rfl, ih⟩
theorem reps_strs {ns : List (List Nat)} : Reps K mg g H (ns.map .str) ((ns.map S).map V.str) := by
  induction ns with
  | nil => rfl
  | cons n ns ih => exact ⟨_, _, rfl, rfl, ih⟩
theorem srcK_str {s : List Nat} (hd : iterD (.str s) = some ds) : SrcK K mg own g H ds (.str (S s)) := by
  cases hd
  refine ⟨.s (S s), _, rfl, fun g2 H2 _ _ => ⟨rfl, ?_⟩⟩
  show Reps K mg g2 H2 (s.map fun c => .str [c]) ((s.toArray).toList.map fun c => V.str ⟨#[c]⟩)
  rw [List.toList_toArray]
  have h := reps_strs (K := K) (mg := mg) (g := g2) (H := H2) (ns := s.map fun c => [c])
  rw [List.map_map, List.map_map, List.map_map] at h
  exact h
theorem srcK_scr {ns : List Int} (r : Rep K mg g H (.scr ns) v) : SrcK K mg own g H (ns.map .int) v := by
  obtain ⟨p, rfl, hp⟩ := r
  refine ⟨.l p, ns.map V.int, rfl, fun g2 H2 _ k => ⟨?_, reps_ints⟩⟩
  rcases hp with ⟨z, hp | ⟨o, hp⟩⟩ | hp
  · exact .inl (.inl (k _ _ (.inl z) hp noTbl_lst))
  · exact .inl (.inr ⟨o, k _ _ (.inl z) hp noTbl_frz⟩)
  · exact .inr hp
theorem Rep.src (r : Rep K mg g H d v) (h : iterD d = some ds) : SrcK K mg own g H ds v := by
  have kz : ∀ {H2}, KeepA own g H H2 → ∀ a o, g.Z a → H a = some o → NoTbl o → H2 a = some o := fun k a o z e t => k a o (.inl z) e t
  cases d with
  | tup xs => cases h; obtain ⟨p, vs, rfl, z, q, r⟩ := r; exact ⟨.t p, vs, rfl, fun g2 H2 u k => ⟨SqT.of (k _ _ (.inl z) q noTbl_tup), r.upZ u (kz k)⟩⟩
  | lst xs => cases h; obtain ⟨p, vs, rfl, z, q, r⟩ := r; exact ⟨.l p, vs, rfl, fun g2 H2 u k => ⟨SqL.of (k _ _ (.inl z) q noTbl_lst), r.upZ u (kz k)⟩⟩
  | str s => rw [show v = V.str (S s) from r]; exact srcK_str h
  | scr ns => cases h; exact srcK_scr r
  | _ => cases h
theorem RepT.src (r : RepT K mg g H d v) (h : iterD d = some ds) : SrcK K mg true g H ds v := by
  cases d with
  | lst xs =>
    cases h
    obtain ⟨p, rfl, n, vs, q, r⟩ := r
    exact ⟨.l p, vs, rfl, fun g2 H2 u k => ⟨SqL.of (k _ _ (.inr ⟨rfl, n⟩) q noTbl_lst), r.upZ u fun a o z e t => k a o (.inl z) e t⟩⟩
  | tup xs => exact Rep.src (d := .tup xs) r h
  | str xs => exact Rep.src (d := .str xs) r h
  | scr xs => exact Rep.src (d := .scr xs) r h
  | _ => cases h
theorem SrcK.itD {ds : List D} (hk : SrcK K mg own g H ds v) : ∃ (S : Src) (xs : List V), S.isV v ∧ S.val K H xs ∧ ItD T K mg own g H ds (S.it K) := by
  obtain ⟨S, xs, hi, hk⟩ := hk
  refine ⟨S, xs, hi, (hk g H ⟨fun _ z => z, [], by simp⟩ KeepA.refl).1, fun g2 H2 S2 u k ce i => ?_⟩
  obtain ⟨hv, hr⟩ := hk g2 H2 u k
  have hl := hr.length
  cases S with
  | l a =>
    refine ⟨fun d hd => ?_, fun e => ⟨xs, hv, Nat.le_of_eq (hl.trans e)⟩⟩
    obtain ⟨x, hx, rx⟩ := hr.get hd
    refine ⟨⟨xs, x, hv, hx⟩, fun y H3 ⟨e1, e2⟩ => ⟨g2, ?_, ?_⟩⟩
    · rw [e1]; exact Nxt.refl ce
    · have := e2 xs hv
      rw [hx] at this; cases this
      rw [e1]; exact rx
  | t a =>
    refine ⟨fun d hd => ?_, fun e => ⟨xs, hv, Nat.le_of_eq (hl.trans e)⟩⟩
    obtain ⟨x, hx, rx⟩ := hr.get hd
    refine ⟨⟨xs, x, hv, hx⟩, fun y H3 ⟨e1, e2⟩ => ⟨g2, ?_, ?_⟩⟩
    · rw [e1]; exact Nxt.refl ce
    · have := e2 xs hv
      rw [hx] at this; cases this
      rw [e1]; exact rx
  | s z =>
    have hv : xs = z.cps.toList.map fun c => V.str ⟨#[c]⟩ := hv
    have hz : xs.length = z.cps.size := by rw [hv]; simp
    refine ⟨fun d hd => ?_, fun e => (by show z.cps.size ≤ i; rw [← hz, hl, e]; exact Nat.le_refl _)⟩
    obtain ⟨x, hx, rx⟩ := hr.get hd
    have hi : i < z.cps.size := by rw [← hz]; exact (List.getElem?_eq_some_iff.mp hx).1
    refine ⟨hi, fun y H3 ⟨e1, c, e2, e3⟩ => ⟨g2, ?_, ?_⟩⟩
    · rw [e1]; exact Nxt.refl ce
    · rw [hv, List.getElem?_map, Array.getElem?_toList, e2] at hx
      cases hx
      rw [e1, e3]; exact rx
/-- walking a value -/
def mIter (m : M D) : M (List D) := fun ρ Ss => (m ρ Ss).bind fun d S1 => match iterD d with
  | some ds => .ok ds S1
  | none => .bad
theorem iter_core {k : Kind} {Q : It → Hp → Prop} {P : V → Hp → Prop} {r : R D}
    (hk : ∀ d g H v ds, k d H g H v → iterD d = some ds → SrcK K mg own g H ds v) (hk2 : ∀ d H g' H' v, k d H g' H' v → k d H' g' H' v)
    (h : ResG T K mg Wx (kI T K mg own) g H (r.bind fun d S1 => match iterD d with | some ds => .ok ds S1 | none => .bad) Q)
    (hP : ∀ S xs v H', S.isV v → Src.val K H' S xs → Q (S.it K) H' → P v H') : ResG T K mg Wx k g H r P :=
  h.then (kI_mono g) fun d S1 g1 H1 v _ n kk h1 => by
    cases hd : iterD d with
    | none => rw [hd] at h1; exact h1.elim
    | some ds =>
      rw [hd] at h1
      obtain ⟨S, xs, hi, hv, it⟩ := (hk d g1 H1 v ds (hk2 _ _ _ _ _ kk) hd).itD (T := T)
      exact hP S xs v H1 hi hv (h1 g1 H1 _ (Nxt.refl n.ce) it)
theorem di_own (h : DP X T Wx e m) : DI X T Wx tg e true (mIter m) :=
  pi_imp (pi_src h) fun σ H R ⟨g, ρ, Ss, e, c, r⟩ => ⟨g, ρ, Ss, e, c, iter_core (fun d g H v ds k hd => k.src hd) (fun _ _ _ _ _ k => k) r fun S xs v H' hi hv q => ⟨S, xs, hi, hv, q⟩⟩
theorem di_seq (h : DE X T Wx e m) : DI X T Wx tg e false (mIter m) :=
  pi_imp (pi_src h) fun σ H R ⟨g, ρ, Ss, e, c, r⟩ => ⟨g, ρ, Ss, e, c, iter_core (fun d g H v ds k hd => k.src hd) (fun _ _ _ _ _ k => k) r fun S xs v H' hi hv q => ⟨S, xs, hi, hv, q⟩⟩

/-! ### one, two values as arguments -/
theorem one_core {α β : Type} {k2 : α → Hp → Reg → Hp → β → Prop} (hk2 : KMono k2) {f : D → List D → R α} {Q : β → Hp → Prop} {P : List V → Hp → Prop} {ρ : DEnv} {Ss : List D} (h : ResG T K mg Wx k2 g H ((m ρ Ss).bind f) Q)
    (hP : ∀ d S1 g1 H1 v, Nxt T K mg g H S1 g1 H1 → Rep K mg g1 H1 d v → ResG T K mg Wx k2 g1 H1 (f d S1) Q → P [v] H1) : ResG T K mg Wx (kRs K mg) g H (mCons m mNil ρ Ss) P := by
  show ResG T K mg Wx (kRs K mg) g H ((m ρ Ss).bind fun d S1 => .ok [d] S1) P
  cases e : m ρ Ss with
  | bad => rw [e] at h; exact h
  | exc c p S' => rw [e] at h; exact h
  | ok d S' =>
    rw [e] at h
    intro g1 H1 vs n kk
    obtain ⟨v, r, rfl, rv, rfl⟩ := kk
    exact hP d S' g1 H1 v n rv (ResG.fwd hk2 h n)
theorem two_core {α β : Type} {k2 : α → Hp → Reg → Hp → β → Prop} (hk2 : KMono k2) {m2 : M D} {f : D → D → List D → R α} {Q : β → Hp → Prop} {P : List V → Hp → Prop} {ρ : DEnv} {Ss : List D} (h : ResG T K mg Wx k2 g H ((m ρ Ss).bind fun d S1 => (m2 ρ S1).bind (f d)) Q)
    (hP : ∀ d d2 S1 g1 H1 v v2, Nxt T K mg g H S1 g1 H1 → Rep K mg g1 H1 d v → Rep K mg g1 H1 d2 v2 → ResG T K mg Wx k2 g1 H1 (f d d2 S1) Q → P [v, v2] H1) : ResG T K mg Wx (kRs K mg) g H (mCons m (mCons m2 mNil) ρ Ss) P := by
  have e2 : mCons m (mCons m2 mNil) ρ Ss = (m ρ Ss).bind fun d S1 => (m2 ρ S1).bind fun d2 S2 => .ok [d, d2] S2 := by
    unfold mCons mNil
    cases m ρ Ss with
    | ok d S1 => simp only [R.bind_ok]; cases m2 ρ S1 <;> rfl
    | exc _ _ _ => rfl
    | bad => rfl
  rw [e2]
  cases e : m ρ Ss with
  | bad => rw [e] at h; exact h
  | exc c p S' => rw [e] at h; exact h
  | ok d S' =>
    rw [e] at h
    simp only [R.bind_ok] at h ⊢
    cases e' : m2 ρ S' with
    | bad => rw [e'] at h; exact h
    | exc c p S' => rw [e'] at h; exact h
    | ok d2 S2 =>
      rw [e'] at h
      intro g1 H1 vs n kk
      obtain ⟨v, r, rfl, rv, v2, r2, rfl, rv2, rfl⟩ := kk
      exact hP d d2 S2 g1 H1 v v2 n rv rv2 (ResG.fwd hk2 h n)

/-! ### range -/
def rangeD (lo : Int) (n : Nat) : List D := (List.range n).map fun (i : Nat) => .int (lo + (i : Int))
def mRange1 (m : M D) : M (List D) := fun ρ Ss => (m ρ Ss).bind fun d S1 => match d with
  | .int j => if -(2 ^ 62) ≤ j ∧ j < 2 ^ 62 then .ok (rangeD 0 j.toNat) S1 else .bad
  | _ => .bad
def mRange2 (m m2 : M D) : M (List D) := fun ρ Ss => (m ρ Ss).bind fun d S1 => (m2 ρ S1).bind fun d2 S2 => match d, d2 with
  | .int i, .int j => if (-(2 ^ 62) ≤ i ∧ i < 2 ^ 62) ∧ (-(2 ^ 62) ≤ j ∧ j < 2 ^ 62) then .ok (rangeD i (j - i).toNat) S2 else .bad
  | _, _ => .bad
theorem itD_range {lo : Int} {n : Nat} : ItD T K mg own g H (rangeD lo n) (Itr lo n) := fun g2 H2 S2 _ _ ce i => by
  have hl : (rangeD lo n).length = n := by simp [rangeD]
  refine ⟨fun d hd => ?_, fun e => (by show n ≤ i; omega)⟩
  have hi : i < n := by rw [← hl]; exact (List.getElem?_eq_some_iff.mp hd).1
  refine ⟨hi, fun x H3 ⟨e1, e2⟩ => ⟨g2, ?_, ?_⟩⟩
  · rw [e1]; exact Nxt.refl ce
  · rw [e2]
    have : (rangeD lo n)[i]? = some (.int (lo + i)) := by simp [rangeD, List.getElem?_map, List.getElem?_range hi]
    rw [this] at hd; cases hd
    rfl
theorem di_range1 {b : Bool} (hg : Gl X "range") (hm : X.mg "range" = none) (h : DE X T Wx e m) (hp : isStar e = false) : DI X T Wx tg (.Call (.Name "range" p) [e] [] pos) b (mRange1 m) :=
  pi_imp (pi_range1 hg hm (das_cons h das_nil hp) (star_plain hp)) fun σ H R ⟨g, ρ, Ss, e, c, r⟩ => ⟨g, ρ, Ss, e, c, one_core kI_mono r fun d S1 g1 H1 v n k h1 => by
    cases d with
    | int j =>
      dsimp only at h1
      by_cases hj : -(2 ^ 62) ≤ j ∧ j < 2 ^ 62
      · rw [if_pos hj] at h1
        rw [show v = V.int j from k]
        exact ⟨j, rfl, hj.1, hj.2, h1 g1 H1 _ (Nxt.refl n.ce) itD_range⟩
      · rw [if_neg hj] at h1; exact h1.elim
    | _ => exact h1.elim⟩
theorem di_range2 {b : Bool} {m2 : M D} (hg : Gl X "range") (hm : X.mg "range" = none) (h : DE X T Wx e m) (h2 : DE X T Wx e2 m2) (hp : isStar e = false) (hp2 : isStar e2 = false) : DI X T Wx tg (.Call (.Name "range" p) [e, e2] [] pos) b (mRange2 m m2) :=
  pi_imp (pi_range2 hg hm (das_cons h (das_cons h2 das_nil hp2) hp) (by rw [star_plain hp, star_plain hp2]; rfl) (by rw [star_plain hp2]; rfl)) fun σ H R ⟨g, ρ, Ss, e, c, r⟩ => ⟨g, ρ, Ss, e, c, two_core kI_mono r fun d d2 S1 g1 H1 v v2 n k k2 h1 => by
    cases d with
    | int i =>
      cases d2 with
      | int j =>
        dsimp only at h1
        by_cases hj : (-(2 ^ 62) ≤ i ∧ i < 2 ^ 62) ∧ (-(2 ^ 62) ≤ j ∧ j < 2 ^ 62)
        · rw [if_pos hj] at h1
          rw [show v = V.int i from k, show v2 = V.int j from k2]
          exact ⟨i, j, rfl, ⟨hj.1.1, hj.1.2, hj.2.1, hj.2.2⟩, h1 g1 H1 _ (Nxt.refl n.ce) itD_range⟩
        · rw [if_neg hj] at h1; exact h1.elim
      | _ => exact h1.elim
    | _ => exact h1.elim⟩

/-! ### enumerate, zip -/
def enumD : Nat → List D → List D
  | _, [] => []
  | n, d :: ds => .tup [.int (n : Int), d] :: enumD (n + 1) ds
theorem enumD_len : ∀ (n : Nat) (ds : List D), (enumD n ds).length = ds.length
  | _, [] => rfl
  | n, d :: ds => by simp [enumD, enumD_len (n + 1) ds]
theorem enumD_get : ∀ (n : Nat) (ds : List D) (i : Nat), (enumD n ds)[i]? = (ds[i]?).map fun d => .tup [.int ((n + i : Nat) : Int), d]
  | _, [], i => by simp [enumD]
  | n, d :: ds, 0 => by simp [enumD]
  | n, d :: ds, i + 1 => by
    simp only [enumD, List.getElem?_cons_succ]
    rw [enumD_get (n + 1) ds i]
    congr 2
    funext d
    congr 4
    omega
def zipD : List D → List D → List D
  | a :: as, b :: bs => .tup [a, b] :: zipD as bs
  | _, _ => []
theorem zipD_len : ∀ (as bs : List D), (zipD as bs).length = min as.length bs.length
  | [], _ => by simp [zipD]
  | _ :: _, [] => by simp [zipD]
  | a :: as, b :: bs => by simp only [zipD, List.length_cons, zipD_len as bs]; omega
theorem zipD_get : ∀ (as bs : List D) (i : Nat) (d : D), (zipD as bs)[i]? = some d → ∃ a b, as[i]? = some a ∧ bs[i]? = some b ∧ d = .tup [a, b]
  | [], _, i, d, h => by simp [zipD] at h
  | _ :: _, [], i, d, h => by simp [zipD] at h
  | a :: as, b :: bs, 0, d, h => by simp [zipD] at h; exact ⟨a, b, rfl, rfl, h.symm⟩
  | a :: as, b :: bs, i + 1, d, h => by simp only [zipD, List.getElem?_cons_succ] at h ⊢; exact zipD_get as bs i d h
theorem pair_new {g2 : Reg} {H2 : Hp} {S2 : List D} {a b : D} {x y : V} {p : Addr} (ce : Cel T K mg g2 H2 S2) (hn : H2 p = none) (ra : Rep K mg g2 H2 a x) (rb : Rep K mg g2 H2 b y) :
    ∃ g3, Nxt T K mg g2 H2 S2 g3 (upd H2 p (.tup [x, y])) ∧ Rep K mg g3 (upd H2 p (.tup [x, y])) (.tup [a, b]) (.ref p) := by
  have r : Reps K mg g2 H2 [a, b] [x, y] := ⟨x, [y], rfl, ra, y, [], rfl, rb, rfl⟩
  exact ⟨_, nxt_new ce hn noTbl_tup, p, _, rfl, .inr rfl, upd_same, r.at_new ce hn⟩
def mEnum (m : M D) : M (List D) := fun ρ Ss => (m ρ Ss).bind fun d S1 => match iterD d with
  | some ds => .ok (enumD 0 ds) S1
  | none => .bad
theorem SrcK.itE {own : Bool} (hk : SrcK K mg own g H ds v) : ∃ (S : Src) (xs : List V), S.isV v ∧ S.val K H xs ∧ ItD T K mg own g H (enumD 0 ds) (ItE K S) := by
  obtain ⟨S, xs, hi, hk⟩ := hk
  refine ⟨S, xs, hi, (hk g H ⟨fun _ z => z, [], by simp⟩ KeepA.refl).1, fun g2 H2 S2 u k ce i => ?_⟩
  obtain ⟨hv, hr⟩ := hk g2 H2 u k
  have hl := hr.length
  refine ⟨fun d hd => ?_, fun e => ⟨xs, hv, by rw [hl]; rw [enumD_len] at e; exact e⟩⟩
  rw [enumD_get] at hd
  obtain ⟨d', hd', rfl⟩ := Option.map_eq_some_iff.mp hd
  obtain ⟨x, hx, rx⟩ := hr.get hd'
  refine ⟨⟨xs, x, hv, hx⟩, fun y H3 ⟨p, x', e1, hn, e2, e3⟩ => ?_⟩
  have := e3 xs hv
  rw [hx] at this; cases this
  subst e1; subst e2
  rw [Nat.zero_add]
  exact pair_new (a := .int i) ce hn rfl rx
theorem di_enum {elts : List Expr} {kk : Nat} (hg : Gl X "enumerate") (hm : X.mg "enumerate" = none) (h : DE X T Wx e m) (hp : isStar e = false) : DI X T Wx (.Tuple elts kk tpos) (.Call (.Name "enumerate" p) [e] [] pos) false (mEnum m) :=
  pi_imp (pi_enS hg hm (das_cons h das_nil hp) (star_plain hp)) fun σ H R ⟨g, ρ, Ss, e, c, r⟩ => ⟨g, ρ, Ss, e, c, one_core kI_mono r fun d S1 g1 H1 v n k h1 => by
    cases hd : iterD d with
    | none => rw [hd] at h1; exact h1.elim
    | some ds =>
      rw [hd] at h1
      obtain ⟨S, xs, hi, hv, it⟩ := (k.src hd).itE (T := T)
      exact ⟨v, S, xs, rfl, hi, hv, h1 g1 H1 _ (Nxt.refl n.ce) it⟩⟩
def mZip (m m2 : M D) : M (List D) := fun ρ Ss => (m ρ Ss).bind fun d S1 => (m2 ρ S1).bind fun d2 S2 => match iterD d, iterD d2 with
  | some ds, some es => .ok (zipD ds es) S2
  | _, _ => .bad
theorem SrcK.itZ {own : Bool} {v2 : V} (hk : SrcK K mg own g H ds v) (hk2 : SrcK K mg own g H es v2) :
    ∃ (S S2 : Src) (xs ys : List V), S.isV v ∧ S2.isV v2 ∧ S.val K H xs ∧ S2.val K H ys ∧ ItD T K mg own g H (zipD ds es) (ItZ K S S2) := by
  obtain ⟨S, xs, hi, hk⟩ := hk
  obtain ⟨S', ys, hi', hk'⟩ := hk2
  refine ⟨S, S', xs, ys, hi, hi', (hk g H ⟨fun _ z => z, [], by simp⟩ KeepA.refl).1, (hk' g H ⟨fun _ z => z, [], by simp⟩ KeepA.refl).1, fun g2 H2 S2 u k ce i => ?_⟩
  obtain ⟨hv, hr⟩ := hk g2 H2 u k
  obtain ⟨hv', hr'⟩ := hk' g2 H2 u k
  have hl := hr.length
  have hl' := hr'.length
  refine ⟨fun d hd => ?_, fun e => ⟨xs, ys, hv, hv', ?_⟩⟩
  · obtain ⟨a, b, ha, hb, rfl⟩ := zipD_get _ _ _ _ hd
    obtain ⟨x, hx, rx⟩ := hr.get ha
    obtain ⟨y, hy, ry⟩ := hr'.get hb
    refine ⟨⟨xs, ys, x, y, hv, hv', hx, hy⟩, fun w H3 ⟨p, x', y', e1, hn, e2, e3, e4⟩ => ?_⟩
    have t1 := e3 xs hv
    rw [hx] at t1; cases t1
    have t2 := e4 ys hv'
    rw [hy] at t2; cases t2
    subst e1; subst e2
    exact pair_new ce hn rx ry
  · rw [zipD_len] at e
    rw [hl, hl']
    omega
theorem di_zip {elts : List Expr} {kk : Nat} {m2 : M D} (hg : Gl X "zip") (hm : X.mg "zip" = none) (h : DE X T Wx e m) (h2 : DE X T Wx e2 m2) (hp : isStar e = false) (hp2 : isStar e2 = false) : DI X T Wx (.Tuple elts kk tpos) (.Call (.Name "zip" p) [e, e2] [] pos) false (mZip m m2) :=
  pi_imp (pi_zipS hg hm (das_cons h (das_cons h2 das_nil hp2) hp) (star_plain hp) (by rw [star_plain hp2]; rfl)) fun σ H R ⟨g, ρ, Ss, e, c, r⟩ => ⟨g, ρ, Ss, e, c, two_core kI_mono r fun d d2 S1 g1 H1 v v2 n k k2 h1 => by
    cases hd : iterD d with
    | none => rw [hd] at h1; exact h1.elim
    | some ds =>
      cases hd2 : iterD d2 with
      | none => rw [hd, hd2] at h1; exact h1.elim
      | some es =>
        rw [hd, hd2] at h1
        obtain ⟨S, S2, xs, ys, i1, i2, v1, v2', it⟩ := (k.src hd).itZ (T := T) (k2.src hd2)
        exact ⟨v, v2, S, S2, xs, ys, rfl, i1, i2, v1, v2', h1 g1 H1 _ (Nxt.refl n.ce) it⟩⟩
end
end Dm
end
section
namespace Dm
open PySem PySem.Spec L2

/-! ### targets -/
inductive Tgt where
  | nm (i : Nat) | tp (ts : List Tgt)
mutual
def bindT : Tgt → D → DEnv → Option DEnv
  | .nm i, d, ρ => some (ρ.set i (some (.val d)))
  | .tp ts, d, ρ => match itemsD d with
    | some xs => bindTs ts xs ρ
    | none => none
def bindTs : List Tgt → List D → DEnv → Option DEnv
  | [], [], ρ => some ρ
  | t :: ts, x :: xs, ρ => match bindT t x ρ with
    | some ρ' => bindTs ts xs ρ'
    | none => none
  | _, _, _ => none
end
mutual
def Tgt.slots : Tgt → List Nat
  | .nm i => [i]
  | .tp ts => Tgt.slotsL ts
def Tgt.slotsL : List Tgt → List Nat
  | [] => []
  | t :: ts => t.slots ++ Tgt.slotsL ts
end
theorem wipe_get (σ : L2.St) (i : Nat) : ∀ vs : List Nat, (wipe σ vs)[i]? = if i ∈ vs then (σ[i]?).map (fun _ => none) else σ[i]?
  | [] => by simp [wipe]
  | v :: vs => by
    have ih := wipe_get σ i vs
    unfold wipe
    by_cases h : v = i
    · subst h
      rw [List.getElem?_set]
      simp only [if_true, List.mem_cons, true_or]
      by_cases hl : v < σ.length
      · rw [if_pos (by rw [wipe_length]; exact hl), List.getElem?_eq_getElem hl]; rfl
      · rw [if_neg (by rw [wipe_length]; exact hl), List.getElem?_eq_none (by omega)]; rfl
    · rw [List.getElem?_set_ne h, ih]
      by_cases h2 : i ∈ vs
      · simp [h2]
      · have : ¬ i = v := fun e => h e.symm
        simp [h2, this]
theorem wipe_idem (σ : L2.St) (vs : List Nat) : wipe (wipe σ vs) vs = wipe σ vs := by
  refine List.ext_getElem? fun i => ?_
  rw [wipe_get, wipe_get]
  by_cases h : i ∈ vs
  · simp only [h, if_true, Option.map_map]; rfl
  · simp only [h, if_false]
theorem wipe_set {σ : L2.St} {vs : List Nat} {i : Nat} {x : Option V} (h : i ∈ vs) : wipe (σ.set i x) vs = wipe σ vs := by
  refine List.ext_getElem? fun j => ?_
  rw [wipe_get, wipe_get]
  by_cases hj : j ∈ vs
  · simp only [hj, if_true]
    by_cases e : i = j
    · subst e
      by_cases hl : i < σ.length
      · rw [List.getElem?_set_self hl, List.getElem?_eq_getElem hl]; rfl
      · rw [List.getElem?_eq_none (by simpa using hl), List.getElem?_eq_none (by omega)]
    · rw [List.getElem?_set_ne e]
  · simp only [hj, if_false]
    have hne : i ≠ j := fun e => hj (e ▸ h)
    rw [List.getElem?_set_ne hne]
def wipeD (ρ : DEnv) : List Nat → DEnv
  | [] => ρ
  | v :: vs => (wipeD ρ vs).set v none
section
variable {T : List (Addr × Str)} {K : PySem.W.Frag} {mg : Str → Option Value} {g : Reg} {H : Hp} {ρ ρ' : DEnv} {σ σ' : L2.St} {d : D} {x : V} {i : Nat}
theorem get_set {α : Type} {l : List α} {i j : Nat} {a b : α} (h : (l.set i a)[j]? = some b) : (i = j ∧ a = b) ∨ (i ≠ j ∧ l[j]? = some b) := by
  by_cases e : i = j
  · subst e
    by_cases hl : i < l.length
    · rw [List.getElem?_set_self hl] at h; cases h; exact .inl ⟨rfl, rfl⟩
    · rw [List.getElem?_eq_none (by simpa using hl)] at h; cases h
  · rw [List.getElem?_set_ne e] at h; exact .inr ⟨e, h⟩
theorem get_set_self {α : Type} {l : List α} {i : Nat} {a b : α} (h : l[i]? = some b) : (l.set i a)[i]? = some a :=
  List.getElem?_set_self (List.getElem?_eq_some_iff.mp h).1
theorem set_get {ρ : DEnv} {σ : L2.St} (hl : ρ.length = σ.length) {i : Nat} {a b : Option Slot} {c : Option V} (h : (ρ.set i a)[i]? = some b) : (σ.set i c)[i]? = some c := by
  obtain ⟨h1, _⟩ := List.getElem?_eq_some_iff.mp h
  rw [List.length_set] at h1
  exact List.getElem?_set_self (by omega)
theorem Own.of_set {a : Option Slot} {c : Option V} (ha : ∀ d, a ≠ some (Slot.own d)) {j : Nat} {p : Addr} (h : Own (ρ.set i a) (σ.set i c) j p) : Own ρ σ j p := by
  obtain ⟨⟨d, h1⟩, h2⟩ := h
  rcases get_set h1 with ⟨_, e⟩ | ⟨hne, h1⟩
  · exact absurd e (ha d)
  · rw [List.getElem?_set_ne hne] at h2
    exact ⟨⟨d, h1⟩, h2⟩
theorem REnv.set (e : REnv K mg g H ρ σ) (r : Rep K mg g H d x) : REnv K mg g H (ρ.set i (some (.val d))) (σ.set i (some x)) := by
  refine ⟨by simpa using e.len, fun j d' h => ?_, fun j d' h => ?_, fun j k a h1 h2 => e.sep j k a (h1.of_set fun d => by simp) (h2.of_set fun d => by simp)⟩
  · rcases get_set h with ⟨rfl, h'⟩ | ⟨hne, h'⟩
    · cases h'
      exact ⟨x, set_get e.len h, r⟩
    · obtain ⟨v, h1, h2⟩ := e.val j d' h'
      exact ⟨v, by rw [List.getElem?_set_ne hne]; exact h1, h2⟩
  · rcases get_set h with ⟨rfl, h'⟩ | ⟨hne, h'⟩
    · cases h'
    · obtain ⟨v, h1, h2⟩ := e.own j d' h'
      exact ⟨v, by rw [List.getElem?_set_ne hne]; exact h1, h2⟩
theorem REnv.clear (e : REnv K mg g H ρ σ) : REnv K mg g H (ρ.set i none) (σ.set i none) := by
  refine ⟨by simpa using e.len, fun j d' h => ?_, fun j d' h => ?_, fun j k a h1 h2 => e.sep j k a (h1.of_set fun d => by simp) (h2.of_set fun d => by simp)⟩
  · rcases get_set h with ⟨rfl, h'⟩ | ⟨hne, h'⟩
    · cases h'
    · obtain ⟨v, h1, h2⟩ := e.val j d' h'
      exact ⟨v, by rw [List.getElem?_set_ne hne]; exact h1, h2⟩
  · rcases get_set h with ⟨rfl, h'⟩ | ⟨hne, h'⟩
    · cases h'
    · obtain ⟨v, h1, h2⟩ := e.own j d' h'
      exact ⟨v, by rw [List.getElem?_set_ne hne]; exact h1, h2⟩
theorem REnv.wipe (e : REnv K mg g H ρ σ) : ∀ vs : List Nat, REnv K mg g H (wipeD ρ vs) (L2.wipe σ vs)
  | [] => e
  | v :: vs => by
    unfold wipeD L2.wipe
    exact (e.wipe vs).clear

def tG (K : PySem.W.Frag) (mg : Str → Option Value) (t : Tgt) : TG := fun x σ H Q => ∃ g ρ d ρ', REnv K mg g H ρ σ ∧ Rep K mg g H d x ∧ bindT t d ρ = some ρ' ∧
  ∀ σ', REnv K mg g H ρ' σ' → (∀ vs, (∀ i ∈ t.slots, i ∈ vs) → L2.wipe σ' vs = L2.wipe σ vs) → Q σ' H
def tGs (K : PySem.W.Frag) (mg : Str → Option Value) (ts : List Tgt) : TGs := fun xs σ H Q => ∃ g ρ ds ρ', REnv K mg g H ρ σ ∧ Reps K mg g H ds xs ∧ bindTs ts ds ρ = some ρ' ∧
  ∀ σ', REnv K mg g H ρ' σ' → (∀ vs, (∀ i ∈ Tgt.slotsL ts, i ∈ vs) → L2.wipe σ' vs = L2.wipe σ vs) → Q σ' H
theorem bindTs_len : ∀ {ts : List Tgt} {ds : List D} {ρ ρ' : DEnv}, bindTs ts ds ρ = some ρ' → ds.length = ts.length
  | [], [], _, _, _ => rfl
  | [], _ :: _, _, _, h => by simp [bindTs] at h
  | _ :: _, [], _, _, h => by simp [bindTs] at h
  | t :: ts, d :: ds, ρ, ρ', h => by
    unfold bindTs at h
    cases hb : bindT t d ρ with
    | none => rw [hb] at h; cases h
    | some ρ1 =>
      rw [hb] at h
      have := bindTs_len (ρ := ρ1) h
      simp [this]
end
section
variable {X : Cx} {e tg : Expr} {es : List Expr} {t : Tgt} {ts : List Tgt} {pos : Pos} {n : Nat}
abbrev DG (X : Cx) (tg : Expr) (t : Tgt) : Prop := PG X tg (tG X.K X.mg t)
abbrev DGs (X : Cx) (tg : List Expr) (t : List Tgt) : Prop := PGs X tg (tGs X.K X.mg t)
theorem pg_imp {t t' : TG} (h : PG X e t) (i : ∀ x σ H Q, t' x σ H Q → t x σ H Q) : PG X e t' := ⟨fun pins s σ H v u Q I r w => h.run pins s σ H v u Q I r (i _ _ _ _ w)⟩
theorem pgs_imp {t t' : TGs} (h : PGs X es t) (i : ∀ x σ H Q, t' x σ H Q → t x σ H Q) : PGs X es t' := ⟨fun pins s σ H v u Q I r w => h.run pins s σ H v u Q I r (i _ _ _ _ w)⟩
theorem dg_name {i : Nat} {x : Str} (hN : X.N.Nodup) (hi : X.N[i]? = some x) (hx : Loc X.env.scope x) (hf : X.fn x = true ∨ X.env.scope.names.lookup x = some .local) : DG X (.Name x pos) (.nm i) :=
  pg_imp (pg_name hN hi hx hf) fun x σ H Q ⟨g, ρ, d, ρ', e, r, hb, q⟩ => by
    cases hb
    exact q _ (e.set r) fun vs h => wipe_set (h i (by simp [Tgt.slots]))
theorem dgs_nil : DGs X [] [] := pgs_imp pgs_nil fun x σ H Q ⟨g, ρ, ds, ρ', e, r, hb, q⟩ => by
  have := bindTs_len hb
  obtain rfl : ds = [] := by cases ds with | nil => rfl | cons => simp at this
  cases hb
  exact ⟨r, q _ e fun vs _ => rfl⟩
theorem dgs_cons (h1 : DG X e t) (h2 : DGs X es ts) (hs : (assignEach (e :: es) X.env).map (·.2) = assign e X.env :: (assignEach es X.env).map (·.2)) : DGs X (e :: es) (t :: ts) :=
  pgs_imp (pgs_cons h1 h2 hs) fun x σ H Q ⟨g, ρ, ds, ρ', e, r, hb, q⟩ => by
    cases ds with
    | nil => simp [bindTs] at hb
    | cons d ds =>
      unfold bindTs at hb
      cases hb1 : bindT t d ρ with
      | none => rw [hb1] at hb; cases hb
      | some ρ1 =>
        rw [hb1] at hb
        obtain ⟨v, r2, rfl, rv, rr⟩ := r
        refine ⟨v, r2, rfl, g, ρ, d, ρ1, e, rv, hb1, fun σ1 e1 w1 => ⟨g, ρ1, ds, ρ', e1, rr, hb, fun σ2 e2 w2 => q σ2 e2 fun vs hv => ?_⟩⟩
        rw [w2 vs fun i hi => hv i (by unfold Tgt.slotsL; exact List.mem_append_right _ hi), w1 vs fun i hi => hv i (by unfold Tgt.slotsL; exact List.mem_append_left _ hi)]
theorem dg_tup {k : Nat} (hc : X.calm = true) (h : DGs X es ts) (hn : (assignEach es X.env).length = ts.length) (hst : (assignEach es X.env).findIdx? (·.1) = none) : DG X (.Tuple es k pos) (.tp ts) := by
  have p1 := pg_tup (k := k) (pos := pos) hc h hn hst
  have p2 := pg_lst (k := k) (pos := pos) hc h hn hst
  refine ⟨fun pins s σ H v u Q I r ⟨g, ρ, d, ρ', e, rd, hb, q⟩ => ?_⟩
  unfold bindT at hb
  cases d with
  | tup xs =>
    obtain ⟨a, vs, rfl, z, h1, h2⟩ := rd
    have hb : bindTs ts xs ρ = some ρ' := hb
    exact p1.run pins s σ H _ u Q I r ⟨a, vs, rfl, SqT.of h1, by rw [h2.length]; exact bindTs_len hb, g, ρ, xs, ρ', e, h2, hb, fun σ' e' w => q σ' e' fun vs hv => w vs fun i hi => hv i (by unfold Tgt.slots; exact hi)⟩
  | lst xs =>
    obtain ⟨a, vs, rfl, z, h1, h2⟩ := rd
    have hb : bindTs ts xs ρ = some ρ' := hb
    exact p2.run pins s σ H _ u Q I r ⟨a, vs, rfl, SqL.of h1, by rw [h2.length]; exact bindTs_len hb, g, ρ, xs, ρ', e, h2, hb, fun σ' e' w => q σ' e' fun vs hv => w vs fun i hi => hv i (by unfold Tgt.slots; exact hi)⟩
  | _ => cases hb
end
end Dm
end
section
namespace Dm
open PySem PySem.Spec L2

/-! ### comprehensions -/
def noX {α : Type} : R α → R α
  | .exc _ _ _ => .bad
  | r => r
@[simp] theorem noX_ok {α : Type} {a : α} {s : List D} : noX (R.ok a s) = R.ok a s := rfl
def mColl (f : D → List D → R (Option D)) : List D → List D → R (List D)
  | [], Ss => .ok [] Ss
  | d :: ds, Ss => (f d Ss).bind fun o S1 => (mColl f ds S1).bind fun r S2 => .ok (match o with | some x => x :: r | none => r) S2
def oneC (t : Tgt) (vs : List Nat) (mc : M Bool) (me : M D) (ρ : DEnv) : D → List D → R (Option D) := fun d Ss => match bindT t d (wipeD ρ vs) with
  | none => .bad
  | some ρ2 => (noX (mc ρ2 Ss)).bind fun b S1 => if b = true then (noX (me ρ2 S1)).bind fun x S2 => .ok (some x) S2 else .ok none S1
def mComp (mi : M (List D)) (t : Tgt) (vs : List Nat) (mc : M Bool) (me : M D) : M D := fun ρ Ss => (mi ρ Ss).bind fun ds S1 =>
  if ds.length ≤ big then (mColl (oneC t vs mc me ρ) ds S1).bind fun xs S2 => .ok (.lst xs) S2 else .bad
def mYes : M Bool := fun _ Ss => .ok true Ss
def W0 : Wish := fun _ _ _ => False
section
variable {T : List (Addr × Str)} {K : PySem.W.Frag} {mg : Str → Option Value} {Wx : Wish} {g g1 : Reg} {H H1 : Hp} {Ss S1 : List D} {p : Addr}
theorem tabs_own {o o' : HO} (t : LamX.Tabs T H) (hp : H p = some o) (n : NoTbl o) (hc : ∀ c q, o ≠ LamX.CodeO c q) : LamX.Tabs T (upd H p o') := fun x hx => by
  obtain ⟨ps, h1, h2, h3⟩ := t x hx
  refine ⟨ps, ?_, h2, fun pos cv h => ?_⟩
  · rw [upd_ne (fun e => by rw [e, hp] at h1; cases h1; exact n ps rfl)]; exact h1
  · obtain ⟨c, e1, e2⟩ := h3 pos cv h
    refine ⟨c, e1, ?_⟩
    rw [upd_ne (fun e => by rw [e, hp] at e2; cases e2; exact hc _ _ rfl)]; exact e2
theorem lst_no_code {xs : List V} : ∀ c q, HO.lst xs ≠ LamX.CodeO c q := fun c q z => nomatch z
theorem dK_no_code {xs} : ∀ c q, HO.dK xs ≠ LamX.CodeO c q := fun c q z => nomatch z
/-- an owned thing is written -/
theorem Nxt.own {o o' : HO} (n : Nxt T K mg g H S1 g1 H1) (hn : Fr H p) (hZ : ¬ g1.Z p) (hc : p ∉ g1.cs) (hp : H1 p = some o) (nt : NoTbl o) (nc : ∀ c q, o ≠ LamX.CodeO c q) : Nxt T K mg g H S1 g1 (upd H1 p o') := by
  refine ⟨n.gr, ⟨fun a u h t z => ?_, fun a h => ?_⟩, ⟨n.ce.len, n.ce.nd, fun i a d h1 h2 => ?_, tabs_own n.ce.tabs hp nt nc, fun a z e => ?_⟩⟩
  · rw [upd_ne (fun e : a = p => hn u (e ▸ h) t)]; exact n.ex.keep a u h t z
  · by_cases e : a = p
    · rw [e]; exact hn
    · exact n.ex.dom a fun u hu => h u (by rw [upd_ne e]; exact hu)
  · have hne : a ≠ p := fun e => hc (e ▸ List.mem_of_getElem? h1)
    have up : Up g1 g1 := ⟨fun _ z => z, [], by simp⟩
    have kz : ∀ a o, g1.Z a → H1 a = some o → NoTbl o → upd H1 p o' a = some o := fun a o z h t => by
      rw [upd_ne (fun e : a = p => hZ (e ▸ z))]; exact h
    have c := n.ce.at_ i a d h1 h2
    cases d with
    | lst xs => obtain ⟨vs, q1, q2⟩ := c; exact ⟨vs, by rw [upd_ne hne]; exact q1, q2.upZ up kz⟩
    | dic ks ws => obtain ⟨vs, q1, q2, q3⟩ := c; exact ⟨vs, by rw [upd_ne hne]; exact q1, q2.upZ up kz, q3.upZ up kz⟩
    | _ => exact c.elim
  · by_cases e' : a = p
    · exact hZ (e' ▸ z)
    · exact n.ce.zt a z fun u hu => e u (by rw [upd_ne e']; exact hu)
theorem keepZ_own {o' : HO} (hZ : ¬ g1.Z p) : ∀ a o, g1.Z a → H1 a = some o → NoTbl o → upd H1 p o' a = some o := fun a o z h t => by
  rw [upd_ne (fun e : a = p => hZ (e ▸ z))]; exact h
theorem noX_w {α β : Type} {k : α → Hp → Reg → Hp → β → Prop} {r : R α} {P : β → Hp → Prop} (hb : ∀ e, noX r = e → e ≠ .bad) (h : ∀ a S' g' H' v, r = .ok a S' → Nxt T K mg g H S' g' H' → k a H g' H' v → P v H') : ResG T K mg W0 k g H r P := by
  cases r with
  | bad => exact absurd rfl (hb _ rfl)
  | exc _ _ _ => exact absurd rfl (hb _ rfl)
  | ok a S' => exact fun g' H' v n kk => h a S' g' H' v rfl n kk
theorem Up.refl (g : Reg) : Up g g := ⟨fun _ z => z, [], by simp⟩
end
section
variable {X : Cx} {T : List (Addr × Str)} {Wx : Wish} {own : Bool} {tg it elt : Expr} {ifs : List Expr} {mi : M (List D)} {t : Tgt} {mc : M Bool} {me : M D} {scope : Scope} {ow : List (Str × Nat)} {pos : Pos} {vs : List Nat}
theorem lc_of (hsl : ∀ i ∈ t.slots, i ∈ vs) {σ : L2.St} {H : Hp} {Q : VK} (h : tK T X.K X.mg Wx (kF X.K X.mg) (mComp mi t vs mc me) σ H Q) :
    tLc (tI T X.K X.mg Wx own mi) (tG X.K X.mg t) (tT T X.K X.mg W0 mc) (tK T X.K X.mg W0 (kR X.K X.mg) me) vs σ H Q := by
  obtain ⟨g, ρ, Ss, e, c, r⟩ := h
  refine ⟨g, ρ, Ss, e, c, r.then (kF_mono g) fun ds S1 g1 H1 J _ n itD h1 => fun D0 hD => ?_⟩
  by_cases hl : ds.length ≤ big
  · rw [if_pos hl] at h1
    let Inv (i : Nat) (H' : Hp) : Prop := ∃ g2 S2 acc vs', acc.length ≤ i ∧ Nxt T X.K X.mg g1 H1 S2 g2 H' ∧ H' D0 = some (.lst vs') ∧ Reps X.K X.mg g2 H' acc vs' ∧ ¬ g2.Z D0 ∧ D0 ∉ g2.cs ∧
      ResG T X.K X.mg Wx (kF X.K X.mg) g1 H1 ((mColl (oneC t vs mc me ρ) (ds.drop i) S2).bind fun xs S3 => .ok (.lst (acc ++ xs)) S3) Q
    refine ⟨fun i m H' => m = ds.length - i ∧ i ≤ ds.length ∧ Inv i H', ⟨ds.length, by simp, Nat.zero_le _, g1, S1, [], [], Nat.zero_le _, nxt_newF n.ce hD, upd_same, rfl, fun z => n.ce.zt D0 z (fr_none hD), n.ce.off (fr_none hD), ?_⟩, ?_⟩
    · simpa using h1
    · rintro i m H' ⟨rfl, hi, g2, S2, acc, vs', ha, N2, hL, hR, nz, nc, rest⟩
      obtain ⟨step, stop⟩ := itD g2 H' S2 N2.gr.toUp (KeepA.ext N2.ex) N2.ce i
      by_cases hlt : i < ds.length
      · obtain ⟨go, yl⟩ := step ds[i] (List.getElem?_eq_getElem hlt)
        refine .inr ⟨go, Inv (i + 1), fun H'' p => ⟨ds.length - (i + 1), by omega, rfl, hlt, p⟩, fun x H3 hy => ?_⟩
        obtain ⟨g3, n3, rx⟩ := yl x H3 hy
        rw [List.drop_eq_getElem_cons hlt] at rest
        unfold mColl at rest
        cases hb : bindT t ds[i] (wipeD ρ vs) with
        | none =>
          have : oneC t vs mc me ρ ds[i] S2 = .bad := by unfold oneC; rw [hb]
          rw [this] at rest; exact rest.elim
        | some ρ2 =>
          have e1 : oneC t vs mc me ρ ds[i] S2 = (noX (mc ρ2 S2)).bind fun b S1 => if b = true then (noX (me ρ2 S1)).bind fun x S2 => .ok (some x) S2 else .ok none S1 := by unfold oneC; rw [hb]
          rw [e1] at rest
          have N3 := N2.trans n3
          refine ⟨g3, wipeD ρ vs, ds[i], ρ2, ((e.mono n).mono N3).wipe vs, rx, hb, fun σ2 e2 w2 => ⟨(w2 vs hsl).trans (wipe_idem σ vs), g3, ρ2, S2, e2, n3.ce, noX_w (fun z hz eb => ?_) fun b S4 g4 H4 b' er n4 kb => ?_⟩⟩
          · rw [eb] at hz; rw [hz] at rest; exact rest
          · subst kb
            rw [er] at rest
            simp only [noX_ok, R.bind_ok] at rest
            have N4 := N3.trans n4
            have hL3 : H3 D0 = some (.lst vs') := n3.ex.keep _ _ hL noTbl_lst nc
            have nc3 := n3.gr.off hL noTbl_lst nc
            have nz3 := n3.gr.offZ hL noTbl_lst nz
            have hL4 : H4 D0 = some (.lst vs') := n4.ex.keep _ _ hL3 noTbl_lst nc3
            have nc4 := n4.gr.off hL3 noTbl_lst nc3
            have nz4 := n4.gr.offZ hL3 noTbl_lst nz3
            have hR4 : Reps X.K X.mg g4 H4 acc vs' := (hR.mono n3.gr n3.ex).mono n4.gr n4.ex
            cases b' with
            | false =>
              simp only [Bool.false_eq_true, if_false, R.bind_ok] at rest ⊢
              refine ⟨g4, S4, acc, vs', by omega, N4, hL4, hR4, nz4, nc4, ?_⟩
              have e3 : ∀ (r : R (List D)), (r.bind fun r S2 => R.ok r S2) = r := fun r => by cases r <;> rfl
              rw [e3] at rest
              exact rest
            | true =>
              simp only [if_true] at rest ⊢
              refine ⟨g4, ρ2, S4, e2.mono n4, n4.ce, noX_w (fun z hz eb => ?_) fun y S5 g5 H5 yv er5 n5 ky => ?_⟩
              · rw [eb] at hz; rw [hz] at rest; exact rest
              · rw [er5] at rest
                simp only [noX_ok, R.bind_ok] at rest
                have N5 := N4.trans n5
                have hL5 : H5 D0 = some (.lst vs') := n5.ex.keep _ _ hL4 noTbl_lst nc4
                have nc5 := n5.gr.off hL4 noTbl_lst nc4
                have nz5 := n5.gr.offZ hL4 noTbl_lst nz4
                have hR5 : Reps X.K X.mg g5 H5 acc vs' := hR4.mono n5.gr n5.ex
                refine ⟨vs', hL5, ?_, g5, S5, acc ++ [y], vs' ++ [yv], by rw [List.length_append]; simp; omega, N5.own (fr_none hD) nz5 nc5 hL5 noTbl_lst lst_no_code, upd_same, ?_, nz5, nc5, ?_⟩
                · rw [hR.length, big_eq]; exact Nat.lt_of_le_of_lt ha (Nat.lt_of_lt_of_le hlt hl)
                · exact Reps.upZ (Up.refl g5) (keepZ_own nz5) (hR5.append ⟨yv, [], rfl, ky, rfl⟩)
                · have e3 : ((mColl (oneC t vs mc me ρ) (ds.drop (i + 1)) S5).bind fun xs S3 => R.ok (D.lst (acc ++ [y] ++ xs)) S3) = (((mColl (oneC t vs mc me ρ) (ds.drop (i + 1)) S5).bind fun r S2 => R.ok (y :: r) S2).bind fun xs S3 => R.ok (D.lst (acc ++ xs)) S3) := by
                    cases mColl (oneC t vs mc me ρ) (ds.drop (i + 1)) S5 with
                    | ok a S' => simp
                    | _ => rfl
                  rw [e3]
                  exact rest
      · have ei : i = ds.length := by omega
        refine .inl ⟨stop ei.symm, ?_⟩
        rw [ei, List.drop_length] at rest
        have rest : ResG T X.K X.mg Wx (kF X.K X.mg) g1 H1 (.ok (.lst (acc ++ [])) S2) Q := rest
        rw [List.append_nil] at rest
        exact rest g2 H' (.ref D0) N2 ⟨D0, rfl, fr_none hD, nc, nz, vs', hL, hR⟩
  · rw [if_neg hl] at h1; exact h1.elim
theorem dts_nil : PTs X [] (tT T X.K X.mg W0 mYes) := ⟨fun pins s σ H Q I ⟨g, ρ, Ss, e, c, r⟩ => pts_nil.run pins s σ H Q I (r g H true (Nxt.refl c) rfl)⟩
theorem dts_one {c : Expr} (h : DT X T W0 c mc) : PTs X [c] (tT T X.K X.mg W0 mc) := pts_one h
/-- all about a comprehension but its place -/
structure CompD (X : Cx) (T : List (Addr × Str)) (Wx : Wish) (own : Bool) (elt tg it : Expr) (ifs : List Expr) (scope : Scope) (ow : List (Str × Nat)) (vs : List Nat) (mi : M (List D)) (t : Tgt) (mc : M Bool) (me : M D) : Prop where
  hi : DI X T Wx tg it own mi
  ok : BlkOk X.N X.env.scope scope ow
  hg : ∀ (s : Shared) (H : Hp) (C : Addr) (cl : List (Str × Addr)) (fp : List Addr), DG (X.blk s H scope (compEnvC scope cl C X.env) fp) tg t
  ht : ∀ (s : Shared) (H : Hp) (C : Addr) (cl : List (Str × Addr)) (fp : List Addr), PTs (X.blk s H scope (compEnvC scope cl C X.env) fp) ifs (tT T X.K X.mg W0 mc)
  he : ∀ (s : Shared) (H : Hp) (C : Addr) (cl : List (Str × Addr)) (fp : List Addr), DE (X.blk s H scope (compEnvC scope cl C X.env) fp) T W0 elt me
  hs : ∀ x, foldedSetIterable it X.env x = pure x
  sl : ∀ i ∈ t.slots, i ∈ vs
  ev : ow.map (·.2) = vs
theorem df_comp (hc : X.calm = true) (hN : X.N.Nodup) (h : CompD X T Wx own elt tg it ifs scope ow vs mi t mc me) : DF X T Wx (.ListComp elt [⟨tg, it, ifs, 0⟩] scope pos) (mComp mi t vs mc me) :=
  pe_imp (pe_lc hc hN h.hi h.ok h.hg h.ht h.he h.hs) fun σ H Q w => by rw [h.ev]; exact lc_of h.sl w
end
end Dm
end
section
namespace Dm
open PySem PySem.Spec L2

/-! ### defs as plain functions -/
def xk (mg : Str → Option Value) (Wx : Wish) : XK := fun cls d H' => d = none ∧ ∃ c p, mg c = some cls ∧ Wx c p H'
def wE (mg : Str → Option Value) (E : XK) : Wish := fun c _ H' => ∀ cls, mg c = some cls → E cls none H'
abbrev FD := List D → List D → R D
def spD (T : List (Addr × Str)) (K : PySem.W.Frag) (mg : Str → Option Value) (n : Nat) (k : Kind) (f : FD) : Sp := fun vs H Q E =>
  vs.length = n ∧ ∃ g ds Ss, Reps K mg g H ds vs ∧ Cel T K mg g H Ss ∧ ResG T K mg (wE mg E) k g H (f ds Ss) Q
def permV (perm : List Nat) (xs : List V) : List V := perm.map fun i => xs.getD i V.non
def permU (perm : List Nat) (xs : List Value) : List Value := perm.map fun i => xs.getD i Value.none
def permD (perm : List Nat) (xs : List D) : List D := perm.map fun i => xs.getD i D.non
/-- a way of calling by name: so many by place, the names, where each parameter's value stands -/
structure Kw where
  n : Nat
  ks : List Str
  perm : List Nat
structure FnD (P : Program) (w : World) (K : PySem.W.Frag) (mg : Str → Option Value) (base : Heap) (T : List (Addr × Str)) (k : Nat) (x : Str) (ps : List Str) (kd : Kind) (kws : List Kw) (f : FD) : Prop where
  ex : ∃ (a : Addr) (fd : FuncData), mg x = some (.ref a) ∧ PySem.W.keepIn K (.ref a) = true ∧ Binds K fd ps [] ∧ FnOk P w K mg base (L2.CX P w) k a fd ps (spD T K mg ps.length kd f) ∧
    (∀ q ∈ kws, ∀ (s : Shared) (us ws : List Value), us.length = q.n → ws.length = q.ks.length → BindsTo s fd ⟨us, q.ks.zip ws⟩ (ps.zip (permU q.perm (us ++ ws)))) ∧
    ∃ oc od osl, K.lookup a = some ⟨oc, od, .func fd, osl⟩
  bad : ∀ ds Ss, ds.length ≠ ps.length → f ds Ss = .bad
structure Ctx (X : Cx) (Wx : Wish) (k : Nat) : Prop where
  calm : X.calm = true
  room : Room k X.A
  pass : Passes (L2.CX X.prog X.w) X (xk X.mg Wx)
theorem Ctx.hu {X : Cx} {Wx : Wish} {k : Nat} (C : Ctx X Wx k) : X.A.units + 65 < cLine := by have := C.room.un; omega
theorem Ctx.hu1 {X : Cx} {Wx : Wish} {k : Nat} (C : Ctx X Wx k) : X.A.units + 1 < cLine := by have := C.room.un; omega

def mFn (f : FD) (ms : M (List D)) : M D := fun ρ Ss => (ms ρ Ss).bind f
def mFnK (f : FD) (q : Kw) (ms mk : M (List D)) : M D := fun ρ Ss => (ms ρ Ss).bind fun ds S1 => (mk ρ S1).bind fun es S2 => if ds.length = q.n ∧ es.length = q.ks.length then f (permD q.perm (ds ++ es)) S2 else .bad
def mFnL (i : Nat) (tbl : List (Str × FD)) (ms : M (List D)) : M D := fun ρ Ss => match ρ[i]? with
  | some (some (.val (.fn x))) => match tbl.lookup x with
    | some f => (ms ρ Ss).bind f
    | none => .bad
  | _ => .bad
section
variable {T : List (Addr × Str)} {K : PySem.W.Frag} {mg : Str → Option Value} {Wx : Wish} {g : Reg} {H : Hp}
theorem ResG.wish {α β : Type} {k : α → Hp → Reg → Hp → β → Prop} {r : R α} {Q : β → Hp → Prop} {W2 : Wish} (h : ResG T K mg Wx k g H r Q) (hw : ∀ c p H', Wx c p H' → W2 c p H') : ResG T K mg W2 k g H r Q := by
  cases r with
  | bad => exact h
  | exc c p S' => exact fun g' H' n => hw _ _ _ (h g' H' n)
  | ok d S' => exact h
theorem wish_xk {c : Str} {p : Option Int} {H' : Hp} (h : Wx c p H') : wE mg (xk mg Wx) c p H' := fun cls hc => ⟨rfl, c, p, hc, h⟩
theorem Vals.getD {vs : List V} {us : List Value} (h : Vals vs us) (i : Nat) : RelV (vs.getD i V.non) (us.getD i Value.none) := by
  have hl : vs.length = us.length := h.length
  rw [List.getD_eq_getElem?_getD, List.getD_eq_getElem?_getD]
  by_cases hi : i < vs.length
  · have e := List.getElem?_eq_getElem hi
    obtain ⟨u, hu, r⟩ := h.get e
    rw [e, hu]; exact r
  · rw [List.getElem?_eq_none (by omega), List.getElem?_eq_none (by omega)]
    rfl
theorem perm_rel {perm : List Nat} {vs : List V} {us : List Value} (h : Vals vs us) : Vals (permV perm vs) (permU perm us) := by
  induction perm with
  | nil => exact .nil
  | cons i r ih => exact .cons (Vals.getD h i) ih
theorem perm_reps {perm : List Nat} {ds : List D} {vs : List V} (h : Reps K mg g H ds vs) : Reps K mg g H (permD perm ds) (permV perm vs) := by
  induction perm with
  | nil => rfl
  | cons i r ih =>
    refine ⟨_, _, rfl, ?_, ih⟩
    show Rep K mg g H (ds.getD i D.non) (vs.getD i V.non)
    rw [List.getD_eq_getElem?_getD, List.getD_eq_getElem?_getD]
    by_cases hi : i < ds.length
    · have e := List.getElem?_eq_getElem hi
      obtain ⟨u, hu, r⟩ := h.get e
      rw [e, hu]; exact r
    · have hl := h.length
      rw [List.getElem?_eq_none (by omega), List.getElem?_eq_none (by omega)]
      rfl
end
section
variable {X : Cx} {T : List (Addr × Str)} {Wx : Wish} {k j : Nat} {x : Str} {ps : List Str} {kd : Kind} {kws : List Kw} {f : FD} {e : Expr} {es : List Expr} {ms mk : M (List D)} {p pos : Pos}
theorem sp_of (F : FnD X.prog X.w X.K X.mg X.base T j x ps kd kws f) {g : Reg} {H : Hp} {ds Ss : List D} {vs : List V} {Q : VK} (r : Reps X.K X.mg g H ds vs) (c : Cel T X.K X.mg g H Ss) (h : ResG T X.K X.mg Wx kd g H (f ds Ss) Q) : spD T X.K X.mg ps.length kd f vs H Q (xk X.mg Wx) := by
  refine ⟨?_, g, ds, Ss, r, c, h.wish fun c p H' => wish_xk⟩
  by_cases hl : ds.length = ps.length
  · rw [r.length, hl]
  · rw [F.bad ds Ss hl] at h; exact h.elim
theorem pe_fn (C : Ctx X Wx k) (F : FnD X.prog X.w X.K X.mg X.base T j x ps kd kws f) (hj : j ≤ k) (hk : KMono kd) (hg : Gl X x) (ha : DAs X T Wx (e :: es) ms) (hs : (e :: es).all (fun e => !isStar e) = true) (hdb : (x == ("__debug__" : Str)) = false) :
    PE X (.Call (.Name x p) (e :: es) [] pos) (tK T X.K X.mg Wx kd (mFn f ms)) := by
  obtain ⟨a, fd, hm, hkp, hb, Fo, _⟩ := F.ex
  have h2 := hs
  rw [List.all_cons, Bool.and_eq_true, Bool.not_eq_true'] at h2
  exact pe_imp (pe_call (Fo.mono hj) C.room hg hm hkp hb .nil C.pass ha hdb (star_plain h2.1) (star_none h2.2)) fun σ H Q ⟨g, ρ, Ss, e, c, r⟩ =>
    ⟨g, ρ, Ss, e, c, r.then (hk g) fun ds S1 g1 H1 vs _ n kk h1 => by rw [List.append_nil]; exact sp_of F kk n.ce h1⟩
/-- keywords' values -/
abbrev DKs (X : Cx) (T : List (Addr × Str)) (Wx : Wish) (kws : List Keyword) (m : M (List D)) : Prop := PK X kws (tAs T X.K X.mg Wx (kRs X.K X.mg) m)
theorem pk_imp {kw : List Keyword} {t t' : TA} (h : PK X kw t) (i : ∀ σ H Q, t' σ H Q → t σ H Q) : PK X kw t' := ⟨fun pos pins s σ H Q I w => h.run pos pins s σ H Q I (i _ _ _ w)⟩
theorem dks_nil : DKs X T Wx [] mNil := pk_imp pk_nil fun σ H Q ⟨g, ρ, Ss, e, c, r⟩ => r g H [] (Nxt.refl c) rfl
theorem dks_cons {nm : Option Str} {kpos : Pos} {kw : List Keyword} {m : M D} (h : DE X T Wx e m) (hs : DKs X T Wx kw ms) : DKs X T Wx (⟨nm, e, kpos⟩ :: kw) (mCons m ms) :=
  pk_imp (pk_cons h hs) fun σ H Q ⟨g, ρ, Ss, e, c, r⟩ => ⟨g, ρ, Ss, e, c, r.then (kRs_mono g) fun d S1 g1 H1 v _ n k h1 => ⟨g1, ρ, S1, e.mono n, n.ce, h1.then (kRs_mono g1) fun ds S2 g2 H2 vs _ n2 k2 h2 =>
    h2 g2 H2 _ (Nxt.refl n2.ce) ⟨v, vs, rfl, Rep.mono n2.gr n2.ex k, k2⟩⟩⟩
theorem fnK_core (hk : KMono kd) (F : FnD X.prog X.w X.K X.mg X.base T j x ps kd kws f) {q : Kw} {σ : L2.St} {H : Hp} {Q : VK} (h : tK T X.K X.mg Wx kd (mFnK f q ms mk) σ H Q) :
    tCallN q.n q.ks.length (spD T X.K X.mg ps.length kd f) (fun vs zs => permV q.perm (vs ++ zs)) (xk X.mg Wx) (tAs T X.K X.mg Wx (kRs X.K X.mg) ms) (tAs T X.K X.mg Wx (kRs X.K X.mg) mk) σ H Q := by
  obtain ⟨g, ρ, Ss, e, c, r⟩ := h
  refine ⟨g, ρ, Ss, e, c, r.then (hk g) fun ds S1 g1 H1 vs _ n kk h1 => ⟨g1, ρ, S1, e.mono n, n.ce, h1.then (hk g1) fun es S2 g2 H2 zs _ n2 k2 h2 => ?_⟩⟩
  by_cases hl : ds.length = q.n ∧ es.length = q.ks.length
  · rw [if_pos hl] at h2
    have kk2 := kk.mono n2.gr n2.ex
    exact ⟨by rw [kk2.length]; exact hl.1, by rw [Reps.length k2]; exact hl.2, sp_of F (perm_reps (kk2.append k2)) n2.ce h2⟩
  · rw [if_neg hl] at h2; exact h2.elim
theorem kbn_of {K : PySem.W.Frag} {fd : FuncData} {q : Kw} (h : ∀ (s : Shared) (us ws : List Value), us.length = q.n → ws.length = q.ks.length → BindsTo s fd ⟨us, q.ks.zip ws⟩ (ps.zip (permU q.perm (us ++ ws)))) :
    KBn K fd ps q.n q.ks (fun us ws => permU q.perm (us ++ ws)) (fun vs zs => permV q.perm (vs ++ zs)) :=
  ⟨fun s us ws _ l1 l2 => h s us ws l1 l2, fun r r2 => perm_rel (r.append r2)⟩
theorem pe_fnK {q : Kw} {kw : List Keyword} (C : Ctx X Wx k) (F : FnD X.prog X.w X.K X.mg X.base T j x ps kd kws f) (hj : j ≤ k) (hk : KMono kd) (hq : q ∈ kws) (hg : Gl X x) (ha : DAs X T Wx (e :: es) ms) (hkw : DKs X T Wx kw mk) (hs : (e :: es).all (fun e => !isStar e) = true)
    (hall : (backToKw pos (keywordEach kw X.env)).all (·.1.isSome) = true) (hks : (backToKw pos (keywordEach kw X.env)).filterMap (·.1) = q.ks) (hnn : (backToKw pos (keywordEach kw X.env)).any (·.1.isNone) = false) (hdb : (x == ("__debug__" : Str)) = false) :
    PE X (.Call (.Name x p) (e :: es) kw pos) (tK T X.K X.mg Wx kd (mFnK f q ms mk)) := by
  obtain ⟨a, fd, hm, hkp, hb, Fo, hB, _⟩ := F.ex
  have h2 := hs
  rw [List.all_cons, Bool.and_eq_true, Bool.not_eq_true'] at h2
  exact pe_imp (pe_callN (Fo.mono hj) C.room hg hm hkp (kbn_of (hB q hq)) C.pass ha hkw hall hks hdb (star_plain h2.1) (by rw [star_none hs, hnn]; rfl)) fun σ H Q h => fnK_core hk F h
theorem pe_fnK0 {q : Kw} {kw : List Keyword} (C : Ctx X Wx k) (F : FnD X.prog X.w X.K X.mg X.base T j x ps kd kws f) (hj : j ≤ k) (hk : KMono kd) (hq : q ∈ kws) (hg : Gl X x) (hkw : DKs X T Wx kw mk)
    (hall : (backToKw pos (keywordEach kw X.env)).all (·.1.isSome) = true) (hks : (backToKw pos (keywordEach kw X.env)).filterMap (·.1) = q.ks) (hnn : (backToKw pos (keywordEach kw X.env)).any (·.1.isNone) = false) (hdb : (x == ("__debug__" : Str)) = false) :
    PE X (.Call (.Name x p) [] kw pos) (tK T X.K X.mg Wx kd (mFnK f q mNil mk)) := by
  obtain ⟨a, fd, hm, hkp, hb, Fo, hB, _⟩ := F.ex
  refine ⟨fun pins s σ H Q I h => ?_⟩
  have h0 := fnK_core hk F h
  obtain ⟨g, ρ, Ss, e, c, r⟩ := h0
  obtain ⟨g', ρ', S', e', c', r'⟩ := r g H [] (Nxt.refl c) rfl
  refine wpAny_Call_Name_kw (ld_glob I hg hm ?_ hdb)
  refine PySem.W.callWith_KW0 (h₀ := X.base) I.ok.mod.kin hkp hall ?_ (by rw [hnn]; rfl)
  refine thn (hkw.run pos pins s σ H _ I ⟨g', ρ', S', e', c', r'⟩) fun ws s2 ⟨zs, H2, I2, rz, l1, l2, q2⟩ => ⟨I2.kIn, ?_⟩
  rw [hks]
  exact run_fnN (Fo.mono hj) C.room (kbn_of (hB q hq)) C.pass I2 .nil rz l1 l2 q2
/-- a local name that holds a def -/
theorem pe_fnL {i : Nat} {tbl : List (Str × FD)} (C : Ctx X Wx k) (hk : KMono kd) (hT : ∀ y h, tbl.lookup y = some h → ∃ j ps kws, j ≤ k ∧ FnD X.prog X.w X.K X.mg X.base T j y ps kd kws h) (hN : X.N[i]? = some x) (hv : Vis X.env.scope x)
    (ha : DAs X T Wx (e :: es) ms) (hs : (e :: es).all (fun e => !isStar e) = true) (hdb : (x == ("__debug__" : Str)) = false) (hcd : (x == ("__classdict__" : Str)) = false) :
    PE X (.Call (.Name x p) (e :: es) [] pos) (tK T X.K X.mg Wx kd (mFnL i tbl ms)) := by
  refine ⟨fun pins s σ H Q I ⟨g, ρ, Ss, e, c, r⟩ => ?_⟩
  unfold mFnL at r
  split at r
  · rename_i y hy
    cases hl : tbl.lookup y with
    | none => rw [hl] at r; exact r.elim
    | some h =>
      rw [hl] at r
      obtain ⟨j, ps, kws, hj, F⟩ := hT y h hl
      obtain ⟨v, h1, f', h2, rfl⟩ := e.val i _ hy
      obtain ⟨a, fd, hm, hkp, hb, Fo, _⟩ := F.ex
      rw [hm] at h2; cases h2
      have h2 := hs
      rw [List.all_cons, Bool.and_eq_true, Bool.not_eq_true'] at h2
      refine (pe_callL (Fo.mono hj) C.room hN hv hkp hb .nil C.pass ha hdb hcd (star_plain h2.1) (star_none h2.2)).run pins s σ H Q I ⟨h1, g, ρ, Ss, e, c, ?_⟩
      exact ResG.then (hk g) r fun ds S1 g1 H1 vs _ n kk h1 => by rw [List.append_nil]; exact sp_of F kk n.ce h1
  · exact r.elim
end
end Dm
end
section
namespace Dm
open PySem PySem.Spec L2

/-! ### statements -/
inductive Fl where
  | nx (ρ : DEnv) | rt (d : D) | bk (ρ : DEnv) | ct (ρ : DEnv)
abbrev MS := DEnv → List D → R Fl
structure SRel (T : List (Addr × Str)) (K : PySem.W.Frag) (mg : Str → Option Value) (g0 : Reg) (H0 : Hp) (g : Reg) (H : Hp) (ρ : DEnv) (σ : L2.St) (Ss : List D) : Prop where
  nx : Nxt T K mg g0 H0 Ss g H
  env : REnv K mg g H ρ σ
  fr : ∀ (i : Nat) (d : D) (a : Addr), ρ[i]? = some (some (Slot.own d)) → σ[i]? = some (some (V.ref a)) → Fr H0 a
/-- what was settled stands -/
structure Chg (g : Reg) (H : Hp) (g' : Reg) (H' : Hp) : Prop where
  up : Up g g'
  kz : ∀ a o, g.Z a → H a = some o → NoTbl o → H' a = some o
theorem Chg.refl (g : Reg) (H : Hp) : Chg g H g H := ⟨Up.refl g, fun _ _ _ h _ => h⟩
theorem Up.trans {g g1 g2 : Reg} (a : Up g g1) (b : Up g1 g2) : Up g g2 := ⟨fun x z => b.up x (a.up x z), by
  obtain ⟨m1, e1⟩ := a.cs; obtain ⟨m2, e2⟩ := b.cs
  exact ⟨m1 ++ m2, by rw [e2, e1, List.append_assoc]⟩⟩
theorem Chg.trans {g g1 g2 : Reg} {H H1 H2 : Hp} (a : Chg g H g1 H1) (b : Chg g1 H1 g2 H2) : Chg g H g2 H2 :=
  ⟨a.up.trans b.up, fun x o z h t => b.kz x o (a.up.up x z) (a.kz x o z h t) t⟩
section
variable {T : List (Addr × Str)} {K : PySem.W.Frag} {mg : Str → Option Value} {g0 g g1 : Reg} {H0 H H1 : Hp} {ρ : DEnv} {σ : L2.St} {Ss S1 : List D} {i : Nat} {d : D} {v : V}
theorem Nxt.chg (n : Nxt T K mg g H S1 g1 H1) : Chg g H g1 H1 := ⟨n.gr.toUp, fun a o z h t => n.ex.keep a o h t (Grow.zoff g z)⟩
theorem SRel.mono (r : SRel T K mg g0 H0 g H ρ σ Ss) (n : Nxt T K mg g H S1 g1 H1) : SRel T K mg g0 H0 g1 H1 ρ σ S1 := ⟨r.nx.trans n, r.env.mono n, r.fr⟩
theorem SRel.set (r : SRel T K mg g0 H0 g H ρ σ Ss) (h : Rep K mg g H d v) : SRel T K mg g0 H0 g H (ρ.set i (some (.val d))) (σ.set i (some v)) Ss := by
  refine ⟨r.nx, r.env.set h, fun j d' a h1 h2 => ?_⟩
  rcases get_set h1 with ⟨_, e⟩ | ⟨hne, h1⟩
  · cases e
  · rw [List.getElem?_set_ne hne] at h2; exact r.fr j d' a h1 h2
theorem SRel.clear (r : SRel T K mg g0 H0 g H ρ σ Ss) : SRel T K mg g0 H0 g H (ρ.set i none) (σ.set i none) Ss := by
  refine ⟨r.nx, r.env.clear, fun j d' a h1 h2 => ?_⟩
  rcases get_set h1 with ⟨_, e⟩ | ⟨hne, h1⟩
  · cases e
  · rw [List.getElem?_set_ne hne] at h2; exact r.fr j d' a h1 h2
/-- an owned thing comes into a slot -/
theorem SRel.setO {a : Addr} (r : SRel T K mg g0 H0 g H ρ σ Ss) (n : Nxt T K mg g H S1 g1 H1) (hn : Fr H a) (hc : a ∉ g1.cs) (hZ : ¬ g1.Z a) (h : Cont K mg g1 H1 d a) :
    SRel T K mg g0 H0 g1 H1 (ρ.set i (some (.own d))) (σ.set i (some (.ref a))) S1 := by
  have r1 := r.mono n
  have other : ∀ j p, Own ρ σ j p → ¬ Fr H p := fun j p ⟨⟨d', h1⟩, h2⟩ e => by
    obtain ⟨b, h3, h4, _⟩ := r.env.own j d' h1
    rw [h2] at h3; cases h3
    obtain ⟨o, ho, t, _⟩ := h4.some
    exact e o ho t
  have cases_ : ∀ {j p}, Own (ρ.set i (some (.own d))) (σ.set i (some (.ref a))) j p → (i = j ∧ p = a) ∨ (i ≠ j ∧ Own ρ σ j p) := fun {j p} ⟨⟨d', h1⟩, h2⟩ => by
    rcases get_set h1 with ⟨e, _⟩ | ⟨hne, h1'⟩
    · subst e
      rw [set_get r.env.len h1] at h2
      cases h2
      exact .inl ⟨rfl, rfl⟩
    · rw [List.getElem?_set_ne hne] at h2
      exact .inr ⟨hne, ⟨d', h1'⟩, h2⟩
  refine ⟨r1.nx, ⟨by simpa using r.env.len, fun j d' h' => ?_, fun j d' h' => ?_, fun j k p h1 h2 => ?_⟩, fun j d' p h1 h2 => ?_⟩
  · rcases get_set h' with ⟨_, e⟩ | ⟨hne, h'⟩
    · cases e
    · obtain ⟨v, q1, q2⟩ := r1.env.val j d' h'
      exact ⟨v, by rw [List.getElem?_set_ne hne]; exact q1, q2⟩
  · rcases get_set h' with ⟨rfl, e⟩ | ⟨hne, h''⟩
    · cases e
      exact ⟨a, set_get r.env.len h', h, hZ, hc⟩
    · obtain ⟨v, q1, q2⟩ := r1.env.own j d' h''
      exact ⟨v, by rw [List.getElem?_set_ne hne]; exact q1, q2⟩
  · rcases cases_ h1 with ⟨e1, e2⟩ | ⟨n1, o1⟩
    · rcases cases_ h2 with ⟨e3, e4⟩ | ⟨n3, o3⟩
      · exact e1.symm.trans e3
      · exact absurd (e2 ▸ hn) (other k p o3)
    · rcases cases_ h2 with ⟨e3, e4⟩ | ⟨n3, o3⟩
      · exact absurd (e4 ▸ hn) (other j p o1)
      · exact r.env.sep j k p o1 o3
  · rcases cases_ (j := j) (p := p) ⟨⟨d', h1⟩, h2⟩ with ⟨e1, e2⟩ | ⟨n1, o1⟩
    · rw [e2]; exact r.nx.ex.dom a hn
    · obtain ⟨⟨d2, o1⟩, o2⟩ := o1
      exact r.fr j d2 p o1 o2
end
section
variable (T : List (Addr × Str)) (K : PySem.W.Frag) (mg : Str → Option Value) (Wx : Wish) (kd : Kind) (g0 : Reg) (H0 : Hp)
def ResS (g : Reg) (H : Hp) (r : R Fl) (E : Ends) : Prop :=
  match r with
  | .ok (.nx ρ') S' => ∀ g' H' σ', SRel T K mg g0 H0 g' H' ρ' σ' S' → Chg g H g' H' → E.nx σ' H'
  | .ok (.bk ρ') S' => ∀ g' H' σ', SRel T K mg g0 H0 g' H' ρ' σ' S' → Chg g H g' H' → E.bk σ' H'
  | .ok (.ct ρ') S' => ∀ g' H' σ', SRel T K mg g0 H0 g' H' ρ' σ' S' → Chg g H g' H' → E.ct σ' H'
  | .ok (.rt d) S' => ∀ g' H' v, Nxt T K mg g0 H0 S' g' H' → kd d H0 g' H' v → E.rt v H'
  | .exc c p S' => ∀ g' H', Nxt T K mg g0 H0 S' g' H' → Wx c p H'
  | .bad => False
def tS (m : MS) : TS := fun E σ H => ∃ g ρ Ss, SRel T K mg g0 H0 g H ρ σ Ss ∧ ResS T K mg Wx kd g0 H0 g H (m ρ Ss) E
end
structure SCtx (X : Cx) (Wx : Wish) (k : Nat) : Prop extends Ctx X Wx k where
  own : PassesOwn (model X.prog X.w) X.A X.env X.xe
  take : Takes X fun cls d _ H' => xk X.mg Wx cls d H'
  nd : X.N.Nodup

def mSeq (m n : MS) : MS := fun ρ Ss => (m ρ Ss).bind fun f S1 => match f with
  | .nx ρ' => n ρ' S1
  | .rt d => .ok (.rt d) S1
  | .bk ρ' => .ok (.bk ρ') S1
  | .ct ρ' => .ok (.ct ρ') S1
def mSkip : MS := fun ρ Ss => .ok (.nx ρ) Ss
def mSet (i : Nat) (m : M D) : MS := fun ρ Ss => (m ρ Ss).bind fun d S1 => .ok (.nx (ρ.set i (some (.val d)))) S1
def mSetO (i : Nat) (m : M D) : MS := fun ρ Ss => (m ρ Ss).bind fun d S1 => .ok (.nx (ρ.set i (some (.own d)))) S1
/-- a new thing becomes a cell -/
def mSetC (i : Nat) (m : M D) : MS := fun ρ Ss => (m ρ Ss).bind fun d S1 => .ok (.nx (ρ.set i (some (.val (.cel S1.length))))) (S1 ++ [d])
def mRet (m : M D) : MS := fun ρ Ss => (m ρ Ss).bind fun d S1 => .ok (.rt d) S1
def mRetN : MS := fun ρ Ss => .ok (.rt .non) Ss
def mRetO (i : Nat) : MS := fun ρ Ss => match ρ[i]? with
  | some (some (.own d)) => .ok (.rt d) Ss
  | _ => .bad
def mIf (c : M Bool) (m n : MS) : MS := fun ρ Ss => (c ρ Ss).bind fun b S1 => if b = true then m ρ S1 else n ρ S1
def mDrop (m : M D) : MS := fun ρ Ss => (m ρ Ss).bind fun _ S1 => .ok (.nx ρ) S1
def mRaise (c : Str) : MS := fun _ Ss => .exc c none Ss
def mBreak : MS := fun ρ Ss => .ok (.bk ρ) Ss
def mCont : MS := fun ρ Ss => .ok (.ct ρ) Ss
def mTgt (t : Tgt) (m : M D) : MS := fun ρ Ss => (m ρ Ss).bind fun d S1 => match bindT t d ρ with
  | some ρ' => .ok (.nx ρ') S1
  | none => .bad
/-- a slot's thing is settled -/
def frz (i : Nat) (ρ : DEnv) : DEnv := match ρ[i]? with
  | some (some (.own d)) => ρ.set i (some (.val d))
  | _ => ρ
def mFrz (i : Nat) (m : MS) : MS := fun ρ Ss => m (frz i ρ) Ss
def mForL (t : Tgt) (body : MS) : List D → DEnv → List D → R Fl
  | [], ρ, Ss => .ok (.nx ρ) Ss
  | d :: ds, ρ, Ss => match bindT t d ρ with
    | none => .bad
    | some ρ1 => (body ρ1 Ss).bind fun f S1 => match f with
      | .nx ρ2 => mForL t body ds ρ2 S1
      | .ct ρ2 => mForL t body ds ρ2 S1
      | .bk ρ2 => .ok (.nx ρ2) S1
      | .rt d => .ok (.rt d) S1
def mFor (mi : M (List D)) (t : Tgt) (body : MS) : MS := fun ρ Ss => (mi ρ Ss).bind fun ds S1 => mForL t body ds ρ S1
def mWhileN (c : M Bool) (body : MS) : Nat → MS
  | 0, _, _ => .bad
  | n + 1, ρ, Ss => (c ρ Ss).bind fun b S1 => if b = true then (body ρ S1).bind fun f S2 => match f with
      | .nx ρ2 => mWhileN c body n ρ2 S2
      | .ct ρ2 => mWhileN c body n ρ2 S2
      | .bk ρ2 => .ok (.nx ρ2) S2
      | .rt d => .ok (.rt d) S2
    else .ok (.nx ρ) S1
open Classical in
noncomputable def mWhile (c : M Bool) (body : MS) : MS := fun ρ Ss => if h : ∃ n, mWhileN c body n ρ Ss ≠ .bad then mWhileN c body h.choose ρ Ss else .bad
theorem mWhileN_mono (c : M Bool) (body : MS) : ∀ (n : Nat) (ρ : DEnv) (Ss : List D), mWhileN c body n ρ Ss ≠ .bad → ∀ k, mWhileN c body (n + k) ρ Ss = mWhileN c body n ρ Ss
  | 0, ρ, Ss, h, _ => absurd rfl h
  | n + 1, ρ, Ss, h, k => by
    rw [Nat.succ_add]
    unfold mWhileN at h ⊢
    cases hc : c ρ Ss with
    | bad => rfl
    | exc _ _ _ => rfl
    | ok b S1 =>
      rw [hc] at h
      simp only [R.bind_ok] at h ⊢
      cases b with
      | false => rfl
      | true =>
        simp only [if_true] at h ⊢
        cases hb : body ρ S1 with
        | bad => rfl
        | exc _ _ _ => rfl
        | ok f S2 =>
          rw [hb] at h
          simp only [R.bind_ok] at h ⊢
          cases f with
          | nx ρ2 => exact mWhileN_mono c body n ρ2 S2 h k
          | ct ρ2 => exact mWhileN_mono c body n ρ2 S2 h k
          | bk _ => rfl
          | rt _ => rfl
theorem mWhile_eq {c : M Bool} {body : MS} {n : Nat} {ρ : DEnv} {Ss : List D} (h : mWhileN c body n ρ Ss ≠ .bad) : mWhile c body ρ Ss = mWhileN c body n ρ Ss := by
  have hx : ∃ n, mWhileN c body n ρ Ss ≠ .bad := ⟨n, h⟩
  unfold mWhile
  rw [dif_pos hx]
  have h1 := mWhileN_mono c body n ρ Ss h hx.choose
  have h2 := mWhileN_mono c body hx.choose ρ Ss hx.choose_spec n
  rw [← h2, Nat.add_comm, h1]

section
variable {X : Cx} {T : List (Addr × Str)} {Wx : Wish} {kd : Kind} {g0 : Reg} {H0 : Hp} {k : Nat}
variable (X T Wx kd g0 H0) in
abbrev DS (st : Stmt) (m : MS) : Prop := PS X st (tS T X.K X.mg Wx kd g0 H0 m)
variable (X T Wx kd g0 H0) in
abbrev DSs (st : List Stmt) (m : MS) : Prop := PSs X st (tS T X.K X.mg Wx kd g0 H0 m)
variable {st : Stmt} {rest : List Stmt} {m n : MS} {e : Expr} {me : M D} {pos pos' : Pos} {i : Nat} {x : Str} {kk : Kind}
theorem ResS.chg {K : PySem.W.Frag} {mg : Str → Option Value} {g g1 : Reg} {H H1 : Hp} {r : R Fl} {E : Ends} (h : ResS T K mg Wx kd g0 H0 g H r E) (c : Chg g H g1 H1) : ResS T K mg Wx kd g0 H0 g1 H1 r E := by
  unfold ResS at h ⊢
  split at h
  · exact fun g' H' σ' s z => h g' H' σ' s (c.trans z)
  · exact fun g' H' σ' s z => h g' H' σ' s (c.trans z)
  · exact fun g' H' σ' s z => h g' H' σ' s (c.trans z)
  · exact h
  · exact h
  · exact h
/-- an expression within a statement -/
theorem exprS {α β : Type} {K : PySem.W.Frag} {mg : Str → Option Value} {kx : α → Hp → Reg → Hp → β → Prop} {r : R α} {f : α → List D → R Fl} {E : Ends} {P : β → Hp → Prop} {g : Reg} {H : Hp} {ρ : DEnv} {σ : L2.St} {Ss : List D} (sr : SRel T K mg g0 H0 g H ρ σ Ss)
    (h : ResS T K mg Wx kd g0 H0 g H (r.bind f) E) (hP : ∀ d S1 g1 H1 v, Nxt T K mg g H S1 g1 H1 → SRel T K mg g0 H0 g1 H1 ρ σ S1 → kx d H g1 H1 v → ResS T K mg Wx kd g0 H0 g1 H1 (f d S1) E → P v H1) : ResG T K mg Wx kx g H r P := by
  cases r with
  | bad => exact h
  | exc c p S' => exact fun g' H' n => h g' H' (sr.nx.trans n)
  | ok d S' => exact fun g' H' v n kv => hP d S' g' H' v n (sr.mono n) kv (h.chg n.chg)
theorem dss_nil : DSs X T Wx kd g0 H0 [] mSkip := pss_imp pss_nil fun E σ H ⟨g, ρ, Ss, sr, r⟩ => r g H σ sr (Chg.refl g H)
theorem dss_cons (h1 : DS X T Wx kd g0 H0 st m) (h2 : DSs X T Wx kd g0 H0 rest n) : DSs X T Wx kd g0 H0 (st :: rest) (mSeq m n) :=
  pss_imp (pss_cons h1 h2) fun E σ H ⟨g, ρ, Ss, sr, r⟩ => ⟨g, ρ, Ss, sr, by
    unfold mSeq at r
    cases hm : m ρ Ss with
    | bad => rw [hm] at r; exact r
    | exc c p S' => rw [hm] at r; exact r
    | ok f S' =>
      rw [hm] at r
      cases f with
      | nx ρ' => exact fun g' H' σ' sr' z => ⟨g', ρ', S', sr', ResS.chg r z⟩
      | rt d => exact r
      | bk ρ' => exact r
      | ct ρ' => exact r⟩
theorem dss_one (h1 : DS X T Wx kd g0 H0 st m) : DSs X T Wx kd g0 H0 [st] m := pss_one h1
theorem ds_pass : DS X T Wx kd g0 H0 (.Pass pos) mSkip := ps_imp ps_pass fun E σ H ⟨g, ρ, Ss, sr, r⟩ => r g H σ sr (Chg.refl g H)
theorem ds_break : DS X T Wx kd g0 H0 (.Break pos) mBreak := ps_imp ps_break fun E σ H ⟨g, ρ, Ss, sr, r⟩ => r g H σ sr (Chg.refl g H)
theorem ds_cont : DS X T Wx kd g0 H0 (.Continue pos) mCont := ps_imp ps_continue fun E σ H ⟨g, ρ, Ss, sr, r⟩ => r g H σ sr (Chg.refl g H)
theorem setS {K : PySem.W.Frag} {mg : Str → Option Value} {g : Reg} {H : Hp} {ρ : DEnv} {σ : L2.St} {Ss : List D} {E : Ends} (sr : SRel T K mg g0 H0 g H ρ σ Ss) (r : ResS T K mg Wx kd g0 H0 g H (mSet i me ρ Ss) E) : ResG T K mg Wx (kR K mg) g H (me ρ Ss) fun x H1 => gName i x σ H1 E.nx :=
  exprS sr r fun d S1 g1 H1 v n sr1 kv h => h g1 H1 _ (sr1.set kv) (Chg.refl _ _)
theorem setOS {K : PySem.W.Frag} {mg : Str → Option Value} {g : Reg} {H : Hp} {ρ : DEnv} {σ : L2.St} {Ss : List D} {E : Ends} (sr : SRel T K mg g0 H0 g H ρ σ Ss) (r : ResS T K mg Wx kd g0 H0 g H (mSetO i me ρ Ss) E) : ResG T K mg Wx (kF K mg) g H (me ρ Ss) fun x H1 => gName i x σ H1 E.nx :=
  exprS sr r fun d S1 g1 H1 v n sr1 kv h => by
    obtain ⟨a, rfl, h1, h2, h3, h4⟩ := kv
    exact h g1 H1 _ (sr.setO n h1 h2 h3 h4) (Chg.refl _ _)
theorem cel_app {K : PySem.W.Frag} {mg : Str → Option Value} {g : Reg} {H : Hp} {Ss : List D} {d : D} {a : Addr} (c : Cel T K mg g H Ss) (hc : a ∉ g.cs) (hZ : ¬ g.Z a) (h : Cont K mg g H d a) :
    ∃ g', Up g g' ∧ g'.cs = g.cs ++ [a] ∧ (∀ b, g'.Z b ↔ g.Z b) ∧ Cel T K mg g' H (Ss ++ [d]) := by
  have hd : ∀ b ∈ g.cs ++ [a], ¬ g.Z b := fun b hb => (List.mem_append.mp hb).elim (g.dis b) fun e => by rw [List.mem_singleton.mp e]; exact hZ
  refine ⟨⟨g.Z, g.cs ++ [a], hd⟩, ⟨fun _ z => z, [a], rfl⟩, rfl, fun _ => Iff.rfl, ⟨by simp [c.len], ?_, fun n p d' h1 h2 => ?_, c.tabs, c.zt⟩⟩
  · exact List.nodup_append.mpr ⟨c.nd, by simp, fun x hx y hy e => hc (by rw [List.mem_singleton.mp hy] at e; exact e ▸ hx)⟩
  · have up : Up g (⟨g.Z, g.cs ++ [a], hd⟩ : Reg) := ⟨fun _ z => z, [a], rfl⟩
    have go : ∀ {d p}, Cont K mg g H d p → Cont K mg (⟨g.Z, g.cs ++ [a], hd⟩ : Reg) H d p := fun {d p} c => by
      cases d with
      | lst xs => obtain ⟨vs, q1, q2⟩ := c; exact ⟨vs, q1, q2.upZ up fun _ _ _ h _ => h⟩
      | dic ks ws => obtain ⟨vs, q1, q2, q3⟩ := c; exact ⟨vs, q1, q2.upZ up fun _ _ _ h _ => h, q3.upZ up fun _ _ _ h _ => h⟩
      | _ => exact c.elim
    by_cases hl : n < g.cs.length
    · rw [List.getElem?_append_left hl] at h1
      rw [List.getElem?_append_left (by rw [← c.len]; exact hl)] at h2
      exact go (c.at_ n p d' h1 h2)
    · have hn : n = g.cs.length := by
        obtain ⟨q, _⟩ := List.getElem?_eq_some_iff.mp h1
        simp at q; omega
      subst hn
      rw [List.getElem?_append_right (Nat.le_refl _), Nat.sub_self] at h1
      cases h1
      rw [c.len, List.getElem?_append_right (Nat.le_refl _), Nat.sub_self] at h2
      cases h2
      exact go h
theorem setCS {K : PySem.W.Frag} {mg : Str → Option Value} {g : Reg} {H : Hp} {ρ : DEnv} {σ : L2.St} {Ss : List D} {E : Ends} (sr : SRel T K mg g0 H0 g H ρ σ Ss) (r : ResS T K mg Wx kd g0 H0 g H (mSetC i me ρ Ss) E) : ResG T K mg Wx (kF K mg) g H (me ρ Ss) fun x H1 => gName i x σ H1 E.nx :=
  exprS sr r fun d S1 g1 H1 v n sr1 kv h => by
    obtain ⟨a, rfl, h1, h2, h3, h4⟩ := kv
    obtain ⟨g2, up, hcs, hZ, ce⟩ := cel_app sr1.nx.ce h2 h3 h4
    have rep : Rep K mg g2 H1 (.cel S1.length) (.ref a) := ⟨a, rfl, by rw [hcs, ← sr1.nx.ce.len, List.getElem?_append_right (Nat.le_refl _), Nat.sub_self]; rfl⟩
    have a0 : Fr H0 a := sr.nx.ex.dom a h1
    have n0 : Nxt T K mg g0 H0 (S1 ++ [d]) g2 H1 := by
      refine ⟨⟨fun b z => up.up b (sr1.nx.gr.up b z), fun b z => sr1.nx.gr.new b ((hZ b).mp z), ?_⟩, sr1.nx.ex, ce⟩
      obtain ⟨m1, e1, n1⟩ := sr1.nx.gr.cs
      refine ⟨m1 ++ [a], by rw [hcs, e1, List.append_assoc], fun b hb => ?_⟩
      rcases List.mem_append.mp hb with hb | hb
      · exact n1 b hb
      · rw [List.mem_singleton.mp hb]; exact a0
    have env : REnv K mg g2 H1 ρ σ := by
      refine ⟨sr1.env.len, fun j d' q => ?_, fun j d' q => ?_, sr1.env.sep⟩
      · obtain ⟨w, q1, q2⟩ := sr1.env.val j d' q
        exact ⟨w, q1, q2.upZ up fun _ _ _ h _ => h⟩
      · obtain ⟨b, q1, q2, q3, q4⟩ := sr1.env.own j d' q
        refine ⟨b, q1, ?_, fun z => q3 ((hZ b).mp z), fun z => ?_⟩
        · cases d' with
          | lst xs => obtain ⟨vs, w1, w2⟩ := q2; exact ⟨vs, w1, w2.upZ up fun _ _ _ h _ => h⟩
          | dic ks ws => obtain ⟨vs, w1, w2, w3⟩ := q2; exact ⟨vs, w1, w2.upZ up fun _ _ _ h _ => h, w3.upZ up fun _ _ _ h _ => h⟩
          | _ => exact q2.elim
        · rw [hcs] at z
          rcases List.mem_append.mp z with z | z
          · exact q4 z
          · have e := List.mem_singleton.mp z
            subst e
            obtain ⟨b', p1, p2, _⟩ := sr.env.own j d' q
            rw [q1] at p1; cases p1
            obtain ⟨o, ho, t, _⟩ := p2.some
            exact h1 o ho t
    have s2 : SRel T K mg g0 H0 g2 H1 ρ σ (S1 ++ [d]) := ⟨n0, env, sr1.fr⟩
    exact h g2 H1 _ (s2.set rep) ⟨up, fun _ _ _ h _ => h⟩
theorem tR_tF {me : M D} {σ : L2.St} {H : Hp} {Q : VK} {K : PySem.W.Frag} {mg : Str → Option Value} (h : tK T K mg Wx (kR K mg) me σ H Q) : tK T K mg Wx (kF K mg) me σ H Q := by
  obtain ⟨g, ρ, Ss, e, c, r⟩ := h
  exact ⟨g, ρ, Ss, e, c, r.imp fun d S' g' H' v _ n k q => by
    obtain ⟨a, rfl, h1, h2, h3, h4⟩ := k
    refine q (g'.add a h2) _ ⟨⟨fun b z => .inl (n.gr.up b z), fun b z => z.elim (n.gr.new b) fun e => .inr (e ▸ h1), n.gr.cs⟩, n.ex, n.ce.add h2 (by obtain ⟨o, ho, t, _⟩ := h4.some; exact fun f => f o ho t)⟩ (h4.settle h2)⟩
section
variable (C : SCtx X Wx k) (hi : X.N[i]? = some x) (hx : Loc X.env.scope x) (hf : X.fn x = true ∨ X.env.scope.names.lookup x = some .local)
include C hi hx hf
theorem ds_set (h : DE X T Wx e me) (hs : swapsWith e (some (.Name x pos')) pos.line X.env = pure false) : DS X T Wx kd g0 H0 (.Assign [.Name x pos'] e pos) (mSet i me) :=
  ps_imp (ps_set C.nd hi hx h hs hf) fun E σ H ⟨g, ρ, Ss, sr, r⟩ => ⟨g, ρ, Ss, sr.env, sr.nx.ce, setS sr r⟩
theorem ds_setO (h : DF X T Wx e me) (hs : swapsWith e (some (.Name x pos')) pos.line X.env = pure false) : DS X T Wx kd g0 H0 (.Assign [.Name x pos'] e pos) (mSetO i me) :=
  ps_imp (ps_set C.nd hi hx h hs hf) fun E σ H ⟨g, ρ, Ss, sr, r⟩ => ⟨g, ρ, Ss, sr.env, sr.nx.ce, setOS sr r⟩
theorem ds_setC (h : DF X T Wx e me) (hs : swapsWith e (some (.Name x pos')) pos.line X.env = pure false) : DS X T Wx kd g0 H0 (.Assign [.Name x pos'] e pos) (mSetC i me) :=
  ps_imp (ps_set C.nd hi hx h hs hf) fun E σ H ⟨g, ρ, Ss, sr, r⟩ => ⟨g, ρ, Ss, sr.env, sr.nx.ce, setCS sr r⟩
end
section
variable {own : Bool} {tg it elt : Expr} {ifs : List Expr} {mi : M (List D)} {t : Tgt} {mc : M Bool} {mb : M D} {scope : Scope} {ow : List (Str × Nat)} {vs : List Nat} {cpos : Pos}
variable (C : SCtx X Wx k) (hi : X.N[i]? = some x) (hx : X.env.scope.names.lookup x = some .local) (h : CompD X T Wx own elt tg it ifs scope ow vs mi t mc mb)
  (hsw : swapsWith (.ListComp elt [⟨tg, it, ifs, 0⟩] scope cpos) (some (.Name x pos')) pos.line X.env = pure true)
include C hi hx h hsw
theorem ds_setLc : DS X T Wx kd g0 H0 (.Assign [.Name x pos'] (.ListComp elt [⟨tg, it, ifs, 0⟩] scope cpos) pos) (mSet i (mComp mi t vs mc mb)) :=
  ps_imp (ps_setLc C.calm C.nd hi hx hsw h.hi h.ok h.hg h.ht h.he h.hs) fun E σ H ⟨g, ρ, Ss, sr, r⟩ => by rw [h.ev]; exact lc_of h.sl (tR_tF ⟨g, ρ, Ss, sr.env, sr.nx.ce, setS sr r⟩)
theorem ds_setLcO : DS X T Wx kd g0 H0 (.Assign [.Name x pos'] (.ListComp elt [⟨tg, it, ifs, 0⟩] scope cpos) pos) (mSetO i (mComp mi t vs mc mb)) :=
  ps_imp (ps_setLc C.calm C.nd hi hx hsw h.hi h.ok h.hg h.ht h.he h.hs) fun E σ H ⟨g, ρ, Ss, sr, r⟩ => by rw [h.ev]; exact lc_of h.sl ⟨g, ρ, Ss, sr.env, sr.nx.ce, setOS sr r⟩
end
theorem ds_ret (hk : KMono kd) (h : PE X e (tK T X.K X.mg Wx kd me)) : DS X T Wx kd g0 H0 (.Return (some e) pos) (mRet me) :=
  ps_imp (ps_ret h) fun E σ H ⟨g, ρ, Ss, sr, r⟩ => ⟨g, ρ, Ss, sr.env, sr.nx.ce, exprS sr r fun d S1 g1 H1 v n sr1 kv h => h g1 H1 v sr1.nx (hk g0 _ _ _ _ _ _ sr.nx.ex kv)⟩
theorem ds_retN (hk : ∀ H0 g H, kd .non H0 g H .non) : DS X T Wx kd g0 H0 (.Return none pos) mRetN :=
  ps_imp ps_retN fun E σ H ⟨g, ρ, Ss, sr, r⟩ => r g H _ sr.nx (hk _ _ _)
theorem own_fresh {K : PySem.W.Frag} {mg : Str → Option Value} {g : Reg} {H : Hp} {ρ : DEnv} {σ : L2.St} {Ss : List D} {d : D} (sr : SRel T K mg g0 H0 g H ρ σ Ss) (h : ρ[i]? = some (some (.own d))) :
    ∃ a, σ[i]? = some (some (V.ref a)) ∧ Fr H0 a ∧ Cont K mg g H d a ∧ ¬ g.Z a ∧ a ∉ g.cs := by
  obtain ⟨a, h1, h2, h3, h4⟩ := sr.env.own i d h
  exact ⟨a, h1, sr.fr i d a h h1, h2, h3, h4⟩
/-- settled where it stands -/
theorem Nxt.settle {K : PySem.W.Frag} {mg : Str → Option Value} {g : Reg} {H : Hp} {Ss : List D} {d : D} {a : Addr} (n : Nxt T K mg g0 H0 Ss g H) (h0 : Fr H0 a) (hc : a ∉ g.cs) (h : Cont K mg g H d a) : Nxt T K mg g0 H0 Ss (g.add a hc) H :=
  ⟨⟨fun b z => .inl (n.gr.up b z), fun b z => z.elim (n.gr.new b) fun e => .inr (e ▸ h0), n.gr.cs⟩, n.ex, n.ce.add hc (by obtain ⟨o, ho, t, _⟩ := h.some; exact fun f => f o ho t)⟩
theorem ds_retO (hk : kd = kF X.K X.mg ∨ kd = kR X.K X.mg) (hN : X.N[i]? = some x) (hv : Vis X.env.scope x) (hd : (x == ("__debug__" : Str)) = false) (hcd : (x == ("__classdict__" : Str)) = false) : DS X T Wx kd g0 H0 (.Return (some (.Name x pos')) pos) (mRetO i) :=
  ps_imp (ps_ret (pe_var hN hv hd hcd)) fun E σ H ⟨g, ρ, Ss, sr, r⟩ => by
    unfold mRetO at r
    split at r
    · rename_i d hd
      obtain ⟨a, h1, h2, h3, h4, h5⟩ := own_fresh sr hd
      refine ⟨.ref a, h1, ?_⟩
      rcases hk with rfl | rfl
      · exact r g H _ sr.nx ⟨a, rfl, h2, h5, h4, h3⟩
      · exact r (g.add a h5) H _ (sr.nx.settle h2 h5 h3) (h3.settle h5)
    · exact r.elim
theorem ds_if {c : Expr} {a b : List Stmt} {mc : M Bool} (hc : DT X T Wx c mc) (ha : DSs X T Wx kd g0 H0 a m) (hb : DSs X T Wx kd g0 H0 b n) : DS X T Wx kd g0 H0 (.If c a b pos) (mIf mc m n) :=
  ps_imp (ps_if hc ha hb) fun E σ H ⟨g, ρ, Ss, sr, r⟩ => ⟨g, ρ, Ss, sr.env, sr.nx.ce, exprS sr r fun d S1 g1 H1 v nn sr1 kv h => by
    subst kv
    cases v with
    | true => exact ⟨g1, ρ, S1, sr1, h⟩
    | false => exact ⟨g1, ρ, S1, sr1, h⟩⟩
theorem ds_expr (h : PE X e (tK T X.K X.mg Wx kk me)) (hs : swapsWith e none pos.line X.env = pure false) : DS X T Wx kd g0 H0 (.Expr e pos) (mDrop me) :=
  ps_imp (ps_expr h hs) fun E σ H ⟨g, ρ, Ss, sr, r⟩ => ⟨g, ρ, Ss, sr.env, sr.nx.ce, exprS sr r fun d S1 g1 H1 v n sr1 kv h => h g1 H1 σ sr1 (Chg.refl _ _)⟩
mutual
theorem bindT_own {ρ ρ' : DEnv} {d d' : D} {i : Nat} : ∀ {t : Tgt}, bindT t d ρ = some ρ' → ρ'[i]? = some (some (Slot.own d')) → ρ[i]? = some (some (Slot.own d')) ∧ i ∉ t.slots
  | .nm j, hb, h => by
    simp only [bindT, Option.some.injEq] at hb
    subst hb
    rcases get_set h with ⟨_, e⟩ | ⟨hne, h⟩
    · cases e
    · exact ⟨h, by simp only [Tgt.slots, List.mem_singleton]; exact fun e => hne e.symm⟩
  | .tp ts, hb, h => by
    simp only [bindT] at hb
    split at hb
    · have := bindTs_own hb h
      simpa only [Tgt.slots] using this
    · cases hb
theorem bindTs_own {ρ' : DEnv} {d' : D} {i : Nat} : ∀ {ts : List Tgt} {ds : List D} {ρ : DEnv}, bindTs ts ds ρ = some ρ' → ρ'[i]? = some (some (Slot.own d')) → ρ[i]? = some (some (Slot.own d')) ∧ i ∉ Tgt.slotsL ts
  | [], [], _, hb, h => by simp only [bindTs, Option.some.injEq] at hb; subst hb; exact ⟨h, by simp [Tgt.slotsL]⟩
  | [], _ :: _, _, hb, _ => by simp [bindTs] at hb
  | _ :: _, [], _, hb, _ => by simp [bindTs] at hb
  | t :: ts, d :: ds, ρ, hb, h => by
    simp only [bindTs] at hb
    split at hb
    · rename_i ρ1 hb1
      obtain ⟨h1, n1⟩ := bindTs_own hb h
      obtain ⟨h2, n2⟩ := bindT_own hb1 h1
      exact ⟨h2, by simp only [Tgt.slotsL, List.mem_append, not_or]; exact ⟨n2, n1⟩⟩
    · cases hb
end
theorem SRel.bind {K : PySem.W.Frag} {mg : Str → Option Value} {g g' : Reg} {H : Hp} {ρ ρ' : DEnv} {σ σ' : L2.St} {Ss : List D} {t : Tgt} {d : D} (r : SRel T K mg g0 H0 g H ρ σ Ss) (hb : bindT t d ρ = some ρ') (e : REnv K mg g H ρ' σ')
    (w : ∀ vs, (∀ i ∈ t.slots, i ∈ vs) → L2.wipe σ' vs = L2.wipe σ vs) : SRel T K mg g0 H0 g H ρ' σ' Ss :=
  ⟨r.nx, e, fun i d' a h1 h2 => by
    obtain ⟨h3, h4⟩ := bindT_own hb h1
    have hw := congrArg (fun l => l[i]?) (w t.slots fun _ h => h)
    simp only [wipe_get, h4, if_false] at hw
    rw [hw] at h2
    exact r.fr i d' a h3 h2⟩
theorem tG_same {K : PySem.W.Frag} {mg : Str → Option Value} {g : Reg} {H : Hp} {ρ ρ' : DEnv} {σ : L2.St} {t : Tgt} {d : D} {x : V} {Q : L2.St → Hp → Prop} (e : REnv K mg g H ρ σ) (r : Rep K mg g H d x) (hb : bindT t d ρ = some ρ')
    (q : ∀ σ', REnv K mg g H ρ' σ' → (∀ vs, (∀ i ∈ t.slots, i ∈ vs) → L2.wipe σ' vs = L2.wipe σ vs) → Q σ' H) : tG K mg t x σ H Q := ⟨g, ρ, d, ρ', e, r, hb, q⟩
theorem ds_tgt {tg : Expr} {t : Tgt} (h : DE X T Wx e me) (hg : DG X tg t) (hs : swapsWithSole [tg] e pos.line X.env = pure false) (hw : swappedStores [tg] e X.env = pure none) (h1 : (assignEach [tg] X.env).map (·.2) = [assign tg X.env]) :
    DS X T Wx kd g0 H0 (.Assign [tg] e pos) (mTgt t me) :=
  ps_imp (ps_asg h hg hs hw h1) fun E σ H ⟨g, ρ, Ss, sr, r⟩ => ⟨g, ρ, Ss, sr.env, sr.nx.ce, exprS sr r fun d S1 g1 H1 v n sr1 kv h => by
    cases hb : bindT t d ρ with
    | none => rw [hb] at h; exact h.elim
    | some ρ' =>
      rw [hb] at h
      exact tG_same sr1.env kv hb fun σ' e' w' => h g1 H1 σ' (sr1.bind (g' := g1) hb e' w') (Chg.refl _ _)⟩
/-! ### loops -/
theorem ds_for {tg it : Expr} {t : Tgt} {body : List Stmt} {mi : M (List D)} (C : SCtx X Wx k) (hi : DI X T Wx tg it false mi) (hg : DG X tg t) (hb : DSs X T Wx kd g0 H0 body m) (hs : ∀ x, foldedSetIterable it X.env x = pure x) :
    DS X T Wx kd g0 H0 (.For tg it body [] pos) (mFor mi t m) :=
  ps_imp (ps_for C.own C.calm hi hg hb hs) fun E σ H ⟨g, ρ, Ss, sr, r⟩ => ⟨g, ρ, Ss, sr.env, sr.nx.ce, exprS sr r fun ds S1 g1 H1 J n sr1 itD h => by
    refine ⟨fun i m' σ' H' => m' = ds.length - i ∧ i ≤ ds.length ∧ ∃ g2 ρ2 S2, SRel T X.K X.mg g0 H0 g2 H' ρ2 σ' S2 ∧ Chg g1 H1 g2 H' ∧ ResS T X.K X.mg Wx kd g0 H0 g2 H' (mForL t m (ds.drop i) ρ2 S2) E, ⟨ds.length, rfl, Nat.zero_le _, g1, ρ, S1, sr1, Chg.refl _ _, h⟩, ?_⟩
    rintro i m' σ' H' ⟨rfl, hi, g2, ρ2, S2, s2, c2, r2⟩
    obtain ⟨step, stop⟩ := itD g2 H' S2 c2.up (fun a o z h t => c2.kz a o (z.elim id fun z => absurd z.1 Bool.false_ne_true) h t) s2.nx.ce i
    by_cases hlt : i < ds.length
    · obtain ⟨go, yl⟩ := step ds[i] (List.getElem?_eq_getElem hlt)
      refine .inr ⟨go, fun σ3 H3 => ∃ g3 ρ3 S3, SRel T X.K X.mg g0 H0 g3 H3 ρ3 σ3 S3 ∧ Chg g1 H1 g3 H3 ∧ ResS T X.K X.mg Wx kd g0 H0 g3 H3 (mForL t m (ds.drop (i + 1)) ρ3 S3) E, fun σ3 H3 w => ⟨ds.length - (i + 1), by omega, rfl, hlt, w⟩, fun x H3 hy => ?_⟩
      obtain ⟨g3, n3, rx⟩ := yl x H3 hy
      rw [List.drop_eq_getElem_cons hlt] at r2
      unfold mForL at r2
      cases hb : bindT t ds[i] ρ2 with
      | none => rw [hb] at r2; exact r2.elim
      | some ρ3 =>
        rw [hb] at r2
        have s3 := s2.mono n3
        refine tG_same s3.env rx hb fun σ4 e4 w4 => ?_
        have s4 := s3.bind (g' := g3) hb e4 w4
        dsimp only at r2
        have r3 := r2.chg n3.chg
        have c3 := c2.trans n3.chg
        refine ⟨g3, ρ3, S2, s4, ?_⟩
        cases hm : m ρ3 S2 with
        | bad => rw [hm] at r3; exact r3.elim
        | exc c p S' => rw [hm] at r3; exact r3
        | ok f S' =>
          rw [hm] at r3
          cases f with
          | nx ρ' => exact fun g' H' σ' sr' z => ⟨g', ρ', S', sr', c3.trans z, ResS.chg r3 z⟩
          | ct ρ' => exact fun g' H' σ' sr' z => ⟨g', ρ', S', sr', c3.trans z, ResS.chg r3 z⟩
          | bk ρ' => exact r3
          | rt d => exact r3
    · have ei : i = ds.length := by omega
      refine .inl ⟨stop ei.symm, ?_⟩
      rw [ei, List.drop_length] at r2
      exact r2 g2 H' σ' s2 (Chg.refl _ _)⟩
theorem ds_while {c : Expr} {body : List Stmt} {mc : M Bool} (C : SCtx X Wx k) (hc : DT X T Wx c mc) (hb : DSs X T Wx kd g0 H0 body m) : DS X T Wx kd g0 H0 (.While c body [] pos) (mWhile mc m) :=
  ps_imp (ps_while C.own hc hb) fun E σ H ⟨g, ρ, Ss, sr, r⟩ => by
    have h0 : ∃ n, mWhileN mc m n ρ Ss ≠ .bad := by
      refine Classical.byContradiction fun hn => ?_
      unfold mWhile at r
      rw [dif_neg hn] at r
      exact r
    obtain ⟨n, hn⟩ := h0
    rw [mWhile_eq hn] at r
    refine ⟨fun j σ' H' => ∃ g2 ρ2 S2, SRel T X.K X.mg g0 H0 g2 H' ρ2 σ' S2 ∧ ResS T X.K X.mg Wx kd g0 H0 g2 H' (mWhileN mc m j ρ2 S2) E, ⟨n, g, ρ, Ss, sr, r⟩, ?_⟩
    rintro j σ' H' ⟨g2, ρ2, S2, s2, r2⟩
    cases j with
    | zero => exact r2.elim
    | succ j =>
      unfold mWhileN at r2
      refine ⟨g2, ρ2, S2, s2.env, s2.nx.ce, exprS s2 r2 fun b S3 g3 H3 b' n3 s3 kv h => ?_⟩
      subst kv
      cases b' with
      | false =>
        rw [if_neg Bool.false_ne_true] at h ⊢
        exact h g3 H3 σ' s3 (Chg.refl _ _)
      | true =>
        rw [if_pos rfl] at h ⊢
        refine ⟨fun σ4 H4 => ∃ g4 ρ4 S4, SRel T X.K X.mg g0 H0 g4 H4 ρ4 σ4 S4 ∧ ResS T X.K X.mg Wx kd g0 H0 g4 H4 (mWhileN mc m j ρ4 S4) E, fun σ4 H4 w => ⟨j, Nat.lt_succ_self j, w⟩, g3, ρ2, S3, s3, ?_⟩
        cases hm : m ρ2 S3 with
        | bad => rw [hm] at h; exact h.elim
        | exc c p S' => rw [hm] at h; exact h
        | ok f S' =>
          rw [hm] at h
          cases f with
          | nx ρ' => exact fun g' H' σ' sr' z => ⟨g', ρ', S', sr', ResS.chg h z⟩
          | ct ρ' => exact fun g' H' σ' sr' z => ⟨g', ρ', S', sr', ResS.chg h z⟩
          | bk ρ' => exact h
          | rt d => exact h
/-! ### settling -/
theorem SRel.frz {K : PySem.W.Frag} {mg : Str → Option Value} {g : Reg} {H : Hp} {ρ : DEnv} {σ : L2.St} {Ss : List D} (sr : SRel T K mg g0 H0 g H ρ σ Ss) (i : Nat) : ∃ g', SRel T K mg g0 H0 g' H (frz i ρ) σ Ss ∧ Chg g H g' H := by
  unfold Dm.frz
  split
  · rename_i d hd
    obtain ⟨a, h1, h2, h3, h4, h5⟩ := own_fresh sr hd
    have up : Up g (g.add a h5) := Reg.add_up h5
    have keep : ∀ b o, g.Z b → H b = some o → NoTbl o → H b = some o := fun _ _ _ h _ => h
    have oth : ∀ {j p}, Own (ρ.set i (some (.val d))) σ j p → i ≠ j ∧ Own ρ σ j p := fun {j p} ⟨⟨d', q1⟩, q2⟩ => by
      rcases get_set q1 with ⟨_, e⟩ | ⟨hne, q1⟩
      · cases e
      · exact ⟨hne, ⟨d', q1⟩, q2⟩
    refine ⟨g.add a h5, ⟨sr.nx.settle h2 h5 h3, ⟨by simpa using sr.env.len, fun j d' q => ?_, fun j d' q => ?_, fun j l p q1 q2 => sr.env.sep j l p (oth q1).2 (oth q2).2⟩, fun j d' p q1 q2 => ?_⟩, up, keep⟩
    · rcases get_set q with ⟨rfl, e⟩ | ⟨hne, q⟩
      · cases e
        exact ⟨_, h1, h3.settle h5⟩
      · obtain ⟨v, w1, w2⟩ := sr.env.val j d' q
        exact ⟨v, w1, w2.upZ up keep⟩
    · rcases get_set q with ⟨rfl, e⟩ | ⟨hne, q⟩
      · cases e
      · obtain ⟨b, w1, w2, w3, w4⟩ := sr.env.own j d' q
        refine ⟨b, w1, w2.up' h5, fun z => z.elim w3 fun e => hne ?_, w4⟩
        exact sr.env.sep i j a ⟨⟨d, hd⟩, h1⟩ ⟨⟨d', q⟩, by rw [w1, e]⟩
    · rcases get_set q1 with ⟨_, e⟩ | ⟨hne, q1⟩
      · cases e
      · exact sr.fr j d' p q1 q2
  · exact ⟨g, sr, Chg.refl g H⟩
theorem ds_frz (h : DS X T Wx kd g0 H0 st m) : DS X T Wx kd g0 H0 st (mFrz i m) :=
  ps_imp h fun E σ H ⟨g, ρ, Ss, sr, r⟩ => by
    obtain ⟨g', s', c⟩ := sr.frz i
    exact ⟨g', _, Ss, s', r.chg c⟩

/-! ### raise -/
/-- an own exception class without own __init__ -/
structure ExcD (K : PySem.W.Frag) (mg : Str → Option Value) (c : Str) : Prop where
  ex : ∃ (C : Addr) (B newId initId : String) (bmB : List Value), ExcBaseFacts B newId initId bmB ∧ PySem.W.excIn K C bmB newId = true ∧ mg c = some (.ref C) ∧ PySem.W.keepIn K (.ref C) = true ∧
    PySem.W.subIn K (.ref C) (.type "BaseException") = some true ∧ PySem.W.typeIn K (.ref C) = some (.type "type")
theorem ds_raise {c : Str} {m : Str} {j : Nat} {p p2 p3 : Pos} (C : SCtx X Wx k) (E : ExcD X.K X.mg c) (hg : Gl X c) (hdb : (c == ("__debug__" : Str)) = false) : DS X T Wx kd g0 H0 (.Raise (some (.Call (.Name c p) [.Constant (.str m) j p2] [] p3)) none pos) (mRaise c) := by
  obtain ⟨Ca, B, newId, initId, bmB, F, q, gC, kC, s1, t1⟩ := E.ex
  exact ps_imp (ps_raise C.calm C.take (pmk_own F q gC kC (raises_own s1 t1) hg hdb)) fun E σ H ⟨g, ρ, Ss, sr, r⟩ => ⟨rfl, c, none, gC, r g H sr.nx⟩
end

/-! ### a def -/
def mkFb (b : Bool) (n N : Nat) (body : MS) : FD := fun ds Ss => if ds.length = n then (body (ds.map (fun d => some (.val d)) ++ List.replicate (N - n) none) Ss).bind fun f S1 => match f with
    | .nx _ => cond b (.ok .non S1) .bad
    | .rt d => .ok d S1
    | _ => .bad
  else .bad
abbrev mkF : Nat → Nat → MS → FD := mkFb true
/-- .. of a def that always gives something back -/
abbrev mkFF : Nat → Nat → MS → FD := mkFb false
abbrev bX (P : Program) (w : World) (K : PySem.W.Frag) (mg : Str → Option Value) (base : Heap) (N : List Str) (x : Str) (st : Stmt) (f : Addr) (cdv : Value) (A : Around) (outer : List Env) (s : Shared) (H : Hp) (E : XK) : Cx :=
  cxOf (L2.CX P w) P w K mg base N x (defScope st) f cdv A outer s H E
section
variable {P : Program} {w : World} {K : PySem.W.Frag} {mg : Str → Option Value} {base : Heap} {T : List (Addr × Str)} {k : Nat} {kd : Kind}
theorem renv_start {g : Reg} {H : Hp} {ds : List D} {vs : List V} {n : Nat} (r : Reps K mg g H ds vs) : REnv K mg g H (ds.map (fun d => some (.val d)) ++ List.replicate n none) (vs.map some ++ List.replicate n none) := by
  have hl := r.length
  have get : ∀ (i : Nat) (sl : Slot), (ds.map (fun d => some (Slot.val d)) ++ List.replicate n none)[i]? = some (some sl) → ∃ d, ds[i]? = some d ∧ sl = .val d := fun i sl h => by
    by_cases hi : i < ds.length
    · rw [List.getElem?_append_left (by simpa using hi), List.getElem?_map, List.getElem?_eq_getElem hi] at h
      cases h
      exact ⟨_, List.getElem?_eq_getElem hi, rfl⟩
    · rw [List.getElem?_append_right (by simpa using hi), List.getElem?_replicate] at h
      split at h <;> cases h
  refine ⟨by simp [hl], fun i d h => ?_, fun i d h => ?_, fun i j a h1 h2 => ?_⟩
  · obtain ⟨d', h1, e⟩ := get i _ h
    cases e
    obtain ⟨v, h2, h3⟩ := r.get h1
    refine ⟨v, ?_, h3⟩
    rw [List.getElem?_append_left (by rw [List.length_map]; exact (List.getElem?_eq_some_iff.mp h2).1), List.getElem?_map, h2]; rfl
  · obtain ⟨d', h1, e⟩ := get i _ h
    cases e
  · obtain ⟨⟨d, h1⟩, _⟩ := h1
    obtain ⟨d', _, e⟩ := get i _ h1
    cases e
theorem sctx_of {N ps : List Str} {x : Str} {st : Stmt} {f : Addr} {cdv : Value} {A : Around} {outer : List Env} {s : Shared} {H : Hp} {E : XK} (S : FnScope N ps (defScope st)) (hr : Room k (A.deeper (PyProof.Rows.envOfC x (defScope st) s.heap.objs.size f cdv))) :
    SCtx (bX P w K mg base N x st f cdv A outer s H E) (wE mg E) k := by
  have tk : Takes (bX P w K mg base N x st f cdv A outer s H E) (fun cls d _ H' => E cls d H') := takes_of rfl rfl rfl rfl
  have le : ∀ cls d H', xk mg (wE mg E) cls d H' → E cls d H' := fun cls d H' h => by
    obtain ⟨rfl, c, p, hm, h⟩ := h
    exact h cls hm
  exact ⟨⟨rfl, hr, passes_call (W := fun cls d _ H' => E cls d H') tk fun cls d _ H' h => le cls d H' h⟩, passes_of rfl, tk.imp fun cls d _ H' h => le cls d H' h, S.nd⟩
theorem fnD_of {b : Bool} {x : Str} {st : Stmt} {f : Addr} {N ps : List Str} {kws : List Kw} {m : MS} {dV kV doc pm cdv ct oc : Value} {an od : Option Addr} {osl : Array (Option Value)}
    (lk : K.lookup f = some ⟨oc, od, .func (PySem.W.fnOf x x (defArgs st) (defBody st) (defScope st) dV kV doc pm an cdv ct), osl⟩) (hcd : PySem.W.codeIn K cdv x = true) (kp : PySem.W.keepIn K (.ref f) = true) (S : FnScope N ps (defScope st)) (hm : mg x = some (.ref f))
    (hb : Binds K (PySem.W.fnOf x x (defArgs st) (defBody st) (defScope st) dV kV doc pm an cdv ct) ps [])
    (hk : KMono kd) (hn : b = true → ∀ H0 g H, kd .non H0 g H .non)
    (hkw : ∀ q ∈ kws, ∀ (s : Shared) (us ws : List Value), us.length = q.n → ws.length = q.ks.length → BindsTo s (PySem.W.fnOf x x (defArgs st) (defBody st) (defScope st) dV kV doc pm an cdv ct) ⟨us, q.ks.zip ws⟩ (ps.zip (permU q.perm (us ++ ws))))
    (body : ∀ (A : Around) (outer : List Env) (s : Shared) (H : Hp) (E : XK) (g0 : Reg), SCtx (bX P w K mg base N x st f cdv A outer s H E) (wE mg E) k → DSs (bX P w K mg base N x st f cdv A outer s H E) T (wE mg E) kd g0 H (defBody st) m) :
    FnD P w K mg base T (k + 1) x ps kd kws (mkFb b ps.length N.length m) := by
  refine ⟨⟨f, _, hm, kp, hb, fn_of lk hcd S (fun vs H Q E h => h.1) fun A outer s H vs Q E hr h => ?_, hkw, _, _, _, lk⟩, fun ds Ss hl => by unfold mkFb; rw [if_neg hl]⟩
  obtain ⟨hl, g, ds, Ss, r, c, h⟩ := h
  have C := sctx_of (P := P) (w := w) (K := K) (mg := mg) (base := base) (outer := outer) (s := s) (H := H) (E := E) S hr
  refine ⟨_, body A outer s H E g C, g, ds.map (fun d => some (.val d)) ++ List.replicate (N.length - ps.length) none, Ss, ⟨Nxt.refl c, ?_, fun i d a h1 _ => ?_⟩, ?_⟩
  · show REnv K mg g H _ (L2.start N vs)
    unfold L2.start
    rw [hl]
    exact renv_start r
  · exfalso
    by_cases hi : i < ds.length
    · rw [List.getElem?_append_left (by simpa using hi), List.getElem?_map, List.getElem?_eq_getElem hi] at h1
      cases h1
    · rw [List.getElem?_append_right (by simpa using hi), List.getElem?_replicate] at h1
      split at h1 <;> cases h1
  · have hd : ds.length = ps.length := by rw [← r.length, hl]
    unfold mkFb at h
    rw [if_pos hd] at h
    cases hb : m (ds.map (fun d => some (.val d)) ++ List.replicate (N.length - ps.length) none) Ss with
    | bad => rw [hb] at h; exact h.elim
    | exc c p S' => rw [hb] at h; exact h
    | ok f S' =>
      rw [hb] at h
      cases f with
      | nx ρ' =>
        cases b with
        | true => exact fun g' H' σ' sr _ => h g' H' _ sr.nx (hn rfl _ _ _)
        | false => exact h.elim
      | rt d => exact h
      | bk ρ' => exact h.elim
      | ct ρ' => exact h.elim
end
end Dm
end
section
namespace Dm
open PySem PySem.Spec L2

/-! ### global names -/
def GlobD (K : PySem.W.Frag) (mg : Str → Option Value) (x : Str) (d : D) : Prop := ∃ u v, mg x = some u ∧ RelV v u ∧ ∀ g H, Rep K mg g H d v
section
variable {X : Cx} {T : List (Addr × Str)} {Wx : Wish} {x : Str} {d : D} {pos p : Pos} {e : Expr} {m : M D}
theorem de_glob (h : GlobD X.K X.mg x d) (hg : Gl X x) (hdb : (x == ("__debug__" : Str)) = false) : DE X T Wx (.Name x pos) (mLit d) := by
  obtain ⟨u, v, hm, r, rp⟩ := h
  exact de_lit (pe_glob hg hm r hdb) rp
theorem globD_fn {K : PySem.W.Frag} {mg : Str → Option Value} {a : Addr} (h : mg x = some (.ref a)) : GlobD K mg x (.fn x) := ⟨_, .ref a, h, rfl, fun _ _ => ⟨a, h, rfl⟩⟩
theorem FnD.glob {P : Program} {w : World} {K : PySem.W.Frag} {mg : Str → Option Value} {base : Heap} {k : Nat} {ps : List Str} {kd : Kind} {kws : List Kw} {f : FD} (F : FnD P w K mg base T k x ps kd kws f) : GlobD K mg x (.fn x) := by
  obtain ⟨a, fd, hm, _⟩ := F.ex
  exact globD_fn hm
theorem ExcD.glob {K : PySem.W.Frag} {mg : Str → Option Value} (F : ExcD K mg x) : GlobD K mg x (.fn x) := by
  obtain ⟨a, _, _, _, _, _, _, hm, _⟩ := F.ex
  exact globD_fn hm
theorem globD_int {K : PySem.W.Frag} {mg : Str → Option Value} {i : Int} (h : ∃ t, mg x = some (.int i t)) : GlobD K mg x (.int i) := by
  obtain ⟨t, h⟩ := h
  exact ⟨_, .int i, h, ⟨t, rfl⟩, fun _ _ => rfl⟩
theorem globD_str {K : PySem.W.Frag} {mg : Str → Option Value} {s : Str} (h : ∃ t, mg x = some (.str s t)) : GlobD K mg x (.str s.cps.toList) := by
  obtain ⟨t, h⟩ := h
  exact ⟨_, .str s, h, ⟨t, rfl⟩, fun _ _ => by show V.str s = V.str (S _); rw [S_list]⟩
theorem de_ty {n : String} (hg : Gl X x) (hm : X.mg x = none) (hv : bootBuiltins x = some (.type n)) (hn : x ≠ "__name__") (hdb : (x == ("__debug__" : Str)) = false) : DE X T Wx (.Name x pos) (mLit (.ty n)) :=
  de_lit (pe_bltn hg hm hv (v := .ty n) rfl hn hdb) fun _ _ => rfl
/-- code that the proof never comes to -/
def mBad {α : Type} : M α := fun _ _ => .bad
def mBadS : MS := fun _ _ => .bad
theorem pe_bad {k : Kind} : PE X e (tK T X.K X.mg Wx k mBad) := ⟨fun pins s σ H Q I ⟨g, ρ, Ss, _, _, r⟩ => r.elim⟩
theorem dt_bad : DT X T Wx e mBad := ⟨fun pins s σ H Q I ⟨g, ρ, Ss, _, _, r⟩ => r.elim⟩
theorem ds_bad {kd : Kind} {g0 : Reg} {H0 : Hp} {st : Stmt} : DS X T Wx kd g0 H0 st mBadS := ⟨fun pins s σ H Q I ⟨g, ρ, Ss, _, r⟩ => r.elim⟩
theorem dss_bad {kd : Kind} {g0 : Reg} {H0 : Hp} {st : List Stmt} : DSs X T Wx kd g0 H0 st mBadS := ⟨fun pins s σ H Q I ⟨g, ρ, Ss, _, r⟩ => r.elim⟩
end

/-! ### writes -/
section
variable {T : List (Addr × Str)} {K : PySem.W.Frag} {mg : Str → Option Value} {g0 g : Reg} {H0 H : Hp} {ρ : DEnv} {σ : L2.St} {Ss : List D} {i n : Nat} {d : D} {a : Addr} {o o' : HO}
theorem Cont.keep {b : Addr} {d : D} (c : Cont K mg g H d b) (hZ : ¬ g.Z a) (hne : b ≠ a) : Cont K mg g (upd H a o') d b := by
  cases d with
  | lst xs => obtain ⟨vs, q1, q2⟩ := c; exact ⟨vs, by rw [upd_ne hne]; exact q1, q2.upZ (Up.refl g) (keepZ_own hZ)⟩
  | dic ks ws => obtain ⟨vs, q1, q2, q3⟩ := c; exact ⟨vs, by rw [upd_ne hne]; exact q1, q2.upZ (Up.refl g) (keepZ_own hZ), q3.upZ (Up.refl g) (keepZ_own hZ)⟩
  | _ => exact c.elim
/-- an owned thing -/
theorem SRel.writeO (sr : SRel T K mg g0 H0 g H ρ σ Ss) (hi : ρ[i]? = some (some (.own d))) (ha : σ[i]? = some (some (V.ref a))) (ho : H a = some o) (nt : NoTbl o) (nc : ∀ c q, o ≠ LamX.CodeO c q) {d' : D} (hc : Cont K mg g (upd H a o') d' a) :
    SRel T K mg g0 H0 g (upd H a o') (ρ.set i (some (.own d'))) σ Ss ∧ Chg g H g (upd H a o') := by
  obtain ⟨a', h1, h2, h3, h4, h5⟩ := own_fresh sr hi
  rw [ha] at h1; cases h1
  have oth : ∀ {j d2}, i ≠ j → ρ[j]? = some (some (.own d2)) → ∀ {b}, σ[j]? = some (some (V.ref b)) → b ≠ a := fun {j d2} hne q {b} w e => by
    subst e
    exact hne (sr.env.sep i j b ⟨⟨d, hi⟩, ha⟩ ⟨⟨d2, q⟩, w⟩)
  refine ⟨⟨sr.nx.own h2 h4 h5 ho nt nc, ⟨by simpa using sr.env.len, fun j d2 q => ?_, fun j d2 q => ?_, fun j l p q1 q2 => ?_⟩, fun j d2 p q w => ?_⟩, Up.refl g, keepZ_own h4⟩
  · rcases get_set q with ⟨_, e⟩ | ⟨hne, q⟩
    · cases e
    · obtain ⟨v, w1, w2⟩ := sr.env.val j d2 q
      exact ⟨v, w1, w2.upZ (Up.refl g) (keepZ_own h4)⟩
  · rcases get_set q with ⟨rfl, e⟩ | ⟨hne, q⟩
    · cases e; exact ⟨a, ha, hc, h4, h5⟩
    · obtain ⟨b, w1, w2, w3, w4⟩ := sr.env.own j d2 q
      exact ⟨b, w1, w2.keep h4 (oth hne q w1), w3, w4⟩
  · have back : ∀ {j}, Own (ρ.set i (some (.own d'))) σ j p → Own ρ σ j p := fun {j} ⟨⟨d2, z1⟩, z2⟩ => by
      rcases get_set z1 with ⟨rfl, e⟩ | ⟨hne, z1⟩
      · exact ⟨⟨d, hi⟩, z2⟩
      · exact ⟨⟨d2, z1⟩, z2⟩
    exact sr.env.sep j l p (back q1) (back q2)
  · rcases get_set q with ⟨rfl, e⟩ | ⟨hne, q⟩
    · rw [ha] at w; cases w; exact h2
    · exact sr.fr j d2 p q w
/-- a cell -/
theorem SRel.writeC (sr : SRel T K mg g0 H0 g H ρ σ Ss) (ha : g.cs[n]? = some a) (ho : H a = some o) (nt : NoTbl o) (nc : ∀ c q, o ≠ LamX.CodeO c q) {d' : D} (hc : Cont K mg g (upd H a o') d' a) :
    SRel T K mg g0 H0 g (upd H a o') ρ σ (Ss.set n d') ∧ Chg g H g (upd H a o') := by
  have hm : a ∈ g.cs := List.mem_of_getElem? ha
  have hZ : ¬ g.Z a := g.dis a hm
  have nd := sr.nx.ce.nd
  have uniq : ∀ {j : Nat}, g.cs[j]? = some a → j = n := fun {j} q => by
    obtain ⟨h1, e1⟩ := List.getElem?_eq_some_iff.mp q
    obtain ⟨h2, e2⟩ := List.getElem?_eq_some_iff.mp ha
    exact (List.getElem_inj nd).mp (e1.trans e2.symm)
  refine ⟨⟨⟨sr.nx.gr, ⟨fun b u h t z => ?_, fun b h => ?_⟩, ⟨by simpa using sr.nx.ce.len, nd, fun j b d2 q1 q2 => ?_, tabs_own sr.nx.ce.tabs ho nt nc, fun b z e => ?_⟩⟩, ⟨sr.env.len, fun j d2 q => ?_, fun j d2 q => ?_, sr.env.sep⟩, sr.fr⟩, Up.refl g, keepZ_own hZ⟩
  · rw [upd_ne (fun e => ?_)]
    · exact sr.nx.ex.keep b u h t z
    · subst e
      obtain ⟨more, e1, e2⟩ := sr.nx.gr.cs
      rw [e1] at hm
      rcases List.mem_append.mp hm with q | q
      · exact z q
      · exact e2 b q u h t
  · by_cases e : b = a
    · obtain ⟨o2, q1, q2, _⟩ := hc.some
      exact absurd q2 (h o2 (by rw [e]; exact q1))
    · exact sr.nx.ex.dom b fun u hu => h u (by rw [upd_ne e]; exact hu)
  · rcases get_set q2 with ⟨rfl, e⟩ | ⟨hne, q2⟩
    · rw [ha] at q1; cases q1; rw [← e]; exact hc
    · have hb : b ≠ a := fun e => hne (uniq (e ▸ q1)).symm
      exact (sr.nx.ce.at_ j b d2 q1 q2).keep hZ hb
  · by_cases e' : b = a
    · exact hZ (e' ▸ z)
    · exact sr.nx.ce.zt b z fun u hu => e u (by rw [upd_ne e']; exact hu)
  · obtain ⟨v, w1, w2⟩ := sr.env.val j d2 q
    exact ⟨v, w1, w2.upZ (Up.refl g) (keepZ_own hZ)⟩
  · obtain ⟨b, w1, w2, w3, w4⟩ := sr.env.own j d2 q
    exact ⟨b, w1, w2.keep hZ (fun e => w4 (e ▸ hm)), w3, w4⟩
end

/-! ### x[k] = v -/
def repD : List D → List D → D → D → List D
  | k :: ks, v :: vs, q, w => (if keyB k q = true then w else v) :: repD ks vs q w
  | _, _, _, _ => []
/-- an item put at a key that is there -/
def putD (d q w : D) : Option D := match d with
  | .dic ks vs => if ks.any (fun k => keyB k q) = true ∧ ks.length < big then some (.dic ks (repD ks vs q w)) else none
  | .lst xs => match q with
    | .int i => (ixN xs.length i).map fun j => .lst (xs.set j w)
    | _ => none
  | _ => none
section
variable {K : PySem.W.Frag} {mg : Str → Option Value} {g : Reg} {H : Hp}
theorem rep_of {q w : D} {y u : V} {k' : Key} (hq : RepT K mg g H q y) (hw : Rep K mg g H w u) (ey : y = kV k') : ∀ {ks vs : List D} {ps : List (Key × V)}, Reps K mg g H ks (ps.map fun p => kV p.1) → Reps K mg g H vs (ps.map (·.2)) →
    Reps K mg g H ks ((ps.map fun kv => if kv.1 = k' then (kv.1, u) else kv).map fun p => kV p.1) ∧ Reps K mg g H (repD ks vs q w) ((ps.map fun kv => if kv.1 = k' then (kv.1, u) else kv).map (·.2))
  | [], vs, ps, h1, h2 => by
    have : ps = [] := by simpa using (show ps.map (fun p => kV p.1) = [] from h1)
    subst this
    exact ⟨rfl, by simp [repD]; rfl⟩
  | k :: ks, vs, [], h1, h2 => by obtain ⟨_, _, z, _⟩ := h1; cases z
  | k :: ks, [], p :: ps, h1, h2 => by cases (show (p :: ps).map (·.2) = [] from h2)
  | k :: ks, v :: vs, p :: ps, h1, h2 => by
    obtain ⟨v1, r1, z1, a1, b1⟩ := h1
    obtain ⟨v2, r2, z2, a2, b2⟩ := h2
    simp only [List.map_cons, List.cons.injEq] at z1 z2
    obtain ⟨rfl, rfl⟩ := z1
    obtain ⟨rfl, rfl⟩ := z2
    obtain ⟨i1, i2⟩ := rep_of hq hw ey b1 b2
    unfold repD
    simp only [List.map_cons]
    by_cases hk : keyB k q = true
    · have e : p.1 = k' := kV_inj ((keyB_of a1 hq hk).symm.trans ey)
      rw [if_pos hk, if_pos e]
      exact ⟨⟨_, _, rfl, a1, i1⟩, ⟨_, _, rfl, hw, i2⟩⟩
    · have e : ¬ p.1 = k' := fun e => keyB_not a1 hq (by simpa using hk) (by rw [ey, e])
      rw [if_neg hk, if_neg e]
      exact ⟨⟨_, _, rfl, a1, i1⟩, ⟨_, _, rfl, a2, i2⟩⟩
theorem key_any {q : D} {y : V} (hq : RepT K mg g H q y) : ∀ {ks : List D} {ps : List (Key × V)}, Reps K mg g H ks (ps.map fun p => kV p.1) → ks.any (fun k => keyB k q) = true → ∃ k', y = kV k' ∧ (ps.any fun kv => decide (kv.1 = k')) = true
  | [], ps, _, h => by simp at h
  | k :: ks, [], h1, _ => by obtain ⟨_, _, z, _⟩ := h1; cases z
  | k :: ks, p :: ps, h1, h => by
    obtain ⟨v1, r1, z1, a1, b1⟩ := h1
    simp only [List.map_cons, List.cons.injEq] at z1
    obtain ⟨rfl, rfl⟩ := z1
    rw [List.any_cons, Bool.or_eq_true] at h
    rcases h with h | h
    · exact ⟨p.1, keyB_of a1 hq h, by simp⟩
    · obtain ⟨k', e1, e2⟩ := key_any hq b1 h
      exact ⟨k', e1, by rw [List.any_cons, e2, Bool.or_true]⟩
/-- the thing at a, an item put in -/
theorem put_of {d q w d' : D} {a : Addr} {y u : V} (hc : Cont K mg g H d a) (hZ : ¬ g.Z a) (hq : RepT K mg g H q y) (hw : Rep K mg g H w u) (h : putD d q w = some d') :
    ∃ o o', H a = some o ∧ NoTbl o ∧ (∀ c q, o ≠ LamX.CodeO c q) ∧ Cont K mg g (upd H a o') d' a ∧ ∀ Q : Hp → Prop, Q (upd H a o') → rSetD (.ref a) y u H Q ∨ rSetL (.ref a) y u H Q := by
  unfold putD at h
  split at h
  · rename_i ks vs
    split at h
    · rename_i hh
      cases h
      obtain ⟨ps, h1, h2, h3⟩ := hc
      obtain ⟨k', ey, ha⟩ := key_any hq h2 hh.1
      obtain ⟨r1, r2⟩ := rep_of hq hw ey h2 h3
      have hl : ps.length < sizeLine := by
        have := Reps.length h2
        rw [List.length_map] at this
        rw [this, big_eq]; exact hh.2
      have e : putK ps k' u = ps.map fun kv => if kv.1 = k' then (kv.1, u) else kv := by
        unfold putK; rw [if_pos ha]
      refine ⟨_, .dK (putK ps k' u), h1, noTbl_dK, dK_no_code, ⟨_, upd_same, ?_, ?_⟩, fun Q q => .inl ⟨a, _, rfl, ey ▸ DPut.k h1 hl, q⟩⟩
      · rw [e]; exact r1.upZ (Up.refl g) (keepZ_own hZ)
      · rw [e]; exact r2.upZ (Up.refl g) (keepZ_own hZ)
    · cases h
  · rename_i xs
    split at h
    · rename_i i
      obtain ⟨j, hj, rfl⟩ := Option.map_eq_some_iff.mp h
      obtain ⟨vs, h1, h2⟩ := hc
      refine ⟨_, .lst (vs.set j u), h1, noTbl_lst, lst_no_code, ⟨_, upd_same, (Reps.set j h2 hw).upZ (Up.refl g) (keepZ_own hZ)⟩, fun Q q => .inr ⟨a, vs, i, j, rfl, hq, h1, by rw [h2.length]; exact hj, q⟩⟩
    · cases h
  · cases h
end
def mSubC (mo mi mv : M D) : MS := fun ρ Ss => (mv ρ Ss).bind fun w S1 => (mo ρ S1).bind fun o S2 => (mi ρ S2).bind fun q S3 => match o with
  | .cel n => match S3[n]? with
    | some d => match putD d q w with
      | some d' => .ok (.nx ρ) (S3.set n d')
      | none => .bad
    | none => .bad
  | _ => .bad
def mSubO (i : Nat) (mi mv : M D) : MS := fun ρ Ss => match ρ[i]? with
  | some (some (.own d)) => (mv ρ Ss).bind fun w S1 => (mi ρ S1).bind fun q S3 => match putD d q w with
    | some d' => .ok (.nx (ρ.set i (some (.own d')))) S3
    | none => .bad
  | _ => .bad
/-- an own list's change by one value; a value out of it -/
def mOwn (i : Nat) (F : List D → D → Option (List D)) (m : M D) : MS := fun ρ Ss => match ρ[i]? with
  | some (some (.own (.lst xs))) => (m ρ Ss).bind fun w S1 => match F xs w with
    | some ys => .ok (.nx (ρ.set i (some (.own (.lst ys))))) S1
    | none => .bad
  | _ => .bad
def mPop (t : Tgt) (i : Nat) (F : List D → Option (D × List D)) : MS := fun ρ Ss => match ρ[i]? with
  | some (some (.own (.lst xs))) => match F xs with
    | some (y, ys) => match bindT t y (ρ.set i (some (.own (.lst ys)))) with
      | some ρ' => .ok (.nx ρ') Ss
      | none => .bad
    | none => .bad
  | _ => .bad
def appD (xs : List D) (w : D) : Option (List D) := if xs.length < big then some (xs ++ [w]) else none
def extD (xs : List D) (w : D) : Option (List D) := match w with
  | .lst ys => if xs.length + ys.length ≤ big then some (xs ++ ys) else none
  | _ => none
def popD (xs : List D) : Option (D × List D) := (xs[xs.length - 1]?).map fun y => (y, xs.dropLast)
section
variable {X : Cx} {T : List (Addr × Str)} {Wx : Wish} {kd : Kind} {g0 : Reg} {H0 : Hp} {k i : Nat} {x : Str} {a b e : Expr} {ma mb mv m : M D} {pos p p2 p3 p4 : Pos} {kk : Kind}
theorem set_both (hu : X.A.units + 1 < cLine) : PSet X (fun o i v H Q => rSetD o i v H Q ∨ rSetL o i v H Q) := fun pins s σ H o i v ov iv u Q I ro ri rv h => by
  rcases h with h | h
  · exact set_dict hu pins s σ H o i v ov iv u Q I ro ri rv h
  · exact set_list pins s σ H o i v ov iv u Q I ro ri rv h
theorem ds_subC (C : SCtx X Wx k) (ha : DE X T Wx a ma) (hb : DE X T Wx b mb) (hv : DE X T Wx e mv)
    (hp : ∀ v, assign (.Subscript a b p) X.env v = (do let ov ← holding [v] (eval a X.env); let iv ← holding [v, ov] (eval b X.env); standAt p; holding [v, ov, iv] (setItem ov iv v); release [v, ov, iv] []))
    (hs : swapsWithSole [.Subscript a b p] e pos.line X.env = pure false) (hw : swappedStores [.Subscript a b p] e X.env = pure none) (h1 : (assignEach [.Subscript a b p] X.env).map (·.2) = [assign (.Subscript a b p) X.env]) :
    DS X T Wx kd g0 H0 (.Assign [.Subscript a b p] e pos) (mSubC ma mb mv) :=
  ps_imp (ps_asg hv (pg_sub ha hb (set_both C.hu1) hp) hs hw h1) fun E σ H ⟨g, ρ, Ss, sr, r⟩ => ⟨g, ρ, Ss, sr.env, sr.nx.ce, exprS sr r fun w S1 g1 H1 v n1 s1 k1 h1 =>
    ⟨g1, ρ, S1, s1.env, s1.nx.ce, exprS s1 h1 fun o S2 g2 H2 ov n2 s2 k2 h2 => ⟨g2, ρ, S2, s2.env, s2.nx.ce, exprS s2 h2 fun q S3 g3 H3 iv n3 s3 k3 h3 => by
      cases o with
      | cel n =>
        have k2' := Rep.mono n3.gr n3.ex k2
        obtain ⟨c, rfl, hc⟩ := k2'
        dsimp only at h3
        cases hS : S3[n]? with
        | none => rw [hS] at h3; exact h3.elim
        | some d =>
          rw [hS] at h3
          dsimp only at h3
          cases hd : putD d q w with
          | none => rw [hd] at h3; exact h3.elim
          | some d' =>
            rw [hd] at h3
            have ct := s3.nx.ce.at_ n c d hc hS
            obtain ⟨o, o', q1, q2, q3, q4, q5⟩ := put_of ct (g3.dis c (List.mem_of_getElem? hc)) (Rep.toT k3) (Rep.mono n3.gr n3.ex (Rep.mono n2.gr n2.ex k1)) hd
            obtain ⟨s4, c4⟩ := s3.writeC hc q1 q2 q3 q4
            exact q5 _ (h3 g3 _ σ s4 c4)
      | _ => exact h3.elim⟩⟩⟩
theorem ds_subO (C : SCtx X Wx k) (hN : X.N[i]? = some x) (hvis : Vis X.env.scope x) (hb : DE X T Wx b mb) (hv : DE X T Wx e mv)
    (hp : ∀ v, assign (.Subscript (.Name x p2) b p) X.env v = (do let ov ← holding [v] (eval (.Name x p2) X.env); let iv ← holding [v, ov] (eval b X.env); standAt p; holding [v, ov, iv] (setItem ov iv v); release [v, ov, iv] []))
    (hs : swapsWithSole [.Subscript (.Name x p2) b p] e pos.line X.env = pure false) (hw : swappedStores [.Subscript (.Name x p2) b p] e X.env = pure none) (h1 : (assignEach [.Subscript (.Name x p2) b p] X.env).map (·.2) = [assign (.Subscript (.Name x p2) b p) X.env])
    (hdb : (x == ("__debug__" : Str)) = false) (hcd : (x == ("__classdict__" : Str)) = false) :
    DS X T Wx kd g0 H0 (.Assign [.Subscript (.Name x p2) b p] e pos) (mSubO i mb mv) :=
  ps_imp (ps_asg hv (pg_sub (pe_var hN hvis hdb hcd) hb (set_both C.hu1) hp) hs hw h1) fun E σ H ⟨g, ρ, Ss, sr, r⟩ => by
    unfold mSubO at r
    split at r
    · rename_i d hd
      obtain ⟨a, ha, a0, a1, a2, a3⟩ := own_fresh sr hd
      exact ⟨g, ρ, Ss, sr.env, sr.nx.ce, exprS sr r fun w S1 g1 H1 v n1 s1 k1 h1 => ⟨.ref a, ha, g1, ρ, S1, s1.env, s1.nx.ce, exprS s1 h1 fun q S3 g3 H3 iv n3 s3 k3 h3 => by
        cases hd' : putD d q w with
        | none => rw [hd'] at h3; exact h3.elim
        | some d' =>
          rw [hd'] at h3
          obtain ⟨a', ha', b0, b1, b2, b3⟩ := own_fresh s3 hd
          rw [ha] at ha'; cases ha'
          obtain ⟨o, o', q1, q2, q3, q4, q5⟩ := put_of b1 b2 (Rep.toT k3) (Rep.mono n3.gr n3.ex k1) hd'
          obtain ⟨s4, c4⟩ := s3.writeO hd ha q1 q2 q3 q4
          exact q5 _ (h3 g3 _ σ s4 c4)⟩⟩
    · exact r.elim

/-! ### methods of own lists -/
theorem oneS {K : PySem.W.Frag} {mg : Str → Option Value} {f : D → List D → R Fl} {E : Ends} {P : List V → Hp → Prop} {g : Reg} {H : Hp} {ρ : DEnv} {σ : L2.St} {Ss : List D} (sr : SRel T K mg g0 H0 g H ρ σ Ss)
    (h : ResS T K mg Wx kd g0 H0 g H ((m ρ Ss).bind f) E) (hP : ∀ d S1 g1 H1 v, Nxt T K mg g H S1 g1 H1 → SRel T K mg g0 H0 g1 H1 ρ σ S1 → Rep K mg g1 H1 d v → ResS T K mg Wx kd g0 H0 g1 H1 (f d S1) E → P [v] H1) :
    ResG T K mg Wx (kRs K mg) g H (mCons m mNil ρ Ss) P := by
  show ResG T K mg Wx (kRs K mg) g H ((m ρ Ss).bind fun d S1 => .ok [d] S1) P
  cases e : m ρ Ss with
  | bad => rw [e] at h; exact h
  | exc c p S' => rw [e] at h; exact fun g' H' n => h g' H' (sr.nx.trans n)
  | ok d S' =>
    rw [e] at h
    intro g1 H1 vs n kk
    obtain ⟨v, r, rfl, rv, rfl⟩ := kk
    exact hP d S' g1 H1 v n (sr.mono n) rv (ResS.chg h n.chg)
/-- a method call at an own list, by a rule for its values -/
theorem ds_own {F : List D → D → Option (List D)} {name : Str} {id : String} {r : V → List V → Hp → VK → Prop} (slot : PySem.Slot "list" name id) (hty : typeOf (.builtin id) = pure (.type "method_descriptor")) (hm : MtR X id r)
    (hF : ∀ g H (xs ys : List D) (w : D) a us y, H a = some (.lst us) → Reps X.K X.mg g H xs us → Rep X.K X.mg g H w y → F xs w = some ys → ∃ zs, Reps X.K X.mg g H ys zs ∧ ∀ Q : VK, Q .non (upd H a (.lst zs)) → r (.ref a) [y] H Q)
    (hN : X.N[i]? = some x) (hvis : Vis X.env.scope x) (he : DE X T Wx e m) (hp : isStar e = false) (hl : (p2.endLine == p3.line) = true) (hs : swapsWith (.Call (.Attribute (.Name x p) name p2) [e] [] p3) none pos.line X.env = pure false)
    (hdb : (x == ("__debug__" : Str)) = false) (hcd : (x == ("__classdict__" : Str)) = false) :
    DS X T Wx kd g0 H0 (.Expr (.Call (.Attribute (.Name x p) name p2) [e] [] p3) pos) (mOwn i F m) :=
  ps_imp (ps_expr (pe_bm PySem.F.plainAttrs_list slot hty hm (pe_var hN hvis hdb hcd) (das_cons he das_nil hp) (base_plain rfl) (by rw [star_all (by simp [hp])]; rfl) hl (star_plain hp) rfl) hs) fun E σ H ⟨g, ρ, Ss, sr, r⟩ => by
    unfold mOwn at r
    split at r
    · rename_i xs hd
      obtain ⟨a, ha, a0, a1, a2, a3⟩ := own_fresh sr hd
      have ht : tyV X.K "list" (.ref a) H := by obtain ⟨vs, h1, _⟩ := a1; exact .inl ⟨rfl, vs, SqL.of h1⟩
      refine ⟨.ref a, ha, ht, g, ρ, Ss, sr.env, sr.nx.ce, oneS sr r fun w S1 g1 H1 y n1 s1 k1 h1 => ?_⟩
      cases hd' : F xs w with
      | none => rw [hd'] at h1; exact h1.elim
      | some ys =>
        rw [hd'] at h1
        obtain ⟨a', ha', b0, b1, b2, b3⟩ := own_fresh s1 hd
        rw [ha] at ha'; cases ha'
        obtain ⟨us, q1, q2⟩ := b1
        obtain ⟨zs, q3, q4⟩ := hF g1 H1 xs ys w a us y q1 q2 k1 hd'
        obtain ⟨s4, c4⟩ := s1.writeO (o' := .lst zs) (d' := .lst ys) hd ha q1 noTbl_lst lst_no_code ⟨_, upd_same, q3.upZ (Up.refl g1) (keepZ_own b2)⟩
        exact q4 _ (h1 g1 _ σ s4 c4)
    · exact r.elim
theorem app_ok {g : Reg} {H : Hp} {xs ys : List D} {w : D} {a : Addr} {us : List V} {y : V} (q1 : H a = some (.lst us)) (q2 : Reps X.K X.mg g H xs us) (k1 : Rep X.K X.mg g H w y) (h : appD xs w = some ys) :
    ∃ zs, Reps X.K X.mg g H ys zs ∧ ∀ Q : VK, Q .non (upd H a (.lst zs)) → rAppend (.ref a) [y] H Q := by
  unfold appD at h
  split at h
  · rename_i hlen
    cases h
    exact ⟨us ++ [y], q2.append ⟨y, [], rfl, k1, rfl⟩, fun Q q => ⟨a, us, y, rfl, rfl, q1, by rw [q2.length, big_eq]; exact hlen, q⟩⟩
  · cases h
theorem ext_ok {g : Reg} {H : Hp} {xs ys : List D} {w : D} {a : Addr} {us : List V} {y : V} (q1 : H a = some (.lst us)) (q2 : Reps X.K X.mg g H xs us) (k1 : Rep X.K X.mg g H w y) (h : extD xs w = some ys) :
    ∃ zs, Reps X.K X.mg g H ys zs ∧ ∀ Q : VK, Q .non (upd H a (.lst zs)) → rExtend (.ref a) [y] H Q := by
  unfold extD at h
  split at h
  · rename_i zs
    split at h
    · rename_i hlen
      cases h
      obtain ⟨b, vs, rfl, _, q3, q4⟩ := k1
      exact ⟨us ++ vs, q2.append q4, fun Q q => ⟨a, b, us, vs, rfl, rfl, q1, q3, by rw [q2.length, q4.length, big_eq]; exact hlen, q⟩⟩
    · cases h
  · cases h
section
variable (hN : X.N[i]? = some x) (hvis : Vis X.env.scope x) (he : DE X T Wx e m) (hp : isStar e = false) (hl : (p2.endLine == p3.line) = true) (hdb : (x == ("__debug__" : Str)) = false) (hcd : (x == ("__classdict__" : Str)) = false)
include hN hvis he hp hl hdb hcd
theorem ds_append (hs : swapsWith (.Call (.Attribute (.Name x p) "append" p2) [e] [] p3) none pos.line X.env = pure false) : DS X T Wx kd g0 H0 (.Expr (.Call (.Attribute (.Name x p) "append" p2) [e] [] p3) pos) (mOwn i appD m) :=
  ds_own PySem.F.slot_list_append PySem.F.type_list_append mt_append (fun g H xs ys w a us y q1 q2 q3 q4 => app_ok q1 q2 q3 q4) hN hvis he hp hl hs hdb hcd
theorem ds_extend (hs : swapsWith (.Call (.Attribute (.Name x p) "extend" p2) [e] [] p3) none pos.line X.env = pure false) : DS X T Wx kd g0 H0 (.Expr (.Call (.Attribute (.Name x p) "extend" p2) [e] [] p3) pos) (mOwn i extD m) :=
  ds_own PySem.F.slot_list_extend PySem.F.type_list_extend mt_extend (fun g H xs ys w a us y q1 q2 q3 q4 => ext_ok q1 q2 q3 q4) hN hvis he hp hl hs hdb hcd
end
/-- target = rows.pop() -/
theorem ds_pop {tg : Expr} {t : Tgt} (hN : X.N[i]? = some x) (hvis : Vis X.env.scope x) (hl : (p2.endLine == p3.line) = true) (hg : DG X tg t) (hdb : (x == ("__debug__" : Str)) = false) (hcd : (x == ("__classdict__" : Str)) = false)
    (hs : swapsWithSole [tg] (.Call (.Attribute (.Name x p) "pop" p2) [] [] p3) pos.line X.env = pure false) (hw : swappedStores [tg] (.Call (.Attribute (.Name x p) "pop" p2) [] [] p3) X.env = pure none) (h1 : (assignEach [tg] X.env).map (·.2) = [assign tg X.env]) :
    DS X T Wx kd g0 H0 (.Assign [tg] (.Call (.Attribute (.Name x p) "pop" p2) [] [] p3) pos) (mPop t i popD) :=
  ps_imp (ps_asg (pe_bm0 PySem.F.plainAttrs_list PySem.F.slot_list_pop PySem.F.type_list_pop mt_pop (pe_var hN hvis hdb hcd) (base_plain rfl) hl) hg hs hw h1) fun E σ H ⟨g, ρ, Ss, sr, r⟩ => by
    unfold mPop at r
    split at r
    · rename_i xs hd
      obtain ⟨a, ha, a0, a1, a2, a3⟩ := own_fresh sr hd
      obtain ⟨vs, q1, q2⟩ := a1
      unfold popD at r
      cases hy : xs[xs.length - 1]? with
      | none => rw [hy] at r; exact r.elim
      | some y =>
        rw [hy] at r
        dsimp only [Option.map_some] at r
        cases hb : bindT t y (ρ.set i (some (.own (.lst xs.dropLast)))) with
        | none => rw [hb] at r; exact r.elim
        | some ρ' =>
          rw [hb] at r
          obtain ⟨v, hv, rv⟩ := q2.get hy
          have hdl : Reps X.K X.mg g H xs.dropLast vs.dropLast := by
            rw [List.dropLast_eq_take, List.dropLast_eq_take, q2.length]; exact q2.take _
          obtain ⟨s4, c4⟩ := sr.writeO (o' := .lst vs.dropLast) (d' := .lst xs.dropLast) hd ha q1 noTbl_lst lst_no_code ⟨_, upd_same, hdl.upZ (Up.refl g) (keepZ_own a2)⟩
          refine ⟨.ref a, ha, .inl ⟨rfl, vs, SqL.of q1⟩, a, vs, v, rfl, rfl, q1, by rw [q2.length]; exact hv, tG_same s4.env (rv.upZ (Up.refl g) (keepZ_own a2)) hb fun σ' e' w' => r g _ σ' (s4.bind (g' := g) hb e' w') c4⟩
    · exact r.elim
end

/-! ### {'k': v, ..} -/
def prs : List (List Nat) → List V → List (Key × V)
  | k :: ks, v :: vs => (.inr (S k), v) :: prs ks vs
  | _, _ => []
structure PD (X : Cx) (T : List (Addr × Str)) (Wx : Wish) (pos : Pos) (keys : List (Option Expr)) (values : List Expr) (cks : List (List Nat)) (ms : M (List D)) : Prop where
  ex : ∃ trs, PPs X pos keys values trs ∧ ∀ g ρ Ss σ H Q, REnv X.K X.mg g H ρ σ → Cel T X.K X.mg g H Ss → ResG T X.K X.mg Wx (kRs X.K X.mg) g H (ms ρ Ss) (fun vs H' => Q ((prs cks vs).map fun kv => (kV kv.1, kv.2)) H') → tPairs trs σ H Q
section
variable {X : Cx} {T : List (Addr × Str)} {Wx : Wish} {pos p : Pos} {keys : List (Option Expr)} {values : List Expr} {cks : List (List Nat)} {ms : M (List D)} {m : M D} {e : Expr} {c : Str} {j : Nat}
theorem pd_nil : PD X T Wx pos [] [] [] mNil := ⟨[], pps_nil, fun g ρ Ss σ H Q e c h => h g H [] (Nxt.refl c) rfl⟩
theorem pd_cons (h : DE X T Wx e m) (hr : PD X T Wx pos keys values cks ms) : PD X T Wx pos (some (.Constant (.str c) j p) :: keys) (e :: values) (c.cps.toList :: cks) (mCons m ms) := by
  obtain ⟨trs, h1, h2⟩ := hr.ex
  refine ⟨_, pps_cons pe_str h h1, fun g ρ Ss σ H Q e c h => ⟨g, ρ, Ss, e, c, h.then (kRs_mono g) fun d S1 g1 H1 v _ n k h3 => h2 g1 ρ S1 σ H1 _ (e.mono n) n.ce (h3.then (kRs_mono g1) fun ds S2 g2 H2 vs _ n2 k2 h4 => ?_)⟩⟩
  have := h4 g2 H2 _ (Nxt.refl n2.ce) ⟨v, vs, rfl, Rep.mono n2.gr n2.ex k, k2⟩
  simpa only [prs, List.map_cons, S_list, kV] using this
def mDict (cks : List (List Nat)) (ms : M (List D)) : M D := fun ρ Ss => (ms ρ Ss).bind fun ds S1 => if cks.Nodup ∧ cks.length = ds.length ∧ cks.length ≤ 15 then .ok (.dic (cks.map .str) ds) S1 else .bad
theorem merge_app : ∀ (more kvs : List (Key × V)), ((kvs ++ more).map (·.1)).Nodup → mergeK kvs more = kvs ++ more
  | [], kvs, _ => by show kvs = kvs ++ []; rw [List.append_nil]
  | p :: r, kvs, h => by
    show mergeK (putK kvs p.1 p.2) r = _
    have e : putK kvs p.1 p.2 = kvs ++ [p] := by
      unfold putK
      rw [if_neg]
      intro hx
      obtain ⟨kv, h1, h2⟩ := List.any_eq_true.mp hx
      rw [List.map_append, List.nodup_append] at h
      exact h.2.2 kv.1 (List.mem_map_of_mem h1) p.1 (by simp) (of_decide_eq_true h2)
    rw [e, merge_app r (kvs ++ [p]) (by rw [List.append_assoc]; exact h), List.append_assoc]; rfl
theorem prs_keys : ∀ (cks : List (List Nat)) (vs : List V), cks.length = vs.length → (prs cks vs).map (·.1) = cks.map fun k => .inr (S k)
  | [], [], _ => rfl
  | [], _ :: _, h => by simp at h
  | _ :: _, [], h => by simp at h
  | k :: ks, v :: vs, h => by simp only [prs, List.map_cons, prs_keys ks vs (by simpa using h)]
theorem prs_vals : ∀ (cks : List (List Nat)) (vs : List V), cks.length = vs.length → (prs cks vs).map (·.2) = vs
  | [], [], _ => rfl
  | [], _ :: _, h => by simp at h
  | _ :: _, [], h => by simp at h
  | k :: ks, v :: vs, h => by simp only [prs, List.map_cons, prs_vals ks vs (by simpa using h)]
theorem df_dict (h : PD X T Wx pos keys values cks ms) (hall : keys.all (·.isSome) = true) (hl : keys.length = values.length) (h0 : keys ≠ []) (h15 : keys.length ≤ 15) : DF X T Wx (.Dict keys values pos) (mDict cks ms) := by
  obtain ⟨trs, h1, h2⟩ := h.ex
  refine pe_imp (pe_disp h1 hall hl h0 h15) fun σ H Q ⟨g, ρ, Ss, e, c, r⟩ => fun q hq => ?_
  have n0 : Nxt T X.K X.mg g H Ss g (upd H q (.dK [])) := nxt_newF c hq
  have r1 : ResG T X.K X.mg Wx (kRs X.K X.mg) g (upd H q (.dK [])) (ms ρ Ss) fun vs H' => ∃ g' ds S', ms ρ Ss = .ok ds S' ∧ Nxt T X.K X.mg g (upd H q (.dK [])) S' g' H' ∧ Reps X.K X.mg g' H' ds vs := by
    unfold mDict at r
    cases hm : ms ρ Ss with
    | bad => rw [hm] at r; exact r
    | exc c p S' => rw [hm] at r; exact fun g' H' n => r g' H' (n0.trans n)
    | ok ds S' => exact fun g' H' vs n k => ⟨g', ds, S', rfl, n, k⟩
  refine h2 g ρ Ss σ _ _ (e.mono n0) n0.ce (r1.imp fun ds S' g' H' vs er n k post => ?_)
  obtain ⟨g2, ds2, S2, er2, n2, k2⟩ := post g' vs n k
  unfold mDict at r
  rw [er2] at r
  simp only [R.bind_ok] at r
  split at r
  · rename_i hh
    have hq2 : H' q = some (.dK []) := n2.ex.keep q _ upd_same noTbl_dK (c.off (fr_none hq))
    have hZ : ¬ g2.Z q := n2.gr.offZ upd_same noTbl_dK fun z => c.zt q z (fr_none hq)
    have hc : q ∉ g2.cs := n2.gr.off upd_same noTbl_dK (c.off (fr_none hq))
    have hl2 : cks.length = vs.length := by rw [Reps.length k2]; exact hh.2.1
    have nd : ((prs cks vs).map (·.1)).Nodup := by
      rw [prs_keys cks vs hl2]
      exact List.pairwise_map.mpr (hh.1.imp fun hne e => hne (S_inj (Sum.inr.inj e)))
    refine ⟨hq2, prs cks vs, rfl, ?_, ?_⟩
    · have := congrArg List.length (prs_keys cks vs hl2)
      rw [List.length_map, List.length_map] at this
      rw [this]; exact hh.2.2
    · have em : mergeK [] (prs cks vs) = prs cks vs := merge_app _ [] (by simpa using nd)
      rw [em]
      have nn := (n0.trans n2).own (o' := .dK (prs cks vs)) (fr_none hq) hZ hc hq2 noTbl_dK dK_no_code
      refine r g2 _ _ nn ⟨q, rfl, fr_none hq, hc, hZ, prs cks vs, upd_same, ?_, ?_⟩
      · have : (prs cks vs).map (fun p => kV p.1) = (cks.map S).map V.str := by
          have := congrArg (List.map kV) (prs_keys cks vs hl2)
          rw [List.map_map, List.map_map] at this
          rw [List.map_map]; exact this
        rw [this]
        exact reps_strs
      · rw [prs_vals cks vs hl2]
        exact Reps.upZ (Up.refl g2) (keepZ_own hZ) k2
  · exact r.elim
end
end Dm
end
section
namespace Dm
open PySem PySem.Spec L2 PyProof.Rows

/-! ### an exception object that is kept behind its suite -/
theorem exV_ok {P : Program} {w : World} {H : Hp} {h : Heap} {a : Addr} {cls : Value} {oe : Obj} {vs : Array Value} (e : h.get? a = some oe) (h1 : oe.cls = cls) (h2 : oe.dict = none) (d : oe.data = .fields vs) : ObjOk P w H h a (ExV cls a) :=
  ⟨⟨oe, vs, e, h1, h2, d⟩, ⟨oe, e⟩, fun _ _ ⟨o, v, q, r⟩ k => ⟨o, v, k o q, r⟩⟩
section
variable {X : Cx} {pins : List (Addr × Obj)} {σ : L2.St} {H : Hp} {s : Shared}
/-- an object that stands, told from now on -/
theorem track {a : Addr} {o : HO} (I : Inv X pins σ H s) (hn : H a = none) (h0 : X.s_0.heap.get? a = none) (nL : a ≠ X.env.locals) (nC : ∀ x c, X.env.cells.lookup x = some c → c ≠ a) (nP : ∀ p ∈ X.pn ++ pins, p.1 ≠ a)
    (new : ObjOk X.prog X.w (upd H a o) s.heap a o) : Inv X pins σ (upd H a o) s := by
  have ne : ∀ {b u}, H b = some u → b ≠ a := fun h => ne_of_none h hn
  refine ⟨I.ok, I.os, I.bare, ⟨I.base.keep, I.base.slot, fun b ob e n hx => ?_, I.base.there, fun b xs e => ?_, fun b ob u e => ?_, fun b ps e => ?_⟩, I.loc, I.cell, ?_, fun x c e => ?_, fun p hp => ?_, fun b u e => ?_, I.len⟩
  · rw [upd_ne (fun q => by rw [q, h0] at e; cases e)]; exact I.base.free b ob e n hx
  · have q := I.base.tups b xs e
    rw [upd_ne (ne q)]; exact q
  · have q := I.base.frzs b ob u e
    rw [upd_ne (ne q)]; exact q
  · obtain ⟨m, q⟩ := I.base.tbls b ps e
    exact ⟨m, by rw [upd_ne (ne q)]; exact q⟩
  · rw [upd_ne (Ne.symm nL)]; exact I.free
  · rw [upd_ne (nC x c e)]; exact I.freeC x c e
  · obtain ⟨e, n, r⟩ := I.pin p hp
    exact ⟨e, by rw [upd_ne (nP p hp)]; exact n, r⟩
  · by_cases hb : b = a
    · subst hb
      rw [upd_same] at e; cases e; exact new
    · rw [upd_ne hb] at e
      exact (I.hok b u e).stay (fun c v _ q => q) (fun c q => by rw [upd_ne (ne q)]; exact q) fun c xs q => by rw [upd_ne (ne q)]; exact q
end
/-- try: body / except x as n: suite, where every exception of the body is one of x's: its object is kept -/
def wKeep (K : PySem.W.Frag) (c : Value) (i l : Nat) (ts : TS) (E : Ends) : WX := fun cls d σ H => d = none ∧ PySem.W.exmOne K cls c = some true ∧
  ∀ a, H a = none → σ.length = l → ts { nx := fun σ' H' => E.nx (σ'.set i none) (upd H' a (ExV cls a)), rt := fun _ _ => False } (σ.set i (some (.ref a))) H
section
variable {X : Cx} {x n : Str} {c : Value} {i : Nat} {body suite : List Stmt} {b₀ : Stmt} {np pos pos' : Pos} {tb : WX → TS} {ts : TS}
theorem ps_try_keep (hs : X.stack = X.env :: X.outer) (hf : X.env.frame = some X.env.locals) (hex : X.ex = []) (hN : X.N.Nodup) (hi : X.N[i]? = some n) (hln : X.env.kindOf n = some .local) (hc : Names X x c)
    (hb : ∀ (W : WX) (pn : List (Addr × Obj)) (xe : Value → Shared → Prop), Takes (X.tr pn xe) W → PassesOwn (model X.prog X.w) X.A X.env xe → PSs (X.tr pn xe) body (tb W))
    (hsu : ∀ (a : Addr) (oe : Obj) (pn : List (Addr × Obj)), PSs (X.suite a ((a, oe) :: pn)) (b₀ :: suite) ts) :
    PS X (.Try body [.ExceptHandler (some (.Name x np)) (some n) (b₀ :: suite) pos'] [] [] pos) (fun E σ H => tb (wKeep X.K c i X.N.length ts E) E σ H) := by
  refine ⟨fun pins s σ H E I h => ?_⟩
  have ok := I.ok
  have hfr : X.A.frames = some (X.env :: X.outer) := by rw [ok.frames, hs]
  refine wpAny_Try_except ?_
  refine wpAny_mono ((hb (wKeep X.K c i X.N.length ts E) (X.pn ++ pins) (fun e s₁ => wpAny (model X.prog X.w) X.A (noteFrame e X.env) (fun _ s₂ => wpAny (model X.prog X.w) X.A (setFlight e none) (fun _ s₃ =>
    wpAny (model X.prog X.w) X.A (handleBy e X.env [.ExceptHandler (some (.Name x np)) (some n) (b₀ :: suite) pos']) (SP X pins E) X.xe s₃) X.xe s₂) X.xe s₁) (fun u s' xx => ?_) PassesOwn.looking).run [] s σ H E (I.toTry _) h) (fun f s1 hsp => ?_) (fun e s1 he => he)
  · obtain ⟨a, B, sI, pins', σ', H', cls, d, rfl, J', nb, up, sky, na, os, ag, rfl, hb1, hyes⟩ := xx
    have J : Inv X pins σ' H' sI := J'.ofTry ok
    have sky' : Sky B (X.env :: X.outer) a (Zc cls none) X.env.locals s'.heap := by rw [← hs]; exact sky
    show wpAny (model X.prog X.w) X.A (noteFrame (.ref a) X.env) _ _ _
    refine Sky.land Zc.steady hfr hf sky' fun h3 fl3 up3 => ?_
    have J3 : Inv X pins σ' H' { s' with heap := h3 } := J.landed nb fl3.1 (up.trans up3) os ag
    obtain ⟨oe3, vs3, he3, hz3, hd3⟩ := fl3.there
    have nB : B.get? a = none := fl3.2.1
    have nfr : a ∉ frs X.stack := fun hm => by
      rw [hs] at hm
      obtain ⟨_, o', e', hnf⟩ := fl3.2.2.1.mem hm
      rw [he3] at e'; cases e'
      exact hnf _ hd3
    have nL : a ≠ X.env.locals := fun z => nfr (by rw [hs]; exact List.mem_filterMap.mpr ⟨X.env, List.mem_cons_self, by rw [hf, z]⟩)
    have nF : a ∉ X.fs := fun hm => by
      obtain ⟨e, he, q⟩ := List.mem_filterMap.mp hm
      exact nfr (by rw [hs]; exact List.mem_filterMap.mpr ⟨e, List.mem_cons_of_mem _ he, q⟩)
    have nI : sI.heap.get? a = none := by
      cases q : sI.heap.get? a with
      | none => rfl
      | some o => rw [nb a o q nfr] at nB; cases nB
    have n0 : X.s_0.heap.get? a = none := by
      cases q : X.s_0.heap.get? a with
      | none => rfl
      | some o =>
        obtain ⟨o', q'⟩ := J.base.there a o q (by rw [hex]; exact fun z => nomatch z)
        rw [nI] at q'; cases q'
    have nP : ∀ p ∈ X.pn ++ pins, p.1 ≠ a := fun p hp e => by
      have := (J.pin p hp).1
      rw [e, nI] at this; cases this
    have nC : ∀ y c, X.env.cells.lookup y = some c → c ≠ a := fun y c e z => by
      obtain ⟨v, o, ho, _⟩ := J.cell y c e
      rw [z, nI] at ho; cases ho
    have S3 := J3.suite he3 hd3 na nL nF
    refine wpAny_handleBy_cons (codeAny_handlers_test ?_) (by intro q; cases q)
    have LT : PySem.W.Looks (model X.prog X.w) h3 (typeOf (.ref a)) cls := fun A Q E s k q => wpAny_typeOf_ref (k _ _ he3) (by rw [hz3.1]; exact q)
    have LM := PySem.W.exm_one (M := model X.prog X.w) (J3.kIn) LT hb1
    have test : ∀ {Q : Value → Shared → Prop} {E : Value → Shared → Prop}, Q c { s' with heap := h3 } → wpAny (model X.prog X.w) (X.A.mark (some (.ref a))) (eval (.Name x np) X.env) Q E { s' with heap := h3 } := fun {Q E} q => by
      obtain ⟨hg, hdbg, hm | ⟨hm, hv, hnn⟩⟩ := hc
      · exact ld_glob (X := X.suite a ((a, oe3) :: (X.pn ++ pins))) S3 hg hm q hdbg
      · exact ld_blt (X := X.suite a ((a, oe3) :: (X.pn ++ pins))) S3 hg hm hv q hnn hdbg
    refine test (LM.here ?_)
    refine codeAny_handlers_suite_as ?_
    refine HandSPX.lands_againZ fl3 fun h4 fl4 up4 => ?_
    have J4 : Inv X pins σ' H' { s' with heap := h4 } := J.landed nb fl4.1 ((up.trans up3).trans up4) os ag
    obtain ⟨oe4, vs4, he4, hz4, hd4⟩ := fl4.there
    have S4 := J4.suite he4 hd4 na nL nF
    refine store_ok (X := X.suite a ((a, oe4) :: (X.pn ++ pins))) (v := .ref a) S4 hN hi (.inl hln) rfl (fun s5 S5 => ?_) (.inr hln)
    refine wpAny_mono ((hsu a oe4 (X.pn ++ pins)).run [] s5 _ H' _ S5 (hyes a na J.len)) (fun f s6 hsp => ?_) (fun _ _ z => False.elim z)
    cases f with
    | next =>
      obtain ⟨σ6, H6, S6, q6⟩ := hsp
      refine gone_ok (X := X.suite a ((a, oe4) :: (X.pn ++ pins))) S6 hN hi hln fun s7 S7 => ?_
      obtain ⟨e7, n7, _⟩ := S7.pin (a, oe4) (List.mem_append_left _ List.mem_cons_self)
      exact ⟨_, _, track (S7.unsuite ok) n7 n0 nL nC nP (exV_ok e7 hz4.1 hz4.2 hd4), q6⟩
    | brk => obtain ⟨_, _, _, q6⟩ := hsp; exact q6.elim
    | cont => obtain ⟨_, _, _, q6⟩ := hsp; exact q6.elim
    | ret u => obtain ⟨_, _, _, _, _, q6⟩ := hsp; exact q6.elim
  · cases f with
    | next =>
      obtain ⟨σ', H', J', q⟩ := hsp
      exact wpAny_execs_nil ⟨σ', H', J'.ofTry ok, q⟩
    | brk =>
      obtain ⟨σ', H', J', q⟩ := hsp
      exact ⟨σ', H', J'.ofTry ok, q⟩
    | cont =>
      obtain ⟨σ', H', J', q⟩ := hsp
      exact ⟨σ', H', J'.ofTry ok, q⟩
    | ret u =>
      obtain ⟨v, σ', H', J', r, q⟩ := hsp
      exact ⟨v, σ', H', J'.ofTry ok, r, q⟩
end

/-! ### _law_caught(lambda: ..) -/
/-- what it makes of the lambda's reading -/
def CaughtX (K : PySem.W.Frag) (CS : Value) (Q : VK) : XK := fun cls d H' => d = none ∧ PySem.W.exmOne K cls CS = some true ∧ ∀ a, H' a = none → Q (.ref a) (upd H' a (ExV cls a))
def TTC (K : PySem.W.Frag) (CS : Value) : (XK → Hp → VK → Prop) → Hp → VK → Prop := fun tl H Q => ∀ Qn : VK, (∀ v H', Q .non H' → Qn v H') → tl (CaughtX K CS Q) H Qn
theorem caught_gives {X : Cx} {x a v n e q : Str} {sg : Scope} {g CS : Addr} {cdg : Value} {j : Nat} {q1 q2 q3 p1 p2 p3 p4 p5 p6 p7 p8 p9 p10 p11 : Pos} (nd : [a, v, n].Nodup) (ha : sg.names.lookup a = some .local) (hv : sg.names.lookup v = some .local) (hn : sg.names.lookup n = some .local)
    (hge : sg.names.lookup e = some .globalImplicit) (hme : X.mg e = some (.ref CS)) (hde : (e == ("__debug__" : Str)) = false) (hdv : (v == ("__debug__" : Str)) = false) (hcv : (v == ("__classdict__" : Str)) = false) (hdn : (n == ("__debug__" : Str)) = false) (hcn : (n == ("__classdict__" : Str)) = false) :
    LamX.GivesTo X [a, v, n] x sg g cdg [.Assign [.Name v q1] (.Constant .none j q2) q3, .Try [.Expr (.Call (.Name a p1) [] [] p2) p3] [.ExceptHandler (some (.Name e p4)) (some n) [.Assign [.Name v p5] (.Name n p6) p7] p8] [] [] p9, .Return (some (.Name v p10)) p11] a q (TTC X.K (.ref CS)) := by
  intro f c' s H Q tl act hc h
  have hgl : Gl (cxOf C8.CX0 X.prog X.w X.K X.mg X.base [a, v, n] x sg g cdg X.A X.stack s H C8.E0).nox e := hge
  refine ⟨_, pss_cons (ps_set (X := (cxOf C8.CX0 X.prog X.w X.K X.mg X.base [a, v, n] x sg g cdg X.A X.stack s H C8.E0).nox) (i := 1) nd rfl (.inl hv) pe_non rfl (.inl rfl)) (pss_cons (ps_try_keep (X := (cxOf C8.CX0 X.prog X.w X.K X.mg X.base [a, v, n] x sg g cdg X.A X.stack s H C8.E0).nox) (i := 2) (c := .ref CS)
      (tb := fun W E σ H => ∃ Ech : XK, (∀ cls d σ' H', Ech cls d H' → W cls d σ' H') ∧ σ[0]? = some (some (.ref f)) ∧ H c' = some (LamX.CodeO c' q) ∧ tl Ech H fun _ H1 => E.nx σ H1) (ts := tAsg (tVar 2) (gName 1))
      rfl rfl rfl nd rfl hn ⟨hgl, hde, .inl hme⟩ (fun W pn xe tk _ => ?_) (fun b oe pn => pss_one (ps_set nd rfl (.inl hv) (pe_var (i := 2) rfl (.inl hn) hdn hcn) rfl (.inl rfl)))) (pss_one (ps_ret (pe_var (i := 1) rfl (.inl hv) hdv hcv)))), ?_⟩
  · refine ⟨fun pins s' σ H' E I h' => ?_⟩
    obtain ⟨Ech, hW, h1, h2, h3⟩ := h'
    exact (pss_one (ps_expr (pos := p3) (act W pn xe Ech p1 p2 tk hW) rfl)).run pins s' σ H' E I ⟨h1, h2, h3⟩
  · refine ⟨CaughtX X.K (.ref CS) Q, fun cls d σ' H' hh => ?_, rfl, hc, h _ fun v H' hq => ⟨.non, rfl, hq⟩⟩
    obtain ⟨rfl, hx, hq⟩ := hh
    refine ⟨rfl, hx, fun b hb hl => ?_⟩
    match σ', hl with
    | [y0, y1, y2], _ => exact ⟨.ref b, rfl, .ref b, rfl, hq b hb⟩

/-- classes all of whose exceptions the clause takes -/
structure CatchD (K : PySem.W.Frag) (mg : Str → Option Value) (CS : Addr) (cs : List Str) : Prop where
  all : ∀ c ∈ cs, ∃ C, mg c = some (.ref C) ∧ PySem.W.exmOne K (.ref C) (.ref CS) = some true
def mCaught (cs : List Str) (m : M D) : M D := fun ρ Ss => match m ρ Ss with
  | .ok _ S1 => .ok .non S1
  | .exc c p S1 => if c ∈ cs then .ok (.exo c p) S1 else .bad
  | .bad => .bad
/-- the def that takes the lambda -/
structure CaughtD (K : PySem.W.Frag) (mg : Str → Option Value) (x a : Str) (CS : Addr) : Prop where
  ex : ∃ (g : Addr) (pg : Arguments) (bg : List Stmt) (sg : Scope) (dV kV doc pm cdv ct oc : Value) (an od : Option Addr) (osl : Array (Option Value)) (Ng : List Str), mg x = some (.ref g) ∧ PySem.W.keepIn K (.ref g) = true ∧
    K.lookup g = some ⟨oc, od, .func (PySem.W.fnOf x x pg bg sg dV kV doc pm an cdv ct), osl⟩ ∧ PySem.W.codeIn K cdv x = true ∧ L2.Binds K (PySem.W.fnOf x x pg bg sg dV kV doc pm an cdv ct) [a] [] ∧ FnScope Ng [a] sg ∧ Ng[0]? = some a ∧ Vis sg a ∧
    ∀ (X : Cx) (q : Str), X.K = K → X.mg = mg → LamX.GivesTo X Ng x sg g cdv bg a q (TTC K (.ref CS))
/-- what the making of lambdas asks of the def around -/
structure LamD (X : Cx) (T : List (Addr × Str)) : Prop where
  ex : ∃ c P, LamX.TabB X.base X.mg c P ∧ X.env.code = .ref c ∧ (P, X.env.qual ++ "<lambda>") ∈ T ∧ ∀ p ∈ T, p.1 = P → p.2 = X.env.qual ++ "<lambda>"
section
variable {X : Cx} {T : List (Addr × Str)} {Wx : Wish} {k : Nat} {x a : Str} {CS : Addr} {cs : List Str} {params : Arguments} {body : Expr} {scope : Scope} {lpos p pos : Pos} {m : M D} {kk : Kind}
theorem ctx_lam {A : Around} {outer : List Env} {s : Shared} {H : Hp} {E : XK} {f c' : Addr} (hr : Room k (A.deeper (LamX.lamEnv X scope s.heap.objs.size f c'))) : Ctx (LamX.lamCx X A outer s H E scope f c') (wE X.mg E) k := by
  have tk : Takes (LamX.lamCx X A outer s H E scope f c') (fun cls d _ H' => E cls d H') := takes_of rfl rfl rfl rfl
  exact ⟨rfl, hr, passes_call (W := fun cls d _ H' => E cls d H') tk fun cls d _ H' h => by
    obtain ⟨rfl, c, p, hm, h⟩ := h
    exact h cls hm⟩
theorem nxt_extN {g : Reg} {H H1 : Hp} {Ss : List D} (c : Cel T X.K X.mg g H Ss) (e : LamX.ExtN H H1) (t : LamX.Tabs T H1) : Nxt T X.K X.mg g H Ss g H1 := by
  have ex : Ext g H H1 := ⟨fun a o h n _ => e a o h n, fun a h o ho n => h o (e a o ho n) n⟩
  refine ⟨Grow.refl g H, ex, ⟨c.len, c.nd, fun i a d h1 h2 => ?_, t, fun a z f => c.zt a z (ex.dom a f)⟩⟩
  have k := c.at_ i a d h1 h2
  have up : Up g g := ⟨fun _ z => z, [], by simp⟩
  cases d with
  | lst xs => obtain ⟨vs, q1, q2⟩ := k; exact ⟨vs, e _ _ q1 noTbl_lst, q2.up up ex⟩
  | dic ks vs => obtain ⟨ps, q1, q2, q3⟩ := k; exact ⟨ps, e _ _ q1 noTbl_dK, q2.up up ex, q3.up up ex⟩
  | _ => exact k.elim
theorem de_caught (C : Ctx X Wx (k + 2)) (G : CaughtD X.K X.mg x a CS) (hcs : CatchD X.K X.mg CS cs) (L : LamX.LamS X.env.scope scope) (LD : LamD X T) (hg : Gl X x) (hdef : defaultsOf params X.env = ([], []))
    (hbind : ∀ (q : Str) (cl : List (Str × Addr)) (pm cv ctv : Value), bindArgs (PySem.W.kla_fn "<lambda>" q params body scope cl pm cv ctv) ⟨[], []⟩ = pure [])
    (hbody : ∀ (A : Around) (outer : List Env) (s : Shared) (H : Hp) (E : XK) (f c' : Addr), Ctx (LamX.lamCx X A outer s H E scope f c') (wE X.mg E) k → PE (LamX.lamCx X A outer s H E scope f c') body (tK T X.K X.mg (wE X.mg E) kk m))
    (hdb : (x == ("__debug__" : Str)) = false) (hd : (a == ("__debug__" : Str)) = false) (hcd : (a == ("__classdict__" : Str)) = false) :
    DE X T Wx (.Call (.Name x p) [.Lambda params body scope lpos] [] pos) (mCaught cs m) := by
  obtain ⟨g, pg, bg, sg, dV, kV, doc, pm, cdv, ct, oc, an, od, osl, Ng, hm, hk, lk, hcg, hb, Sg, hN0, hva, hG⟩ := G.ex
  obtain ⟨c, P, TB, hcode, hmT, hu⟩ := LD.ex
  refine pe_imp (LamX.pe_lamcall (T := T) (t := fun E => tK T X.K X.mg (wE X.mg E) kk m) hg hm hk lk hcg hb Sg hN0 hva (hG X _ rfl rfl) TB hcode hmT hu C.room L hdef hbind (fun A outer s H E f c' hr => hbody A outer s H E f c' (ctx_lam hr)) hdb hd hcd) fun σ H Q ⟨g, ρ, Ss, e, ce, r⟩ => ⟨ce.tabs, fun H1 eN t1 Qn hQn => ?_⟩
  have n1 := nxt_extN ce eN t1
  refine ⟨g, ρ, Ss, e.mono n1, n1.ce, ?_⟩
  unfold mCaught at r
  cases hmm : m ρ Ss with
  | bad => rw [hmm] at r; exact r
  | ok d S1 =>
    rw [hmm] at r
    exact fun g' H' v n _ => hQn v H' (r g' H' .non (n1.trans n) rfl)
  | exc c p S1 =>
    rw [hmm] at r
    dsimp only at r
    by_cases hc : c ∈ cs
    · rw [if_pos hc] at r
      refine fun g' H' n cls hcls => ?_
      obtain ⟨Ca, h1, h2⟩ := hcs.all c hc
      rw [h1] at hcls; cases hcls
      refine ⟨rfl, h2, fun b hb => ?_⟩
      exact r _ _ _ ((n1.trans n).trans (nxt_new n.ce hb noTbl_ext)) ⟨b, Ca, rfl, h1, .inr rfl, upd_same⟩
    · rw [if_neg hc] at r; exact r.elim
end
end Dm
end
section
namespace Dm
open PySem PySem.Spec L2 PyProof.Rows

/-! ### list(text) -/
section
variable {prog : Program} {w : World} {A : Around} {E : Value → Shared → Prop} {s : Shared} {x : Str} {t : Tok}
theorem ls_hint {Q : Bool → Shared → Prop} (h : Q false s) : wpAny (model prog w) A (Builtin.List.listLengthHint (.str x t)) Q E s := by
  have hT : s.TypeIs (.str x t) "str" := rfl
  unfold Builtin.List.listLengthHint
  refine wpAny_bind (wpAny_specialOf hT PySem.F.slot_str_len.lookup ?_)
  generalize hid : ("str.__len__" : String) = id0
  wp_delta
  rw [show splitId id0 = some ("str", "__len__") from by subst hid; decide +kernel]
  subst hid
  refine wpAny_bind (wpAny_isInstance (T := "str") (b := true) hT (by rw [isSubtype_type]; kernel_rfl) ?_)
  refine wpAny_ite_split (fun hab => absurd hab (by decide)) (fun _ => ?_)
  refine wpAny_ite_split (fun _ => ?_) (fun hab => absurd (by decide +kernel) hab)
  refine wpAny_bind (wpAny_typeOf hT ?_)
  exact wpAny_pure h
theorem ls_walks (hh : A.handled = none) (it : Addr) : Walks prog w A it [it] [it] x.cps.size (SignAt x) (fun i h => h.IsStrIter it (strIterType x) x t i) := by
  cases ha : x.cps.all (· < 128)
  · simp only [strIterType, ha, Bool.false_eq_true, if_false]; exact Walks.strWide hh it x t
  · simp only [strIterType, ha, if_true]; exact Walks.strAscii hh it x t
theorem ls_call {Q : Value → Shared → Prop} (hh : A.handled = none) (hn : x.cps.size ≤ sizeLine)
    (hQ : ∀ h' tk acc' c', (∀ b o, s.heap.get? b = some o → h'.get? b = some o) → h'.get? s.heap.objs.size = some { cls := .type "list", dict := none, data := .seq acc' c', slots := #[] } → ItemsOf (SignAt x) acc' x.cps.size → Q (.ref s.heap.objs.size) { s with heap := h', toks := tk }) :
    wpAny (model prog w) A (call (.type "list") [.str x t]) Q E s := by
  refine callType_codes (Q₁ := fun obj s₁ => obj = .ref s.heap.objs.size ∧ s₁ = { s with heap := s.heap.push { cls := .type "list", data := .seq #[] } }) PySem.F.called_list (PySem.F.typeCall_list_1 _) PySem.F.entry_list_init
    (code_list_new _ ⟨rfl, rfl⟩) fun obj s₁ h₁ => ?_
  obtain ⟨rfl, rfl⟩ := h₁
  have hS : (s.heap.push { cls := .type "list", data := .seq #[] }).get? s.heap.objs.size = some { cls := .type "list", data := .seq #[] } := Heap.get?_push_size _ rfl
  refine ⟨⟨_, hS, rfl⟩, PySem.F.args_list_init_2 _ _, ?_⟩
  generalize hg : s.heap.objs.size = S at hS hQ
  have kp0 : ∀ b o, b ≠ S → s.heap.get? b = some o → (s.heap.push { cls := .type "list", data := .seq #[] }).get? b = some o := fun b o _ e => Heap.get?_push_of_some _ e
  have hlt : ∀ b o, s.heap.get? b = some o → b ≠ S := fun b o e => hg ▸ Nat.ne_of_lt (Heap.lt_size e)
  generalize s.heap.push { cls := .type "list", data := .seq #[] } = h0 at hS kp0
  show wpAny _ _ (do let old ← Builtin.List.listItems (.ref S); Builtin.List.listUpdate (.ref S) (fun _ => #[]); letGo old.toList.reverse; Builtin.List.listExtendWith (.ref S) (.str x t) .none) _ _ { s with heap := h0 }
  refine wpAny_bind ?_
  unfold Builtin.List.listItems
  refine wpAny_bind (wpAny_seqItems (s := { s with heap := h0 }) hS rfl (wpAny_pure ?_))
  show wpAny _ _ (updateSeq S (fun _ => #[]) >>= fun _ => letGo (#[] : Array Value).toList.reverse >>= fun _ => Builtin.List.listExtendWith (.ref S) (.str x t) .none) _ _ { s with heap := h0 }
  refine wpAny_bind (wpAny_updateSeq (s := { s with heap := h0 }) hS rfl ?_)
  have hS₂ := Heap.get?_update_self (Obj.mapSeq (fun _ => (#[] : Array Value))) hS rfl
  have oth : ∀ b o, b ≠ S → h0.get? b = some o → (h0.update S (Obj.mapSeq (fun _ => (#[] : Array Value)))).get? b = some o :=
    fun b o hb e => (Heap.get?_update_other _ _ (Ne.symm hb)).trans e
  refine wpAny_bind (wpAny_letGo ?_)
  show wpAny _ _ _ _ _ { s with heap := h0.update S (Obj.mapSeq (fun _ => (#[] : Array Value))) }
  have kp2 : ∀ b o, b ≠ S → s.heap.get? b = some o → (h0.update S (Obj.mapSeq (fun _ => (#[] : Array Value)))).get? b = some o := fun b o hb e => oth b o hb (kp0 b o hb e)
  generalize h0.update S (Obj.mapSeq (fun _ => (#[] : Array Value))) = h2 at hS₂ kp2
  -- extend
  have hSI : S ≠ h2.objs.size := Nat.ne_of_lt (Heap.lt_size hS₂)
  have W := ls_walks (prog := prog) (w := w) (A := A.in1.in1) (x := x) (t := t) hh h2.objs.size
  have key : ∀ (h : Heap) (c₁ tk : Nat), h.IsStrIter h2.objs.size (strIterType x) x t 0 → (∀ b o, b ≠ S → s.heap.get? b = some o → h.get? b = some o) →
      h.get? S = some { cls := .type "list", data := .seq #[] c₁ } → codeAny (model prog w) A.in1 (.builtin "list.extend.loop" ⟨[.ref S, .ref h2.objs.size, .none], []⟩)
        (fun r s' => match r with | .ok (.ret v) => v = .none ∧ Q (.ref S) s' | .ok _ => False | .error e => E e s') { s with heap := h, toks := tk } := by
    intro h c₁ tk hst hk hS₁
    refine codeAny_extend_loopS W.toS hn S (by simpa using hSI) .none x.cps.size 0 _ #[] c₁ rfl (Nat.zero_le _) hst hS₁ (ItemsOf.nil _) fun s' acc' c' hm hS' hacc => ?_
    rw [Moved.eq_with hm]
    refine ⟨rfl, hQ s'.heap s'.toks acc' c' (fun b o e => hm.heap b o (fun hmem => ?_) (hk b o (hlt b o e) e)) hS' hacc⟩
    rcases List.mem_cons.mp hmem with e' | hmem
    · exact hlt b o e e'
    · have h1 := Heap.lt_size e
      have h2' := Heap.lt_size hS₂
      rw [hg] at h1
      rw [List.mem_singleton.mp hmem] at h1
      exact absurd (Nat.lt_trans h1 h2') (Nat.lt_irrefl _)
  have hT : ({ s with heap := h2 } : Shared).TypeIs (.str x t) "str" := rfl
  unfold Builtin.List.listExtendWith
  refine wpAny_bind (wpAny_typeOf (T := "str") hT ?_)
  have e1 : Builtin.List.listSameRef (.ref S) (.str x t) = false := rfl
  have e2 : (Value.type "str" == Value.type "list") = false := by decide
  have e3 : (Value.type "str" == Value.type "tuple") = false := by decide
  simp only [e1, e2, e3, Bool.or_false, Bool.false_eq_true, if_false]
  refine wpAny_bind (wpAny_pyIter_strU ?_)
  generalize hoI : ({ cls := .type (strIterType x), data := .fields #[.str x t, .int 0 0] } : Obj) = oI
  have st : (h2.push oI).IsStrIter h2.objs.size (strIterType x) x t 0 := by
    subst hoI
    exact ⟨_, Heap.get?_push_size _ rfl, rfl, rfl⟩
  have hS₁ := Heap.get?_push_of_some oI hS₂
  refine wpAny_bind (wpAny_holding (ls_hint ?_))
  refine wpAny_ite_split (fun _ => ?_) (fun _ => wpAny_pure ⟨plainId_quiet PySem.F.plain_extend_loop _, key _ _ _ st (fun b o hb e => Heap.get?_push_of_some _ (kp2 b o hb e)) hS₁⟩)
  refine wpAny_bind (wpAny_rule ?_)
  refine wpAny_bind ?_
  show wpAny _ _ (updateSeq S (·.push .none) >>= fun _ => updateSeq S (·.pop)) _ _ _
  refine wpAny_bind (wpAny_updateSeq hS₁ rfl ?_)
  have hS₂' := Heap.get?_update_self (Obj.mapSeq (·.push Value.none)) hS₁ rfl
  refine wpAny_updateSeq (hz := by seq_fits) hS₂' rfl ?_
  have hS₃ := Heap.get?_update_self (Obj.mapSeq (·.pop)) hS₂' rfl
  refine wpAny_pure ⟨plainId_quiet PySem.F.plain_extend_loop _, key _ _ _ ?_ (fun b o hb e => ?_) hS₃⟩
  · refine W.frame 0 _ _ st fun b hb o e => ?_
    have hbS : b ≠ S := fun h => hSI (by rw [← h]; simpa using hb)
    exact (Heap.get?_update_other _ _ (Ne.symm hbS)).trans ((Heap.get?_update_other _ _ (Ne.symm hbS)).trans e)
  · exact (Heap.get?_update_other _ _ (Ne.symm hb)).trans ((Heap.get?_update_other _ _ (Ne.symm hb)).trans (Heap.get?_push_of_some _ (kp2 b o hb e)))
end
theorem call_list_str {X : Cx} (hc : X.calm = true) : CallR X (.type "list") (fun xs H Q => ∃ x : Str, xs = [.str x] ∧ x.cps.size ≤ sizeLine ∧ ∀ l, H l = none → Q (.ref l) (upd H l (.lst (x.cps.toList.map fun c => V.str ⟨#[c]⟩)))) := by
  intro pins s σ H xs us Q I r h
  obtain ⟨x, rfl, hz, q⟩ := h
  obtain ⟨u, rfl, rx⟩ := vals1 r
  obtain ⟨t, rfl⟩ := rx
  refine ls_call (I.ok.hd hc) hz fun h' tk acc' c' hk hS hacc => ?_
  have rv : Vals (x.cps.toList.map fun c => V.str ⟨#[c]⟩) acc'.toList := by
    refine vals_of_at (by simp [hacc.1]) fun j y u e1 e2 => ?_
    obtain ⟨c, tt, h1, rfl⟩ := hacc.2 j u (by rw [← Array.getElem?_toList]; exact e2)
    rw [List.getElem?_map, Array.getElem?_toList, h1] at e1
    cases e1
    exact ⟨tt, rfl⟩
  exact ⟨.ref s.heap.objs.size, _, I.laid (t' := tk) hk (Nat.le_refl _) (show ObjOk X.prog X.w _ h' _ (.lst _) from ⟨by simpa using hz, acc'.toList, c', rv, by rw [Array.toArray_toList]; exact hS⟩), rfl, q _ (I.hok.fresh (Nat.le_refl _))⟩
def lstF2 : List D → Option D
  | [.tup xs] => some (.lst xs)
  | [.lst xs] => some (.lst xs)
  | [.str s] => if s.length ≤ big then some (.lst (s.map fun c => .str [c])) else none
  | [.scr ns] => some (.lst (ns.map .int))
  | _ => none
theorem cd_lst2 {X : Cx} {T : List (Addr × Str)} (hc : X.calm = true) : CallD X T (kF X.K X.mg) (.type "list") lstF2 := by
  intro g H Ss ds d xs Q c r hF q
  unfold lstF2 at hF
  split at hF
  · cases hF
    obtain ⟨x, rfl, r1⟩ := r.one
    obtain ⟨p, vs, rfl, z, h1, h2⟩ := r1
    exact ⟨_, call_list_of, p, vs, rfl, .inr (SqT.of h1), new_lstF c q h2⟩
  · cases hF
    obtain ⟨x, rfl, p, rfl, z, vs, h1, h2⟩ := r.one
    exact ⟨_, call_list_of, p, vs, rfl, .inl (SqL.of h1), new_lstF c q h2⟩
  · split at hF
    · rename_i s hl
      cases hF
      obtain ⟨x, rfl, r1⟩ := r.one
      rw [show x = V.str (S s) from r1]
      refine ⟨_, call_list_str hc, S s, rfl, by show s.toArray.size ≤ sizeLine; rw [List.size_toArray, big_eq]; exact hl, new_lstF c q ?_⟩
      show Reps X.K X.mg g H (s.map fun c => .str [c]) ((s.toArray).toList.map fun c => V.str ⟨#[c]⟩)
      rw [List.toList_toArray]
      have h := reps_strs (K := X.K) (mg := X.mg) (g := g) (H := H) (ns := s.map fun c => [c])
      rw [List.map_map, List.map_map, List.map_map] at h
      exact h
    · cases hF
  · cases hF
    obtain ⟨x, rfl, p, rfl, hp⟩ := r.one
    rename_i ns
    refine ⟨_, call_list_of, p, ns.map V.int, rfl, .inl ?_, new_lstF c q reps_ints⟩
    rcases hp with ⟨_, hp⟩ | hp
    · exact .inl hp
    · exact .inr hp
  · cases hF

/-! ### a, b = x, y -/
def kOw (K : PySem.W.Frag) (mg : Str → Option Value) (o : Bool) : Kind := cond o (kF K mg) (kR K mg)
def slo (o : Bool) (d : D) : Slot := cond o (.own d) (.val d)
def mPar (i j : Nat) (o1 o2 : Bool) (m1 m2 : M D) : MS := fun ρ Ss => (m1 ρ Ss).bind fun d1 S1 => (m2 ρ S1).bind fun d2 S2 => .ok (.nx ((ρ.set i (some (slo o1 d1))).set j (some (slo o2 d2)))) S2
section
variable {X : Cx} {T : List (Addr × Str)} {Wx : Wish} {kd : Kind} {g0 g g1 : Reg} {H0 H H1 : Hp} {k i j : Nat} {x y : Str} {a b : Expr} {m1 m2 : M D} {pos px py pt pt2 : Pos} {kt k2 : Nat} {o1 o2 : Bool} {K : PySem.W.Frag} {mg : Str → Option Value} {ρ : DEnv} {σ : L2.St} {Ss S1 : List D} {d : D} {v : V}
theorem SRel.put {o : Bool} (r : SRel T K mg g0 H0 g H ρ σ Ss) (n : Nxt T K mg g H S1 g1 H1) (h : kOw K mg o d H g1 H1 v) : SRel T K mg g0 H0 g1 H1 (ρ.set i (some (slo o d))) (σ.set i (some v)) S1 := by
  cases o with
  | false => exact (r.mono n).set h
  | true =>
    obtain ⟨a, rfl, h1, h2, h3, h4⟩ := h
    exact r.setO n h1 h2 h3 h4
theorem ds_par {k0 : Nat} (C : SCtx X Wx k0) (hi : X.N[i]? = some x) (hj : X.N[j]? = some y) (hij : i ≠ j) (hx : X.env.scope.names.lookup x = some .local) (hy : X.env.scope.names.lookup y = some .local)
    (h1 : PE X a (tK T X.K X.mg Wx (kOw X.K X.mg o1) m1)) (h2 : PE X b (tK T X.K X.mg Wx (kOw X.K X.mg o2) m2)) (pa : isStar a = false) (pb : isStar b = false)
    (hw : swappedStores [.Tuple [.Name x px, .Name y py] kt pt] (.Tuple [a, b] k2 pt2) X.env = pure (some [x, y])) (hs : swapsWithSole [.Tuple [.Name x px, .Name y py] kt pt] (.Tuple [a, b] k2 pt2) pos.line X.env = pure false) :
    DS X T Wx kd g0 H0 (.Assign [.Tuple [.Name x px, .Name y py] kt pt] (.Tuple [a, b] k2 pt2) pos) (mPar i j o1 o2 m1 m2) :=
  ps_imp (ps_par C.calm C.nd hi hj hij hx hy (pa_cons h1 (pa_cons h2 pa_nil (star_plain pb)) (star_plain pa)) hw hs) fun E σ H ⟨g, ρ, Ss, sr, r⟩ => ⟨g, ρ, Ss, sr.env, sr.nx.ce, exprS sr r fun d1 S1 g1 H1 v n1 s1 kv r1 =>
    ⟨g1, ρ, S1, s1.env, s1.nx.ce, exprS s1 r1 fun d2 S2 g2 H2 v2 n2 s2 kv2 r2 => ⟨v, v2, rfl, r2 g2 H2 _ ((sr.put n1 kv).put n2 kv2) (Chg.refl _ _)⟩⟩⟩
end
end Dm
end
section
namespace Dm
open PySem PySem.Spec L2 PyProof.Rows

/-! ### the rules as they are written -/
theorem bt_len : bootBuiltins "len" = some (.builtin "len") := by decide +kernel
theorem bt_sum : bootBuiltins "sum" = some (.builtin "sum") := by decide +kernel
theorem bt_max : bootBuiltins "max" = some (.builtin "max") := by decide +kernel
theorem bt_min : bootBuiltins "min" = some (.builtin "min") := by decide +kernel
theorem bt_all : bootBuiltins "all" = some (.builtin "all") := by decide +kernel
theorem bt_any : bootBuiltins "any" = some (.builtin "any") := by decide +kernel
theorem bt_abs : bootBuiltins "abs" = some (.builtin "abs") := by decide +kernel
theorem bt_isi : bootBuiltins "isinstance" = some (.builtin "isinstance") := by decide +kernel
theorem bt_int : bootBuiltins "int" = some (.type "int") := by decide +kernel
theorem bt_tup : bootBuiltins "tuple" = some (.type "tuple") := by decide +kernel
theorem bt_lst : bootBuiltins "list" = some (.type "list") := by decide +kernel
theorem bt_str : bootBuiltins "str" = some (.type "str") := by decide +kernel
theorem bt_bool : bootBuiltins "bool" = some (.type "bool") := by decide +kernel
theorem bt_dict : bootBuiltins "dict" = some (.type "dict") := by decide +kernel
theorem ctx_blk {X : Cx} {Wx : Wish} {k : Nat} (C : Ctx X Wx k) (s : Shared) (H : Hp) (scope : Scope) (env : Env) (fp : List Addr) : Ctx (X.blk s H scope env fp) W0 k :=
  ⟨C.calm, C.room, fun pins σ H s e s' I c => by
    obtain ⟨_, _, _, _, _, _, _, _, _, _, _, _, _, c, p, _, z⟩ := c
    exact z.elim⟩
theorem Ctx.mono {X : Cx} {Wx : Wish} {j k : Nat} (C : Ctx X Wx k) (h : j ≤ k) : Ctx X Wx j := ⟨C.calm, C.room.mono h, C.pass⟩
section
variable {X : Cx} {T : List (Addr × Str)} {Wx : Wish} {k j : Nat} {x : Str} {a b c e : Expr} {es : List Expr} {m ma mb mc : M D} {ms : M (List D)} {na nb nc : M Bool} {p pos pos' p2 p3 : Pos} {kk : Kind}
theorem x_var (i : Nat) (hN : X.N[i]? = some x := by rfl) (hv : Vis X.env.scope x := by first | exact .inl rfl | exact .inr (.inl rfl) | exact .inr (.inr rfl)) (hd : (x == ("__debug__" : Str)) = false := by decide) (hcd : (x == ("__classdict__" : Str)) = false := by decide) :
    DE X T Wx (.Name x pos) (mVar i) := de_var hN hv hd hcd
theorem x_peek (i : Nat) (hN : X.N[i]? = some x := by rfl) (hv : Vis X.env.scope x := by first | exact .inl rfl | exact .inr (.inl rfl) | exact .inr (.inr rfl)) (hd : (x == ("__debug__" : Str)) = false := by decide) (hcd : (x == ("__classdict__" : Str)) = false := by decide) :
    DP X T Wx (.Name x pos) (mPeek i) := dp_peek hN hv hd hcd
theorem x_glob {d : D} (h : GlobD X.K X.mg x d) (hg : Gl X x := by rfl) (hdb : (x == ("__debug__" : Str)) = false := by decide) : DE X T Wx (.Name x pos) (mLit d) := de_glob h hg hdb
theorem x_ty {n : String} (hm : X.mg x = none) (hv : bootBuiltins x = some (.type n)) (hg : Gl X x := by rfl) (hn : x ≠ "__name__" := by decide) (hdb : (x == ("__debug__" : Str)) = false := by decide) : DE X T Wx (.Name x pos) (mLit (.ty n)) := de_ty hg hm hv hn hdb
/-! operators -/
theorem x_add (ha : DP X T Wx a ma) (hb : DP X T Wx b mb) : DE X T Wx (.BinOp a .Add b pos) (mOp2 addD ma mb) := pe_op2 kR_mono od_add ha hb
theorem x_cat (ha : DP X T Wx a ma) (hb : DP X T Wx b mb) : DF X T Wx (.BinOp a .Add b pos) (mOp2 catD ma mb) := pe_op2 kF_mono od_cat ha hb
theorem x_sub (ha : DP X T Wx a ma) (hb : DP X T Wx b mb) : DE X T Wx (.BinOp a .Sub b pos) (mOp2 subD ma mb) := pe_op2 kR_mono od_sub ha hb
theorem x_mul (ha : DP X T Wx a ma) (hb : DP X T Wx b mb) : DE X T Wx (.BinOp a .Mult b pos) (mOp2 mulD ma mb) := pe_op2 kR_mono od_mul ha hb
theorem x_rep (ha : DP X T Wx a ma) (hb : DP X T Wx b mb) : DF X T Wx (.BinOp a .Mult b pos) (mOp2 repF ma mb) := pe_op2 kF_mono od_rep ha hb
theorem x_fdiv (ha : DP X T Wx a ma) (hb : DP X T Wx b mb) : DE X T Wx (.BinOp a .FloorDiv b pos) (mOp2 fdivD ma mb) := pe_op2 kR_mono od_fdiv ha hb
theorem x_mod (ha : DP X T Wx a ma) (hb : DP X T Wx b mb) : DE X T Wx (.BinOp a .Mod b pos) (mOp2 modD ma mb) := pe_op2 kR_mono od_mod ha hb
theorem x_pow (ha : DP X T Wx a ma) (hb : DP X T Wx b mb) : DE X T Wx (.BinOp a .Pow b pos) (mOp2 powD ma mb) := pe_op2 kR_mono od_pow ha hb
theorem x_neg (ha : DP X T Wx a ma) : DE X T Wx (.UnaryOp .USub a pos) (mOp1 negD ma) := pe_un1 kR_mono ud_neg ha
/-- one comparison's operator -/
structure CmpR (X : Cx) (T : List (Addr × Str)) (op : CmpOp) (F : D → D → Option D) : Prop where
  o : OpD X T (kR X.K X.mg) (compareOp op) F
theorem o_eq (C : Ctx X Wx k) : CmpR X T .Eq eqD := ⟨od_eq (by have := C.hu; omega)⟩
theorem o_ne (C : Ctx X Wx k) : CmpR X T .NotEq neD := ⟨od_ne (by have := C.hu; omega)⟩
theorem o_lt (C : Ctx X Wx k) : CmpR X T .Lt ltD := ⟨od_lt⟩
theorem o_le (C : Ctx X Wx k) : CmpR X T .LtE leD := ⟨od_le⟩
theorem o_gt (C : Ctx X Wx k) : CmpR X T .Gt gtD := ⟨od_gt⟩
theorem o_ge (C : Ctx X Wx k) : CmpR X T .GtE geD := ⟨od_ge⟩
theorem o_is (C : Ctx X Wx k) : CmpR X T .Is isD := ⟨od_is⟩
theorem o_isnt (C : Ctx X Wx k) : CmpR X T .IsNot isntD := ⟨od_isnt⟩
theorem o_in (C : Ctx X Wx k) : CmpR X T .In inD := ⟨od_in C.hu⟩
theorem o_nin (C : Ctx X Wx k) : CmpR X T .NotIn ninD := ⟨od_nin C.hu⟩
variable {op op' : CmpOp} {F F' : D → D → Option D}
theorem x_cmp (o : CmpR X T op F) (ha : DP X T Wx a ma) (hb : DP X T Wx b mb) (hm : behindInMarks op b = false := by first | rfl | with_unfolding_all rfl) : DE X T Wx (.Compare a [op] [b] pos) (mOp2 F ma mb) := pe_cmp2 kR_mono o.o ha hb hm
theorem t_cmp (o : CmpR X T op F) (ha : DP X T Wx a ma) (hb : DP X T Wx b mb) (hm : behindInMarks op b = false := by first | rfl | with_unfolding_all rfl) : DT X T Wx (.Compare a [op] [b] pos) (mTru (mOp2 F ma mb)) := dt_cmp2 o.o ha hb hm
theorem x_chn (o : CmpR X T op F) (o' : CmpR X T op' F') (ha : DP X T Wx a ma) (hb : DP X T Wx b mb) (hc : DP X T Wx c mc) (hm : lastMarks [op, op'] [b, c] = false := by first | rfl | with_unfolding_all rfl) :
    DE X T Wx (.Compare a [op, op'] [b, c] pos) (mChain F F' ma mb mc) := de_chain o.o o'.o ha hb hc hm
theorem t_chn (o : CmpR X T op F) (o' : CmpR X T op' F') (ha : DP X T Wx a ma) (hb : DP X T Wx b mb) (hc : DP X T Wx c mc) (hm : lastMarks [op, op'] [b, c] = false := by first | rfl | with_unfolding_all rfl) :
    DT X T Wx (.Compare a [op, op'] [b, c] pos) (asB (mChain F F' ma mb mc)) := dt_chain o.o o'.o ha hb hc hm
theorem t_val (h : DP X T Wx a ma) (he : ∀ whole, isTrue a X.env whole = (do let v ← whole; standAt a.pos; holding [v] (truthy v)) := by intro _; rfl) : DT X T Wx a (mTru ma) := dt_plain h he
/-! parts -/
theorem x_ix (C : Ctx X Wx k) (ha : DP X T Wx a ma) (hb : DP X T Wx b mb) (hs : isSlice b = false := by rfl) : DE X T Wx (.Subscript a b pos) (mIdx ma mb) := de_idx C.hu1 ha hb hs
variable {lo hi : Option Expr} {ml mh : M (Option Int)}
theorem x_sl (h : DP X T Wx e m) (hl : DO X T Wx lo ml) (hh : DO X T Wx hi mh) : DE X T Wx (.Subscript e (.Slice lo hi none p2) pos) (mSlc slcD m ml mh) := pe_slc kR_mono sd_slc h hl hh
theorem x_slF (h : DP X T Wx e m) (hl : DO X T Wx lo ml) (hh : DO X T Wx hi mh) : DF X T Wx (.Subscript e (.Slice lo hi none p2) pos) (mSlc slcF m ml mh) := pe_slc kF_mono sd_slcF h hl hh
theorem s_cons (h : DE X T Wx e m) (hs : DAs X T Wx es ms) (hp : isStar e = false := by rfl) : DAs X T Wx (e :: es) (mCons m ms) := das_cons h hs hp
theorem p_cons (h : DP X T Wx e m) (hs : DPs X T Wx es ms) (hp : isStar e = false := by rfl) : DPs X T Wx (e :: es) (mCons m ms) := dps_cons h hs hp
theorem s_nil : DAs X T Wx [] mNil := das_nil
theorem p_nil : DPs X T Wx [] mNil := dps_nil
/-! built-in functions -/
section
variable (C : Ctx X Wx k) (ha : DPs X T Wx (e :: es) ms)
include C ha
theorem c_len (hm : X.mg "len" = none) (hg : Gl X "len" := by rfl) (hs : (e :: es).all (fun e => !isStar e) = true := by rfl) : DE X T Wx (.Call (.Name "len" p) (e :: es) [] pos) (mCall lenD ms) := pe_cb kR_mono cd_len hg hm bt_len ha (by decide) (by decide) hs
theorem c_sum (hm : X.mg "sum" = none) (hg : Gl X "sum" := by rfl) (hs : (e :: es).all (fun e => !isStar e) = true := by rfl) : DE X T Wx (.Call (.Name "sum" p) (e :: es) [] pos) (mCall sumD ms) := pe_cb kR_mono (cd_sum C.calm) hg hm bt_sum ha (by decide) (by decide) hs
theorem c_max (hm : X.mg "max" = none) (hg : Gl X "max" := by rfl) (hs : (e :: es).all (fun e => !isStar e) = true := by rfl) : DE X T Wx (.Call (.Name "max" p) (e :: es) [] pos) (mCall maxD ms) := pe_cb kR_mono (cd_max C.calm) hg hm bt_max ha (by decide) (by decide) hs
theorem c_min (hm : X.mg "min" = none) (hg : Gl X "min" := by rfl) (hs : (e :: es).all (fun e => !isStar e) = true := by rfl) : DE X T Wx (.Call (.Name "min" p) (e :: es) [] pos) (mCall minD ms) := pe_cb kR_mono (cd_min C.calm) hg hm bt_min ha (by decide) (by decide) hs
theorem c_all (hm : X.mg "all" = none) (hg : Gl X "all" := by rfl) (hs : (e :: es).all (fun e => !isStar e) = true := by rfl) : DE X T Wx (.Call (.Name "all" p) (e :: es) [] pos) (mCall allD ms) := pe_cb kR_mono (cd_all C.calm) hg hm bt_all ha (by decide) (by decide) hs
theorem c_any (hm : X.mg "any" = none) (hg : Gl X "any" := by rfl) (hs : (e :: es).all (fun e => !isStar e) = true := by rfl) : DE X T Wx (.Call (.Name "any" p) (e :: es) [] pos) (mCall anyD ms) := pe_cb kR_mono (cd_any C.calm) hg hm bt_any ha (by decide) (by decide) hs
theorem c_abs (hm : X.mg "abs" = none) (hg : Gl X "abs" := by rfl) (hs : (e :: es).all (fun e => !isStar e) = true := by rfl) : DE X T Wx (.Call (.Name "abs" p) (e :: es) [] pos) (mCall absD ms) := pe_cb kR_mono cd_abs hg hm bt_abs ha (by decide) (by decide) hs
theorem c_int (hm : X.mg "int" = none) (hg : Gl X "int" := by rfl) (hs : (e :: es).all (fun e => !isStar e) = true := by rfl) : DE X T Wx (.Call (.Name "int" p) (e :: es) [] pos) (mCall intD ms) := pe_ct kR_mono cd_int hg hm bt_int ha (by decide) (by decide) hs
theorem c_tup (hm : X.mg "tuple" = none) (hg : Gl X "tuple" := by rfl) (hs : (e :: es).all (fun e => !isStar e) = true := by rfl) : DE X T Wx (.Call (.Name "tuple" p) (e :: es) [] pos) (mCall tupD ms) := pe_ct kR_mono cd_tup hg hm bt_tup ha (by decide) (by decide) hs
theorem c_lst (hm : X.mg "list" = none) (hg : Gl X "list" := by rfl) (hs : (e :: es).all (fun e => !isStar e) = true := by rfl) : DF X T Wx (.Call (.Name "list" p) (e :: es) [] pos) (mCall lstF2 ms) := pe_ct kF_mono (cd_lst2 C.calm) hg hm bt_lst ha (by decide) (by decide) hs
theorem c_isi (cs : List Str) (F : ∀ c C, c ∈ cs → X.mg c = some (.ref C) → ExcC X.K C) (hm : X.mg "isinstance" = none) (hg : Gl X "isinstance" := by rfl) (hs : (e :: es).all (fun e => !isStar e) = true := by rfl) :
    DE X T Wx (.Call (.Name "isinstance" p) (e :: es) [] pos) (mCall (isiC cs) ms) := pe_cb kR_mono (cd_isC F) hg hm bt_isi ha (by decide) (by decide) hs
/-! methods -/
variable {o : Expr} {mo : M D}
theorem c_join (ho : DP X T Wx o mo) (hb : isCall0 o = false := by rfl) (hs : (e :: es).all (fun e => !isStar e) = true := by rfl) (hl : (p2.endLine == p3.line) = true := by rfl) (hn : (e :: es).length < 20 := by decide) :
    DE X T Wx (.Call (.Attribute o "join" p2) (e :: es) [] p3) (mMeth nJoin joinD mo ms) := pe_mt kR_mono md_join ho ha hb hs hl hn
theorem c_index (ho : DP X T Wx o mo) (hb : isCall0 o = false := by rfl) (hs : (e :: es).all (fun e => !isStar e) = true := by rfl) (hl : (p2.endLine == p3.line) = true := by rfl) (hn : (e :: es).length < 20 := by decide) :
    DE X T Wx (.Call (.Attribute o "index" p2) (e :: es) [] p3) (mMeth nIndex indexD mo ms) := pe_mt kR_mono (md_index C.hu) ho ha hb hs hl hn
end
/-! own defs -/
variable {ps : List Str} {kws : List Kw} {f : FD} {mk : M (List D)}
theorem c_fn (C : Ctx X Wx k) (F : FnD X.prog X.w X.K X.mg X.base T j x ps (kR X.K X.mg) kws f) (ha : DAs X T Wx (e :: es) ms) (hj : j ≤ k := by decide) (hg : Gl X x := by rfl) (hs : (e :: es).all (fun e => !isStar e) = true := by rfl) (hdb : (x == ("__debug__" : Str)) = false := by decide) :
    DE X T Wx (.Call (.Name x p) (e :: es) [] pos) (mFn f ms) := pe_fn C F hj kR_mono hg ha hs hdb
theorem c_fnF (C : Ctx X Wx k) (F : FnD X.prog X.w X.K X.mg X.base T j x ps (kF X.K X.mg) kws f) (ha : DAs X T Wx (e :: es) ms) (hj : j ≤ k := by decide) (hg : Gl X x := by rfl) (hs : (e :: es).all (fun e => !isStar e) = true := by rfl) (hdb : (x == ("__debug__" : Str)) = false := by decide) :
    DF X T Wx (.Call (.Name x p) (e :: es) [] pos) (mFn f ms) := pe_fn C F hj kF_mono hg ha hs hdb
theorem c_fnK0 (C : Ctx X Wx k) (q : Kw) {kw : List Keyword} (F : FnD X.prog X.w X.K X.mg X.base T j x ps (kR X.K X.mg) kws f) (hkw : DKs X T Wx kw mk) (hq : q ∈ kws := by simp) (hj : j ≤ k := by decide) (hg : Gl X x := by rfl)
    (hall : (backToKw pos (keywordEach kw X.env)).all (·.1.isSome) = true := by rfl) (hks : (backToKw pos (keywordEach kw X.env)).filterMap (·.1) = q.ks := by rfl) (hnn : (backToKw pos (keywordEach kw X.env)).any (·.1.isNone) = false := by rfl) (hdb : (x == ("__debug__" : Str)) = false := by decide) :
    DE X T Wx (.Call (.Name x p) [] kw pos) (mFnK f q mNil mk) := pe_fnK0 C F hj kR_mono hq hg hkw hall hks hnn hdb
theorem c_fnK (C : Ctx X Wx k) (q : Kw) {kw : List Keyword} (F : FnD X.prog X.w X.K X.mg X.base T j x ps (kR X.K X.mg) kws f) (ha : DAs X T Wx (e :: es) ms) (hkw : DKs X T Wx kw mk) (hq : q ∈ kws := by simp) (hj : j ≤ k := by decide) (hg : Gl X x := by rfl) (hs : (e :: es).all (fun e => !isStar e) = true := by rfl)
    (hall : (backToKw pos (keywordEach kw X.env)).all (·.1.isSome) = true := by rfl) (hks : (backToKw pos (keywordEach kw X.env)).filterMap (·.1) = q.ks := by rfl) (hnn : (backToKw pos (keywordEach kw X.env)).any (·.1.isNone) = false := by rfl) (hdb : (x == ("__debug__" : Str)) = false := by decide) :
    DE X T Wx (.Call (.Name x p) (e :: es) kw pos) (mFnK f q ms mk) := pe_fnK C F hj kR_mono hq hg ha hkw hs hall hks hnn hdb
/-- defs that a local name may hold -/
def Tbl (X : Cx) (T : List (Addr × Str)) (k : Nat) (tbl : List (Str × FD)) : Prop := ∀ y h, tbl.lookup y = some h → ∃ j ps kws, j ≤ k ∧ FnD X.prog X.w X.K X.mg X.base T j y ps (kR X.K X.mg) kws h
theorem tbl_nil : Tbl X T k [] := fun y h e => by cases e
theorem tbl_cons {tbl : List (Str × FD)} (F : FnD X.prog X.w X.K X.mg X.base T j x ps (kR X.K X.mg) kws f) (r : Tbl X T k tbl) (hj : j ≤ k := by decide) : Tbl X T k ((x, f) :: tbl) := fun y h e => by
  rw [List.lookup_cons] at e
  cases hb : y == x with
  | true =>
    rw [hb] at e
    cases e
    have : y = x := by simpa using hb
    subst this
    exact ⟨j, ps, kws, hj, F⟩
  | false => rw [hb] at e; exact r y h e
theorem c_fnL (i : Nat) {tbl : List (Str × FD)} (C : Ctx X Wx k) (hT : Tbl X T k tbl) (ha : DAs X T Wx (e :: es) ms) (hN : X.N[i]? = some x := by rfl) (hv : Vis X.env.scope x := by first | exact .inl rfl | exact .inr (.inl rfl) | exact .inr (.inr rfl))
    (hs : (e :: es).all (fun e => !isStar e) = true := by rfl) (hdb : (x == ("__debug__" : Str)) = false := by decide) (hcd : (x == ("__classdict__" : Str)) = false := by decide) :
    DE X T Wx (.Call (.Name x p) (e :: es) [] pos) (mFnL i tbl ms) := pe_fnL C kR_mono hT hN hv ha hs hdb hcd
theorem k_cons {nm : Option Str} {kpos : Pos} {kw : List Keyword} (h : DE X T Wx e m) (hs : DKs X T Wx kw ms) : DKs X T Wx (⟨nm, e, kpos⟩ :: kw) (mCons m ms) := dks_cons h hs
theorem k_nil : DKs X T Wx [] mNil := dks_nil
/-! what is walked -/
variable {tg : Expr} {m2 : M D} {e2 : Expr}
theorem i_rng1 {b : Bool} (hm : X.mg "range" = none) (h : DE X T Wx e m) (hg : Gl X "range" := by rfl) (hp : isStar e = false := by rfl) : DI X T Wx tg (.Call (.Name "range" p) [e] [] pos) b (mRange1 m) := di_range1 hg hm h hp
theorem i_rng2 {b : Bool} (hm : X.mg "range" = none) (h : DE X T Wx e m) (h2 : DE X T Wx e2 m2) (hg : Gl X "range" := by rfl) (hp : isStar e = false := by rfl) (hp2 : isStar e2 = false := by rfl) : DI X T Wx tg (.Call (.Name "range" p) [e, e2] [] pos) b (mRange2 m m2) := di_range2 hg hm h h2 hp hp2
theorem i_enum {elts : List Expr} {kt : Nat} (hm : X.mg "enumerate" = none) (h : DE X T Wx e m) (hg : Gl X "enumerate" := by rfl) (hp : isStar e = false := by rfl) : DI X T Wx (.Tuple elts kt p2) (.Call (.Name "enumerate" p) [e] [] pos) false (mEnum m) := di_enum hg hm h hp
theorem i_zip {elts : List Expr} {kt : Nat} (hm : X.mg "zip" = none) (h : DE X T Wx e m) (h2 : DE X T Wx e2 m2) (hg : Gl X "zip" := by rfl) (hp : isStar e = false := by rfl) (hp2 : isStar e2 = false := by rfl) : DI X T Wx (.Tuple elts kt p2) (.Call (.Name "zip" p) [e, e2] [] pos) false (mZip m m2) := di_zip hg hm h h2 hp hp2
/-! targets -/
variable {t : Tgt} {ts : List Tgt}
theorem g_nm (i : Nat) (hN : X.N.Nodup) (hi : X.N[i]? = some x := by rfl) (hx : Loc X.env.scope x := by first | exact .inl rfl | exact .inr rfl) (hf : X.fn x = true ∨ X.env.scope.names.lookup x = some .local := by first | exact .inl rfl | exact .inr rfl) : DG X (.Name x pos) (.nm i) := dg_name hN hi hx hf
theorem g_nil : DGs X [] [] := dgs_nil
theorem g_cons (h1 : DG X e t) (h2 : DGs X es ts) (hs : (assignEach (e :: es) X.env).map (·.2) = assign e X.env :: (assignEach es X.env).map (·.2) := by rfl) : DGs X (e :: es) (t :: ts) := dgs_cons h1 h2 hs
theorem g_tup {kt : Nat} (hc : X.calm = true) (h : DGs X es ts) (hn : (assignEach es X.env).length = ts.length := by rfl) (hst : (assignEach es X.env).findIdx? (·.1) = none := by rfl) : DG X (.Tuple es kt pos) (.tp ts) := dg_tup hc h hn hst
end

/-! ### statements -/
section
variable {X : Cx} {T : List (Addr × Str)} {Wx : Wish} {kd : Kind} {g0 : Reg} {H0 : Hp} {k : Nat} {st : Stmt} {rest sa sb : List Stmt} {m n : MS} {e a b tg it elt : Expr} {me m1 m2 ma mb mv : M D} {na : M Bool} {pos pos' p p2 p3 px py pt pt2 cpos : Pos} {x y : Str}
theorem s_set (i : Nat) (C : SCtx X Wx k) (h : DE X T Wx e me) (hi : X.N[i]? = some x := by rfl) (hx : Loc X.env.scope x := by first | exact .inl rfl | exact .inr rfl) (hs : swapsWith e (some (.Name x pos')) pos.line X.env = pure false := by rfl) (hf : X.fn x = true ∨ X.env.scope.names.lookup x = some .local := by first | exact .inl rfl | exact .inr rfl) :
    DS X T Wx kd g0 H0 (.Assign [.Name x pos'] e pos) (mSet i me) := ds_set C hi hx hf h hs
theorem s_setO (i : Nat) (C : SCtx X Wx k) (h : DF X T Wx e me) (hi : X.N[i]? = some x := by rfl) (hx : Loc X.env.scope x := by first | exact .inl rfl | exact .inr rfl) (hs : swapsWith e (some (.Name x pos')) pos.line X.env = pure false := by rfl) (hf : X.fn x = true ∨ X.env.scope.names.lookup x = some .local := by first | exact .inl rfl | exact .inr rfl) :
    DS X T Wx kd g0 H0 (.Assign [.Name x pos'] e pos) (mSetO i me) := ds_setO C hi hx hf h hs
theorem s_setC (i : Nat) (C : SCtx X Wx k) (h : DF X T Wx e me) (hi : X.N[i]? = some x := by rfl) (hx : Loc X.env.scope x := by first | exact .inl rfl | exact .inr rfl) (hs : swapsWith e (some (.Name x pos')) pos.line X.env = pure false := by rfl) (hf : X.fn x = true ∨ X.env.scope.names.lookup x = some .local := by first | exact .inl rfl | exact .inr rfl) :
    DS X T Wx kd g0 H0 (.Assign [.Name x pos'] e pos) (mSetC i me) := ds_setC C hi hx hf h hs
variable {own : Bool} {ifs : List Expr} {mi : M (List D)} {t : Tgt} {mc : M Bool} {scope : Scope} {ow : List (Str × Nat)} {vs : List Nat}
theorem s_lc (i : Nat) (C : SCtx X Wx k) (h : CompD X T Wx own elt tg it ifs scope ow vs mi t mc mb) (hi : X.N[i]? = some x := by rfl) (hx : X.env.scope.names.lookup x = some .local := by rfl)
    (hsw : swapsWith (.ListComp elt [⟨tg, it, ifs, 0⟩] scope cpos) (some (.Name x pos')) pos.line X.env = pure true := by exact sw_true rfl rfl rfl rfl) :
    DS X T Wx kd g0 H0 (.Assign [.Name x pos'] (.ListComp elt [⟨tg, it, ifs, 0⟩] scope cpos) pos) (mSet i (mComp mi t vs mc mb)) := ds_setLc C hi hx h hsw
theorem s_lcO (i : Nat) (C : SCtx X Wx k) (h : CompD X T Wx own elt tg it ifs scope ow vs mi t mc mb) (hi : X.N[i]? = some x := by rfl) (hx : X.env.scope.names.lookup x = some .local := by rfl)
    (hsw : swapsWith (.ListComp elt [⟨tg, it, ifs, 0⟩] scope cpos) (some (.Name x pos')) pos.line X.env = pure true := by exact sw_true rfl rfl rfl rfl) :
    DS X T Wx kd g0 H0 (.Assign [.Name x pos'] (.ListComp elt [⟨tg, it, ifs, 0⟩] scope cpos) pos) (mSetO i (mComp mi t vs mc mb)) := ds_setLcO C hi hx h hsw
theorem s_tgt (C : SCtx X Wx k) (h : DE X T Wx e me) (hg : DG X tg t) (hs : swapsWithSole [tg] e pos.line X.env = pure false := by rfl) (hw : swappedStores [tg] e X.env = pure none := by rfl) (h1 : (assignEach [tg] X.env).map (·.2) = [assign tg X.env] := by rfl) :
    DS X T Wx kd g0 H0 (.Assign [tg] e pos) (mTgt t me) := ds_tgt h hg hs hw h1
theorem s_par (i j : Nat) {o1 o2 : Bool} {kt k2 : Nat} (C : SCtx X Wx k) (h1 : PE X a (tK T X.K X.mg Wx (kOw X.K X.mg o1) m1)) (h2 : PE X b (tK T X.K X.mg Wx (kOw X.K X.mg o2) m2)) (hi : X.N[i]? = some x := by rfl) (hj : X.N[j]? = some y := by rfl) (hij : i ≠ j := by decide)
    (hx : X.env.scope.names.lookup x = some .local := by rfl) (hy : X.env.scope.names.lookup y = some .local := by rfl) (pa : isStar a = false := by rfl) (pb : isStar b = false := by rfl)
    (hw : swappedStores [.Tuple [.Name x px, .Name y py] kt pt] (.Tuple [a, b] k2 pt2) X.env = pure (some [x, y]) := by rfl) (hs : swapsWithSole [.Tuple [.Name x px, .Name y py] kt pt] (.Tuple [a, b] k2 pt2) pos.line X.env = pure false := by rfl) :
    DS X T Wx kd g0 H0 (.Assign [.Tuple [.Name x px, .Name y py] kt pt] (.Tuple [a, b] k2 pt2) pos) (mPar i j o1 o2 m1 m2) := ds_par C hi hj hij hx hy h1 h2 pa pb hw hs
theorem s_ret {K : PySem.W.Frag} {mg : Str → Option Value} (hk : KMono kd) (h : PE X e (tK T X.K X.mg Wx kd me)) : DS X T Wx kd g0 H0 (.Return (some e) pos) (mRet me) := ds_ret hk h
theorem s_retO (i : Nat) (hk : kd = kF X.K X.mg ∨ kd = kR X.K X.mg := by first | exact .inr rfl | exact .inl rfl) (hN : X.N[i]? = some x := by rfl) (hv : Vis X.env.scope x := by first | exact .inl rfl | exact .inr (.inl rfl) | exact .inr (.inr rfl)) (hd : (x == ("__debug__" : Str)) = false := by decide) (hcd : (x == ("__classdict__" : Str)) = false := by decide) :
    DS X T Wx kd g0 H0 (.Return (some (.Name x pos')) pos) (mRetO i) := ds_retO hk hN hv hd hcd
theorem s_raise {c : Str} {msg : Str} {j : Nat} (C : SCtx X Wx k) (E : ExcD X.K X.mg c) (hg : Gl X c := by rfl) (hdb : (c == ("__debug__" : Str)) = false := by decide) : DS X T Wx kd g0 H0 (.Raise (some (.Call (.Name c p) [.Constant (.str msg) j p2] [] p3)) none pos) (mRaise c) := ds_raise C E hg hdb
theorem s_expr {kk : Kind} (h : PE X e (tK T X.K X.mg Wx kk me)) (hs : swapsWith e none pos.line X.env = pure false := by rfl) : DS X T Wx kd g0 H0 (.Expr e pos) (mDrop me) := ds_expr h hs
theorem s_for (C : SCtx X Wx k) (hi : DI X T Wx tg it false mi) (hg : DG X tg t) (hb : DSs X T Wx kd g0 H0 sa m) (hs : ∀ x, foldedSetIterable it X.env x = pure x := by intro _; rfl) : DS X T Wx kd g0 H0 (.For tg it sa [] pos) (mFor mi t m) := ds_for C hi hg hb hs
theorem s_subC (C : SCtx X Wx k) (ha : DE X T Wx a ma) (hb : DE X T Wx b mb) (hv : DE X T Wx e mv)
    (hp : ∀ v, assign (.Subscript a b p) X.env v = (do let ov ← holding [v] (eval a X.env); let iv ← holding [v, ov] (eval b X.env); standAt p; holding [v, ov, iv] (setItem ov iv v); release [v, ov, iv] []) := by intro _; rfl)
    (hs : swapsWithSole [.Subscript a b p] e pos.line X.env = pure false := by rfl) (hw : swappedStores [.Subscript a b p] e X.env = pure none := by rfl) (h1 : (assignEach [.Subscript a b p] X.env).map (·.2) = [assign (.Subscript a b p) X.env] := by rfl) :
    DS X T Wx kd g0 H0 (.Assign [.Subscript a b p] e pos) (mSubC ma mb mv) := ds_subC C ha hb hv hp hs hw h1
theorem s_subO (i : Nat) (C : SCtx X Wx k) (hb : DE X T Wx b mb) (hv : DE X T Wx e mv) (hN : X.N[i]? = some x := by rfl) (hvis : Vis X.env.scope x := by first | exact .inl rfl | exact .inr (.inl rfl) | exact .inr (.inr rfl))
    (hp : ∀ v, assign (.Subscript (.Name x p2) b p) X.env v = (do let ov ← holding [v] (eval (.Name x p2) X.env); let iv ← holding [v, ov] (eval b X.env); standAt p; holding [v, ov, iv] (setItem ov iv v); release [v, ov, iv] []) := by intro _; rfl)
    (hs : swapsWithSole [.Subscript (.Name x p2) b p] e pos.line X.env = pure false := by rfl) (hw : swappedStores [.Subscript (.Name x p2) b p] e X.env = pure none := by rfl) (h1 : (assignEach [.Subscript (.Name x p2) b p] X.env).map (·.2) = [assign (.Subscript (.Name x p2) b p) X.env] := by rfl)
    (hdb : (x == ("__debug__" : Str)) = false := by decide) (hcd : (x == ("__classdict__" : Str)) = false := by decide) :
    DS X T Wx kd g0 H0 (.Assign [.Subscript (.Name x p2) b p] e pos) (mSubO i mb mv) := ds_subO C hN hvis hb hv hp hs hw h1 hdb hcd
section
variable (i : Nat) (he : DE X T Wx e me)
include he
theorem s_app (hN : X.N[i]? = some x := by rfl) (hvis : Vis X.env.scope x := by first | exact .inl rfl | exact .inr (.inl rfl) | exact .inr (.inr rfl)) (hp : isStar e = false := by rfl) (hl : (p2.endLine == p3.line) = true := by rfl)
    (hdb : (x == ("__debug__" : Str)) = false := by decide) (hcd : (x == ("__classdict__" : Str)) = false := by decide) (hs : swapsWith (.Call (.Attribute (.Name x p) "append" p2) [e] [] p3) none pos.line X.env = pure false := by rfl) :
    DS X T Wx kd g0 H0 (.Expr (.Call (.Attribute (.Name x p) "append" p2) [e] [] p3) pos) (mOwn i appD me) := ds_append hN hvis he hp hl hdb hcd hs
theorem s_ext (hN : X.N[i]? = some x := by rfl) (hvis : Vis X.env.scope x := by first | exact .inl rfl | exact .inr (.inl rfl) | exact .inr (.inr rfl)) (hp : isStar e = false := by rfl) (hl : (p2.endLine == p3.line) = true := by rfl)
    (hdb : (x == ("__debug__" : Str)) = false := by decide) (hcd : (x == ("__classdict__" : Str)) = false := by decide) (hs : swapsWith (.Call (.Attribute (.Name x p) "extend" p2) [e] [] p3) none pos.line X.env = pure false := by rfl) :
    DS X T Wx kd g0 H0 (.Expr (.Call (.Attribute (.Name x p) "extend" p2) [e] [] p3) pos) (mOwn i extD me) := ds_extend hN hvis he hp hl hdb hcd hs
end
theorem s_pop (i : Nat) (hg : DG X tg t) (hN : X.N[i]? = some x := by rfl) (hvis : Vis X.env.scope x := by first | exact .inl rfl | exact .inr (.inl rfl) | exact .inr (.inr rfl)) (hl : (p2.endLine == p3.line) = true := by rfl) (hdb : (x == ("__debug__" : Str)) = false := by decide) (hcd : (x == ("__classdict__" : Str)) = false := by decide)
    (hs : swapsWithSole [tg] (.Call (.Attribute (.Name x p) "pop" p2) [] [] p3) pos.line X.env = pure false := by rfl) (hw : swappedStores [tg] (.Call (.Attribute (.Name x p) "pop" p2) [] [] p3) X.env = pure none := by rfl) (h1 : (assignEach [tg] X.env).map (·.2) = [assign tg X.env] := by rfl) :
    DS X T Wx kd g0 H0 (.Assign [tg] (.Call (.Attribute (.Name x p) "pop" p2) [] [] p3) pos) (mPop t i popD) := ds_pop hN hvis hl hg hdb hcd hs hw h1
end

/-! ### a def of the top -/
abbrev tX (P : Program) (w : World) (K : PySem.W.Frag) (mg : Str → Option Value) (base : Heap) (N : List Str) (x : Str) (st : Stmt) (A : Around) (outer : List Env) (s : Shared) (H : Hp) (E : XK) : Cx :=
  cxOf (L2.CX P w) P w K mg base N x (defScope st) (He.fAd K (x, none)) (.ref (He.codeOf K (x, none))) A outer s H E
abbrev DefOf (K : PySem.W.Frag) (x : Str) (st : Stmt) : Prop := ∃ fd, FunD K x x (defArgs st) (defBody st) (defScope st) [] [] (He.fAd K (x, none)) fd
theorem fnD_at0 {b : Bool} {P : Program} {w : World} {K : PySem.W.Frag} {mg : Str → Option Value} {base : Heap} {T : List (Addr × Str)} {k : Nat} {kd : Kind} {x : Str} {st : Stmt} {N ps : List Str} {kws : List Kw} {m : MS} (F : DefOf K x st) (hm : mg x = some (.ref (He.ga K x))) (S : FnScope N ps (defScope st))
    (hb : ∀ (kV doc pm : Value) (an : Option Addr) (cdv ct : Value) (us : List Value), us.length = ps.length → bindArgs (PySem.W.fnOf x x (defArgs st) (defBody st) (defScope st) .none kV doc pm an cdv ct) ⟨us, []⟩ = pure (ps.zip us))
    (hk : KMono kd) (hn : b = true → ∀ H0 g H, kd .non H0 g H .non)
    (hkw : ∀ q ∈ kws, ∀ (kV doc pm : Value) (an : Option Addr) (cdv ct : Value) (us ws : List Value), us.length = q.n → ws.length = q.ks.length → bindArgs (PySem.W.fnOf x x (defArgs st) (defBody st) (defScope st) .none kV doc pm an cdv ct) ⟨us, q.ks.zip ws⟩ = pure (ps.zip (permU q.perm (us ++ ws))))
    (body : ∀ (A : Around) (outer : List Env) (s : Shared) (H : Hp) (E : XK) (g0 : Reg), SCtx (tX P w K mg base N x st A outer s H E) (wE mg E) k → DSs (tX P w K mg base N x st A outer s H E) T (wE mg E) kd g0 H (defBody st) m) :
    FnD P w K mg base T (k + 1) x ps kd kws (mkFb b ps.length N.length m) := by
  obtain ⟨fd, F⟩ := F
  have bN : Binds K fd ps [] := F.bindsN hb
  obtain ⟨oc, od, dV, kV, doc, pm, an, cdv, ct, osl, hfd, lk, hcd, hD, hK⟩ := F.ex
  have hdV : dV = .none := by
    rcases hD with ⟨_, e⟩ | ⟨e, _⟩
    · exact e
    · exact absurd rfl e
  subst hdV
  obtain ⟨c, hc⟩ := He.codeIn_ref hcd
  have hcode : cdv = .ref (He.codeOf K (x, none)) := by
    rw [hc, He.codeOf_eq (p := (x, none)) (c := c) lk (by rw [hfd, hc])]
  subst hfd
  subst hcode
  exact fnD_of lk hcd F.kp S hm bN hk hn (fun q hq s us ws l1 l2 => .of_eq (hkw q hq kV doc pm an _ ct us ws l1 l2)) body
theorem fnD_at {P : Program} {w : World} {K : PySem.W.Frag} {mg : Str → Option Value} {base : Heap} {T : List (Addr × Str)} {k : Nat} {kd : Kind} {x : Str} {st : Stmt} {N ps : List Str} {kws : List Kw} {m : MS} (F : DefOf K x st) (hm : mg x = some (.ref (He.ga K x))) (S : FnScope N ps (defScope st))
    (hb : ∀ (kV doc pm : Value) (an : Option Addr) (cdv ct : Value) (us : List Value), us.length = ps.length → bindArgs (PySem.W.fnOf x x (defArgs st) (defBody st) (defScope st) .none kV doc pm an cdv ct) ⟨us, []⟩ = pure (ps.zip us))
    (hk : KMono kd) (hn : ∀ H0 g H, kd .non H0 g H .non)
    (hkw : ∀ q ∈ kws, ∀ (kV doc pm : Value) (an : Option Addr) (cdv ct : Value) (us ws : List Value), us.length = q.n → ws.length = q.ks.length → bindArgs (PySem.W.fnOf x x (defArgs st) (defBody st) (defScope st) .none kV doc pm an cdv ct) ⟨us, q.ks.zip ws⟩ = pure (ps.zip (permU q.perm (us ++ ws))))
    (body : ∀ (A : Around) (outer : List Env) (s : Shared) (H : Hp) (E : XK) (g0 : Reg), SCtx (tX P w K mg base N x st A outer s H E) (wE mg E) k → DSs (tX P w K mg base N x st A outer s H E) T (wE mg E) kd g0 H (defBody st) m) :
    FnD P w K mg base T (k + 1) x ps kd kws (mkF ps.length N.length m) := fnD_at0 F hm S hb hk (fun _ => hn) hkw body
theorem fnD_atF {P : Program} {w : World} {K : PySem.W.Frag} {mg : Str → Option Value} {base : Heap} {T : List (Addr × Str)} {k : Nat} {x : Str} {st : Stmt} {N ps : List Str} {kws : List Kw} {m : MS} (F : DefOf K x st) (hm : mg x = some (.ref (He.ga K x))) (S : FnScope N ps (defScope st))
    (hb : ∀ (kV doc pm : Value) (an : Option Addr) (cdv ct : Value) (us : List Value), us.length = ps.length → bindArgs (PySem.W.fnOf x x (defArgs st) (defBody st) (defScope st) .none kV doc pm an cdv ct) ⟨us, []⟩ = pure (ps.zip us))
    (hkw : ∀ q ∈ kws, ∀ (kV doc pm : Value) (an : Option Addr) (cdv ct : Value) (us ws : List Value), us.length = q.n → ws.length = q.ks.length → bindArgs (PySem.W.fnOf x x (defArgs st) (defBody st) (defScope st) .none kV doc pm an cdv ct) ⟨us, q.ks.zip ws⟩ = pure (ps.zip (permU q.perm (us ++ ws))))
    (body : ∀ (A : Around) (outer : List Env) (s : Shared) (H : Hp) (E : XK) (g0 : Reg), SCtx (tX P w K mg base N x st A outer s H E) (wE mg E) k → DSs (tX P w K mg base N x st A outer s H E) T (wE mg E) (kF K mg) g0 H (defBody st) m) :
    FnD P w K mg base T (k + 1) x ps (kF K mg) kws (mkFF ps.length N.length m) := fnD_at0 F hm S hb kF_mono (fun h => absurd h Bool.false_ne_true) hkw body
end Dm
end
section
namespace Dm
open PySem PySem.Spec L2 PyProof.Rows
section
variable {P : Program} {w : World} {K : PySem.W.Frag} {mg : Str → Option Value} {base : Heap} {T : List (Addr × Str)} {k : Nat} {kd : Kind} {x : Str} {st : Stmt} {N ps : List Str} {kws : List Kw} {m : MS}
/-- a def that is never called: no depth is left -/
theorem fnD_zero (F : DefOf K x st) (hm : mg x = some (.ref (He.ga K x))) (S : FnScope N ps (defScope st))
    (hb : ∀ (kV doc pm : Value) (an : Option Addr) (cdv ct : Value) (us : List Value), us.length = ps.length → bindArgs (PySem.W.fnOf x x (defArgs st) (defBody st) (defScope st) .none kV doc pm an cdv ct) ⟨us, []⟩ = pure (ps.zip us))
    (hkw : ∀ q ∈ kws, ∀ (kV doc pm : Value) (an : Option Addr) (cdv ct : Value) (us ws : List Value), us.length = q.n → ws.length = q.ks.length → bindArgs (PySem.W.fnOf x x (defArgs st) (defBody st) (defScope st) .none kV doc pm an cdv ct) ⟨us, q.ks.zip ws⟩ = pure (ps.zip (permU q.perm (us ++ ws)))) :
    FnD P w K mg base T k x ps kd kws (fun _ _ => .bad) := by
  obtain ⟨fd, F⟩ := F
  have bN : Binds K fd ps [] := F.bindsN hb
  obtain ⟨oc, od, dV, kV, doc, pm, an, cdv, ct, osl, hfd, lk, hcd, hD, hK⟩ := F.ex
  have hdV : dV = .none := by
    rcases hD with ⟨_, e⟩ | ⟨e, _⟩
    · exact e
    · exact absurd rfl e
  subst hdV
  subst hfd
  exact ⟨⟨_, _, hm, F.kp, bN, ⟨fun vs H Q E h => h.1, fun A outer s H args us vs Q E _ _ _ _ h => by obtain ⟨_, g, ds, Ss, _, _, z⟩ := h; exact z.elim⟩, fun q hq s us ws l1 l2 => .of_eq (hkw q hq kV doc pm an cdv ct us ws l1 l2), _, _, _, lk⟩, fun _ _ _ => rfl⟩
end
section
variable {X : Cx} {T : List (Addr × Str)} {Wx : Wish} {k : Nat} {x a : Str} {CS : Addr} {cs : List Str} {params : Arguments} {body : Expr} {scope : Scope} {lpos p pos : Pos} {m : M D} {kk : Kind}
theorem x_caught (k : Nat) (C : Ctx X Wx (k + 2)) (G : CaughtD X.K X.mg x a CS) (hcs : CatchD X.K X.mg CS cs) (LD : LamD X T)
    (hbody : ∀ (A : Around) (outer : List Env) (s : Shared) (H : Hp) (E : XK) (f c' : Addr), Ctx (LamX.lamCx X A outer s H E scope f c') (wE X.mg E) k → PE (LamX.lamCx X A outer s H E scope f c') body (tK T X.K X.mg (wE X.mg E) kk m))
    (L : LamX.LamS X.env.scope scope := by exact LamX.lamS_by rfl) (hg : Gl X x := by rfl) (hdef : defaultsOf params X.env = ([], []) := by rfl)
    (hbind : ∀ (q : Str) (cl : List (Str × Addr)) (pm cv ctv : Value), bindArgs (PySem.W.kla_fn "<lambda>" q params body scope cl pm cv ctv) ⟨[], []⟩ = pure [] := by intros; rfl)
    (hdb : (x == ("__debug__" : Str)) = false := by decide) (hd : (a == ("__debug__" : Str)) = false := by decide) (hcd : (a == ("__classdict__" : Str)) = false := by decide) :
    DE X T Wx (.Call (.Name x p) [.Lambda params body scope lpos] [] pos) (mCaught cs m) := de_caught C G hcs L LD hg hdef hbind hbody hdb hd hcd
end
theorem lam_c {X : Cx} {T : List (Addr × Str)} (L : LamD X T) (s : Shared) (H : Hp) {scope : Scope} (C : Addr) (cl : List (Str × Addr)) (fp : List Addr) : LamD (X.blk s H scope (compEnvC scope cl C X.env) fp) T := ⟨L.ex⟩
theorem ctx_c {X : Cx} {Wx : Wish} {k : Nat} (C : Ctx X Wx k) (s : Shared) (H : Hp) {scope : Scope} (c : Addr) (cl : List (Str × Addr)) (fp : List Addr) : Ctx (X.blk s H scope (compEnvC scope cl c X.env) fp) W0 k := ctx_blk C s H scope _ fp
end Dm
end
section
namespace Dm
open PySem PySem.Spec L2 PyProof.Rows

/-! ### what the top tells -/
def excCB (K : PySem.W.Frag) (D : Addr) : Bool :=
  He.eqO (PySem.W.findIn K (.ref D) "__getattribute__") (some (some (.builtin "BaseException.__getattribute__"))) && He.eqO (PySem.W.findIn K (.ref D) "__getattr__") (some none) && decide (PySem.W.subIn K (.ref D) (.type "BaseException") = some true) &&
  PySem.W.hasDictIn K D && He.eqO (PySem.W.findIn K (.ref D) "__class__") (some (some (.builtin "object.__class__"))) && He.eqO (PySem.W.specialIn K (.builtin "object.__class__") "__get__") (some (some (.builtin "getset_descriptor.__get__"))) &&
  decide (PySem.W.takesIn K (.builtin "object.__class__") = some true) && decide (PySem.W.mroIn K D (.type "object") = some true)
theorem excC_of {K : PySem.W.Frag} {D : Addr} (h : excCB K D = true) : ExcC K D := by
  unfold excCB at h
  simp only [Bool.and_eq_true] at h
  obtain ⟨⟨⟨⟨⟨⟨⟨h1, h2⟩, h3⟩, h4⟩, h5⟩, h6⟩, h7⟩, h8⟩ := h
  exact ⟨He.eqO_ok h1, He.eqO_ok h2, of_decide_eq_true h3, h4, He.eqO_ok h5, He.eqO_ok h6, of_decide_eq_true h7, of_decide_eq_true h8⟩
section
variable {K : PySem.W.Frag} {h : Heap} {mg : Str → Option Value} {fa : List He.Fa} {fn : List He.DefD}
theorem excD_of (X : K.In h) (G : h.Ns mainGlobals mg) {x : Str} (c1 : (He.Fa.glo x).ok K = true) (c2 : (He.Fa.exc x).ok K = true) : ExcD K mg x := by
  obtain ⟨h1, h2, h3, h4⟩ := He.exc_ok c2
  exact ⟨_, _, _, _, _, PySem.F.excBase_ValueError, h1, He.glo_ok X G c1, h2, h3, h4⟩
theorem gInt (X : K.In h) (G : h.Ns mainGlobals mg) {x : Str} {i : Int} (c : (He.Fa.int x i).ok K = true) : GlobD K mg x (.int i) := globD_int (He.int_ok X G c)
theorem gStr (X : K.In h) (G : h.Ns mainGlobals mg) {x z : Str} {s : List Nat} (c : (He.Fa.str x z).ok K = true) (e : z.cps.toList = s) : GlobD K mg x (.str s) := e ▸ globD_str (He.str_ok X G c)
/-- a def of the top, as a datum -/
abbrev dd (x : Str) (st : Stmt) : He.DefD := ⟨(x, none), x, x, defArgs st, defBody st, defScope st, [], []⟩
theorem defOf_of {x : Str} {st : Stmt} (c : ∃ fd, FunD K (dd x st).name (dd x st).qual (dd x st).params (dd x st).body (dd x st).scope ((dd x st).dvs K) ((dd x st).kws K) (He.fAd K (dd x st).at_) fd) : DefOf K x st := c
theorem caughtD_of {st : Stmt} {x a v n e : Str} {CS : Addr} {j : Nat} {q1 q2 q3 p1 p2 p3 p4 p5 p6 p7 p8 p9 p10 p11 : Pos} (D : DefOf K x st) (hm : mg x = some (.ref (He.ga K x)))
    (hB : defBody st = [.Assign [.Name v q1] (.Constant .none j q2) q3, .Try [.Expr (.Call (.Name a p1) [] [] p2) p3] [.ExceptHandler (some (.Name e p4)) (some n) [.Assign [.Name v p5] (.Name n p6) p7] p8] [] [] p9, .Return (some (.Name v p10)) p11])
    (S : FnScope [a, v, n] [a] (defScope st))
    (hb : ∀ (kV doc pm : Value) (an : Option Addr) (cdv ct : Value) (us : List Value), us.length = [a].length → bindArgs (PySem.W.fnOf x x (defArgs st) (defBody st) (defScope st) .none kV doc pm an cdv ct) ⟨us, []⟩ = pure ([a].zip us))
    (ha : (defScope st).names.lookup a = some .local) (hv : (defScope st).names.lookup v = some .local) (hn : (defScope st).names.lookup n = some .local)
    (hge : (defScope st).names.lookup e = some .globalImplicit) (hme : mg e = some (.ref CS)) (hde : (e == ("__debug__" : Str)) = false) (hdv : (v == ("__debug__" : Str)) = false) (hcv : (v == ("__classdict__" : Str)) = false) (hdn : (n == ("__debug__" : Str)) = false) (hcn : (n == ("__classdict__" : Str)) = false) :
    CaughtD K mg x a CS := by
  obtain ⟨fd, F⟩ := D
  have bN : Binds K fd [a] [] := F.bindsN hb
  obtain ⟨oc, od, dV, kV, doc, pm, an, cdv, ct, osl, hfd, lk, hcd, hD, hK⟩ := F.ex
  subst hfd
  refine ⟨He.fAd K (x, none), _, _, _, _, _, _, _, _, _, _, _, _, _, [a, v, n], hm, F.kp, lk, hcd, bN, S, rfl, .inl ha, fun X q hXK hXm => ?_⟩
  rw [hB]
  subst hXK
  exact caught_gives S.nd ha hv hn hge (by rw [hXm]; exact hme) hde hdv hcv hdn hcn
end

/-! ### the end -/
def lamT (K : PySem.W.Frag) (tf : List He.Defn) : List (Addr × Str) := tf.map fun p => ((He.cT K p).2, p.1 ++ ".<locals>." ++ "<lambda>")
theorem law_at {l : PySem.W.OpenLaw} {w : World} {K : PySem.W.Frag} {k n : Nat} {x a1 : Str} {mg : Str → Option Value} {fa : Addr} {h : Heap} {fas : List He.Fa} {fns : List He.DefD} {ts : List He.Tab} {tf : List He.Defn} {ex : PySem.W.Frag → Bool} {st : Stmt} {f : FD}
    (KX : K.In h) (G : h.Ns mainGlobals mg) (c : He.SaysX fas fns ts tf ex w h K) (hm : mg x = some (.ref fa)) (D : DefOf K x st)
    (hb : ∀ (kV doc pm : Value) (an : Option Addr) (cdv ct : Value) (us : List Value), us.length = [a1].length → bindArgs (PySem.W.fnOf x x (defArgs st) (defBody st) (defScope st) .none kV doc pm an cdv ct) ⟨us, []⟩ = pure ([a1].zip us))
    (F : ∀ base : Heap, K.In base → base.Ns mainGlobals mg → (∀ p ∈ tf.map (He.cT K), LamX.TabB base mg p.1 p.2) → FnD l.prog w K mg base (lamT K tf) k x [a1] (kR K mg) [] f)
    (hg : He.fAd K (x, none) = fa)
    (P : ∀ ns : List Int, ns.length ≤ n → (∀ z ∈ ns, Builtin.Int.intBits z ≤ 1048576) → ∃ S', f [.scr ns] [] = .ok (.bl true) S') :
    LamX.LawAtS l w K (L2.CX l.prog w) k n a1 mg fa h := by
  obtain ⟨fd, Fd⟩ := D
  have bA := Fd.bindsA hb
  obtain ⟨oc, od, dV, kV, doc, pm, an, cdv, ct, osl, hfd, lk, hcd, hD, hK⟩ := Fd.ex
  refine ⟨fd, tf.map (He.cT K), spD (lamT K tf) K mg 1 (kR K mg) f, fun p hp => ?_, fun p hp => ?_, fun p hp => ?_, fun s u => bA s [u] rfl, fun H a ns hl hbits hT hS => ?_, fun base kb gb TB => ?_⟩
  · obtain ⟨q, hq, rfl⟩ := List.mem_map.mp hp; exact c.empty q hq
  · obtain ⟨q, hq, rfl⟩ := List.mem_map.mp hp; exact c.out q hq
  · obtain ⟨q, hq, rfl⟩ := List.mem_map.mp hp; exact PySem.W.codeHd_of_K KX (c.hd q hq)
  · obtain ⟨S', e⟩ := P ns hl hbits
    refine ⟨rfl, ⟨fun b => b = a ∧ ¬ Fr H b, [], fun _ h => by cases h⟩, [.scr ns], [], ⟨.ref a, [], rfl, ⟨a, rfl, ?_⟩, rfl⟩, ⟨rfl, List.nodup_nil, fun i a d h1 => by simp at h1, fun p hp => ?_, fun b z => z.2⟩, ?_⟩
    · rcases hS with hS | ⟨o, its, m, q1, q2, q3, q4, q5, q6⟩
      · refine .inl ⟨⟨rfl, fun fr => ?_⟩, hS⟩
        rcases hS with hS | ⟨o, hS⟩
        · exact fr _ hS noTbl_lst
        · exact fr _ hS noTbl_frz
      · exact .inr ⟨o, its, m, q1, q2, q3, q4, q5, q6⟩
    · obtain ⟨q, hq, rfl⟩ := List.mem_map.mp hp
      exact LamX.TabS.nil (hT (He.cT K q) (List.mem_map.mpr ⟨q, hq, rfl⟩))
    · rw [e]
      exact fun g' H' v _ hv => hv
  · obtain ⟨a, fd', hm', hkp, hbb, Fo, _, oc', od', osl', lk'⟩ := (F base kb gb TB).ex
    rw [hm] at hm'
    cases hm'
    rw [← hg] at lk'
    rw [lk] at lk'
    cases lk'
    exact Fo
theorem cx_none {P : Program} {w : World} {H : Hp} {s : Shared} {e : Value} {s' : Shared} (h : L2.CX P w [] H s (fun _ _ _ => False) e s') : False := by
  obtain ⟨_, _, _, _, _, _, _, _, _, _, _, _, z⟩ := h
  exact z
/-- lambdas of the law itself -/
theorem lamD_at {P : Program} {w : World} {K : PySem.W.Frag} {mg : Str → Option Value} {base : Heap} {N : List Str} {x : Str} {st : Stmt} {tf : List He.Defn} (TB : ∀ p ∈ tf.map (He.cT K), LamX.TabB base mg p.1 p.2) (hx : (x, none) ∈ tf)
    (hu : ∀ p ∈ lamT K tf, p.1 = (He.cT K (x, none)).2 → p.2 = x ++ ".<locals>." ++ "<lambda>") (A : Around) (outer : List Env) (s : Shared) (H : Hp) (E : XK) : LamD (tX P w K mg base N x st A outer s H E) (lamT K tf) :=
  ⟨_, _, TB _ (List.mem_map.mpr ⟨_, hx, rfl⟩), rfl, List.mem_map.mpr ⟨_, hx, rfl⟩, hu⟩
end Dm
end
section
namespace Dm
open PySem PySem.Spec L2 PyProof.Rows
def topS (i : Nat) : Stmt := PySem.Challenge.pw_nearesttoall_k03_whole_spans_of_lots.main.body.getD i (.Pass ⟨0, 0, 0, 0⟩)
abbrev excs : List Str := ["NearError", "BadWord", "BadLot", "BadMost"]
abbrev st_is_whole : Stmt := topS 9
abbrev st_is_within : Stmt := topS 10
abbrev st_is_word_form : Stmt := topS 11
abbrev st_is_lot_form : Stmt := topS 12
abbrev st_need_lot : Stmt := topS 13
abbrev st_need_most : Stmt := topS 14
abbrev st_need_own_word : Stmt := topS 15
abbrev st_far_by : Stmt := topS 16
abbrev st_row_by : Stmt := topS 18
abbrev st_is_near : Stmt := topS 19
abbrev st_need_lot_and_word : Stmt := topS 20
abbrev st_far_row : Stmt := topS 21
abbrev st_farthest : Stmt := topS 22
abbrev st_farthest_word : Stmt := topS 23
abbrev st_is_centre : Stmt := topS 24
abbrev st_sum_far : Stmt := topS 25
abbrev st_near_words : Stmt := topS 26
abbrev st__law_begun : Stmt := topS 28
abbrev st__law_mixed : Stmt := topS 29
abbrev st__law_take : Stmt := topS 30
abbrev st__law_pick : Stmt := topS 31
abbrev st__law_caught : Stmt := topS 32
abbrev st__law_kinds : Stmt := topS 33
abbrev st__law_says : Stmt := topS 34
abbrev st__law_number : Stmt := topS 35
abbrev st__law_word : Stmt := topS 36
abbrev st__law_near_word : Stmt := topS 37
abbrev st__law_lot : Stmt := topS 38
abbrev st__law_any_lot : Stmt := topS 39
abbrev st__law_no_lot : Stmt := topS 40
abbrev st__law_far : Stmt := topS 41
abbrev st__law_row : Stmt := topS 42
abbrev st_law : Stmt := topS 43
/-- what the top holds -/
structure Fax (K : PySem.W.Frag) (mg : Str → Option Value) : Prop where
  e_BadLot : ExcD K mg "BadLot"
  e_BadMost : ExcD K mg "BadMost"
  e_BadWord : ExcD K mg "BadWord"
  g_LETTERS : GlobD K mg "LETTERS" (.str [97, 98, 99, 100, 101, 102])
  g_MOST_LENGTH : GlobD K mg "MOST_LENGTH" (.int 24)
  g_MOST_WORDS : GlobD K mg "MOST_WORDS" (.int 20)
  n_all : mg "all" = none
  n_bool : mg "bool" = none
  n_dict : mg "dict" = none
  n_enumerate : mg "enumerate" = none
  n_int : mg "int" = none
  n_isinstance : mg "isinstance" = none
  n_len : mg "len" = none
  n_list : mg "list" = none
  n_max : mg "max" = none
  n_min : mg "min" = none
  n_range : mg "range" = none
  n_str : mg "str" = none
  n_sum : mg "sum" = none
  n_tuple : mg "tuple" = none
  n_zip : mg "zip" = none
  k_caught : CaughtD K mg "_law_caught" "work" (He.ga K "NearError")
  k_catch : CatchD K mg (He.ga K "NearError") excs
  k_isi : ∀ c C, c ∈ excs → mg c = some (.ref C) → ExcC K C
  d_is_whole : DefOf K "is_whole" st_is_whole
  m_is_whole : mg "is_whole" = some (.ref (He.ga K "is_whole"))
  d_is_within : DefOf K "is_within" st_is_within
  m_is_within : mg "is_within" = some (.ref (He.ga K "is_within"))
  d_is_word_form : DefOf K "is_word_form" st_is_word_form
  m_is_word_form : mg "is_word_form" = some (.ref (He.ga K "is_word_form"))
  d_is_lot_form : DefOf K "is_lot_form" st_is_lot_form
  m_is_lot_form : mg "is_lot_form" = some (.ref (He.ga K "is_lot_form"))
  d_need_lot : DefOf K "need_lot" st_need_lot
  m_need_lot : mg "need_lot" = some (.ref (He.ga K "need_lot"))
  d_need_most : DefOf K "need_most" st_need_most
  m_need_most : mg "need_most" = some (.ref (He.ga K "need_most"))
  d_need_own_word : DefOf K "need_own_word" st_need_own_word
  m_need_own_word : mg "need_own_word" = some (.ref (He.ga K "need_own_word"))
  d_far_by : DefOf K "far_by" st_far_by
  m_far_by : mg "far_by" = some (.ref (He.ga K "far_by"))
  d_row_by : DefOf K "row_by" st_row_by
  m_row_by : mg "row_by" = some (.ref (He.ga K "row_by"))
  d_is_near : DefOf K "is_near" st_is_near
  m_is_near : mg "is_near" = some (.ref (He.ga K "is_near"))
  d_need_lot_and_word : DefOf K "need_lot_and_word" st_need_lot_and_word
  m_need_lot_and_word : mg "need_lot_and_word" = some (.ref (He.ga K "need_lot_and_word"))
  d_far_row : DefOf K "far_row" st_far_row
  m_far_row : mg "far_row" = some (.ref (He.ga K "far_row"))
  d_farthest : DefOf K "farthest" st_farthest
  m_farthest : mg "farthest" = some (.ref (He.ga K "farthest"))
  d_farthest_word : DefOf K "farthest_word" st_farthest_word
  m_farthest_word : mg "farthest_word" = some (.ref (He.ga K "farthest_word"))
  d_is_centre : DefOf K "is_centre" st_is_centre
  m_is_centre : mg "is_centre" = some (.ref (He.ga K "is_centre"))
  d_sum_far : DefOf K "sum_far" st_sum_far
  m_sum_far : mg "sum_far" = some (.ref (He.ga K "sum_far"))
  d_near_words : DefOf K "near_words" st_near_words
  m_near_words : mg "near_words" = some (.ref (He.ga K "near_words"))
  d__law_begun : DefOf K "_law_begun" st__law_begun
  m__law_begun : mg "_law_begun" = some (.ref (He.ga K "_law_begun"))
  d__law_mixed : DefOf K "_law_mixed" st__law_mixed
  m__law_mixed : mg "_law_mixed" = some (.ref (He.ga K "_law_mixed"))
  d__law_take : DefOf K "_law_take" st__law_take
  m__law_take : mg "_law_take" = some (.ref (He.ga K "_law_take"))
  d__law_pick : DefOf K "_law_pick" st__law_pick
  m__law_pick : mg "_law_pick" = some (.ref (He.ga K "_law_pick"))
  d__law_kinds : DefOf K "_law_kinds" st__law_kinds
  m__law_kinds : mg "_law_kinds" = some (.ref (He.ga K "_law_kinds"))
  d__law_says : DefOf K "_law_says" st__law_says
  m__law_says : mg "_law_says" = some (.ref (He.ga K "_law_says"))
  d__law_number : DefOf K "_law_number" st__law_number
  m__law_number : mg "_law_number" = some (.ref (He.ga K "_law_number"))
  d__law_word : DefOf K "_law_word" st__law_word
  m__law_word : mg "_law_word" = some (.ref (He.ga K "_law_word"))
  d__law_near_word : DefOf K "_law_near_word" st__law_near_word
  m__law_near_word : mg "_law_near_word" = some (.ref (He.ga K "_law_near_word"))
  d__law_lot : DefOf K "_law_lot" st__law_lot
  m__law_lot : mg "_law_lot" = some (.ref (He.ga K "_law_lot"))
  d__law_any_lot : DefOf K "_law_any_lot" st__law_any_lot
  m__law_any_lot : mg "_law_any_lot" = some (.ref (He.ga K "_law_any_lot"))
  d__law_no_lot : DefOf K "_law_no_lot" st__law_no_lot
  m__law_no_lot : mg "_law_no_lot" = some (.ref (He.ga K "_law_no_lot"))
  d__law_far : DefOf K "_law_far" st__law_far
  m__law_far : mg "_law_far" = some (.ref (He.ga K "_law_far"))
  d__law_row : DefOf K "_law_row" st__law_row
  m__law_row : mg "_law_row" = some (.ref (He.ga K "_law_row"))
  d_law : DefOf K "law" st_law
  m_law : mg "law" = some (.ref (He.ga K "law"))
section
variable {P : Program} {w : World} {K : PySem.W.Frag} {mg : Str → Option Value} {base : Heap} {T : List (Addr × Str)}
/-! ### is_whole -/
theorem sc_is_whole : FnScope ["thing"] ["thing"] (defScope st_is_whole) := ⟨rfl, rfl, rfl, by decide +kernel, rfl, by decide +kernel, by decide +kernel⟩
def b_is_whole : MS :=
  (mRet (mAndV (mCall (isiC excs) (mCons (mVar 0) (mCons (mLit (.ty "int")) mNil))) (mBl (mNotT (asB (mCall (isiC excs) (mCons (mVar 0) (mCons (mLit (.ty "bool")) mNil))))))))
def f_is_whole : FD := mkF 1 1 b_is_whole
theorem fd_is_whole (Z : Fax K mg)  : FnD P w K mg base T 1 "is_whole" ["thing"] (kR K mg) [] f_is_whole :=
  fnD_at (k := 0) Z.d_is_whole Z.m_is_whole sc_is_whole (fun _ _ _ _ _ _ us h => match us, h with | [_], _ => rfl) kR_mono (fun _ _ _ => rfl) (fun q hq => by simp at hq) fun A outer s H E g0 SC => by
    exact (dss_one (ds_ret kR_mono (de_and (c_isi SC.toCtx (p_cons (DE.toP (x_var 0)) (p_cons (DE.toP (x_ty Z.n_int bt_int)) p_nil)) excs Z.k_isi Z.n_isinstance) (de_one (de_not (c_isi SC.toCtx (p_cons (DE.toP (x_var 0)) (p_cons (DE.toP (x_ty Z.n_bool bt_bool)) p_nil)) excs Z.k_isi Z.n_isinstance))))))
/-! ### is_within -/
theorem sc_is_within : FnScope ["thing", "low", "high"] ["thing", "low", "high"] (defScope st_is_within) := ⟨rfl, rfl, rfl, by decide +kernel, rfl, by decide +kernel, by decide +kernel⟩
def b_is_within : MS :=
  (mRet (mAndV (mFn f_is_whole (mCons (mVar 0) mNil)) (mChain leD leD (mVar 1) (mVar 0) (mVar 2))))
def f_is_within : FD := mkF 3 3 b_is_within
theorem fd_is_within (Z : Fax K mg) (F_is_whole : FnD P w K mg base T 1 "is_whole" ["thing"] (kR K mg) [] f_is_whole) : FnD P w K mg base T 2 "is_within" ["thing", "low", "high"] (kR K mg) [] f_is_within :=
  fnD_at (k := 1) Z.d_is_within Z.m_is_within sc_is_within (fun _ _ _ _ _ _ us h => match us, h with | [_, _, _], _ => rfl) kR_mono (fun _ _ _ => rfl) (fun q hq => by simp at hq) fun A outer s H E g0 SC => by
    exact (dss_one (ds_ret kR_mono (de_and (c_fn SC.toCtx F_is_whole (s_cons (x_var 0) s_nil) (by decide)) (de_one (x_chn (o_le SC.toCtx) (o_le SC.toCtx) (DE.toP (x_var 1)) (DE.toP (x_var 0)) (DE.toP (x_var 2)))))))
/-! ### is_word_form -/
theorem sc_is_word_form : FnScope ["thing", "letter"] ["thing"] (defScope st_is_word_form) := ⟨rfl, rfl, rfl, by decide +kernel, rfl, by decide +kernel, by decide +kernel⟩
def b_is_word_form : MS :=
  (mRet (mAndV (mCall (isiC excs) (mCons (mVar 0) (mCons (mLit (.ty "str")) mNil))) (mAndV (mOp2 leD (mCall lenD (mCons (mVar 0) mNil)) (mLit (.int 24))) (mCall allD (mCons (mComp (mIter (mVar 0)) (.nm 1) [1] mYes (mOp2 inD (mVar 1) (mLit (.str [97, 98, 99, 100, 101, 102])))) mNil)))))
def f_is_word_form : FD := mkF 1 2 b_is_word_form
theorem fd_is_word_form (Z : Fax K mg)  : FnD P w K mg base T 1 "is_word_form" ["thing"] (kR K mg) [] f_is_word_form :=
  fnD_at (k := 0) Z.d_is_word_form Z.m_is_word_form sc_is_word_form (fun _ _ _ _ _ _ us h => match us, h with | [_], _ => rfl) kR_mono (fun _ _ _ => rfl) (fun q hq => by simp at hq) fun A outer s H E g0 SC => by
    exact (dss_one (ds_ret kR_mono (de_and (c_isi SC.toCtx (p_cons (DE.toP (x_var 0)) (p_cons (DE.toP (x_ty Z.n_str bt_str)) p_nil)) excs Z.k_isi Z.n_isinstance) (de_and (x_cmp (o_le SC.toCtx) (DE.toP (c_len SC.toCtx (p_cons (DE.toP (x_var 0)) p_nil) Z.n_len)) (DE.toP (x_glob Z.g_MOST_LENGTH))) (de_one (c_all SC.toCtx (p_cons (DF.toP (df_comp (Ctx.calm SC.toCtx) SC.nd (CompD.mk (own := false) (ow := [("letter", 1)]) (di_seq (x_var 0)) (blkOk_by rfl) (fun s1 H1 c1 l1 f1 => (g_nm 1 SC.nd)) (fun s1 H1 c1 l1 f1 => dts_nil) (fun s1 H1 c1 l1 f1 => (x_cmp (o_in (ctx_c SC.toCtx s1 H1 c1 l1 f1)) (DE.toP (x_var 1)) (DE.toP (x_glob Z.g_LETTERS)))) (fun _ => rfl) (by decide) rfl))) p_nil) Z.n_all))))))
/-! ### is_lot_form -/
theorem sc_is_lot_form : FnScope ["thing", "word"] ["thing"] (defScope st_is_lot_form) := ⟨rfl, rfl, rfl, by decide +kernel, rfl, by decide +kernel, by decide +kernel⟩
def b_is_lot_form : MS :=
  (mSeq (mIf (mOrT (mNotT (mTru (mCall (isiC excs) (mCons (mVar 0) (mCons (mLit (.ty "tuple")) mNil))))) (mNotT (asB (mChain leD leD (mLit (.int 1)) (mCall lenD (mCons (mVar 0) mNil)) (mLit (.int 20)))))) (mRet (mLit (.bl false))) mSkip)
    (mRet (mAndV (mCall allD (mCons (mComp (mIter (mVar 0)) (.nm 1) [1] mYes (mFn f_is_word_form (mCons (mVar 1) mNil))) mNil)) (mCall allD (mCons (mComp (mIter (mVar 0)) (.nm 1) [1] mYes (mOp2 eqD (mCall lenD (mCons (mVar 1) mNil)) (mCall lenD (mCons (mIdx (mVar 0) (mLit (.int 0))) mNil)))) mNil)))))
def f_is_lot_form : FD := mkF 1 2 b_is_lot_form
theorem fd_is_lot_form (Z : Fax K mg) (F_is_word_form : FnD P w K mg base T 1 "is_word_form" ["thing"] (kR K mg) [] f_is_word_form) : FnD P w K mg base T 2 "is_lot_form" ["thing"] (kR K mg) [] f_is_lot_form :=
  fnD_at (k := 1) Z.d_is_lot_form Z.m_is_lot_form sc_is_lot_form (fun _ _ _ _ _ _ us h => match us, h with | [_], _ => rfl) kR_mono (fun _ _ _ => rfl) (fun q hq => by simp at hq) fun A outer s H E g0 SC => by
    exact (dss_cons (ds_if (PW.pt (dw_or (dt_not (t_val (DE.toP (c_isi SC.toCtx (p_cons (DE.toP (x_var 0)) (p_cons (DE.toP (x_ty Z.n_tuple bt_tup)) p_nil)) excs Z.k_isi Z.n_isinstance)))) (dw_or1 (dt_not (t_chn (o_le SC.toCtx) (o_le SC.toCtx) (DE.toP de_int) (DE.toP (c_len SC.toCtx (p_cons (DE.toP (x_var 0)) p_nil) Z.n_len)) (DE.toP (x_glob Z.g_MOST_WORDS))))))) (dss_one (ds_ret kR_mono de_bl)) dss_nil)
    (dss_one (ds_ret kR_mono (de_and (c_all SC.toCtx (p_cons (DF.toP (df_comp (Ctx.calm SC.toCtx) SC.nd (CompD.mk (own := false) (ow := [("word", 1)]) (di_seq (x_var 0)) (blkOk_by rfl) (fun s1 H1 c1 l1 f1 => (g_nm 1 SC.nd)) (fun s1 H1 c1 l1 f1 => dts_nil) (fun s1 H1 c1 l1 f1 => (c_fn (ctx_c SC.toCtx s1 H1 c1 l1 f1) F_is_word_form (s_cons (x_var 1) s_nil) (by decide))) (fun _ => rfl) (by decide) rfl))) p_nil) Z.n_all) (de_one (c_all SC.toCtx (p_cons (DF.toP (df_comp (Ctx.calm SC.toCtx) SC.nd (CompD.mk (own := false) (ow := [("word", 1)]) (di_seq (x_var 0)) (blkOk_by rfl) (fun s2 H2 c2 l2 f2 => (g_nm 1 SC.nd)) (fun s2 H2 c2 l2 f2 => dts_nil) (fun s2 H2 c2 l2 f2 => (x_cmp (o_eq (ctx_c SC.toCtx s2 H2 c2 l2 f2)) (DE.toP (c_len (ctx_c SC.toCtx s2 H2 c2 l2 f2) (p_cons (DE.toP (x_var 1)) p_nil) Z.n_len)) (DE.toP (c_len (ctx_c SC.toCtx s2 H2 c2 l2 f2) (p_cons (DE.toP (x_ix (ctx_c SC.toCtx s2 H2 c2 l2 f2) (DE.toP (x_var 0)) (DE.toP de_int))) p_nil) Z.n_len)))) (fun _ => rfl) (by decide) rfl))) p_nil) Z.n_all))))))
/-! ### need_lot -/
theorem sc_need_lot : FnScope ["lot"] ["lot"] (defScope st_need_lot) := ⟨rfl, rfl, rfl, by decide +kernel, rfl, by decide +kernel, by decide +kernel⟩
def b_need_lot : MS :=
  (mIf (mNotT (mTru (mFn f_is_lot_form (mCons (mVar 0) mNil)))) (mRaise "BadLot") mSkip)
def f_need_lot : FD := mkF 1 1 b_need_lot
theorem fd_need_lot (Z : Fax K mg) (F_is_lot_form : FnD P w K mg base T 2 "is_lot_form" ["thing"] (kR K mg) [] f_is_lot_form) : FnD P w K mg base T 3 "need_lot" ["lot"] (kR K mg) [] f_need_lot :=
  fnD_at (k := 2) Z.d_need_lot Z.m_need_lot sc_need_lot (fun _ _ _ _ _ _ us h => match us, h with | [_], _ => rfl) kR_mono (fun _ _ _ => rfl) (fun q hq => by simp at hq) fun A outer s H E g0 SC => by
    exact (dss_one (ds_if (dt_not (t_val (DE.toP (c_fn SC.toCtx F_is_lot_form (s_cons (x_var 0) s_nil) (by decide))))) (dss_one (s_raise SC Z.e_BadLot)) dss_nil))
/-! ### need_most -/
theorem sc_need_most : FnScope ["most"] ["most"] (defScope st_need_most) := ⟨rfl, rfl, rfl, by decide +kernel, rfl, by decide +kernel, by decide +kernel⟩
def b_need_most : MS :=
  (mIf (mNotT (mTru (mFn f_is_within (mCons (mVar 0) (mCons (mLit (.int 0)) (mCons (mLit (.int 24)) mNil)))))) (mRaise "BadMost") mSkip)
def f_need_most : FD := mkF 1 1 b_need_most
theorem fd_need_most (Z : Fax K mg) (F_is_within : FnD P w K mg base T 2 "is_within" ["thing", "low", "high"] (kR K mg) [] f_is_within) : FnD P w K mg base T 3 "need_most" ["most"] (kR K mg) [] f_need_most :=
  fnD_at (k := 2) Z.d_need_most Z.m_need_most sc_need_most (fun _ _ _ _ _ _ us h => match us, h with | [_], _ => rfl) kR_mono (fun _ _ _ => rfl) (fun q hq => by simp at hq) fun A outer s H E g0 SC => by
    exact (dss_one (ds_if (dt_not (t_val (DE.toP (c_fn SC.toCtx F_is_within (s_cons (x_var 0) (s_cons de_int (s_cons (x_glob Z.g_MOST_LENGTH) s_nil))) (by decide))))) (dss_one (s_raise SC Z.e_BadMost)) dss_nil))
/-! ### need_own_word -/
theorem sc_need_own_word : FnScope ["lot", "word"] ["lot", "word"] (defScope st_need_own_word) := ⟨rfl, rfl, rfl, by decide +kernel, rfl, by decide +kernel, by decide +kernel⟩
def b_need_own_word : MS :=
  (mIf (mOrT (mNotT (mTru (mFn f_is_word_form (mCons (mVar 1) mNil)))) (mTru (mOp2 neD (mCall lenD (mCons (mVar 1) mNil)) (mCall lenD (mCons (mIdx (mVar 0) (mLit (.int 0))) mNil))))) (mRaise "BadWord") mSkip)
def f_need_own_word : FD := mkF 2 2 b_need_own_word
theorem fd_need_own_word (Z : Fax K mg) (F_is_word_form : FnD P w K mg base T 1 "is_word_form" ["thing"] (kR K mg) [] f_is_word_form) : FnD P w K mg base T 2 "need_own_word" ["lot", "word"] (kR K mg) [] f_need_own_word :=
  fnD_at (k := 1) Z.d_need_own_word Z.m_need_own_word sc_need_own_word (fun _ _ _ _ _ _ us h => match us, h with | [_, _], _ => rfl) kR_mono (fun _ _ _ => rfl) (fun q hq => by simp at hq) fun A outer s H E g0 SC => by
    exact (dss_one (ds_if (PW.pt (dw_or (dt_not (t_val (DE.toP (c_fn SC.toCtx F_is_word_form (s_cons (x_var 1) s_nil) (by decide))))) (dw_or1 (t_cmp (o_ne SC.toCtx) (DE.toP (c_len SC.toCtx (p_cons (DE.toP (x_var 1)) p_nil) Z.n_len)) (DE.toP (c_len SC.toCtx (p_cons (DE.toP (x_ix SC.toCtx (DE.toP (x_var 0)) (DE.toP de_int))) p_nil) Z.n_len)))))) (dss_one (s_raise SC Z.e_BadWord)) dss_nil))
/-! ### far_by -/
theorem sc_far_by : FnScope ["one", "other", "place", "letter"] ["one", "other"] (defScope st_far_by) := ⟨rfl, rfl, rfl, by decide +kernel, rfl, by decide +kernel, by decide +kernel⟩
def b_far_by : MS :=
  (mRet (mCall lenD (mCons (mComp (mEnum (mVar 0)) (.tp [(.nm 2), (.nm 3)]) [2, 3] (mTru (mOp2 neD (mVar 3) (mIdx (mVar 1) (mVar 2)))) (mVar 2)) mNil)))
def f_far_by : FD := mkF 2 4 b_far_by
theorem fd_far_by (Z : Fax K mg)  : FnD P w K mg base T 1 "far_by" ["one", "other"] (kR K mg) [] f_far_by :=
  fnD_at (k := 0) Z.d_far_by Z.m_far_by sc_far_by (fun _ _ _ _ _ _ us h => match us, h with | [_, _], _ => rfl) kR_mono (fun _ _ _ => rfl) (fun q hq => by simp at hq) fun A outer s H E g0 SC => by
    exact (dss_one (ds_ret kR_mono (c_len SC.toCtx (p_cons (DF.toP (df_comp (Ctx.calm SC.toCtx) SC.nd (CompD.mk (own := false) (ow := [("place", 2), ("letter", 3)]) (i_enum Z.n_enumerate (x_var 0)) (blkOk_by rfl) (fun s1 H1 c1 l1 f1 => (g_tup (Ctx.calm (ctx_c SC.toCtx s1 H1 c1 l1 f1)) (g_cons (g_nm 2 SC.nd) (g_cons (g_nm 3 SC.nd) g_nil)))) (fun s1 H1 c1 l1 f1 => (dts_one (t_cmp (o_ne (ctx_c SC.toCtx s1 H1 c1 l1 f1)) (DE.toP (x_var 3)) (DE.toP (x_ix (ctx_c SC.toCtx s1 H1 c1 l1 f1) (DE.toP (x_var 1)) (DE.toP (x_var 2))))))) (fun s1 H1 c1 l1 f1 => (x_var 2)) (fun _ => rfl) (by decide) rfl))) p_nil) Z.n_len)))
/-! ### row_by -/
theorem sc_row_by : FnScope ["lot", "word", "late"] ["lot", "word"] (defScope st_row_by) := ⟨rfl, rfl, rfl, by decide +kernel, rfl, by decide +kernel, by decide +kernel⟩
def b_row_by : MS :=
  (mRet (mComp (mIter (mVar 0)) (.nm 2) [2] mYes (mFn f_far_by (mCons (mVar 1) (mCons (mVar 2) mNil)))))
def f_row_by : FD := mkF 2 3 b_row_by
theorem fd_row_by (Z : Fax K mg) (F_far_by : FnD P w K mg base T 1 "far_by" ["one", "other"] (kR K mg) [] f_far_by) : FnD P w K mg base T 2 "row_by" ["lot", "word"] (kR K mg) [] f_row_by :=
  fnD_at (k := 1) Z.d_row_by Z.m_row_by sc_row_by (fun _ _ _ _ _ _ us h => match us, h with | [_, _], _ => rfl) kR_mono (fun _ _ _ => rfl) (fun q hq => by simp at hq) fun A outer s H E g0 SC => by
    exact (dss_one (ds_ret kR_mono (DF.toE (df_comp (Ctx.calm SC.toCtx) SC.nd (CompD.mk (own := false) (ow := [("late", 2)]) (di_seq (x_var 0)) (blkOk_by rfl) (fun s1 H1 c1 l1 f1 => (g_nm 2 SC.nd)) (fun s1 H1 c1 l1 f1 => dts_nil) (fun s1 H1 c1 l1 f1 => (c_fn (ctx_c SC.toCtx s1 H1 c1 l1 f1) F_far_by (s_cons (x_var 1) (s_cons (x_var 2) s_nil)) (by decide))) (fun _ => rfl) (by decide) rfl)))))
/-! ### is_near -/
theorem sc_is_near : FnScope ["lot", "word", "most"] ["lot", "word", "most"] (defScope st_is_near) := ⟨rfl, rfl, rfl, by decide +kernel, rfl, by decide +kernel, by decide +kernel⟩
def b_is_near : MS :=
  (mRet (mOp2 leD (mCall maxD (mCons (mFn f_row_by (mCons (mVar 0) (mCons (mVar 1) mNil))) mNil)) (mVar 2)))
def f_is_near : FD := mkF 3 3 b_is_near
theorem fd_is_near (Z : Fax K mg) (F_row_by : FnD P w K mg base T 2 "row_by" ["lot", "word"] (kR K mg) [] f_row_by) : FnD P w K mg base T 3 "is_near" ["lot", "word", "most"] (kR K mg) [] f_is_near :=
  fnD_at (k := 2) Z.d_is_near Z.m_is_near sc_is_near (fun _ _ _ _ _ _ us h => match us, h with | [_, _, _], _ => rfl) kR_mono (fun _ _ _ => rfl) (fun q hq => by simp at hq) fun A outer s H E g0 SC => by
    exact (dss_one (ds_ret kR_mono (x_cmp (o_le SC.toCtx) (DE.toP (c_max SC.toCtx (p_cons (DE.toP (c_fn SC.toCtx F_row_by (s_cons (x_var 0) (s_cons (x_var 1) s_nil)) (by decide))) p_nil) Z.n_max)) (DE.toP (x_var 2)))))
/-! ### need_lot_and_word -/
theorem sc_need_lot_and_word : FnScope ["lot", "word"] ["lot", "word"] (defScope st_need_lot_and_word) := ⟨rfl, rfl, rfl, by decide +kernel, rfl, by decide +kernel, by decide +kernel⟩
def b_need_lot_and_word : MS :=
  (mSeq (mDrop (mFn f_need_lot (mCons (mVar 0) mNil)))
    (mDrop (mFn f_need_own_word (mCons (mVar 0) (mCons (mVar 1) mNil)))))
def f_need_lot_and_word : FD := mkF 2 2 b_need_lot_and_word
theorem fd_need_lot_and_word (Z : Fax K mg) (F_need_lot : FnD P w K mg base T 3 "need_lot" ["lot"] (kR K mg) [] f_need_lot) (F_need_own_word : FnD P w K mg base T 2 "need_own_word" ["lot", "word"] (kR K mg) [] f_need_own_word) : FnD P w K mg base T 4 "need_lot_and_word" ["lot", "word"] (kR K mg) [] f_need_lot_and_word :=
  fnD_at (k := 3) Z.d_need_lot_and_word Z.m_need_lot_and_word sc_need_lot_and_word (fun _ _ _ _ _ _ us h => match us, h with | [_, _], _ => rfl) kR_mono (fun _ _ _ => rfl) (fun q hq => by simp at hq) fun A outer s H E g0 SC => by
    exact (dss_cons (s_expr (c_fn SC.toCtx F_need_lot (s_cons (x_var 0) s_nil) (by decide)))
    (dss_one (s_expr (c_fn SC.toCtx F_need_own_word (s_cons (x_var 0) (s_cons (x_var 1) s_nil)) (by decide)))))
/-! ### far_row -/
theorem sc_far_row : FnScope ["lot", "word"] ["lot", "word"] (defScope st_far_row) := ⟨rfl, rfl, rfl, by decide +kernel, rfl, by decide +kernel, by decide +kernel⟩
def b_far_row : MS :=
  (mSeq (mDrop (mFn f_need_lot_and_word (mCons (mVar 0) (mCons (mVar 1) mNil))))
    (mRet (mCall tupD (mCons (mFn f_row_by (mCons (mVar 0) (mCons (mVar 1) mNil))) mNil))))
def f_far_row : FD := mkF 2 2 b_far_row
theorem fd_far_row (Z : Fax K mg) (F_need_lot_and_word : FnD P w K mg base T 4 "need_lot_and_word" ["lot", "word"] (kR K mg) [] f_need_lot_and_word) (F_row_by : FnD P w K mg base T 2 "row_by" ["lot", "word"] (kR K mg) [] f_row_by) : FnD P w K mg base T 5 "far_row" ["lot", "word"] (kR K mg) [⟨0, ["word", "lot"], [1, 0]⟩] f_far_row :=
  fnD_at (k := 4) Z.d_far_row Z.m_far_row sc_far_row (fun _ _ _ _ _ _ us h => match us, h with | [_, _], _ => rfl) kR_mono (fun _ _ _ => rfl) (by
    intro q hq
    simp only [List.mem_cons, List.not_mem_nil, or_false] at hq
    subst hq
    exact (fun _ _ _ _ _ _ us ws h1 h2 => match us, ws, h1, h2 with | [], [_, _], _, _ => rfl)) fun A outer s H E g0 SC => by
    exact (dss_cons (s_expr (c_fn SC.toCtx F_need_lot_and_word (s_cons (x_var 0) (s_cons (x_var 1) s_nil)) (by decide)))
    (dss_one (ds_ret kR_mono (c_tup SC.toCtx (p_cons (DE.toP (c_fn SC.toCtx F_row_by (s_cons (x_var 0) (s_cons (x_var 1) s_nil)) (by decide))) p_nil) Z.n_tuple))))
/-! ### farthest -/
theorem sc_farthest : FnScope ["lot", "word"] ["lot", "word"] (defScope st_farthest) := ⟨rfl, rfl, rfl, by decide +kernel, rfl, by decide +kernel, by decide +kernel⟩
def b_farthest : MS :=
  (mSeq (mDrop (mFn f_need_lot_and_word (mCons (mVar 0) (mCons (mVar 1) mNil))))
    (mRet (mCall maxD (mCons (mFn f_row_by (mCons (mVar 0) (mCons (mVar 1) mNil))) mNil))))
def f_farthest : FD := mkF 2 2 b_farthest
theorem fd_farthest (Z : Fax K mg) (F_need_lot_and_word : FnD P w K mg base T 4 "need_lot_and_word" ["lot", "word"] (kR K mg) [] f_need_lot_and_word) (F_row_by : FnD P w K mg base T 2 "row_by" ["lot", "word"] (kR K mg) [] f_row_by) : FnD P w K mg base T 5 "farthest" ["lot", "word"] (kR K mg) [⟨0, ["word", "lot"], [1, 0]⟩] f_farthest :=
  fnD_at (k := 4) Z.d_farthest Z.m_farthest sc_farthest (fun _ _ _ _ _ _ us h => match us, h with | [_, _], _ => rfl) kR_mono (fun _ _ _ => rfl) (by
    intro q hq
    simp only [List.mem_cons, List.not_mem_nil, or_false] at hq
    subst hq
    exact (fun _ _ _ _ _ _ us ws h1 h2 => match us, ws, h1, h2 with | [], [_, _], _, _ => rfl)) fun A outer s H E g0 SC => by
    exact (dss_cons (s_expr (c_fn SC.toCtx F_need_lot_and_word (s_cons (x_var 0) (s_cons (x_var 1) s_nil)) (by decide)))
    (dss_one (ds_ret kR_mono (c_max SC.toCtx (p_cons (DE.toP (c_fn SC.toCtx F_row_by (s_cons (x_var 0) (s_cons (x_var 1) s_nil)) (by decide))) p_nil) Z.n_max))))
/-! ### farthest_word -/
theorem sc_farthest_word : FnScope ["lot", "word", "row"] ["lot", "word"] (defScope st_farthest_word) := ⟨rfl, rfl, rfl, by decide +kernel, rfl, by decide +kernel, by decide +kernel⟩
def b_farthest_word : MS :=
  (mSeq (mDrop (mFn f_need_lot_and_word (mCons (mVar 0) (mCons (mVar 1) mNil))))
    (mSeq (mSet 2 (mFn f_row_by (mCons (mVar 0) (mCons (mVar 1) mNil))))
    (mRet (mMeth nIndex indexD (mVar 2) (mCons (mCall maxD (mCons (mVar 2) mNil)) mNil)))))
def f_farthest_word : FD := mkF 2 3 b_farthest_word
theorem fd_farthest_word (Z : Fax K mg) (F_need_lot_and_word : FnD P w K mg base T 4 "need_lot_and_word" ["lot", "word"] (kR K mg) [] f_need_lot_and_word) (F_row_by : FnD P w K mg base T 2 "row_by" ["lot", "word"] (kR K mg) [] f_row_by) : FnD P w K mg base T 5 "farthest_word" ["lot", "word"] (kR K mg) [⟨0, ["word", "lot"], [1, 0]⟩] f_farthest_word :=
  fnD_at (k := 4) Z.d_farthest_word Z.m_farthest_word sc_farthest_word (fun _ _ _ _ _ _ us h => match us, h with | [_, _], _ => rfl) kR_mono (fun _ _ _ => rfl) (by
    intro q hq
    simp only [List.mem_cons, List.not_mem_nil, or_false] at hq
    subst hq
    exact (fun _ _ _ _ _ _ us ws h1 h2 => match us, ws, h1, h2 with | [], [_, _], _, _ => rfl)) fun A outer s H E g0 SC => by
    exact (dss_cons (s_expr (c_fn SC.toCtx F_need_lot_and_word (s_cons (x_var 0) (s_cons (x_var 1) s_nil)) (by decide)))
    (dss_cons (s_set 2 SC (c_fn SC.toCtx F_row_by (s_cons (x_var 0) (s_cons (x_var 1) s_nil)) (by decide)))
    (dss_one (ds_ret kR_mono (c_index SC.toCtx (p_cons (DE.toP (c_max SC.toCtx (p_cons (DE.toP (x_var 2)) p_nil) Z.n_max)) p_nil) (DE.toP (x_var 2)))))))
/-! ### is_centre -/
theorem sc_is_centre : FnScope ["lot", "word", "most"] ["lot", "word", "most"] (defScope st_is_centre) := ⟨rfl, rfl, rfl, by decide +kernel, rfl, by decide +kernel, by decide +kernel⟩
def b_is_centre : MS :=
  (mSeq (mDrop (mFn f_need_lot_and_word (mCons (mVar 0) (mCons (mVar 1) mNil))))
    (mSeq (mDrop (mFn f_need_most (mCons (mVar 2) mNil)))
    (mRet (mFn f_is_near (mCons (mVar 0) (mCons (mVar 1) (mCons (mVar 2) mNil)))))))
def f_is_centre : FD := mkF 3 3 b_is_centre
theorem fd_is_centre (Z : Fax K mg) (F_need_lot_and_word : FnD P w K mg base T 4 "need_lot_and_word" ["lot", "word"] (kR K mg) [] f_need_lot_and_word) (F_need_most : FnD P w K mg base T 3 "need_most" ["most"] (kR K mg) [] f_need_most) (F_is_near : FnD P w K mg base T 3 "is_near" ["lot", "word", "most"] (kR K mg) [] f_is_near) : FnD P w K mg base T 5 "is_centre" ["lot", "word", "most"] (kR K mg) [⟨0, ["most", "word", "lot"], [2, 1, 0]⟩] f_is_centre :=
  fnD_at (k := 4) Z.d_is_centre Z.m_is_centre sc_is_centre (fun _ _ _ _ _ _ us h => match us, h with | [_, _, _], _ => rfl) kR_mono (fun _ _ _ => rfl) (by
    intro q hq
    simp only [List.mem_cons, List.not_mem_nil, or_false] at hq
    subst hq
    exact (fun _ _ _ _ _ _ us ws h1 h2 => match us, ws, h1, h2 with | [], [_, _, _], _, _ => rfl)) fun A outer s H E g0 SC => by
    exact (dss_cons (s_expr (c_fn SC.toCtx F_need_lot_and_word (s_cons (x_var 0) (s_cons (x_var 1) s_nil)) (by decide)))
    (dss_cons (s_expr (c_fn SC.toCtx F_need_most (s_cons (x_var 2) s_nil) (by decide)))
    (dss_one (ds_ret kR_mono (c_fn SC.toCtx F_is_near (s_cons (x_var 0) (s_cons (x_var 1) (s_cons (x_var 2) s_nil))) (by decide))))))
/-! ### sum_far -/
theorem sc_sum_far : FnScope ["lot", "word"] ["lot", "word"] (defScope st_sum_far) := ⟨rfl, rfl, rfl, by decide +kernel, rfl, by decide +kernel, by decide +kernel⟩
def b_sum_far : MS :=
  (mSeq (mDrop (mFn f_need_lot_and_word (mCons (mVar 0) (mCons (mVar 1) mNil))))
    (mRet (mCall sumD (mCons (mFn f_row_by (mCons (mVar 0) (mCons (mVar 1) mNil))) mNil))))
def f_sum_far : FD := mkF 2 2 b_sum_far
theorem fd_sum_far (Z : Fax K mg) (F_need_lot_and_word : FnD P w K mg base T 4 "need_lot_and_word" ["lot", "word"] (kR K mg) [] f_need_lot_and_word) (F_row_by : FnD P w K mg base T 2 "row_by" ["lot", "word"] (kR K mg) [] f_row_by) : FnD P w K mg base T 5 "sum_far" ["lot", "word"] (kR K mg) [⟨0, ["word", "lot"], [1, 0]⟩] f_sum_far :=
  fnD_at (k := 4) Z.d_sum_far Z.m_sum_far sc_sum_far (fun _ _ _ _ _ _ us h => match us, h with | [_, _], _ => rfl) kR_mono (fun _ _ _ => rfl) (by
    intro q hq
    simp only [List.mem_cons, List.not_mem_nil, or_false] at hq
    subst hq
    exact (fun _ _ _ _ _ _ us ws h1 h2 => match us, ws, h1, h2 with | [], [_, _], _, _ => rfl)) fun A outer s H E g0 SC => by
    exact (dss_cons (s_expr (c_fn SC.toCtx F_need_lot_and_word (s_cons (x_var 0) (s_cons (x_var 1) s_nil)) (by decide)))
    (dss_one (ds_ret kR_mono (c_sum SC.toCtx (p_cons (DE.toP (c_fn SC.toCtx F_row_by (s_cons (x_var 0) (s_cons (x_var 1) s_nil)) (by decide))) p_nil) Z.n_sum))))
/-! ### near_words -/
theorem sc_near_words : FnScope ["lot", "word", "most", "at", "far"] ["lot", "word", "most"] (defScope st_near_words) := ⟨rfl, rfl, rfl, by decide +kernel, rfl, by decide +kernel, by decide +kernel⟩
def b_near_words : MS :=
  (mSeq (mDrop (mFn f_need_lot_and_word (mCons (mVar 0) (mCons (mVar 1) mNil))))
    (mSeq (mDrop (mFn f_need_most (mCons (mVar 2) mNil)))
    (mRet (mCall tupD (mCons (mComp (mEnum (mFn f_row_by (mCons (mVar 0) (mCons (mVar 1) mNil)))) (.tp [(.nm 3), (.nm 4)]) [3, 4] (mTru (mOp2 leD (mVar 4) (mVar 2))) (mVar 3)) mNil)))))
def f_near_words : FD := mkF 3 5 b_near_words
theorem fd_near_words (Z : Fax K mg) (F_need_lot_and_word : FnD P w K mg base T 4 "need_lot_and_word" ["lot", "word"] (kR K mg) [] f_need_lot_and_word) (F_need_most : FnD P w K mg base T 3 "need_most" ["most"] (kR K mg) [] f_need_most) (F_row_by : FnD P w K mg base T 2 "row_by" ["lot", "word"] (kR K mg) [] f_row_by) : FnD P w K mg base T 5 "near_words" ["lot", "word", "most"] (kR K mg) [⟨0, ["most", "word", "lot"], [2, 1, 0]⟩] f_near_words :=
  fnD_at (k := 4) Z.d_near_words Z.m_near_words sc_near_words (fun _ _ _ _ _ _ us h => match us, h with | [_, _, _], _ => rfl) kR_mono (fun _ _ _ => rfl) (by
    intro q hq
    simp only [List.mem_cons, List.not_mem_nil, or_false] at hq
    subst hq
    exact (fun _ _ _ _ _ _ us ws h1 h2 => match us, ws, h1, h2 with | [], [_, _, _], _, _ => rfl)) fun A outer s H E g0 SC => by
    exact (dss_cons (s_expr (c_fn SC.toCtx F_need_lot_and_word (s_cons (x_var 0) (s_cons (x_var 1) s_nil)) (by decide)))
    (dss_cons (s_expr (c_fn SC.toCtx F_need_most (s_cons (x_var 2) s_nil) (by decide)))
    (dss_one (ds_ret kR_mono (c_tup SC.toCtx (p_cons (DF.toP (df_comp (Ctx.calm SC.toCtx) SC.nd (CompD.mk (own := false) (ow := [("at", 3), ("far", 4)]) (i_enum Z.n_enumerate (c_fn SC.toCtx F_row_by (s_cons (x_var 0) (s_cons (x_var 1) s_nil)) (by decide))) (blkOk_by rfl) (fun s1 H1 c1 l1 f1 => (g_tup (Ctx.calm (ctx_c SC.toCtx s1 H1 c1 l1 f1)) (g_cons (g_nm 3 SC.nd) (g_cons (g_nm 4 SC.nd) g_nil)))) (fun s1 H1 c1 l1 f1 => (dts_one (t_cmp (o_le (ctx_c SC.toCtx s1 H1 c1 l1 f1)) (DE.toP (x_var 4)) (DE.toP (x_var 2))))) (fun s1 H1 c1 l1 f1 => (x_var 3)) (fun _ => rfl) (by decide) rfl))) p_nil) Z.n_tuple)))))
/-! ### _law_begun -/
theorem sc__law_begun : FnScope ["script", "whole", "cells", "cell"] ["script"] (defScope st__law_begun) := ⟨rfl, rfl, rfl, by decide +kernel, rfl, by decide +kernel, by decide +kernel⟩
def b__law_begun : MS :=
  (mSeq (mPar 1 2 false true (mLit (.int 0)) (mLst mNil))
    (mSeq (mFor (mIter (mVar 0)) (.nm 3) (mIf (mTru (mCall (isiC excs) (mCons (mVar 3) (mCons (mLit (.ty "int")) mNil)))) (mSeq (mIf (mTru (mOp2 geD (mVar 3) (mOp2 powD (mLit (.int 10)) (mLit (.int 18))))) (mSet 1 (mOp2 addD (mOp2 mulD (mVar 1) (mOp2 addD (mOp2 subD (mVar 3) (mOp2 powD (mLit (.int 10)) (mLit (.int 18)))) (mLit (.int 1)))) (mOp2 subD (mVar 3) (mOp2 powD (mLit (.int 10)) (mLit (.int 18)))))) mSkip)
    (mOwn 2 appD (mVar 3))) mSkip))
    (mFrz 2 (mRet (mDict [[119, 104, 111, 108, 101], [99, 101, 108, 108, 115], [99, 111, 117, 110, 116]] (mCons (mVar 1) (mCons (mVar 2) (mCons (mLit (.int 0)) mNil))))))))
def f__law_begun : FD := mkFF 1 4 b__law_begun
theorem fd__law_begun (Z : Fax K mg)  : FnD P w K mg base T 1 "_law_begun" ["script"] (kF K mg) [] f__law_begun :=
  fnD_atF (k := 0) Z.d__law_begun Z.m__law_begun sc__law_begun (fun _ _ _ _ _ _ us h => match us, h with | [_], _ => rfl) (fun q hq => by simp at hq) fun A outer s H E g0 SC => by
    exact (dss_cons (s_par 1 2 (o1 := false) (o2 := true) SC de_int (df_lst s_nil))
    (dss_cons (s_for SC (di_seq (x_var 0)) (g_nm 3 SC.nd) (dss_one (ds_if (t_val (DE.toP (c_isi SC.toCtx (p_cons (DE.toP (x_var 3)) (p_cons (DE.toP (x_ty Z.n_int bt_int)) p_nil)) excs Z.k_isi Z.n_isinstance))) (dss_cons (ds_if (t_cmp (o_ge SC.toCtx) (DE.toP (x_var 3)) (DE.toP (x_pow (DE.toP de_int) (DE.toP de_int)))) (dss_one (s_set 1 SC (x_add (DE.toP (x_mul (DE.toP (x_var 1)) (DE.toP (x_add (DE.toP (x_sub (DE.toP (x_var 3)) (DE.toP (x_pow (DE.toP de_int) (DE.toP de_int))))) (DE.toP de_int))))) (DE.toP (x_sub (DE.toP (x_var 3)) (DE.toP (x_pow (DE.toP de_int) (DE.toP de_int)))))))) dss_nil)
    (dss_one (s_app 2 (x_var 3)))) dss_nil)))
    (dss_one (ds_frz (i := 2) (ds_ret kF_mono (df_dict (pd_cons (x_var 1) (pd_cons (x_var 2) (pd_cons de_int pd_nil))) rfl rfl (by simp) (by decide)))))))
/-! ### _law_mixed -/
theorem sc__law_mixed : FnScope ["draw", "found", "cell"] ["draw"] (defScope st__law_mixed) := ⟨rfl, rfl, rfl, by decide +kernel, rfl, by decide +kernel, by decide +kernel⟩
def b__law_mixed : MS :=
  (mSeq (mSubC (mVar 0) (mLit (.str [99, 111, 117, 110, 116])) (mOp2 addD (mIdx (mVar 0) (mLit (.str [99, 111, 117, 110, 116]))) (mLit (.int 1))))
    (mSeq (mSet 1 (mOp2 addD (mLit (.int 1469598103934665603)) (mOp2 mulD (mLit (.int 97)) (mIdx (mVar 0) (mLit (.str [99, 111, 117, 110, 116]))))))
    (mSeq (mFor (mIter (mOp2 addD (mIdx (mVar 0) (mLit (.str [99, 101, 108, 108, 115]))) (mLst (mCons (mIdx (mVar 0) (mLit (.str [99, 111, 117, 110, 116]))) mNil)))) (.nm 2) (mSeq (mSet 1 (mOp2 modD (mCall intD (mCons (mOp2 mulD (mOp2 addD (mVar 1) (mVar 2)) (mLit (.int 1099511628211))) mNil)) (mOp2 subD (mOp2 powD (mLit (.int 2)) (mLit (.int 61))) (mLit (.int 1)))))
    (mSet 1 (mOp2 addD (mVar 1) (mOp2 fdivD (mVar 1) (mOp2 powD (mLit (.int 2)) (mLit (.int 17))))))))
    (mRet (mVar 1)))))
def f__law_mixed : FD := mkF 1 3 b__law_mixed
theorem fd__law_mixed (Z : Fax K mg)  : FnD P w K mg base T 1 "_law_mixed" ["draw"] (kR K mg) [] f__law_mixed :=
  fnD_at (k := 0) Z.d__law_mixed Z.m__law_mixed sc__law_mixed (fun _ _ _ _ _ _ us h => match us, h with | [_], _ => rfl) kR_mono (fun _ _ _ => rfl) (fun q hq => by simp at hq) fun A outer s H E g0 SC => by
    exact (dss_cons (s_subC SC (x_var 0) de_str (x_add (DE.toP (x_ix SC.toCtx (DE.toP (x_var 0)) (DE.toP de_str))) (DE.toP de_int)))
    (dss_cons (s_set 1 SC (x_add (DE.toP de_int) (DE.toP (x_mul (DE.toP de_int) (DE.toP (x_ix SC.toCtx (DE.toP (x_var 0)) (DE.toP de_str)))))))
    (dss_cons (s_for SC (di_seq (x_add (DE.toP (x_ix SC.toCtx (DE.toP (x_var 0)) (DE.toP de_str))) (DF.toP (df_lst (s_cons (x_ix SC.toCtx (DE.toP (x_var 0)) (DE.toP de_str)) s_nil))))) (g_nm 2 SC.nd) (dss_cons (s_set 1 SC (x_mod (DE.toP (c_int SC.toCtx (p_cons (DE.toP (x_mul (DE.toP (x_add (DE.toP (x_var 1)) (DE.toP (x_var 2)))) (DE.toP de_int))) p_nil) Z.n_int)) (DE.toP (x_sub (DE.toP (x_pow (DE.toP de_int) (DE.toP de_int))) (DE.toP de_int)))))
    (dss_one (s_set 1 SC (x_add (DE.toP (x_var 1)) (DE.toP (x_fdiv (DE.toP (x_var 1)) (DE.toP (x_pow (DE.toP de_int) (DE.toP de_int))))))))))
    (dss_one (ds_ret kR_mono (x_var 1))))))
/-! ### _law_take -/
theorem sc__law_take : FnScope ["draw", "amount", "found"] ["draw", "amount"] (defScope st__law_take) := ⟨rfl, rfl, rfl, by decide +kernel, rfl, by decide +kernel, by decide +kernel⟩
noncomputable def b__law_take : MS :=
  (mSeq (mIf (mTru (mOp2 ltD (mVar 1) (mLit (.int 2)))) (mRet (mLit (.int 0))) mSkip)
    (mSeq (mIf (mTru (mOp2 gtD (mIdx (mVar 0) (mLit (.str [119, 104, 111, 108, 101]))) (mLit (.int 0)))) (mSeq (mSet 2 (mOp2 modD (mCall intD (mCons (mIdx (mVar 0) (mLit (.str [119, 104, 111, 108, 101]))) mNil)) (mVar 1)))
    (mSeq (mSubC (mVar 0) (mLit (.str [119, 104, 111, 108, 101])) (mOp2 fdivD (mIdx (mVar 0) (mLit (.str [119, 104, 111, 108, 101]))) (mVar 1)))
    (mRet (mVar 2)))) mSkip)
    (mSeq (mSet 2 (mFn f__law_mixed (mCons (mVar 0) mNil)))
    (mSeq (mWhile (mAndT (mTru (mOp2 gtD (mVar 1) (mOp2 powD (mLit (.int 2)) (mLit (.int 50))))) (mTru (mOp2 ltD (mVar 2) (mOp2 mulD (mVar 1) (mVar 1))))) (mSet 2 (mOp2 addD (mOp2 mulD (mVar 2) (mOp2 powD (mLit (.int 2)) (mLit (.int 61)))) (mFn f__law_mixed (mCons (mVar 0) mNil)))))
    (mRet (mOp2 modD (mCall intD (mCons (mOp2 fdivD (mVar 2) (mLit (.int 1024))) mNil)) (mVar 1)))))))
noncomputable def f__law_take : FD := mkF 2 3 b__law_take
theorem fd__law_take (Z : Fax K mg) (F__law_mixed : FnD P w K mg base T 1 "_law_mixed" ["draw"] (kR K mg) [] f__law_mixed) : FnD P w K mg base T 2 "_law_take" ["draw", "amount"] (kR K mg) [] f__law_take :=
  fnD_at (k := 1) Z.d__law_take Z.m__law_take sc__law_take (fun _ _ _ _ _ _ us h => match us, h with | [_, _], _ => rfl) kR_mono (fun _ _ _ => rfl) (fun q hq => by simp at hq) fun A outer s H E g0 SC => by
    exact (dss_cons (ds_if (t_cmp (o_lt SC.toCtx) (DE.toP (x_var 1)) (DE.toP de_int)) (dss_one (ds_ret kR_mono de_int)) dss_nil)
    (dss_cons (ds_if (t_cmp (o_gt SC.toCtx) (DE.toP (x_ix SC.toCtx (DE.toP (x_var 0)) (DE.toP de_str))) (DE.toP de_int)) (dss_cons (s_set 2 SC (x_mod (DE.toP (c_int SC.toCtx (p_cons (DE.toP (x_ix SC.toCtx (DE.toP (x_var 0)) (DE.toP de_str))) p_nil) Z.n_int)) (DE.toP (x_var 1))))
    (dss_cons (s_subC SC (x_var 0) de_str (x_fdiv (DE.toP (x_ix SC.toCtx (DE.toP (x_var 0)) (DE.toP de_str))) (DE.toP (x_var 1))))
    (dss_one (ds_ret kR_mono (x_var 2))))) dss_nil)
    (dss_cons (s_set 2 SC (c_fn SC.toCtx F__law_mixed (s_cons (x_var 0) s_nil) (by decide)))
    (dss_cons (ds_while SC (PW.pt (dw_and (t_cmp (o_gt SC.toCtx) (DE.toP (x_var 1)) (DE.toP (x_pow (DE.toP de_int) (DE.toP de_int)))) (dw_and1 (t_cmp (o_lt SC.toCtx) (DE.toP (x_var 2)) (DE.toP (x_mul (DE.toP (x_var 1)) (DE.toP (x_var 1)))))))) (dss_one (s_set 2 SC (x_add (DE.toP (x_mul (DE.toP (x_var 2)) (DE.toP (x_pow (DE.toP de_int) (DE.toP de_int))))) (DE.toP (c_fn SC.toCtx F__law_mixed (s_cons (x_var 0) s_nil) (by decide)))))))
    (dss_one (ds_ret kR_mono (x_mod (DE.toP (c_int SC.toCtx (p_cons (DE.toP (x_fdiv (DE.toP (x_var 2)) (DE.toP de_int))) p_nil) Z.n_int)) (DE.toP (x_var 1)))))))))
/-! ### _law_pick -/
theorem sc__law_pick : FnScope ["draw", "items"] ["draw", "items"] (defScope st__law_pick) := ⟨rfl, rfl, rfl, by decide +kernel, rfl, by decide +kernel, by decide +kernel⟩
noncomputable def b__law_pick : MS :=
  (mRet (mIdx (mVar 1) (mFn f__law_take (mCons (mVar 0) (mCons (mCall lenD (mCons (mVar 1) mNil)) mNil)))))
noncomputable def f__law_pick : FD := mkF 2 2 b__law_pick
theorem fd__law_pick (Z : Fax K mg) (F__law_take : FnD P w K mg base T 2 "_law_take" ["draw", "amount"] (kR K mg) [] f__law_take) : FnD P w K mg base T 3 "_law_pick" ["draw", "items"] (kR K mg) [] f__law_pick :=
  fnD_at (k := 2) Z.d__law_pick Z.m__law_pick sc__law_pick (fun _ _ _ _ _ _ us h => match us, h with | [_, _], _ => rfl) kR_mono (fun _ _ _ => rfl) (fun q hq => by simp at hq) fun A outer s H E g0 SC => by
    exact (dss_one (ds_ret kR_mono (x_ix SC.toCtx (DE.toP (x_var 1)) (DE.toP (c_fn SC.toCtx F__law_take (s_cons (x_var 0) (s_cons (c_len SC.toCtx (p_cons (DE.toP (x_var 1)) p_nil) Z.n_len) s_nil)) (by decide))))))
/-! ### _law_kinds -/
theorem sc__law_kinds : FnScope ["thing", "item", "key"] ["thing"] (defScope st__law_kinds) := ⟨rfl, rfl, rfl, by decide +kernel, rfl, by decide +kernel, by decide +kernel⟩
def b__law_kinds (fr : FD) : MS :=
  (mSeq (mIf (mTru (mCall (isiC excs) (mCons (mVar 0) (mCons (mLit (.ty "dict")) mNil)))) (mRet (mTup (mCons (mLit (.str [100, 105, 99, 116])) (mCons (mCall tupD (mCons mBad mNil)) mNil)))) mSkip)
    (mSeq (mIf (mOrT (mTru (mCall (isiC excs) (mCons (mVar 0) (mCons (mLit (.ty "tuple")) mNil)))) (mTru (mCall (isiC excs) (mCons (mVar 0) (mCons (mLit (.ty "list")) mNil))))) (mRet (mTup (mCons (mIte (mTru (mCall (isiC excs) (mCons (mVar 0) (mCons (mLit (.ty "list")) mNil)))) (mLit (.str [108, 105, 115, 116])) (mLit (.str [116, 117, 112, 108, 101]))) (mCons (mCall tupD (mCons (mComp (mIter (mVar 0)) (.nm 1) [1] mYes (mFn fr (mCons (mVar 1) mNil))) mNil)) mNil)))) mSkip)
    (mRet (mTup (mCons (mIte (mTru (mCall (isiC excs) (mCons (mVar 0) (mCons (mLit (.ty "bool")) mNil)))) (mLit (.str [116, 114, 117, 116, 104])) (mLit (.str [112, 108, 97, 105, 110]))) (mCons (mVar 0) mNil))))))
def f__law_kinds : Nat → FD
  | 0 => fun _ _ => .bad
  | n + 1 => mkF 1 3 (b__law_kinds (f__law_kinds n))
theorem fd__law_kinds (Z : Fax K mg)  : ∀ n : Nat, FnD P w K mg base T (1 + n) "_law_kinds" ["thing"] (kR K mg) [] (f__law_kinds n)
  | 0 => fnD_zero Z.d__law_kinds Z.m__law_kinds sc__law_kinds (fun _ _ _ _ _ _ us h => match us, h with | [_], _ => rfl) (fun q hq => by simp at hq)
  | n + 1 => fnD_at (k := 1 + n) Z.d__law_kinds Z.m__law_kinds sc__law_kinds (fun _ _ _ _ _ _ us h => match us, h with | [_], _ => rfl) kR_mono (fun _ _ _ => rfl) (fun q hq => by simp at hq) fun A outer s H E g0 SC => by
    have IH := fd__law_kinds Z  n
    exact (dss_cons (ds_if (t_val (DE.toP (c_isi SC.toCtx (p_cons (DE.toP (x_var 0)) (p_cons (DE.toP (x_ty Z.n_dict bt_dict)) p_nil)) excs Z.k_isi Z.n_isinstance))) (dss_one (ds_ret kR_mono (de_tup (s_cons de_str (s_cons (c_tup SC.toCtx (p_cons (DE.toP pe_bad) p_nil) Z.n_tuple) s_nil))))) dss_nil)
    (dss_cons (ds_if (PW.pt (dw_or (t_val (DE.toP (c_isi SC.toCtx (p_cons (DE.toP (x_var 0)) (p_cons (DE.toP (x_ty Z.n_tuple bt_tup)) p_nil)) excs Z.k_isi Z.n_isinstance))) (dw_or1 (t_val (DE.toP (c_isi SC.toCtx (p_cons (DE.toP (x_var 0)) (p_cons (DE.toP (x_ty Z.n_list bt_lst)) p_nil)) excs Z.k_isi Z.n_isinstance)))))) (dss_one (ds_ret kR_mono (de_tup (s_cons (pe_ite kR_mono (t_val (DE.toP (c_isi SC.toCtx (p_cons (DE.toP (x_var 0)) (p_cons (DE.toP (x_ty Z.n_list bt_lst)) p_nil)) excs Z.k_isi Z.n_isinstance))) de_str de_str) (s_cons (c_tup SC.toCtx (p_cons (DF.toP (df_comp (Ctx.calm SC.toCtx) SC.nd (CompD.mk (own := false) (ow := [("item", 1)]) (di_seq (x_var 0)) (blkOk_by rfl) (fun s1 H1 c1 l1 f1 => (g_nm 1 SC.nd)) (fun s1 H1 c1 l1 f1 => dts_nil) (fun s1 H1 c1 l1 f1 => (c_fn (ctx_c SC.toCtx s1 H1 c1 l1 f1) IH (s_cons (x_var 1) s_nil) (by omega))) (fun _ => rfl) (by decide) rfl))) p_nil) Z.n_tuple) s_nil))))) dss_nil)
    (dss_one (ds_ret kR_mono (de_tup (s_cons (pe_ite kR_mono (t_val (DE.toP (c_isi SC.toCtx (p_cons (DE.toP (x_var 0)) (p_cons (DE.toP (x_ty Z.n_bool bt_bool)) p_nil)) excs Z.k_isi Z.n_isinstance))) de_str de_str) (s_cons (x_var 0) s_nil)))))))
/-! ### _law_says -/
theorem sc__law_says : FnScope ["told", "due"] ["told", "due"] (defScope st__law_says) := ⟨rfl, rfl, rfl, by decide +kernel, rfl, by decide +kernel, by decide +kernel⟩
def b__law_says : MS :=
  (mRet (mOp2 eqD (mFn (f__law_kinds 8) (mCons (mVar 0) mNil)) (mFn (f__law_kinds 8) (mCons (mVar 1) mNil))))
def f__law_says : FD := mkF 2 2 b__law_says
theorem fd__law_says (Z : Fax K mg) (F__law_kinds : FnD P w K mg base T 9 "_law_kinds" ["thing"] (kR K mg) [] (f__law_kinds 8)) : FnD P w K mg base T 10 "_law_says" ["told", "due"] (kR K mg) [] f__law_says :=
  fnD_at (k := 9) Z.d__law_says Z.m__law_says sc__law_says (fun _ _ _ _ _ _ us h => match us, h with | [_, _], _ => rfl) kR_mono (fun _ _ _ => rfl) (fun q hq => by simp at hq) fun A outer s H E g0 SC => by
    exact (dss_one (ds_ret kR_mono (x_cmp (o_eq SC.toCtx) (DE.toP (c_fn SC.toCtx F__law_kinds (s_cons (x_var 0) s_nil) (by decide))) (DE.toP (c_fn SC.toCtx F__law_kinds (s_cons (x_var 1) s_nil) (by decide))))))
/-! ### _law_number -/
theorem sc__law_number : FnScope ["draw", "low", "high"] ["draw", "low", "high"] (defScope st__law_number) := ⟨rfl, rfl, rfl, by decide +kernel, rfl, by decide +kernel, by decide +kernel⟩
noncomputable def b__law_number : MS :=
  (mRet (mFn f__law_pick (mCons (mVar 0) (mCons (mLst (mCons (mLit .non) (mCons (mOp2 subD (mVar 1) (mLit (.int 1))) (mCons (mOp2 addD (mVar 2) (mLit (.int 1))) (mCons (mLit (.str [49])) (mCons (mLit (.bl true)) (mCons (mTup (mCons (mVar 1) mNil)) (mCons (mLst mNil) (mCons (mOp2 powD (mLit (.int 10)) (mLit (.int 30))) mNil))))))))) mNil))))
noncomputable def f__law_number : FD := mkF 3 3 b__law_number
theorem fd__law_number (Z : Fax K mg) (F__law_pick : FnD P w K mg base T 3 "_law_pick" ["draw", "items"] (kR K mg) [] f__law_pick) : FnD P w K mg base T 4 "_law_number" ["draw", "low", "high"] (kR K mg) [] f__law_number :=
  fnD_at (k := 3) Z.d__law_number Z.m__law_number sc__law_number (fun _ _ _ _ _ _ us h => match us, h with | [_, _, _], _ => rfl) kR_mono (fun _ _ _ => rfl) (fun q hq => by simp at hq) fun A outer s H E g0 SC => by
    exact (dss_one (ds_ret kR_mono (c_fn SC.toCtx F__law_pick (s_cons (x_var 0) (s_cons (DF.toE (df_lst (s_cons de_non (s_cons (x_sub (DE.toP (x_var 1)) (DE.toP de_int)) (s_cons (x_add (DE.toP (x_var 2)) (DE.toP de_int)) (s_cons de_str (s_cons de_bl (s_cons (de_tup (s_cons (x_var 1) s_nil)) (s_cons (DF.toE (df_lst s_nil)) (s_cons (x_pow (DE.toP de_int) (DE.toP de_int)) s_nil)))))))))) s_nil)) (by decide))))
/-! ### _law_word -/
theorem sc__law_word : FnScope ["draw", "letters", "length", "place"] ["draw", "letters", "length"] (defScope st__law_word) := ⟨rfl, rfl, rfl, by decide +kernel, rfl, by decide +kernel, by decide +kernel⟩
noncomputable def b__law_word : MS :=
  (mRet (mMeth nJoin joinD (mLit (.str [])) (mCons (mComp (mRange1 (mVar 2)) (.nm 3) [3] mYes (mFn f__law_pick (mCons (mVar 0) (mCons (mSlc slcD (mCall lstF2 (mCons (mLit (.str [97, 98, 99, 100, 101, 102])) mNil)) mNoPart (mPart (mVar 1))) mNil)))) mNil)))
noncomputable def f__law_word : FD := mkF 3 4 b__law_word
theorem fd__law_word (Z : Fax K mg) (F__law_pick : FnD P w K mg base T 3 "_law_pick" ["draw", "items"] (kR K mg) [] f__law_pick) : FnD P w K mg base T 4 "_law_word" ["draw", "letters", "length"] (kR K mg) [] f__law_word :=
  fnD_at (k := 3) Z.d__law_word Z.m__law_word sc__law_word (fun _ _ _ _ _ _ us h => match us, h with | [_, _, _], _ => rfl) kR_mono (fun _ _ _ => rfl) (fun q hq => by simp at hq) fun A outer s H E g0 SC => by
    exact (dss_one (ds_ret kR_mono (c_join SC.toCtx (p_cons (DF.toP (df_comp (Ctx.calm SC.toCtx) SC.nd (CompD.mk (own := false) (ow := [("place", 3)]) (i_rng1 Z.n_range (x_var 2)) (blkOk_by rfl) (fun s1 H1 c1 l1 f1 => (g_nm 3 SC.nd)) (fun s1 H1 c1 l1 f1 => dts_nil) (fun s1 H1 c1 l1 f1 => (c_fn (ctx_c SC.toCtx s1 H1 c1 l1 f1) F__law_pick (s_cons (x_var 0) (s_cons (x_sl (DF.toP (c_lst (ctx_c SC.toCtx s1 H1 c1 l1 f1) (p_cons (DE.toP de_str) p_nil) Z.n_list)) do_none (do_some (x_var 1))) s_nil)) (by decide))) (fun _ => rfl) (by decide) rfl))) p_nil) (DE.toP de_str))))
/-! ### _law_near_word -/
theorem sc__law_near_word : FnScope ["draw", "word", "letters", "many", "rows", "lap"] ["draw", "word", "letters", "many"] (defScope st__law_near_word) := ⟨rfl, rfl, rfl, by decide +kernel, rfl, by decide +kernel, by decide +kernel⟩
noncomputable def b__law_near_word : MS :=
  (mSeq (mSetO 4 (mCall lstF2 (mCons (mVar 1) mNil)))
    (mSeq (mFor (mRange1 (mVar 3)) (.nm 5) (mIf (mTru (mOp2 neD (mPeek 4) (mLst mNil))) (mSubO 4 (mFn f__law_take (mCons (mVar 0) (mCons (mCall lenD (mCons (mPeek 4) mNil)) mNil))) (mFn f__law_pick (mCons (mVar 0) (mCons (mSlc slcD (mCall lstF2 (mCons (mLit (.str [97, 98, 99, 100, 101, 102])) mNil)) mNoPart (mPart (mVar 2))) mNil)))) mSkip))
    (mRet (mMeth nJoin joinD (mLit (.str [])) (mCons (mPeek 4) mNil)))))
noncomputable def f__law_near_word : FD := mkF 4 6 b__law_near_word
theorem fd__law_near_word (Z : Fax K mg) (F__law_pick : FnD P w K mg base T 3 "_law_pick" ["draw", "items"] (kR K mg) [] f__law_pick) (F__law_take : FnD P w K mg base T 2 "_law_take" ["draw", "amount"] (kR K mg) [] f__law_take) : FnD P w K mg base T 4 "_law_near_word" ["draw", "word", "letters", "many"] (kR K mg) [] f__law_near_word :=
  fnD_at (k := 3) Z.d__law_near_word Z.m__law_near_word sc__law_near_word (fun _ _ _ _ _ _ us h => match us, h with | [_, _, _, _], _ => rfl) kR_mono (fun _ _ _ => rfl) (fun q hq => by simp at hq) fun A outer s H E g0 SC => by
    exact (dss_cons (s_setO 4 SC (c_lst SC.toCtx (p_cons (DE.toP (x_var 1)) p_nil) Z.n_list))
    (dss_cons (s_for SC (i_rng1 Z.n_range (x_var 3)) (g_nm 5 SC.nd) (dss_one (ds_if (t_cmp (o_ne SC.toCtx) (x_peek 4) (DF.toP (df_lst s_nil))) (dss_one (s_subO 4 SC (c_fn SC.toCtx F__law_take (s_cons (x_var 0) (s_cons (c_len SC.toCtx (p_cons (x_peek 4) p_nil) Z.n_len) s_nil)) (by decide)) (c_fn SC.toCtx F__law_pick (s_cons (x_var 0) (s_cons (x_sl (DF.toP (c_lst SC.toCtx (p_cons (DE.toP de_str) p_nil) Z.n_list)) do_none (do_some (x_var 2))) s_nil)) (by decide)))) dss_nil)))
    (dss_one (ds_ret kR_mono (c_join SC.toCtx (p_cons (x_peek 4) p_nil) (DE.toP de_str))))))
/-! ### _law_lot -/
theorem sc__law_lot : FnScope ["draw", "letters", "length", "most", "many", "way", "middle", "some", "lap"] ["draw", "letters", "length", "most"] (defScope st__law_lot) := ⟨rfl, rfl, rfl, by decide +kernel, rfl, by decide +kernel, by decide +kernel⟩
noncomputable def b__law_lot : MS :=
  (mSeq (mPar 4 5 false false (mOp2 addD (mLit (.int 1)) (mFn f__law_take (mCons (mVar 0) (mCons (mVar 3) mNil)))) (mFn f__law_take (mCons (mVar 0) (mCons (mLit (.int 4)) mNil))))
    (mSeq (mSet 6 (mFn f__law_word (mCons (mVar 0) (mCons (mVar 1) (mCons (mVar 2) mNil)))))
    (mSeq (mIf (mTru (mOp2 eqD (mVar 5) (mLit (.int 0)))) (mRet (mCall tupD (mCons (mComp (mRange1 (mVar 4)) (.nm 8) [8] mYes (mFn f__law_word (mCons (mVar 0) (mCons (mVar 1) (mCons (mVar 2) mNil))))) mNil))) mSkip)
    (mSeq (mIf (mTru (mOp2 eqD (mVar 5) (mLit (.int 1)))) (mSeq (mSet 7 (mLst (mCons (mVar 6) (mCons (mFn f__law_word (mCons (mVar 0) (mCons (mVar 1) (mCons (mVar 2) mNil)))) mNil))))
    (mRet (mCall tupD (mCons (mComp (mRange1 (mVar 4)) (.nm 8) [8] mYes (mFn f__law_near_word (mCons (mVar 0) (mCons (mFn f__law_pick (mCons (mVar 0) (mCons (mVar 7) mNil))) (mCons (mVar 1) (mCons (mFn f__law_take (mCons (mVar 0) (mCons (mLit (.int 3)) mNil))) mNil)))))) mNil)))) mSkip)
    (mRet (mCall tupD (mCons (mComp (mRange1 (mVar 4)) (.nm 8) [8] mYes (mFn f__law_near_word (mCons (mVar 0) (mCons (mVar 6) (mCons (mVar 1) (mCons (mFn f__law_take (mCons (mVar 0) (mCons (mOp2 addD (mVar 2) (mLit (.int 1))) mNil))) mNil)))))) mNil)))))))
noncomputable def f__law_lot : FD := mkF 4 9 b__law_lot
theorem fd__law_lot (Z : Fax K mg) (F__law_word : FnD P w K mg base T 4 "_law_word" ["draw", "letters", "length"] (kR K mg) [] f__law_word) (F__law_take : FnD P w K mg base T 2 "_law_take" ["draw", "amount"] (kR K mg) [] f__law_take) (F__law_near_word : FnD P w K mg base T 4 "_law_near_word" ["draw", "word", "letters", "many"] (kR K mg) [] f__law_near_word) (F__law_pick : FnD P w K mg base T 3 "_law_pick" ["draw", "items"] (kR K mg) [] f__law_pick) : FnD P w K mg base T 5 "_law_lot" ["draw", "letters", "length", "most"] (kR K mg) [] f__law_lot :=
  fnD_at (k := 4) Z.d__law_lot Z.m__law_lot sc__law_lot (fun _ _ _ _ _ _ us h => match us, h with | [_, _, _, _], _ => rfl) kR_mono (fun _ _ _ => rfl) (fun q hq => by simp at hq) fun A outer s H E g0 SC => by
    exact (dss_cons (s_par 4 5 (o1 := false) (o2 := false) SC (x_add (DE.toP de_int) (DE.toP (c_fn SC.toCtx F__law_take (s_cons (x_var 0) (s_cons (x_var 3) s_nil)) (by decide)))) (c_fn SC.toCtx F__law_take (s_cons (x_var 0) (s_cons de_int s_nil)) (by decide)))
    (dss_cons (s_set 6 SC (c_fn SC.toCtx F__law_word (s_cons (x_var 0) (s_cons (x_var 1) (s_cons (x_var 2) s_nil))) (by decide)))
    (dss_cons (ds_if (t_cmp (o_eq SC.toCtx) (DE.toP (x_var 5)) (DE.toP de_int)) (dss_one (ds_ret kR_mono (c_tup SC.toCtx (p_cons (DF.toP (df_comp (Ctx.calm SC.toCtx) SC.nd (CompD.mk (own := false) (ow := [("lap", 8)]) (i_rng1 Z.n_range (x_var 4)) (blkOk_by rfl) (fun s3 H3 c3 l3 f3 => (g_nm 8 SC.nd)) (fun s3 H3 c3 l3 f3 => dts_nil) (fun s3 H3 c3 l3 f3 => (c_fn (ctx_c SC.toCtx s3 H3 c3 l3 f3) F__law_word (s_cons (x_var 0) (s_cons (x_var 1) (s_cons (x_var 2) s_nil))) (by decide))) (fun _ => rfl) (by decide) rfl))) p_nil) Z.n_tuple))) dss_nil)
    (dss_cons (ds_if (t_cmp (o_eq SC.toCtx) (DE.toP (x_var 5)) (DE.toP de_int)) (dss_cons (s_set 7 SC (DF.toE (df_lst (s_cons (x_var 6) (s_cons (c_fn SC.toCtx F__law_word (s_cons (x_var 0) (s_cons (x_var 1) (s_cons (x_var 2) s_nil))) (by decide)) s_nil)))))
    (dss_one (ds_ret kR_mono (c_tup SC.toCtx (p_cons (DF.toP (df_comp (Ctx.calm SC.toCtx) SC.nd (CompD.mk (own := false) (ow := [("lap", 8)]) (i_rng1 Z.n_range (x_var 4)) (blkOk_by rfl) (fun s2 H2 c2 l2 f2 => (g_nm 8 SC.nd)) (fun s2 H2 c2 l2 f2 => dts_nil) (fun s2 H2 c2 l2 f2 => (c_fn (ctx_c SC.toCtx s2 H2 c2 l2 f2) F__law_near_word (s_cons (x_var 0) (s_cons (c_fn (ctx_c SC.toCtx s2 H2 c2 l2 f2) F__law_pick (s_cons (x_var 0) (s_cons (x_var 7) s_nil)) (by decide)) (s_cons (x_var 1) (s_cons (c_fn (ctx_c SC.toCtx s2 H2 c2 l2 f2) F__law_take (s_cons (x_var 0) (s_cons de_int s_nil)) (by decide)) s_nil)))) (by decide))) (fun _ => rfl) (by decide) rfl))) p_nil) Z.n_tuple)))) dss_nil)
    (dss_one (ds_ret kR_mono (c_tup SC.toCtx (p_cons (DF.toP (df_comp (Ctx.calm SC.toCtx) SC.nd (CompD.mk (own := false) (ow := [("lap", 8)]) (i_rng1 Z.n_range (x_var 4)) (blkOk_by rfl) (fun s1 H1 c1 l1 f1 => (g_nm 8 SC.nd)) (fun s1 H1 c1 l1 f1 => dts_nil) (fun s1 H1 c1 l1 f1 => (c_fn (ctx_c SC.toCtx s1 H1 c1 l1 f1) F__law_near_word (s_cons (x_var 0) (s_cons (x_var 6) (s_cons (x_var 1) (s_cons (c_fn (ctx_c SC.toCtx s1 H1 c1 l1 f1) F__law_take (s_cons (x_var 0) (s_cons (x_add (DE.toP (x_var 2)) (DE.toP de_int)) s_nil)) (by decide)) s_nil)))) (by decide))) (fun _ => rfl) (by decide) rfl))) p_nil) Z.n_tuple)))))))
/-! ### _law_any_lot -/
theorem sc__law_any_lot : FnScope ["draw", "length"] ["draw"] (defScope st__law_any_lot) := ⟨rfl, rfl, rfl, by decide +kernel, rfl, by decide +kernel, by decide +kernel⟩
noncomputable def b__law_any_lot : MS :=
  (mSeq (mSet 1 (mFn f__law_pick (mCons (mVar 0) (mCons (mLst (mCons (mLit (.int 0)) (mCons (mLit (.int 1)) (mCons (mLit (.int 2)) (mCons (mLit (.int 3)) (mCons (mLit (.int 4)) (mCons (mLit (.int 5)) (mCons (mLit (.int 6)) (mCons (mLit (.int 24)) (mCons (mFn f__law_take (mCons (mVar 0) (mCons (mLit (.int 25)) mNil))) mNil)))))))))) mNil))))
    (mRet (mFn f__law_lot (mCons (mVar 0) (mCons (mFn f__law_pick (mCons (mVar 0) (mCons (mLst (mCons (mLit (.int 1)) (mCons (mLit (.int 2)) (mCons (mLit (.int 2)) (mCons (mLit (.int 3)) (mCons (mLit (.int 6)) mNil)))))) mNil))) (mCons (mVar 1) (mCons (mFn f__law_pick (mCons (mVar 0) (mCons (mLst (mCons (mLit (.int 2)) (mCons (mLit (.int 4)) (mCons (mLit (.int 6)) (mCons (mLit (.int 20)) mNil))))) mNil))) mNil)))))))
noncomputable def f__law_any_lot : FD := mkF 1 2 b__law_any_lot
theorem fd__law_any_lot (Z : Fax K mg) (F__law_pick : FnD P w K mg base T 3 "_law_pick" ["draw", "items"] (kR K mg) [] f__law_pick) (F__law_lot : FnD P w K mg base T 5 "_law_lot" ["draw", "letters", "length", "most"] (kR K mg) [] f__law_lot) (F__law_take : FnD P w K mg base T 2 "_law_take" ["draw", "amount"] (kR K mg) [] f__law_take) : FnD P w K mg base T 6 "_law_any_lot" ["draw"] (kR K mg) [] f__law_any_lot :=
  fnD_at (k := 5) Z.d__law_any_lot Z.m__law_any_lot sc__law_any_lot (fun _ _ _ _ _ _ us h => match us, h with | [_], _ => rfl) kR_mono (fun _ _ _ => rfl) (fun q hq => by simp at hq) fun A outer s H E g0 SC => by
    exact (dss_cons (s_set 1 SC (c_fn SC.toCtx F__law_pick (s_cons (x_var 0) (s_cons (DF.toE (df_lst (s_cons de_int (s_cons de_int (s_cons de_int (s_cons de_int (s_cons de_int (s_cons de_int (s_cons de_int (s_cons de_int (s_cons (c_fn SC.toCtx F__law_take (s_cons (x_var 0) (s_cons de_int s_nil)) (by decide)) s_nil))))))))))) s_nil)) (by decide)))
    (dss_one (ds_ret kR_mono (c_fn SC.toCtx F__law_lot (s_cons (x_var 0) (s_cons (c_fn SC.toCtx F__law_pick (s_cons (x_var 0) (s_cons (DF.toE (df_lst (s_cons de_int (s_cons de_int (s_cons de_int (s_cons de_int (s_cons de_int s_nil))))))) s_nil)) (by decide)) (s_cons (x_var 1) (s_cons (c_fn SC.toCtx F__law_pick (s_cons (x_var 0) (s_cons (DF.toE (df_lst (s_cons de_int (s_cons de_int (s_cons de_int (s_cons de_int s_nil)))))) s_nil)) (by decide)) s_nil)))) (by decide)))))
/-! ### _law_no_lot -/
theorem sc__law_no_lot : FnScope ["draw"] ["draw"] (defScope st__law_no_lot) := ⟨rfl, rfl, rfl, by decide +kernel, rfl, by decide +kernel, by decide +kernel⟩
noncomputable def b__law_no_lot : MS :=
  (mRet (mFn f__law_pick (mCons (mVar 0) (mCons (mLst (mCons (mLit .non) (mCons (mTup mNil) (mCons (mLst (mCons (mLit (.str [97])) mNil)) (mCons (mTup (mCons (mLit (.str [97])) (mCons (mLit (.str [98, 98])) mNil))) (mCons (mTup (mCons (mLit (.str [103])) mNil)) (mCons (mOp2 mulD (mTup (mCons (mLit (.str [97])) mNil)) (mLit (.int 21))) (mCons (mLit (.str [97, 98])) (mCons (mTup (mCons (mLit (.str [97])) (mCons (mLit .non) mNil))) (mCons (mTup (mCons (mOp2 mulD (mLit (.str [97])) (mLit (.int 25))) mNil)) (mCons (mTup (mCons (mLit (.int 1)) mNil)) mNil))))))))))) mNil))))
noncomputable def f__law_no_lot : FD := mkF 1 1 b__law_no_lot
theorem fd__law_no_lot (Z : Fax K mg) (F__law_pick : FnD P w K mg base T 3 "_law_pick" ["draw", "items"] (kR K mg) [] f__law_pick) : FnD P w K mg base T 4 "_law_no_lot" ["draw"] (kR K mg) [] f__law_no_lot :=
  fnD_at (k := 3) Z.d__law_no_lot Z.m__law_no_lot sc__law_no_lot (fun _ _ _ _ _ _ us h => match us, h with | [_], _ => rfl) kR_mono (fun _ _ _ => rfl) (fun q hq => by simp at hq) fun A outer s H E g0 SC => by
    exact (dss_one (ds_ret kR_mono (c_fn SC.toCtx F__law_pick (s_cons (x_var 0) (s_cons (DF.toE (df_lst (s_cons de_non (s_cons (de_tup s_nil) (s_cons (DF.toE (df_lst (s_cons de_str s_nil))) (s_cons (de_tup (s_cons de_str (s_cons de_str s_nil))) (s_cons (de_tup (s_cons de_str s_nil)) (s_cons (x_mul (DE.toP (de_tup (s_cons de_str s_nil))) (DE.toP de_int)) (s_cons de_str (s_cons (de_tup (s_cons de_str (s_cons de_non s_nil))) (s_cons (de_tup (s_cons (x_mul (DE.toP de_str) (DE.toP de_int)) s_nil)) (s_cons (de_tup (s_cons de_int s_nil)) s_nil)))))))))))) s_nil)) (by decide))))
/-! ### _law_far -/
theorem sc__law_far : FnScope ["one", "other", "first", "second"] ["one", "other"] (defScope st__law_far) := ⟨rfl, rfl, rfl, by decide +kernel, rfl, by decide +kernel, by decide +kernel⟩
def b__law_far : MS :=
  (mRet (mCall sumD (mCons (mComp (mZip (mVar 0) (mVar 1)) (.tp [(.nm 2), (.nm 3)]) [2, 3] (mTru (mOp2 neD (mVar 2) (mVar 3))) (mLit (.int 1))) mNil)))
def f__law_far : FD := mkF 2 4 b__law_far
theorem fd__law_far (Z : Fax K mg)  : FnD P w K mg base T 1 "_law_far" ["one", "other"] (kR K mg) [] f__law_far :=
  fnD_at (k := 0) Z.d__law_far Z.m__law_far sc__law_far (fun _ _ _ _ _ _ us h => match us, h with | [_, _], _ => rfl) kR_mono (fun _ _ _ => rfl) (fun q hq => by simp at hq) fun A outer s H E g0 SC => by
    exact (dss_one (ds_ret kR_mono (c_sum SC.toCtx (p_cons (DF.toP (df_comp (Ctx.calm SC.toCtx) SC.nd (CompD.mk (own := false) (ow := [("first", 2), ("second", 3)]) (i_zip Z.n_zip (x_var 0) (x_var 1)) (blkOk_by rfl) (fun s1 H1 c1 l1 f1 => (g_tup (Ctx.calm (ctx_c SC.toCtx s1 H1 c1 l1 f1)) (g_cons (g_nm 2 SC.nd) (g_cons (g_nm 3 SC.nd) g_nil)))) (fun s1 H1 c1 l1 f1 => (dts_one (t_cmp (o_ne (ctx_c SC.toCtx s1 H1 c1 l1 f1)) (DE.toP (x_var 2)) (DE.toP (x_var 3))))) (fun s1 H1 c1 l1 f1 => de_int) (fun _ => rfl) (by decide) rfl))) p_nil) Z.n_sum)))
/-! ### _law_row -/
theorem sc__law_row : FnScope ["lot", "word", "late"] ["lot", "word"] (defScope st__law_row) := ⟨rfl, rfl, rfl, by decide +kernel, rfl, by decide +kernel, by decide +kernel⟩
def b__law_row : MS :=
  (mRet (mComp (mIter (mVar 0)) (.nm 2) [2] mYes (mFn f__law_far (mCons (mVar 1) (mCons (mVar 2) mNil)))))
def f__law_row : FD := mkF 2 3 b__law_row
theorem fd__law_row (Z : Fax K mg) (F__law_far : FnD P w K mg base T 1 "_law_far" ["one", "other"] (kR K mg) [] f__law_far) : FnD P w K mg base T 2 "_law_row" ["lot", "word"] (kR K mg) [] f__law_row :=
  fnD_at (k := 1) Z.d__law_row Z.m__law_row sc__law_row (fun _ _ _ _ _ _ us h => match us, h with | [_, _], _ => rfl) kR_mono (fun _ _ _ => rfl) (fun q hq => by simp at hq) fun A outer s H E g0 SC => by
    exact (dss_one (ds_ret kR_mono (DF.toE (df_comp (Ctx.calm SC.toCtx) SC.nd (CompD.mk (own := false) (ow := [("late", 2)]) (di_seq (x_var 0)) (blkOk_by rfl) (fun s1 H1 c1 l1 f1 => (g_nm 2 SC.nd)) (fun s1 H1 c1 l1 f1 => dts_nil) (fun s1 H1 c1 l1 f1 => (c_fn (ctx_c SC.toCtx s1 H1 c1 l1 f1) F__law_far (s_cons (x_var 1) (s_cons (x_var 2) s_nil)) (by decide))) (fun _ => rfl) (by decide) rfl)))))
end
end Dm
end
section
namespace Dm
open PySem PySem.Spec L2 PyProof.Rows
section
variable {P : Program} {w : World} {K : PySem.W.Frag} {mg : Str → Option Value} {base : Heap} {T : List (Addr × Str)}
/-! ### law -/
theorem sc_law : FnScope ["script", "draw", "turn", "lot", "word", "row", "most", "due", "told", "some", "errors", "three", "work", "at", "far"] ["script"] (defScope st_law) := ⟨rfl, rfl, rfl, by decide +kernel, rfl, by decide +kernel, by decide +kernel⟩
def tbl_law : List (Str × FD) := [("far_row", f_far_row), ("farthest", f_farthest), ("farthest_word", f_farthest_word), ("sum_far", f_sum_far), ("is_centre", f_is_centre), ("near_words", f_near_words)]
noncomputable def b_law : MS :=
  (mSeq (mSetC 1 (mFn f__law_begun (mCons (mVar 0) mNil)))
    (mSeq (mFor (mRange1 (mOp2 addD (mLit (.int 8)) (mCall minD (mCons (mCall lenD (mCons (mVar 0) mNil)) (mCons (mLit (.int 12)) mNil))))) (.nm 2) (mSeq (mSet 3 (mFn f__law_any_lot (mCons (mVar 1) mNil)))
    (mSeq (mSet 4 (mFn f__law_pick (mCons (mVar 1) (mCons (mLst (mCons (mFn f__law_pick (mCons (mVar 1) (mCons (mCall lstF2 (mCons (mVar 3) mNil)) mNil))) (mCons (mFn f__law_word (mCons (mVar 1) (mCons (mLit (.int 6)) (mCons (mCall lenD (mCons (mIdx (mVar 3) (mLit (.int 0))) mNil)) mNil)))) (mCons (mFn f__law_near_word (mCons (mVar 1) (mCons (mIdx (mVar 3) (mLit (.int 0))) (mCons (mLit (.int 3)) (mCons (mLit (.int 4)) mNil))))) mNil)))) mNil))))
    (mSeq (mSet 5 (mFn f__law_row (mCons (mVar 3) (mCons (mVar 4) mNil))))
    (mSeq (mSet 6 (mFn f__law_pick (mCons (mVar 1) (mCons (mLst (mCons (mLit (.int 0)) (mCons (mLit (.int 24)) (mCons (mCall maxD (mCons (mVar 5) mNil)) (mCons (mCall maxD (mCons (mLit (.int 0)) (mCons (mOp2 subD (mCall maxD (mCons (mVar 5) mNil)) (mLit (.int 1))) mNil))) (mCons (mFn f__law_take (mCons (mVar 1) (mCons (mLit (.int 25)) mNil))) mNil)))))) mNil))))
    (mSeq (mSet 7 (mLst (mCons (mCall tupD (mCons (mVar 5) mNil)) (mCons (mCall maxD (mCons (mVar 5) mNil)) (mCons (mMeth nIndex indexD (mVar 5) (mCons (mCall maxD (mCons (mVar 5) mNil)) mNil)) (mCons (mCall sumD (mCons (mVar 5) mNil)) (mCons (mOp2 leD (mCall maxD (mCons (mVar 5) mNil)) (mVar 6)) (mCons (mCall tupD (mCons (mComp (mEnum (mVar 5)) (.tp [(.nm 13), (.nm 14)]) [13, 14] (mTru (mOp2 leD (mVar 14) (mVar 6))) (mVar 13)) mNil)) mNil))))))))
    (mSeq (mSet 8 (mLst (mCons (mFn f_far_row (mCons (mVar 3) (mCons (mVar 4) mNil))) (mCons (mFn f_farthest (mCons (mVar 3) (mCons (mVar 4) mNil))) (mCons (mFn f_farthest_word (mCons (mVar 3) (mCons (mVar 4) mNil))) (mCons (mFn f_sum_far (mCons (mVar 3) (mCons (mVar 4) mNil))) (mCons (mFn f_is_centre (mCons (mVar 3) (mCons (mVar 4) (mCons (mVar 6) mNil)))) (mCons (mFn f_near_words (mCons (mVar 3) (mCons (mVar 4) (mCons (mVar 6) mNil)))) mNil))))))))
    (mSeq (mIf (mNotT (mTru (mFn f__law_says (mCons (mVar 8) (mCons (mVar 7) mNil))))) (mRet (mLit (.bl false))) mSkip)
    (mSeq (mSet 8 (mLst (mCons (mFnK f_far_row ⟨0, ["word", "lot"], [1, 0]⟩ mNil (mCons (mVar 4) (mCons (mVar 3) mNil))) (mCons (mFnK f_farthest ⟨0, ["word", "lot"], [1, 0]⟩ mNil (mCons (mVar 4) (mCons (mVar 3) mNil))) (mCons (mFnK f_farthest_word ⟨0, ["word", "lot"], [1, 0]⟩ mNil (mCons (mVar 4) (mCons (mVar 3) mNil))) (mCons (mFnK f_sum_far ⟨0, ["word", "lot"], [1, 0]⟩ mNil (mCons (mVar 4) (mCons (mVar 3) mNil))) mNil))))))
    (mSeq (mIf (mNotT (mTru (mFn f__law_says (mCons (mOp2 addD (mVar 8) (mLst (mCons (mFnK f_is_centre ⟨0, ["most", "word", "lot"], [2, 1, 0]⟩ mNil (mCons (mVar 6) (mCons (mVar 4) (mCons (mVar 3) mNil)))) (mCons (mFnK f_near_words ⟨0, ["most", "word", "lot"], [2, 1, 0]⟩ mNil (mCons (mVar 6) (mCons (mVar 4) (mCons (mVar 3) mNil)))) mNil)))) (mCons (mVar 7) mNil))))) (mRet (mLit (.bl false))) mSkip)
    (mSeq (mSet 9 (mLst (mCons (mLit (.fn "far_row")) (mCons (mLit (.fn "farthest")) (mCons (mLit (.fn "farthest_word")) (mCons (mLit (.fn "sum_far")) mNil))))))
    (mSeq (mSet 10 (mComp (mIter (mVar 9)) (.nm 12) [12] mYes (mCall (isiC excs) (mCons (mCaught excs (mFnL 12 tbl_law (mCons (mFn f__law_no_lot (mCons (mVar 1) mNil)) (mCons (mLit .non) mNil)))) (mCons (mLit (.fn "BadLot")) mNil)))))
    (mSeq (mSet 10 (mOp2 addD (mVar 10) (mComp (mIter (mVar 9)) (.nm 12) [12] mYes (mCall (isiC excs) (mCons (mCaught excs (mFnL 12 tbl_law (mCons (mVar 3) (mCons (mFn f__law_pick (mCons (mVar 1) (mCons (mLst (mCons (mLit .non) (mCons (mOp2 addD (mVar 4) (mLit (.str [97]))) (mCons (mLit (.int 7)) (mCons (mLst (mCons (mLit (.str [97])) mNil)) mNil))))) mNil))) mNil)))) (mCons (mLit (.fn "BadWord")) mNil))))))
    (mSeq (mSet 10 (mOp2 addD (mVar 10) (mComp (mIter (mLst (mCons (mLit (.fn "is_centre")) (mCons (mLit (.fn "near_words")) mNil)))) (.nm 12) [12] mYes (mCall (isiC excs) (mCons (mCaught excs (mFnL 12 tbl_law (mCons (mVar 3) (mCons (mVar 4) (mCons (mFn f__law_number (mCons (mVar 1) (mCons (mLit (.int 0)) (mCons (mLit (.int 24)) mNil)))) mNil))))) (mCons (mLit (.fn "BadMost")) mNil))))))
    (mIf (mTru (mOp2 neD (mVar 10) (mOp2 mulD (mLst (mCons (mLit (.bl true)) mNil)) (mLit (.int 10))))) (mRet (mLit (.bl false))) mSkip)))))))))))))))
    (mSeq (mSet 11 (mTup (mCons (mLit (.str [97, 97, 98])) (mCons (mLit (.str [97, 98, 98])) (mCons (mLit (.str [98, 97, 98])) mNil)))))
    (mRet (mFn f__law_says (mCons (mLst (mCons (mFn f_far_row (mCons (mVar 11) (mCons (mLit (.str [97, 97, 98])) mNil))) (mCons (mFn f_farthest_word (mCons (mVar 11) (mCons (mLit (.str [97, 97, 98])) mNil))) (mCons (mFn f_is_centre (mCons (mVar 11) (mCons (mLit (.str [97, 97, 98])) (mCons (mLit (.int 1)) mNil)))) (mCons (mFn f_is_centre (mCons (mVar 11) (mCons (mLit (.str [97, 97, 98])) (mCons (mLit (.int 0)) mNil)))) (mCons (mFn f_near_words (mCons (mVar 11) (mCons (mLit (.str [97, 98, 98])) (mCons (mLit (.int 1)) mNil)))) mNil)))))) (mCons (mLst (mCons (mTup (mCons (mLit (.int 0)) (mCons (mLit (.int 1)) (mCons (mLit (.int 1)) mNil)))) (mCons (mLit (.int 1)) (mCons (mLit (.bl true)) (mCons (mLit (.bl false)) (mCons (mTup (mCons (mLit (.int 0)) (mCons (mLit (.int 1)) mNil))) mNil)))))) mNil)))))))
noncomputable def f_law : FD := mkF 1 15 b_law
theorem fd_law (Z : Fax K mg) (F__law_begun : FnD P w K mg base T 1 "_law_begun" ["script"] (kF K mg) [] f__law_begun) (F__law_says : FnD P w K mg base T 10 "_law_says" ["told", "due"] (kR K mg) [] f__law_says) (F__law_any_lot : FnD P w K mg base T 6 "_law_any_lot" ["draw"] (kR K mg) [] f__law_any_lot) (F__law_pick : FnD P w K mg base T 3 "_law_pick" ["draw", "items"] (kR K mg) [] f__law_pick) (F__law_row : FnD P w K mg base T 2 "_law_row" ["lot", "word"] (kR K mg) [] f__law_row) (F_far_row : FnD P w K mg base T 5 "far_row" ["lot", "word"] (kR K mg) [⟨0, ["word", "lot"], [1, 0]⟩] f_far_row) (F_farthest : FnD P w K mg base T 5 "farthest" ["lot", "word"] (kR K mg) [⟨0, ["word", "lot"], [1, 0]⟩] f_farthest) (F_farthest_word : FnD P w K mg base T 5 "farthest_word" ["lot", "word"] (kR K mg) [⟨0, ["word", "lot"], [1, 0]⟩] f_farthest_word) (F_sum_far : FnD P w K mg base T 5 "sum_far" ["lot", "word"] (kR K mg) [⟨0, ["word", "lot"], [1, 0]⟩] f_sum_far) (F_is_centre : FnD P w K mg base T 5 "is_centre" ["lot", "word", "most"] (kR K mg) [⟨0, ["most", "word", "lot"], [2, 1, 0]⟩] f_is_centre) (F_near_words : FnD P w K mg base T 5 "near_words" ["lot", "word", "most"] (kR K mg) [⟨0, ["most", "word", "lot"], [2, 1, 0]⟩] f_near_words) (F__law_word : FnD P w K mg base T 4 "_law_word" ["draw", "letters", "length"] (kR K mg) [] f__law_word) (F__law_near_word : FnD P w K mg base T 4 "_law_near_word" ["draw", "word", "letters", "many"] (kR K mg) [] f__law_near_word) (F__law_take : FnD P w K mg base T 2 "_law_take" ["draw", "amount"] (kR K mg) [] f__law_take) (F__law_no_lot : FnD P w K mg base T 4 "_law_no_lot" ["draw"] (kR K mg) [] f__law_no_lot) (F__law_number : FnD P w K mg base T 4 "_law_number" ["draw", "low", "high"] (kR K mg) [] f__law_number) (LD : ∀ (A : Around) (outer : List Env) (s : Shared) (H : Hp) (E : XK), LamD (tX P w K mg base ["script", "draw", "turn", "lot", "word", "row", "most", "due", "told", "some", "errors", "three", "work", "at", "far"] "law" st_law A outer s H E) T) : FnD P w K mg base T 13 "law" ["script"] (kR K mg) [] f_law :=
  fnD_at (k := 12) Z.d_law Z.m_law sc_law (fun _ _ _ _ _ _ us h => match us, h with | [_], _ => rfl) kR_mono (fun _ _ _ => rfl) (fun q hq => by simp at hq) fun A outer s H E g0 SC => by
    have LD := LD A outer s H E
    exact (dss_cons (s_setC 1 SC (c_fnF SC.toCtx F__law_begun (s_cons (x_var 0) s_nil) (by decide)))
    (dss_cons (s_for SC (i_rng1 Z.n_range (x_add (DE.toP de_int) (DE.toP (c_min SC.toCtx (p_cons (DE.toP (c_len SC.toCtx (p_cons (DE.toP (x_var 0)) p_nil) Z.n_len)) (p_cons (DE.toP de_int) p_nil)) Z.n_min)))) (g_nm 2 SC.nd) (dss_cons (s_set 3 SC (c_fn SC.toCtx F__law_any_lot (s_cons (x_var 1) s_nil) (by decide)))
    (dss_cons (s_set 4 SC (c_fn SC.toCtx F__law_pick (s_cons (x_var 1) (s_cons (DF.toE (df_lst (s_cons (c_fn SC.toCtx F__law_pick (s_cons (x_var 1) (s_cons (DF.toE (c_lst SC.toCtx (p_cons (DE.toP (x_var 3)) p_nil) Z.n_list)) s_nil)) (by decide)) (s_cons (c_fn SC.toCtx F__law_word (s_cons (x_var 1) (s_cons de_int (s_cons (c_len SC.toCtx (p_cons (DE.toP (x_ix SC.toCtx (DE.toP (x_var 3)) (DE.toP de_int))) p_nil) Z.n_len) s_nil))) (by decide)) (s_cons (c_fn SC.toCtx F__law_near_word (s_cons (x_var 1) (s_cons (x_ix SC.toCtx (DE.toP (x_var 3)) (DE.toP de_int)) (s_cons de_int (s_cons de_int s_nil)))) (by decide)) s_nil))))) s_nil)) (by decide)))
    (dss_cons (s_set 5 SC (c_fn SC.toCtx F__law_row (s_cons (x_var 3) (s_cons (x_var 4) s_nil)) (by decide)))
    (dss_cons (s_set 6 SC (c_fn SC.toCtx F__law_pick (s_cons (x_var 1) (s_cons (DF.toE (df_lst (s_cons de_int (s_cons de_int (s_cons (c_max SC.toCtx (p_cons (DE.toP (x_var 5)) p_nil) Z.n_max) (s_cons (c_max SC.toCtx (p_cons (DE.toP de_int) (p_cons (DE.toP (x_sub (DE.toP (c_max SC.toCtx (p_cons (DE.toP (x_var 5)) p_nil) Z.n_max)) (DE.toP de_int))) p_nil)) Z.n_max) (s_cons (c_fn SC.toCtx F__law_take (s_cons (x_var 1) (s_cons de_int s_nil)) (by decide)) s_nil))))))) s_nil)) (by decide)))
    (dss_cons (s_set 7 SC (DF.toE (df_lst (s_cons (c_tup SC.toCtx (p_cons (DE.toP (x_var 5)) p_nil) Z.n_tuple) (s_cons (c_max SC.toCtx (p_cons (DE.toP (x_var 5)) p_nil) Z.n_max) (s_cons (c_index SC.toCtx (p_cons (DE.toP (c_max SC.toCtx (p_cons (DE.toP (x_var 5)) p_nil) Z.n_max)) p_nil) (DE.toP (x_var 5))) (s_cons (c_sum SC.toCtx (p_cons (DE.toP (x_var 5)) p_nil) Z.n_sum) (s_cons (x_cmp (o_le SC.toCtx) (DE.toP (c_max SC.toCtx (p_cons (DE.toP (x_var 5)) p_nil) Z.n_max)) (DE.toP (x_var 6))) (s_cons (c_tup SC.toCtx (p_cons (DF.toP (df_comp (Ctx.calm SC.toCtx) SC.nd (CompD.mk (own := false) (ow := [("at", 13), ("far", 14)]) (i_enum Z.n_enumerate (x_var 5)) (blkOk_by rfl) (fun s7 H7 c7 l7 f7 => (g_tup (Ctx.calm (ctx_c SC.toCtx s7 H7 c7 l7 f7)) (g_cons (g_nm 13 SC.nd) (g_cons (g_nm 14 SC.nd) g_nil)))) (fun s7 H7 c7 l7 f7 => (dts_one (t_cmp (o_le (ctx_c SC.toCtx s7 H7 c7 l7 f7)) (DE.toP (x_var 14)) (DE.toP (x_var 6))))) (fun s7 H7 c7 l7 f7 => (x_var 13)) (fun _ => rfl) (by decide) rfl))) p_nil) Z.n_tuple) s_nil)))))))))
    (dss_cons (s_set 8 SC (DF.toE (df_lst (s_cons (c_fn SC.toCtx F_far_row (s_cons (x_var 3) (s_cons (x_var 4) s_nil)) (by decide)) (s_cons (c_fn SC.toCtx F_farthest (s_cons (x_var 3) (s_cons (x_var 4) s_nil)) (by decide)) (s_cons (c_fn SC.toCtx F_farthest_word (s_cons (x_var 3) (s_cons (x_var 4) s_nil)) (by decide)) (s_cons (c_fn SC.toCtx F_sum_far (s_cons (x_var 3) (s_cons (x_var 4) s_nil)) (by decide)) (s_cons (c_fn SC.toCtx F_is_centre (s_cons (x_var 3) (s_cons (x_var 4) (s_cons (x_var 6) s_nil))) (by decide)) (s_cons (c_fn SC.toCtx F_near_words (s_cons (x_var 3) (s_cons (x_var 4) (s_cons (x_var 6) s_nil))) (by decide)) s_nil)))))))))
    (dss_cons (ds_if (dt_not (t_val (DE.toP (c_fn SC.toCtx F__law_says (s_cons (x_var 8) (s_cons (x_var 7) s_nil)) (by decide))))) (dss_one (ds_ret kR_mono de_bl)) dss_nil)
    (dss_cons (s_set 8 SC (DF.toE (df_lst (s_cons (c_fnK0 SC.toCtx ⟨0, ["word", "lot"], [1, 0]⟩ F_far_row (k_cons (x_var 4) (k_cons (x_var 3) k_nil)) (by simp) (by decide)) (s_cons (c_fnK0 SC.toCtx ⟨0, ["word", "lot"], [1, 0]⟩ F_farthest (k_cons (x_var 4) (k_cons (x_var 3) k_nil)) (by simp) (by decide)) (s_cons (c_fnK0 SC.toCtx ⟨0, ["word", "lot"], [1, 0]⟩ F_farthest_word (k_cons (x_var 4) (k_cons (x_var 3) k_nil)) (by simp) (by decide)) (s_cons (c_fnK0 SC.toCtx ⟨0, ["word", "lot"], [1, 0]⟩ F_sum_far (k_cons (x_var 4) (k_cons (x_var 3) k_nil)) (by simp) (by decide)) s_nil)))))))
    (dss_cons (ds_if (dt_not (t_val (DE.toP (c_fn SC.toCtx F__law_says (s_cons (x_add (DE.toP (x_var 8)) (DF.toP (df_lst (s_cons (c_fnK0 SC.toCtx ⟨0, ["most", "word", "lot"], [2, 1, 0]⟩ F_is_centre (k_cons (x_var 6) (k_cons (x_var 4) (k_cons (x_var 3) k_nil))) (by simp) (by decide)) (s_cons (c_fnK0 SC.toCtx ⟨0, ["most", "word", "lot"], [2, 1, 0]⟩ F_near_words (k_cons (x_var 6) (k_cons (x_var 4) (k_cons (x_var 3) k_nil))) (by simp) (by decide)) s_nil))))) (s_cons (x_var 7) s_nil)) (by decide))))) (dss_one (ds_ret kR_mono de_bl)) dss_nil)
    (dss_cons (s_set 9 SC (DF.toE (df_lst (s_cons (x_glob (FnD.glob F_far_row)) (s_cons (x_glob (FnD.glob F_farthest)) (s_cons (x_glob (FnD.glob F_farthest_word)) (s_cons (x_glob (FnD.glob F_sum_far)) s_nil)))))))
    (dss_cons (s_lc 10 SC (CompD.mk (own := false) (ow := [("work", 12)]) (di_seq (x_var 9)) (blkOk_by rfl) (fun s5 H5 c5 l5 f5 => (g_nm 12 SC.nd)) (fun s5 H5 c5 l5 f5 => dts_nil) (fun s5 H5 c5 l5 f5 => (c_isi (ctx_c SC.toCtx s5 H5 c5 l5 f5) (p_cons (DE.toP (x_caught (kk := kR _ _) 10 ((ctx_c SC.toCtx s5 H5 c5 l5 f5).mono (by decide)) Z.k_caught Z.k_catch (lam_c LD s5 H5 c5 l5 f5) (fun _ _ _ _ _ _ _ L6 => (c_fnL 12 L6 (tbl_cons F_far_row (tbl_cons F_farthest (tbl_cons F_farthest_word (tbl_cons F_sum_far (tbl_cons F_is_centre (tbl_cons F_near_words tbl_nil (by decide)) (by decide)) (by decide)) (by decide)) (by decide)) (by decide)) (s_cons (c_fn L6 F__law_no_lot (s_cons (x_var 1) s_nil) (by decide)) (s_cons de_non s_nil)))))) (p_cons (DE.toP (x_glob (ExcD.glob Z.e_BadLot))) p_nil)) excs Z.k_isi Z.n_isinstance)) (fun _ => rfl) (by decide) rfl))
    (dss_cons (s_set 10 SC (x_add (DE.toP (x_var 10)) (DF.toP (df_comp (Ctx.calm SC.toCtx) SC.nd (CompD.mk (own := false) (ow := [("work", 12)]) (di_seq (x_var 9)) (blkOk_by rfl) (fun s3 H3 c3 l3 f3 => (g_nm 12 SC.nd)) (fun s3 H3 c3 l3 f3 => dts_nil) (fun s3 H3 c3 l3 f3 => (c_isi (ctx_c SC.toCtx s3 H3 c3 l3 f3) (p_cons (DE.toP (x_caught (kk := kR _ _) 10 ((ctx_c SC.toCtx s3 H3 c3 l3 f3).mono (by decide)) Z.k_caught Z.k_catch (lam_c LD s3 H3 c3 l3 f3) (fun _ _ _ _ _ _ _ L4 => (c_fnL 12 L4 (tbl_cons F_far_row (tbl_cons F_farthest (tbl_cons F_farthest_word (tbl_cons F_sum_far (tbl_cons F_is_centre (tbl_cons F_near_words tbl_nil (by decide)) (by decide)) (by decide)) (by decide)) (by decide)) (by decide)) (s_cons (x_var 3) (s_cons (c_fn L4 F__law_pick (s_cons (x_var 1) (s_cons (DF.toE (df_lst (s_cons de_non (s_cons (x_add (DE.toP (x_var 4)) (DE.toP de_str)) (s_cons de_int (s_cons (DF.toE (df_lst (s_cons de_str s_nil))) s_nil)))))) s_nil)) (by decide)) s_nil)))))) (p_cons (DE.toP (x_glob (ExcD.glob Z.e_BadWord))) p_nil)) excs Z.k_isi Z.n_isinstance)) (fun _ => rfl) (by decide) rfl)))))
    (dss_cons (s_set 10 SC (x_add (DE.toP (x_var 10)) (DF.toP (df_comp (Ctx.calm SC.toCtx) SC.nd (CompD.mk (own := false) (ow := [("work", 12)]) (di_seq (DF.toE (df_lst (s_cons (x_glob (FnD.glob F_is_centre)) (s_cons (x_glob (FnD.glob F_near_words)) s_nil))))) (blkOk_by rfl) (fun s1 H1 c1 l1 f1 => (g_nm 12 SC.nd)) (fun s1 H1 c1 l1 f1 => dts_nil) (fun s1 H1 c1 l1 f1 => (c_isi (ctx_c SC.toCtx s1 H1 c1 l1 f1) (p_cons (DE.toP (x_caught (kk := kR _ _) 10 ((ctx_c SC.toCtx s1 H1 c1 l1 f1).mono (by decide)) Z.k_caught Z.k_catch (lam_c LD s1 H1 c1 l1 f1) (fun _ _ _ _ _ _ _ L2 => (c_fnL 12 L2 (tbl_cons F_far_row (tbl_cons F_farthest (tbl_cons F_farthest_word (tbl_cons F_sum_far (tbl_cons F_is_centre (tbl_cons F_near_words tbl_nil (by decide)) (by decide)) (by decide)) (by decide)) (by decide)) (by decide)) (s_cons (x_var 3) (s_cons (x_var 4) (s_cons (c_fn L2 F__law_number (s_cons (x_var 1) (s_cons de_int (s_cons de_int s_nil))) (by decide)) s_nil))))))) (p_cons (DE.toP (x_glob (ExcD.glob Z.e_BadMost))) p_nil)) excs Z.k_isi Z.n_isinstance)) (fun _ => rfl) (by decide) rfl)))))
    (dss_one (ds_if (t_cmp (o_ne SC.toCtx) (DE.toP (x_var 10)) (DE.toP (x_mul (DF.toP (df_lst (s_cons de_bl s_nil))) (DE.toP de_int)))) (dss_one (ds_ret kR_mono de_bl)) dss_nil))))))))))))))))
    (dss_cons (s_set 11 SC (de_tup (s_cons de_str (s_cons de_str (s_cons de_str s_nil)))))
    (dss_one (ds_ret kR_mono (c_fn SC.toCtx F__law_says (s_cons (DF.toE (df_lst (s_cons (c_fn SC.toCtx F_far_row (s_cons (x_var 11) (s_cons de_str s_nil)) (by decide)) (s_cons (c_fn SC.toCtx F_farthest_word (s_cons (x_var 11) (s_cons de_str s_nil)) (by decide)) (s_cons (c_fn SC.toCtx F_is_centre (s_cons (x_var 11) (s_cons de_str (s_cons de_int s_nil))) (by decide)) (s_cons (c_fn SC.toCtx F_is_centre (s_cons (x_var 11) (s_cons de_str (s_cons de_int s_nil))) (by decide)) (s_cons (c_fn SC.toCtx F_near_words (s_cons (x_var 11) (s_cons de_str (s_cons de_int s_nil))) (by decide)) s_nil))))))) (s_cons (DF.toE (df_lst (s_cons (de_tup (s_cons de_int (s_cons de_int (s_cons de_int s_nil)))) (s_cons de_int (s_cons de_bl (s_cons de_bl (s_cons (de_tup (s_cons de_int (s_cons de_int s_nil))) s_nil))))))) s_nil)) (by decide)))))))
end
end Dm
end
section
set_option maxHeartbeats 0
namespace Dm
open PySem PySem.Spec L2 PyProof.Rows
def fns_0 : List He.DefD := [dd "is_whole" st_is_whole, dd "is_within" st_is_within, dd "is_word_form" st_is_word_form, dd "is_lot_form" st_is_lot_form, dd "need_lot" st_need_lot, dd "need_most" st_need_most, dd "need_own_word" st_need_own_word, dd "far_by" st_far_by, dd "row_by" st_row_by, dd "is_near" st_is_near, dd "need_lot_and_word" st_need_lot_and_word, dd "far_row" st_far_row, dd "farthest" st_farthest, dd "farthest_word" st_farthest_word, dd "is_centre" st_is_centre, dd "sum_far" st_sum_far, dd "near_words" st_near_words, dd "_law_begun" st__law_begun, dd "_law_mixed" st__law_mixed, dd "_law_take" st__law_take, dd "_law_pick" st__law_pick, dd "_law_caught" st__law_caught, dd "_law_kinds" st__law_kinds, dd "_law_says" st__law_says, dd "_law_number" st__law_number, dd "_law_word" st__law_word, dd "_law_near_word" st__law_near_word, dd "_law_lot" st__law_lot, dd "_law_any_lot" st__law_any_lot, dd "_law_no_lot" st__law_no_lot]
def fns_1 : List He.DefD := [dd "_law_far" st__law_far, dd "_law_row" st__law_row, dd "law" st_law]
def fns : List He.DefD := fns_0 ++ fns_1
def fas_0 : List He.Fa := [.str "LETTERS" "abcdef", .int "MOST_LENGTH" 24, .int "MOST_WORDS" 20, .free "all", .free "bool", .free "dict", .free "enumerate", .free "int", .free "isinstance", .free "len", .free "list", .free "max", .free "min", .free "range", .free "str", .free "sum", .free "tuple", .free "zip", .glo "NearError", .exc "NearError", .exm "NearError" "NearError" true, .glo "BadWord", .exc "BadWord", .exm "BadWord" "NearError" true, .glo "BadLot", .exc "BadLot", .exm "BadLot" "NearError" true, .glo "BadMost", .exc "BadMost", .exm "BadMost" "NearError" true]
def fas_1 : List He.Fa := [.glo "is_whole", .glo "is_within", .glo "is_word_form", .glo "is_lot_form", .glo "need_lot", .glo "need_most", .glo "need_own_word", .glo "far_by", .glo "row_by", .glo "is_near", .glo "need_lot_and_word", .glo "far_row", .glo "farthest", .glo "farthest_word", .glo "is_centre", .glo "sum_far", .glo "near_words", .glo "_law_begun", .glo "_law_mixed", .glo "_law_take", .glo "_law_pick", .glo "_law_caught", .glo "_law_kinds", .glo "_law_says", .glo "_law_number", .glo "_law_word", .glo "_law_near_word", .glo "_law_lot", .glo "_law_any_lot", .glo "_law_no_lot"]
def fas_2 : List He.Fa := [.glo "_law_far", .glo "_law_row", .glo "law"]
def fas : List He.Fa := fas_0 ++ fas_1 ++ fas_2
def tfs : List He.Defn := [("law", none)]
def exB (K : PySem.W.Frag) : Bool := excs.all fun x => excCB K (He.ga K x)
abbrev Rw : PySem.W.OpenRow := PySem.W.OpenLaw.row PySem.Challenge.rw_nearesttoall_k03_whole_spans_of_lots
abbrev hk : PySem.W.Hook := He.hookX 4 fas fns [] tfs exB
def ob (s : PySem.W.SharedT) : He.AlX := He.obsX 4 fas fns [] tfs exB (HandSHeadRun.getT s)
theorem ob_eq (s : PySem.W.SharedT) : ob s = hk.obs s.abs := He.obsX_eq (HandSHeadRun.getT_eq s)
def loose_0 : List PySem.Str := ["NearError", "BadWord", "BadLot", "BadMost", "LETTERS", "MOST_LENGTH", "MOST_WORDS", "is_whole", "is_within", "is_word_form", "is_lot_form", "need_lot", "need_most", "need_own_word", "far_by", "row_by", "is_near", "need_lot_and_word", "far_row", "farthest", "farthest_word", "is_centre", "sum_far", "near_words", "_law_begun", "_law_mixed", "_law_take", "_law_pick", "_law_caught", "_law_kinds"]
def loose_1 : List PySem.Str := ["_law_says", "_law_number", "_law_word", "_law_near_word", "_law_lot", "_law_any_lot", "_law_no_lot", "_law_far", "_law_row"]
def loose : List PySem.Str := loose_0 ++ loose_1
theorem run (w : World) : HandSHeadRun.RunEq Rw (PySem.W.view Rw.prog [43]) hk ob 4000 loose w := by
  intro os
  kernel_rfl
section
variable {P : Program} {w : World} {K : PySem.W.Frag} {mg : Str → Option Value} {base h : Heap} {T : List (Addr × Str)}
theorem fax (X : K.In h) (G : h.Ns mainGlobals mg) (c : He.SaysX fas fns [] tfs exB w h K) : Fax K mg where
  e_BadLot := excD_of X G (c.t.d.fact 24 (f := .glo "BadLot") rfl) (c.t.d.fact 25 (f := .exc "BadLot") rfl)
  e_BadMost := excD_of X G (c.t.d.fact 27 (f := .glo "BadMost") rfl) (c.t.d.fact 28 (f := .exc "BadMost") rfl)
  e_BadWord := excD_of X G (c.t.d.fact 21 (f := .glo "BadWord") rfl) (c.t.d.fact 22 (f := .exc "BadWord") rfl)
  g_LETTERS := gStr X G (c.t.d.fact 0 (f := .str "LETTERS" "abcdef") rfl) (by decide +kernel)
  g_MOST_LENGTH := gInt X G (c.t.d.fact 1 (f := .int "MOST_LENGTH" 24) rfl)
  g_MOST_WORDS := gInt X G (c.t.d.fact 2 (f := .int "MOST_WORDS" 20) rfl)
  n_all := He.free_ok X G (c.t.d.fact 3 (f := .free "all") rfl)
  n_bool := He.free_ok X G (c.t.d.fact 4 (f := .free "bool") rfl)
  n_dict := He.free_ok X G (c.t.d.fact 5 (f := .free "dict") rfl)
  n_enumerate := He.free_ok X G (c.t.d.fact 6 (f := .free "enumerate") rfl)
  n_int := He.free_ok X G (c.t.d.fact 7 (f := .free "int") rfl)
  n_isinstance := He.free_ok X G (c.t.d.fact 8 (f := .free "isinstance") rfl)
  n_len := He.free_ok X G (c.t.d.fact 9 (f := .free "len") rfl)
  n_list := He.free_ok X G (c.t.d.fact 10 (f := .free "list") rfl)
  n_max := He.free_ok X G (c.t.d.fact 11 (f := .free "max") rfl)
  n_min := He.free_ok X G (c.t.d.fact 12 (f := .free "min") rfl)
  n_range := He.free_ok X G (c.t.d.fact 13 (f := .free "range") rfl)
  n_str := He.free_ok X G (c.t.d.fact 14 (f := .free "str") rfl)
  n_sum := He.free_ok X G (c.t.d.fact 15 (f := .free "sum") rfl)
  n_tuple := He.free_ok X G (c.t.d.fact 16 (f := .free "tuple") rfl)
  n_zip := He.free_ok X G (c.t.d.fact 17 (f := .free "zip") rfl)
  k_caught := caughtD_of (st := st__law_caught) (a := "work") (v := "caught") (n := "error") (e := "NearError") (defOf_of (c.t.d.def_ 21 (d := dd "_law_caught" st__law_caught) rfl)) (He.glo_ok X G (c.t.d.fact 51 (f := .glo "_law_caught") rfl)) rfl ⟨rfl, rfl, rfl, by decide +kernel, rfl, by decide +kernel, by decide +kernel⟩ (fun _ _ _ _ _ _ us h => match us, h with | [_], _ => rfl) rfl rfl rfl rfl (He.glo_ok X G (c.t.d.fact 18 (f := .glo "NearError") rfl)) (by decide) (by decide) (by decide) (by decide) (by decide)
  k_catch := ⟨fun x hx => by
    simp only [excs, List.mem_cons, List.not_mem_nil, or_false] at hx
    rcases hx with rfl | rfl | rfl | rfl
    · exact ⟨_, (He.glo_ok X G (c.t.d.fact 18 (f := .glo "NearError") rfl)), He.exm_ok (c.t.d.fact 20 (f := .exm "NearError" "NearError" true) rfl)⟩
    · exact ⟨_, (He.glo_ok X G (c.t.d.fact 21 (f := .glo "BadWord") rfl)), He.exm_ok (c.t.d.fact 23 (f := .exm "BadWord" "NearError" true) rfl)⟩
    · exact ⟨_, (He.glo_ok X G (c.t.d.fact 24 (f := .glo "BadLot") rfl)), He.exm_ok (c.t.d.fact 26 (f := .exm "BadLot" "NearError" true) rfl)⟩
    · exact ⟨_, (He.glo_ok X G (c.t.d.fact 27 (f := .glo "BadMost") rfl)), He.exm_ok (c.t.d.fact 29 (f := .exm "BadMost" "NearError" true) rfl)⟩⟩
  k_isi := fun x C hx hm => by
    have hE := excC_of (List.all_eq_true.mp c.more x hx)
    simp only [excs, List.mem_cons, List.not_mem_nil, or_false] at hx
    rcases hx with rfl | rfl | rfl | rfl
    · rw [(He.glo_ok X G (c.t.d.fact 18 (f := .glo "NearError") rfl))] at hm; cases hm; exact hE
    · rw [(He.glo_ok X G (c.t.d.fact 21 (f := .glo "BadWord") rfl))] at hm; cases hm; exact hE
    · rw [(He.glo_ok X G (c.t.d.fact 24 (f := .glo "BadLot") rfl))] at hm; cases hm; exact hE
    · rw [(He.glo_ok X G (c.t.d.fact 27 (f := .glo "BadMost") rfl))] at hm; cases hm; exact hE
  d_is_whole := (defOf_of (c.t.d.def_ 0 (d := dd "is_whole" st_is_whole) rfl))
  m_is_whole := (He.glo_ok X G (c.t.d.fact 30 (f := .glo "is_whole") rfl))
  d_is_within := (defOf_of (c.t.d.def_ 1 (d := dd "is_within" st_is_within) rfl))
  m_is_within := (He.glo_ok X G (c.t.d.fact 31 (f := .glo "is_within") rfl))
  d_is_word_form := (defOf_of (c.t.d.def_ 2 (d := dd "is_word_form" st_is_word_form) rfl))
  m_is_word_form := (He.glo_ok X G (c.t.d.fact 32 (f := .glo "is_word_form") rfl))
  d_is_lot_form := (defOf_of (c.t.d.def_ 3 (d := dd "is_lot_form" st_is_lot_form) rfl))
  m_is_lot_form := (He.glo_ok X G (c.t.d.fact 33 (f := .glo "is_lot_form") rfl))
  d_need_lot := (defOf_of (c.t.d.def_ 4 (d := dd "need_lot" st_need_lot) rfl))
  m_need_lot := (He.glo_ok X G (c.t.d.fact 34 (f := .glo "need_lot") rfl))
  d_need_most := (defOf_of (c.t.d.def_ 5 (d := dd "need_most" st_need_most) rfl))
  m_need_most := (He.glo_ok X G (c.t.d.fact 35 (f := .glo "need_most") rfl))
  d_need_own_word := (defOf_of (c.t.d.def_ 6 (d := dd "need_own_word" st_need_own_word) rfl))
  m_need_own_word := (He.glo_ok X G (c.t.d.fact 36 (f := .glo "need_own_word") rfl))
  d_far_by := (defOf_of (c.t.d.def_ 7 (d := dd "far_by" st_far_by) rfl))
  m_far_by := (He.glo_ok X G (c.t.d.fact 37 (f := .glo "far_by") rfl))
  d_row_by := (defOf_of (c.t.d.def_ 8 (d := dd "row_by" st_row_by) rfl))
  m_row_by := (He.glo_ok X G (c.t.d.fact 38 (f := .glo "row_by") rfl))
  d_is_near := (defOf_of (c.t.d.def_ 9 (d := dd "is_near" st_is_near) rfl))
  m_is_near := (He.glo_ok X G (c.t.d.fact 39 (f := .glo "is_near") rfl))
  d_need_lot_and_word := (defOf_of (c.t.d.def_ 10 (d := dd "need_lot_and_word" st_need_lot_and_word) rfl))
  m_need_lot_and_word := (He.glo_ok X G (c.t.d.fact 40 (f := .glo "need_lot_and_word") rfl))
  d_far_row := (defOf_of (c.t.d.def_ 11 (d := dd "far_row" st_far_row) rfl))
  m_far_row := (He.glo_ok X G (c.t.d.fact 41 (f := .glo "far_row") rfl))
  d_farthest := (defOf_of (c.t.d.def_ 12 (d := dd "farthest" st_farthest) rfl))
  m_farthest := (He.glo_ok X G (c.t.d.fact 42 (f := .glo "farthest") rfl))
  d_farthest_word := (defOf_of (c.t.d.def_ 13 (d := dd "farthest_word" st_farthest_word) rfl))
  m_farthest_word := (He.glo_ok X G (c.t.d.fact 43 (f := .glo "farthest_word") rfl))
  d_is_centre := (defOf_of (c.t.d.def_ 14 (d := dd "is_centre" st_is_centre) rfl))
  m_is_centre := (He.glo_ok X G (c.t.d.fact 44 (f := .glo "is_centre") rfl))
  d_sum_far := (defOf_of (c.t.d.def_ 15 (d := dd "sum_far" st_sum_far) rfl))
  m_sum_far := (He.glo_ok X G (c.t.d.fact 45 (f := .glo "sum_far") rfl))
  d_near_words := (defOf_of (c.t.d.def_ 16 (d := dd "near_words" st_near_words) rfl))
  m_near_words := (He.glo_ok X G (c.t.d.fact 46 (f := .glo "near_words") rfl))
  d__law_begun := (defOf_of (c.t.d.def_ 17 (d := dd "_law_begun" st__law_begun) rfl))
  m__law_begun := (He.glo_ok X G (c.t.d.fact 47 (f := .glo "_law_begun") rfl))
  d__law_mixed := (defOf_of (c.t.d.def_ 18 (d := dd "_law_mixed" st__law_mixed) rfl))
  m__law_mixed := (He.glo_ok X G (c.t.d.fact 48 (f := .glo "_law_mixed") rfl))
  d__law_take := (defOf_of (c.t.d.def_ 19 (d := dd "_law_take" st__law_take) rfl))
  m__law_take := (He.glo_ok X G (c.t.d.fact 49 (f := .glo "_law_take") rfl))
  d__law_pick := (defOf_of (c.t.d.def_ 20 (d := dd "_law_pick" st__law_pick) rfl))
  m__law_pick := (He.glo_ok X G (c.t.d.fact 50 (f := .glo "_law_pick") rfl))
  d__law_kinds := (defOf_of (c.t.d.def_ 22 (d := dd "_law_kinds" st__law_kinds) rfl))
  m__law_kinds := (He.glo_ok X G (c.t.d.fact 52 (f := .glo "_law_kinds") rfl))
  d__law_says := (defOf_of (c.t.d.def_ 23 (d := dd "_law_says" st__law_says) rfl))
  m__law_says := (He.glo_ok X G (c.t.d.fact 53 (f := .glo "_law_says") rfl))
  d__law_number := (defOf_of (c.t.d.def_ 24 (d := dd "_law_number" st__law_number) rfl))
  m__law_number := (He.glo_ok X G (c.t.d.fact 54 (f := .glo "_law_number") rfl))
  d__law_word := (defOf_of (c.t.d.def_ 25 (d := dd "_law_word" st__law_word) rfl))
  m__law_word := (He.glo_ok X G (c.t.d.fact 55 (f := .glo "_law_word") rfl))
  d__law_near_word := (defOf_of (c.t.d.def_ 26 (d := dd "_law_near_word" st__law_near_word) rfl))
  m__law_near_word := (He.glo_ok X G (c.t.d.fact 56 (f := .glo "_law_near_word") rfl))
  d__law_lot := (defOf_of (c.t.d.def_ 27 (d := dd "_law_lot" st__law_lot) rfl))
  m__law_lot := (He.glo_ok X G (c.t.d.fact 57 (f := .glo "_law_lot") rfl))
  d__law_any_lot := (defOf_of (c.t.d.def_ 28 (d := dd "_law_any_lot" st__law_any_lot) rfl))
  m__law_any_lot := (He.glo_ok X G (c.t.d.fact 58 (f := .glo "_law_any_lot") rfl))
  d__law_no_lot := (defOf_of (c.t.d.def_ 29 (d := dd "_law_no_lot" st__law_no_lot) rfl))
  m__law_no_lot := (He.glo_ok X G (c.t.d.fact 59 (f := .glo "_law_no_lot") rfl))
  d__law_far := (defOf_of (c.t.d.def_ 30 (d := dd "_law_far" st__law_far) rfl))
  m__law_far := (He.glo_ok X G (c.t.d.fact 60 (f := .glo "_law_far") rfl))
  d__law_row := (defOf_of (c.t.d.def_ 31 (d := dd "_law_row" st__law_row) rfl))
  m__law_row := (He.glo_ok X G (c.t.d.fact 61 (f := .glo "_law_row") rfl))
  d_law := (defOf_of (c.t.d.def_ 32 (d := dd "law" st_law) rfl))
  m_law := (He.glo_ok X G (c.t.d.fact 62 (f := .glo "law") rfl))
theorem fd_all (Z : Fax K mg) (TB : ∀ p ∈ tfs.map (He.cT K), LamX.TabB base mg p.1 p.2) : FnD P w K mg base (lamT K tfs) 13 "law" ["script"] (kR K mg) [] f_law := by
  have F_is_whole := fd_is_whole (P := P) (w := w) (base := base) (T := lamT K tfs) Z 
  have F_is_within := fd_is_within (P := P) (w := w) (base := base) (T := lamT K tfs) Z F_is_whole
  have F_is_word_form := fd_is_word_form (P := P) (w := w) (base := base) (T := lamT K tfs) Z 
  have F_is_lot_form := fd_is_lot_form (P := P) (w := w) (base := base) (T := lamT K tfs) Z F_is_word_form
  have F_need_lot := fd_need_lot (P := P) (w := w) (base := base) (T := lamT K tfs) Z F_is_lot_form
  have F_need_most := fd_need_most (P := P) (w := w) (base := base) (T := lamT K tfs) Z F_is_within
  have F_need_own_word := fd_need_own_word (P := P) (w := w) (base := base) (T := lamT K tfs) Z F_is_word_form
  have F_far_by := fd_far_by (P := P) (w := w) (base := base) (T := lamT K tfs) Z 
  have F_row_by := fd_row_by (P := P) (w := w) (base := base) (T := lamT K tfs) Z F_far_by
  have F_is_near := fd_is_near (P := P) (w := w) (base := base) (T := lamT K tfs) Z F_row_by
  have F_need_lot_and_word := fd_need_lot_and_word (P := P) (w := w) (base := base) (T := lamT K tfs) Z F_need_lot F_need_own_word
  have F_far_row := fd_far_row (P := P) (w := w) (base := base) (T := lamT K tfs) Z F_need_lot_and_word F_row_by
  have F_farthest := fd_farthest (P := P) (w := w) (base := base) (T := lamT K tfs) Z F_need_lot_and_word F_row_by
  have F_farthest_word := fd_farthest_word (P := P) (w := w) (base := base) (T := lamT K tfs) Z F_need_lot_and_word F_row_by
  have F_is_centre := fd_is_centre (P := P) (w := w) (base := base) (T := lamT K tfs) Z F_need_lot_and_word F_need_most F_is_near
  have F_sum_far := fd_sum_far (P := P) (w := w) (base := base) (T := lamT K tfs) Z F_need_lot_and_word F_row_by
  have F_near_words := fd_near_words (P := P) (w := w) (base := base) (T := lamT K tfs) Z F_need_lot_and_word F_need_most F_row_by
  have F__law_begun := fd__law_begun (P := P) (w := w) (base := base) (T := lamT K tfs) Z 
  have F__law_mixed := fd__law_mixed (P := P) (w := w) (base := base) (T := lamT K tfs) Z 
  have F__law_take := fd__law_take (P := P) (w := w) (base := base) (T := lamT K tfs) Z F__law_mixed
  have F__law_pick := fd__law_pick (P := P) (w := w) (base := base) (T := lamT K tfs) Z F__law_take
  have F__law_kinds := fd__law_kinds (P := P) (w := w) (base := base) (T := lamT K tfs) Z  8
  have F__law_says := fd__law_says (P := P) (w := w) (base := base) (T := lamT K tfs) Z F__law_kinds
  have F__law_number := fd__law_number (P := P) (w := w) (base := base) (T := lamT K tfs) Z F__law_pick
  have F__law_word := fd__law_word (P := P) (w := w) (base := base) (T := lamT K tfs) Z F__law_pick
  have F__law_near_word := fd__law_near_word (P := P) (w := w) (base := base) (T := lamT K tfs) Z F__law_pick F__law_take
  have F__law_lot := fd__law_lot (P := P) (w := w) (base := base) (T := lamT K tfs) Z F__law_word F__law_take F__law_near_word F__law_pick
  have F__law_any_lot := fd__law_any_lot (P := P) (w := w) (base := base) (T := lamT K tfs) Z F__law_pick F__law_lot F__law_take
  have F__law_no_lot := fd__law_no_lot (P := P) (w := w) (base := base) (T := lamT K tfs) Z F__law_pick
  have F__law_far := fd__law_far (P := P) (w := w) (base := base) (T := lamT K tfs) Z 
  have F__law_row := fd__law_row (P := P) (w := w) (base := base) (T := lamT K tfs) Z F__law_far
  exact fd_law Z F__law_begun F__law_says F__law_any_lot F__law_pick F__law_row F_far_row F_farthest F_farthest_word F_sum_far F_is_centre F_near_words F__law_word F__law_near_word F__law_take F__law_no_lot F__law_number (lamD_at (x := "law") TB (by simp [tfs]) (fun p hp _ => by simp only [lamT, tfs, List.map_cons, List.map_nil, List.mem_singleton] at hp; rw [hp]))
end
theorem holds_of (PL : ∀ ns : List Int, ns.length ≤ 63 → (∀ z ∈ ns, Builtin.Int.intBits z ≤ 1048576) → ∃ S', f_law [.scr ns] [] = .ok (.bl true) S') : (PySem.Challenge.rw_nearesttoall_k03_whole_spans_of_lots).Holds := by
  w_on; o_law
  refine HandSHeadRun.head_any (r := PySem.W.OpenLaw.row PySem.Challenge.rw_nearesttoall_k03_whole_spans_of_lots) (q := PySem.W.view (PySem.W.OpenLaw.row PySem.Challenge.rw_nearesttoall_k03_whole_spans_of_lots).prog [43]) (H := hk) (ob := ob) (M := 4000) (loose := loose) (d := HandSHeadRun.topDef (PySem.W.OpenLaw.row PySem.Challenge.rw_nearesttoall_k03_whole_spans_of_lots).prog 43) (kwd := []) ob_eq
    (by kernel_rfl) (fun s => by kernel_rfl) run (by kernel_rfl) (by kernel_rfl) (by kernel_rfl) (by rfl) (by first | assumption | decide +kernel) (by decide +kernel) ⟨rfl, rfl, rfl, rfl, rfl, by decide +kernel⟩ ?hw ?hc
  case hw => w_witness2
  case hc =>
    refine LamX.walk_ofTsE (l := PySem.Challenge.rw_nearesttoall_k03_whole_spans_of_lots) (n := 63) (k := 13) (x := "script") (CX := L2.CX (PySem.Challenge.rw_nearesttoall_k03_whole_spans_of_lots).prog) rfl (by decide) (by kernel_rfl) ⟨rfl, by decide, by decide⟩ ?F (fun _ _ _ _ _ z => cx_none z)
    intro w mg fa h Y G hmg0
    obtain ⟨K, KX, c⟩ := Y
    have hmg : mg ("law" : PySem.Str) = some (.ref fa) := by
      have e : (HandSHeadRun.topDef (PySem.W.OpenLaw.row PySem.Challenge.rw_nearesttoall_k03_whole_spans_of_lots).prog 43).name = ("law" : PySem.Str) := by kernel_rfl
      rw [← e]
      exact hmg0
    have Z : Fax K mg := fax KX G c
    have hg : He.fAd K ("law", none) = fa := by
      have e := hmg.symm.trans Z.m_law
      cases e
      rfl
    exact ⟨K, KX, law_at KX G c hmg Z.d_law (fun _ _ _ _ _ _ us h => match us, h with | [_], _ => rfl) (fun base kb gb TB => fd_all Z TB) hg PL⟩
end Dm
end
section
namespace Dm
open PySem PySem.Spec L2 PyProof.Rows

/-! ### running the mirror -/
inductive Run {α : Type} : R α → (α → List D → Prop) → (Str → Option Int → List D → Prop) → Prop where
  | ok {a : α} {S : List D} {Q : α → List D → Prop} {E : Str → Option Int → List D → Prop} (h : Q a S) : Run (.ok a S) Q E
  | exc {c : Str} {p : Option Int} {S : List D} {Q : α → List D → Prop} {E : Str → Option Int → List D → Prop} (h : E c p S) : Run (.exc c p S) Q E
section
variable {α β : Type} {Q : α → List D → Prop} {QD : D → List D → Prop} {QF : Fl → List D → Prop} {QB : Bool → List D → Prop} {QL : List D → List D → Prop} {QO : Option Int → List D → Prop} {E : Str → Option Int → List D → Prop} {Ss : List D} {ρ : DEnv}
theorem run_ok {a : α} : Run (.ok a Ss) Q E = Q a Ss := propext ⟨fun h => by cases h; assumption, .ok⟩
theorem run_exc {c p} : Run (.exc c p Ss : R α) Q E = E c p Ss := propext ⟨fun h => by cases h; assumption, .exc⟩
theorem run_bad : Run (.bad : R α) Q E = False := propext ⟨fun h => by (cases h), False.elim⟩
theorem run_bind {r : R β} {f : β → List D → R α} : Run (r.bind f) Q E = Run r (fun a s => Run (f a s) Q E) E := by
  cases r with
  | ok a s => rw [run_ok]; rfl
  | exc c p s => rw [run_exc]; exact run_exc
  | bad => rw [run_bad]; exact run_bad
theorem Run.imp {r : R α} {Q' : α → List D → Prop} {E' : Str → Option Int → List D → Prop} (h : Run r Q E) (hQ : ∀ a S, Q a S → Q' a S) (hE : ∀ c p S, E c p S → E' c p S) : Run r Q' E' := by
  cases r with
  | ok a s => rw [run_ok] at h ⊢; exact hQ _ _ h
  | exc c p s => rw [run_exc] at h ⊢; exact hE _ _ _ h
  | bad => rw [run_bad] at h; exact h.elim
theorem Run.ok_of {r : R α} (h : Run r Q (fun _ _ _ => False)) : ∃ a S, r = .ok a S ∧ Q a S := by
  cases r with
  | ok a s => rw [run_ok] at h; exact ⟨_, _, rfl, h⟩
  | exc c p s => rw [run_exc] at h; exact h.elim
  | bad => rw [run_bad] at h; exact h.elim
/-- a promise of a step, used in a longer run -/
theorem Run.step {r : R α} {Q' : α → List D → Prop} (h : Run r Q' (fun _ _ _ => False)) (hQ : ∀ a S, Q' a S → Q a S) : Run r Q E := h.imp hQ fun _ _ _ z => z.elim
/-! options -/
def Opt (o : Option β) (Q : β → Prop) : Prop := match o with
  | some b => Q b
  | none => False
theorem opt_some {b : β} {Q : β → Prop} : Opt (some b) Q = Q b := rfl
theorem opt_none {Q : β → Prop} : Opt (none : Option β) Q = False := rfl
theorem opt_if {c : Prop} [Decidable c] {o : Option β} {Q : β → Prop} : Opt (if c then o else none) Q = (c ∧ Opt o Q) := by
  by_cases h : c
  · simp [h]
  · simp [h, Opt]
theorem opt_map {γ : Type} {o : Option γ} {f : γ → β} {Q : β → Prop} : Opt (o.map f) Q = Opt o (fun x => Q (f x)) := by cases o <;> rfl
theorem opt_bind {γ : Type} {o : Option γ} {f : γ → Option β} {Q : β → Prop} : Opt (o.bind f) Q = Opt o (fun x => Opt (f x) Q) := by cases o <;> rfl
theorem run_ofO {o : Option D} : Run (ofO o Ss) QD E = Opt o (fun d => QD d Ss) := by cases o <;> (first | rfl | exact run_ok | exact run_bad | exact run_exc | (funext _ _; exact run_ok) | (congr 1; funext _ _; exact run_ok) | (congr 1; exact run_ok) | (congr 1; congr 1; funext _ _; exact run_ok) | (congr 1; funext _ _; congr 1; funext _ _; exact run_ok))
theorem run_ofB {o : Option Bool} : Run (ofB o Ss) QB E = Opt o (fun d => QB d Ss) := by cases o <;> (first | rfl | exact run_ok | exact run_bad | exact run_exc | (funext _ _; exact run_ok) | (congr 1; funext _ _; exact run_ok) | (congr 1; exact run_ok) | (congr 1; congr 1; funext _ _; exact run_ok) | (congr 1; funext _ _; congr 1; funext _ _; exact run_ok))
theorem run_if {c : Prop} [Decidable c] {r q : R α} : Run (if c then r else q) Q E = (if c then Run r Q E else Run q Q E) := by split <;> (first | rfl | exact run_ok | exact run_bad | exact run_exc | (funext _ _; exact run_ok) | (congr 1; funext _ _; exact run_ok) | (congr 1; exact run_ok) | (congr 1; congr 1; funext _ _; exact run_ok) | (congr 1; funext _ _; congr 1; funext _ _; exact run_ok))
/-! expressions -/
def SlV (o : Option (Option Slot)) (Q : D → Prop) : Prop := match o with
  | some (some (.val d)) => Q d
  | _ => False
def SlO (o : Option (Option Slot)) (Q : D → Prop) : Prop := match o with
  | some (some (.own d)) => Q d
  | _ => False
def SlP (o : Option (Option Slot)) (Q : D → Prop) : Prop := match o with
  | some (some (.val d)) => Q d
  | some (some (.own d)) => Q d
  | _ => False
theorem slV_val {d : D} {Q : D → Prop} : SlV (some (some (.val d))) Q = Q d := rfl
theorem slO_own {d : D} {Q : D → Prop} : SlO (some (some (.own d))) Q = Q d := rfl
theorem slP_val {d : D} {Q : D → Prop} : SlP (some (some (.val d))) Q = Q d := rfl
theorem slP_own {d : D} {Q : D → Prop} : SlP (some (some (.own d))) Q = Q d := rfl
theorem run_var {i : Nat} : Run (mVar i ρ Ss) QD E = SlV ρ[i]? (fun d => QD d Ss) := by
  unfold mVar
  rcases ρ[i]? with _ | _ | _ | _ <;> (first | rfl | exact run_ok | exact run_bad | exact run_exc | (funext _ _; exact run_ok) | (congr 1; funext _ _; exact run_ok) | (congr 1; exact run_ok) | (congr 1; congr 1; funext _ _; exact run_ok) | (congr 1; funext _ _; congr 1; funext _ _; exact run_ok))
theorem run_peek {i : Nat} : Run (mPeek i ρ Ss) QD E = SlP ρ[i]? (fun d => QD d Ss) := by
  unfold mPeek
  rcases ρ[i]? with _ | _ | _ | _ <;> (first | rfl | exact run_ok | exact run_bad | exact run_exc | (funext _ _; exact run_ok) | (congr 1; funext _ _; exact run_ok) | (congr 1; exact run_ok) | (congr 1; congr 1; funext _ _; exact run_ok) | (congr 1; funext _ _; congr 1; funext _ _; exact run_ok))
theorem run_lit {d : D} : Run (mLit d ρ Ss) QD E = QD d Ss := run_ok
def kOpB (F : D → D → Option D) (Q : D → List D → Prop) (d1 : D) (d2 : D) (S2 : List D) : Prop := Opt (F d1 d2) (fun d => Q d S2)
def kOpA (F : D → D → Option D) (mb : M D) (ρ : DEnv) (Q : D → List D → Prop) (E : Str → Option Int → List D → Prop) (d1 : D) (S1 : List D) : Prop := Run (mb ρ S1) (kOpB F Q d1) E
theorem run_op2 {F : D → D → Option D} {ma mb : M D} : Run (mOp2 F ma mb ρ Ss) QD E = Run (ma ρ Ss) (kOpA F mb ρ QD E) E := by
  unfold mOp2
  rw [run_bind]
  congr 1
  funext a s
  rw [run_bind]
  unfold kOpA kOpB
  congr 1
  funext b s
  rw [run_ofO]
def kOp1 (F : D → Option D) (Q : D → List D → Prop) (d1 : D) (S1 : List D) : Prop := Opt (F d1) (fun d => Q d S1)
theorem run_op1 {F : D → Option D} {ma : M D} : Run (mOp1 F ma ρ Ss) QD E = Run (ma ρ Ss) (kOp1 F QD) E := by
  unfold mOp1
  rw [run_bind]
  congr 1
  funext a s
  rw [run_ofO]
  (first | rfl | exact run_ok | exact run_bad | exact run_exc | (funext _ _; exact run_ok) | (congr 1; funext _ _; exact run_ok) | (congr 1; exact run_ok) | (congr 1; congr 1; funext _ _; exact run_ok) | (congr 1; funext _ _; congr 1; funext _ _; exact run_ok))
def kIxB (d1 : D) (Q : D → List D → Prop) (d2 : D) (S2 : List D) : Prop := match d1 with
  | .cel n => Opt S2[n]? (fun d => Opt (idxD d d2) fun x => Q x S2)
  | d1 => Opt (idxD d1 d2) fun x => Q x S2
def kIxA (mb : M D) (ρ : DEnv) (Q : D → List D → Prop) (E : Str → Option Int → List D → Prop) (d1 : D) (S1 : List D) : Prop := Run (mb ρ S1) (kIxB d1 Q) E
theorem run_idx {ma mb : M D} : Run (mIdx ma mb ρ Ss) QD E = Run (ma ρ Ss) (kIxA mb ρ QD E) E := by
  unfold mIdx
  rw [run_bind]
  congr 1
  funext a s
  rw [run_bind]
  unfold kIxA
  congr 1
  funext b s
  cases a <;> first
    | (unfold kIxB; rw [run_ofO])
    | (simp only [kIxB]
       rename_i n
       cases s[n]? with
       | none => (first | rfl | exact run_ok | exact run_bad | exact run_exc | (funext _ _; exact run_ok) | (congr 1; funext _ _; exact run_ok) | (congr 1; exact run_ok) | (congr 1; congr 1; funext _ _; exact run_ok) | (congr 1; funext _ _; congr 1; funext _ _; exact run_ok))
       | some x => simp only [opt_some]; rw [run_ofO])
def kTru (Q : Bool → List D → Prop) (d : D) (S1 : List D) : Prop := Opt (truD d) (fun b => Q b S1)
theorem run_tru {m : M D} : Run (mTru m ρ Ss) QB E = Run (m ρ Ss) (kTru QB) E := by
  unfold mTru
  rw [run_bind]
  congr 1
  funext a s
  rw [run_ofB]
  (first | rfl | exact run_ok | exact run_bad | exact run_exc | (funext _ _; exact run_ok) | (congr 1; funext _ _; exact run_ok) | (congr 1; exact run_ok) | (congr 1; congr 1; funext _ _; exact run_ok) | (congr 1; funext _ _; congr 1; funext _ _; exact run_ok))
def kNot (Q : Bool → List D → Prop) (b : Bool) (S1 : List D) : Prop := Q (!b) S1
theorem run_not {m : M Bool} : Run (mNotT m ρ Ss) QB E = Run (m ρ Ss) (kNot QB) E := by
  unfold mNotT
  rw [run_bind]
  (first | rfl | exact run_ok | exact run_bad | exact run_exc | (funext _ _; exact run_ok) | (congr 1; funext _ _; exact run_ok) | (congr 1; exact run_ok) | (congr 1; congr 1; funext _ _; exact run_ok) | (congr 1; funext _ _; congr 1; funext _ _; exact run_ok))
def kAnd (n : M Bool) (ρ : DEnv) (Q : Bool → List D → Prop) (E : Str → Option Int → List D → Prop) (b : Bool) (S1 : List D) : Prop := cond b (Run (n ρ S1) Q E) (Q false S1)
def kOr (n : M Bool) (ρ : DEnv) (Q : Bool → List D → Prop) (E : Str → Option Int → List D → Prop) (b : Bool) (S1 : List D) : Prop := cond b (Q true S1) (Run (n ρ S1) Q E)
def kIte (m n : M α) (ρ : DEnv) (Q : α → List D → Prop) (E : Str → Option Int → List D → Prop) (b : Bool) (S1 : List D) : Prop := cond b (Run (m ρ S1) Q E) (Run (n ρ S1) Q E)
theorem run_and {m n : M Bool} : Run (mAndT m n ρ Ss) QB E = Run (m ρ Ss) (kAnd n ρ QB E) E := by
  unfold mAndT
  rw [run_bind]
  congr 1
  funext b s
  cases b <;> (first | rfl | exact run_ok | exact run_bad | exact run_exc | (funext _ _; exact run_ok) | (congr 1; funext _ _; exact run_ok) | (congr 1; exact run_ok) | (congr 1; congr 1; funext _ _; exact run_ok) | (congr 1; funext _ _; congr 1; funext _ _; exact run_ok))
theorem run_or {m n : M Bool} : Run (mOrT m n ρ Ss) QB E = Run (m ρ Ss) (kOr n ρ QB E) E := by
  unfold mOrT
  rw [run_bind]
  congr 1
  funext b s
  cases b <;> (first | rfl | exact run_ok | exact run_bad | exact run_exc | (funext _ _; exact run_ok) | (congr 1; funext _ _; exact run_ok) | (congr 1; exact run_ok) | (congr 1; congr 1; funext _ _; exact run_ok) | (congr 1; funext _ _; congr 1; funext _ _; exact run_ok))
theorem run_ite {c : M Bool} {m n : M α} : Run (mIte c m n ρ Ss) Q E = Run (c ρ Ss) (kIte m n ρ Q E) E := by
  unfold mIte
  rw [run_bind]
  congr 1
  funext b s
  cases b <;> (first | rfl | exact run_ok | exact run_bad | exact run_exc | (funext _ _; exact run_ok) | (congr 1; funext _ _; exact run_ok) | (congr 1; exact run_ok) | (congr 1; congr 1; funext _ _; exact run_ok) | (congr 1; funext _ _; congr 1; funext _ _; exact run_ok))
def kBl (Q : D → List D → Prop) (b : Bool) (S1 : List D) : Prop := Q (.bl b) S1
theorem run_bl {m : M Bool} : Run (mBl m ρ Ss) QD E = Run (m ρ Ss) (kBl QD) E := by
  unfold mBl
  rw [run_bind]
  (first | rfl | exact run_ok | exact run_bad | exact run_exc | (funext _ _; exact run_ok) | (congr 1; funext _ _; exact run_ok) | (congr 1; exact run_ok) | (congr 1; congr 1; funext _ _; exact run_ok) | (congr 1; funext _ _; congr 1; funext _ _; exact run_ok))
def kAsB (Q : Bool → List D → Prop) (d : D) (S1 : List D) : Prop := match d with
  | .bl b => Q b S1
  | _ => False
theorem run_asB {m : M D} : Run (asB m ρ Ss) QB E = Run (m ρ Ss) (kAsB QB) E := by
  unfold asB
  rw [run_bind]
  congr 1
  funext d s
  cases d <;> (first | rfl | exact run_ok | exact run_bad | exact run_exc | (funext _ _; exact run_ok) | (congr 1; funext _ _; exact run_ok) | (congr 1; exact run_ok) | (congr 1; congr 1; funext _ _; exact run_ok) | (congr 1; funext _ _; congr 1; funext _ _; exact run_ok))
def kAndV (n : M D) (ρ : DEnv) (Q : D → List D → Prop) (E : Str → Option Int → List D → Prop) (b : Bool) (S1 : List D) : Prop := cond b (Run (n ρ S1) Q E) (Q (.bl false) S1)
def kOrV (n : M D) (ρ : DEnv) (Q : D → List D → Prop) (E : Str → Option Int → List D → Prop) (b : Bool) (S1 : List D) : Prop := cond b (Q (.bl true) S1) (Run (n ρ S1) Q E)
theorem run_andV {m n : M D} : Run (mAndV m n ρ Ss) QD E = Run (m ρ Ss) (kAsB (kAndV n ρ QD E)) E := by
  unfold mAndV
  rw [run_bind, run_asB]
  congr 2
  funext b s
  cases b <;> (first | rfl | exact run_ok | exact run_bad | exact run_exc | (funext _ _; exact run_ok) | (congr 1; funext _ _; exact run_ok) | (congr 1; exact run_ok) | (congr 1; congr 1; funext _ _; exact run_ok) | (congr 1; funext _ _; congr 1; funext _ _; exact run_ok))
theorem run_orV {m n : M D} : Run (mOrV m n ρ Ss) QD E = Run (m ρ Ss) (kAsB (kOrV n ρ QD E)) E := by
  unfold mOrV
  rw [run_bind, run_asB]
  congr 2
  funext b s
  cases b <;> (first | rfl | exact run_ok | exact run_bad | exact run_exc | (funext _ _; exact run_ok) | (congr 1; funext _ _; exact run_ok) | (congr 1; exact run_ok) | (congr 1; congr 1; funext _ _; exact run_ok) | (congr 1; funext _ _; congr 1; funext _ _; exact run_ok))
theorem run_nil : Run (mNil ρ Ss) QL E = QL [] Ss := run_ok
def kConsB (d : D) (Q : List D → List D → Prop) (ds : List D) (S2 : List D) : Prop := Q (d :: ds) S2
def kConsA (ms : M (List D)) (ρ : DEnv) (Q : List D → List D → Prop) (E : Str → Option Int → List D → Prop) (d : D) (S1 : List D) : Prop := Run (ms ρ S1) (kConsB d Q) E
theorem run_cons {m : M D} {ms : M (List D)} : Run (mCons m ms ρ Ss) QL E = Run (m ρ Ss) (kConsA ms ρ QL E) E := by
  unfold mCons
  rw [run_bind]
  congr 1
  funext a s
  rw [run_bind]
  (first | rfl | exact run_ok | exact run_bad | exact run_exc | (funext _ _; exact run_ok) | (congr 1; funext _ _; exact run_ok) | (congr 1; exact run_ok) | (congr 1; congr 1; funext _ _; exact run_ok) | (congr 1; funext _ _; congr 1; funext _ _; exact run_ok))
def kTup (Q : D → List D → Prop) (ds : List D) (S1 : List D) : Prop := ds.length ≤ big ∧ Q (.tup ds) S1
def kLst (Q : D → List D → Prop) (ds : List D) (S1 : List D) : Prop := ds.length ≤ big ∧ Q (.lst ds) S1
theorem run_if_bad {c : Prop} [Decidable c] {r : R α} : Run (if c then r else .bad) Q E = (c ∧ Run r Q E) := by
  by_cases h : c
  · simp [h]
  · simp [h, run_bad]
theorem run_tup {ms : M (List D)} : Run (mTup ms ρ Ss) QD E = Run (ms ρ Ss) (kTup QD) E := by
  unfold mTup
  rw [run_bind]
  congr 1
  funext a s
  rw [run_if_bad]
  (first | rfl | exact run_ok | exact run_bad | exact run_exc | (funext _ _; exact run_ok) | (congr 1; funext _ _; exact run_ok) | (congr 1; exact run_ok) | (congr 1; congr 1; funext _ _; exact run_ok) | (congr 1; funext _ _; congr 1; funext _ _; exact run_ok))
theorem run_lst {ms : M (List D)} : Run (mLst ms ρ Ss) QD E = Run (ms ρ Ss) (kLst QD) E := by
  unfold mLst
  rw [run_bind]
  congr 1
  funext a s
  rw [run_if_bad]
  (first | rfl | exact run_ok | exact run_bad | exact run_exc | (funext _ _; exact run_ok) | (congr 1; funext _ _; exact run_ok) | (congr 1; exact run_ok) | (congr 1; congr 1; funext _ _; exact run_ok) | (congr 1; funext _ _; congr 1; funext _ _; exact run_ok))
def kStarB (xs : List D) (Q : List D → List D → Prop) (ds : List D) (S2 : List D) : Prop := Q (xs ++ ds) S2
def kStarA (ms : M (List D)) (ρ : DEnv) (Q : List D → List D → Prop) (E : Str → Option Int → List D → Prop) (d : D) (S1 : List D) : Prop := Opt (itemsD d) fun xs => Run (ms ρ S1) (kStarB xs Q) E
theorem run_star {m : M D} {ms : M (List D)} : Run (mStar m ms ρ Ss) QL E = Run (m ρ Ss) (kStarA ms ρ QL E) E := by
  unfold mStar
  rw [run_bind]
  congr 1
  funext a s
  unfold kStarA
  cases itemsD a with
  | none => (first | rfl | exact run_ok | exact run_bad | exact run_exc | (funext _ _; exact run_ok) | (congr 1; funext _ _; exact run_ok) | (congr 1; exact run_ok) | (congr 1; congr 1; funext _ _; exact run_ok) | (congr 1; funext _ _; congr 1; funext _ _; exact run_ok))
  | some xs =>
    simp only [opt_some]
    rw [run_bind]
    (first | rfl | exact run_ok | exact run_bad | exact run_exc | (funext _ _; exact run_ok) | (congr 1; funext _ _; exact run_ok) | (congr 1; exact run_ok) | (congr 1; congr 1; funext _ _; exact run_ok) | (congr 1; funext _ _; congr 1; funext _ _; exact run_ok))
def kDict (cks : List (List Nat)) (Q : D → List D → Prop) (ds : List D) (S1 : List D) : Prop := (cks.Nodup ∧ cks.length = ds.length ∧ cks.length ≤ 15) ∧ Q (.dic (cks.map .str) ds) S1
theorem run_dict {cks : List (List Nat)} {ms : M (List D)} : Run (mDict cks ms ρ Ss) QD E = Run (ms ρ Ss) (kDict cks QD) E := by
  unfold mDict
  rw [run_bind]
  congr 1
  funext a s
  rw [run_if_bad]
  (first | rfl | exact run_ok | exact run_bad | exact run_exc | (funext _ _; exact run_ok) | (congr 1; funext _ _; exact run_ok) | (congr 1; exact run_ok) | (congr 1; congr 1; funext _ _; exact run_ok) | (congr 1; funext _ _; congr 1; funext _ _; exact run_ok))
theorem run_noPart : Run (mNoPart ρ Ss) QO E = QO none Ss := run_ok
def kPart (Q : Option Int → List D → Prop) (d : D) (S1 : List D) : Prop := match d with
  | .int i => Q (some i) S1
  | _ => False
theorem run_part {m : M D} : Run (mPart m ρ Ss) QO E = Run (m ρ Ss) (kPart QO) E := by
  unfold mPart
  rw [run_bind]
  congr 1
  funext d s
  cases d <;> (first | rfl | exact run_ok | exact run_bad | exact run_exc | (funext _ _; exact run_ok) | (congr 1; funext _ _; exact run_ok) | (congr 1; exact run_ok) | (congr 1; congr 1; funext _ _; exact run_ok) | (congr 1; funext _ _; congr 1; funext _ _; exact run_ok))
def kSlC (F : D → Option Int → Option Int → Option D) (d : D) (lo : Option Int) (Q : D → List D → Prop) (hi : Option Int) (S3 : List D) : Prop := Opt (F d lo hi) fun x => Q x S3
def kSlB (F : D → Option Int → Option Int → Option D) (d : D) (mh : M (Option Int)) (ρ : DEnv) (Q : D → List D → Prop) (E : Str → Option Int → List D → Prop) (lo : Option Int) (S2 : List D) : Prop := Run (mh ρ S2) (kSlC F d lo Q) E
def kSlA (F : D → Option Int → Option Int → Option D) (ml mh : M (Option Int)) (ρ : DEnv) (Q : D → List D → Prop) (E : Str → Option Int → List D → Prop) (d : D) (S1 : List D) : Prop := Run (ml ρ S1) (kSlB F d mh ρ Q E) E
theorem run_slc {F : D → Option Int → Option Int → Option D} {m : M D} {ml mh : M (Option Int)} : Run (mSlc F m ml mh ρ Ss) QD E = Run (m ρ Ss) (kSlA F ml mh ρ QD E) E := by
  unfold mSlc
  rw [run_bind]
  congr 1
  funext a s
  rw [run_bind]
  unfold kSlA
  congr 1
  funext b s
  rw [run_bind]
  unfold kSlB
  congr 1
  funext c s
  rw [run_ofO]
  (first | rfl | exact run_ok | exact run_bad | exact run_exc | (funext _ _; exact run_ok) | (congr 1; funext _ _; exact run_ok) | (congr 1; exact run_ok) | (congr 1; congr 1; funext _ _; exact run_ok) | (congr 1; funext _ _; congr 1; funext _ _; exact run_ok))
def kChC (F' : D → D → Option D) (d2 : D) (Q : D → List D → Prop) (d3 : D) (S3 : List D) : Prop := Opt (F' d2 d3) fun x => Q x S3
def kChB (F F' : D → D → Option D) (d1 : D) (mc : M D) (ρ : DEnv) (Q : D → List D → Prop) (E : Str → Option Int → List D → Prop) (d2 : D) (S2 : List D) : Prop :=
  Opt (F d1 d2) fun x => kAsB (fun b S => cond b (Run (mc ρ S) (kChC F' d2 Q) E) (Q (.bl false) S)) x S2
def kChA (F F' : D → D → Option D) (mb mc : M D) (ρ : DEnv) (Q : D → List D → Prop) (E : Str → Option Int → List D → Prop) (d1 : D) (S1 : List D) : Prop := Run (mb ρ S1) (kChB F F' d1 mc ρ Q E) E
theorem run_chain {F F' : D → D → Option D} {ma mb mc : M D} : Run (mChain F F' ma mb mc ρ Ss) QD E = Run (ma ρ Ss) (kChA F F' mb mc ρ QD E) E := by
  unfold mChain
  rw [run_bind]
  congr 1
  funext a s
  rw [run_bind]
  unfold kChA
  congr 1
  funext b s
  unfold kChB
  cases F a b with
  | none => (first | rfl | exact run_ok | exact run_bad | exact run_exc | (funext _ _; exact run_ok) | (congr 1; funext _ _; exact run_ok) | (congr 1; exact run_ok) | (congr 1; congr 1; funext _ _; exact run_ok) | (congr 1; funext _ _; congr 1; funext _ _; exact run_ok))
  | some x =>
    cases x <;> first
      | (first | rfl | exact run_ok | exact run_bad | exact run_exc | (funext _ _; exact run_ok) | (congr 1; funext _ _; exact run_ok) | (congr 1; exact run_ok) | (congr 1; congr 1; funext _ _; exact run_ok) | (congr 1; funext _ _; congr 1; funext _ _; exact run_ok))
      | (rename_i c
         cases c
         · (first | rfl | exact run_ok | exact run_bad | exact run_exc | (funext _ _; exact run_ok) | (congr 1; funext _ _; exact run_ok) | (congr 1; exact run_ok) | (congr 1; congr 1; funext _ _; exact run_ok) | (congr 1; funext _ _; congr 1; funext _ _; exact run_ok))
         · simp only [opt_some, kAsB, cond_true]
           rw [run_bind]
           congr 1
           funext c s
           rw [run_ofO]
           (first | rfl | exact run_ok | exact run_bad | exact run_exc | (funext _ _; exact run_ok) | (congr 1; funext _ _; exact run_ok) | (congr 1; exact run_ok) | (congr 1; congr 1; funext _ _; exact run_ok) | (congr 1; funext _ _; congr 1; funext _ _; exact run_ok)))
def kCall (F : List D → Option D) (Q : D → List D → Prop) (ds : List D) (S1 : List D) : Prop := Opt (F ds) fun x => Q x S1
theorem run_call {F : List D → Option D} {ms : M (List D)} : Run (mCall F ms ρ Ss) QD E = Run (ms ρ Ss) (kCall F QD) E := by
  unfold mCall
  rw [run_bind]
  congr 1
  funext a s
  rw [run_ofO]
  (first | rfl | exact run_ok | exact run_bad | exact run_exc | (funext _ _; exact run_ok) | (congr 1; funext _ _; exact run_ok) | (congr 1; exact run_ok) | (congr 1; congr 1; funext _ _; exact run_ok) | (congr 1; funext _ _; congr 1; funext _ _; exact run_ok))
def kMeB (F : D → List D → Option D) (d : D) (Q : D → List D → Prop) (ds : List D) (S2 : List D) : Prop := Opt (F d ds) fun x => Q x S2
def kMeA (N : D → Option (String × String)) (F : D → List D → Option D) (ms : M (List D)) (ρ : DEnv) (Q : D → List D → Prop) (E : Str → Option Int → List D → Prop) (d : D) (S1 : List D) : Prop := Opt (N d) fun _ => Run (ms ρ S1) (kMeB F d Q) E
theorem run_meth {N : D → Option (String × String)} {F : D → List D → Option D} {m : M D} {ms : M (List D)} : Run (mMeth N F m ms ρ Ss) QD E = Run (m ρ Ss) (kMeA N F ms ρ QD E) E := by
  unfold mMeth
  rw [run_bind]
  congr 1
  funext a s
  unfold kMeA
  cases N a with
  | none => (first | rfl | exact run_ok | exact run_bad | exact run_exc | (funext _ _; exact run_ok) | (congr 1; funext _ _; exact run_ok) | (congr 1; exact run_ok) | (congr 1; congr 1; funext _ _; exact run_ok) | (congr 1; funext _ _; congr 1; funext _ _; exact run_ok))
  | some p =>
    simp only [opt_some]
    rw [run_bind]
    congr 1
    funext c s
    rw [run_ofO]
    (first | rfl | exact run_ok | exact run_bad | exact run_exc | (funext _ _; exact run_ok) | (congr 1; funext _ _; exact run_ok) | (congr 1; exact run_ok) | (congr 1; congr 1; funext _ _; exact run_ok) | (congr 1; funext _ _; congr 1; funext _ _; exact run_ok))
def kFn (f : FD) (Q : D → List D → Prop) (E : Str → Option Int → List D → Prop) (ds : List D) (S1 : List D) : Prop := Run (f ds S1) Q E
theorem run_fn {f : FD} {ms : M (List D)} : Run (mFn f ms ρ Ss) QD E = Run (ms ρ Ss) (kFn f QD E) E := by
  unfold mFn
  rw [run_bind]
  (first | rfl | exact run_ok | exact run_bad | exact run_exc | (funext _ _; exact run_ok) | (congr 1; funext _ _; exact run_ok) | (congr 1; exact run_ok) | (congr 1; congr 1; funext _ _; exact run_ok) | (congr 1; funext _ _; congr 1; funext _ _; exact run_ok))
def kFnKB (f : FD) (q : Kw) (ds : List D) (Q : D → List D → Prop) (E : Str → Option Int → List D → Prop) (es : List D) (S1 : List D) : Prop := (ds.length = q.n ∧ es.length = q.ks.length) ∧ Run (f (permD q.perm (ds ++ es)) S1) Q E
def kFnKA (f : FD) (q : Kw) (mk : M (List D)) (ρ : DEnv) (Q : D → List D → Prop) (E : Str → Option Int → List D → Prop) (ds : List D) (S1 : List D) : Prop := Run (mk ρ S1) (kFnKB f q ds Q E) E
theorem run_fnK {f : FD} {q : Kw} {ms mk : M (List D)} : Run (mFnK f q ms mk ρ Ss) QD E = Run (ms ρ Ss) (kFnKA f q mk ρ QD E) E := by
  unfold mFnK
  rw [run_bind]
  congr 1
  funext a s
  rw [run_bind]
  unfold kFnKA
  congr 1
  funext b s
  rw [run_if_bad]
  (first | rfl | exact run_ok | exact run_bad | exact run_exc | (funext _ _; exact run_ok) | (congr 1; funext _ _; exact run_ok) | (congr 1; exact run_ok) | (congr 1; congr 1; funext _ _; exact run_ok) | (congr 1; funext _ _; congr 1; funext _ _; exact run_ok))
def kFnLA (tbl : List (Str × FD)) (ms : M (List D)) (ρ : DEnv) (Ss : List D) (Q : D → List D → Prop) (E : Str → Option Int → List D → Prop) (d : D) : Prop := match d with
  | .fn x => Opt (tbl.lookup x) fun f => Run (ms ρ Ss) (kFn f Q E) E
  | _ => False
theorem run_fnL {i : Nat} {tbl : List (Str × FD)} {ms : M (List D)} : Run (mFnL i tbl ms ρ Ss) QD E = SlV ρ[i]? (kFnLA tbl ms ρ Ss QD E) := by
  unfold mFnL
  rcases ρ[i]? with _ | _ | d | d
  · (first | rfl | exact run_ok | exact run_bad | exact run_exc | (funext _ _; exact run_ok) | (congr 1; funext _ _; exact run_ok) | (congr 1; exact run_ok) | (congr 1; congr 1; funext _ _; exact run_ok) | (congr 1; funext _ _; congr 1; funext _ _; exact run_ok))
  · (first | rfl | exact run_ok | exact run_bad | exact run_exc | (funext _ _; exact run_ok) | (congr 1; funext _ _; exact run_ok) | (congr 1; exact run_ok) | (congr 1; congr 1; funext _ _; exact run_ok) | (congr 1; funext _ _; congr 1; funext _ _; exact run_ok))
  · cases d <;> first
      | (first | rfl | exact run_ok | exact run_bad | exact run_exc | (funext _ _; exact run_ok) | (congr 1; funext _ _; exact run_ok) | (congr 1; exact run_ok) | (congr 1; congr 1; funext _ _; exact run_ok) | (congr 1; funext _ _; congr 1; funext _ _; exact run_ok))
      | (simp only [slV_val, kFnLA]
         cases tbl.lookup _ with
         | none => (first | rfl | exact run_ok | exact run_bad | exact run_exc | (funext _ _; exact run_ok) | (congr 1; funext _ _; exact run_ok) | (congr 1; exact run_ok) | (congr 1; congr 1; funext _ _; exact run_ok) | (congr 1; funext _ _; congr 1; funext _ _; exact run_ok))
         | some f => simp only [opt_some]; rw [run_bind]; (first | rfl | exact run_ok | exact run_bad | exact run_exc | (funext _ _; exact run_ok) | (congr 1; funext _ _; exact run_ok) | (congr 1; exact run_ok) | (congr 1; congr 1; funext _ _; exact run_ok) | (congr 1; funext _ _; congr 1; funext _ _; exact run_ok)))
  · cases d <;> (first | rfl | exact run_ok | exact run_bad | exact run_exc | (funext _ _; exact run_ok) | (congr 1; funext _ _; exact run_ok) | (congr 1; exact run_ok) | (congr 1; congr 1; funext _ _; exact run_ok) | (congr 1; funext _ _; congr 1; funext _ _; exact run_ok))
def kCaughtE (cs : List Str) (Q : D → List D → Prop) (c : Str) (p : Option Int) (S1 : List D) : Prop := c ∈ cs ∧ Q (.exo c p) S1
def kCaughtQ (Q : D → List D → Prop) (d : D) (S1 : List D) : Prop := Q .non S1
theorem run_caught {cs : List Str} {m : M D} : Run (mCaught cs m ρ Ss) QD E = Run (m ρ Ss) (kCaughtQ QD) (kCaughtE cs QD) := by
  unfold mCaught
  cases m ρ Ss with
  | ok a s =>
    show Run (.ok .non s) QD E = _
    rw [run_ok, run_ok]
    rfl
  | bad =>
    show Run .bad QD E = _
    rw [run_bad, run_bad]
  | exc c p s =>
    show Run (if c ∈ cs then _ else _) _ _ = _
    rw [run_if_bad, run_ok, run_exc]
    rfl
/-! iteration -/
def kIter (Q : List D → List D → Prop) (d : D) (S1 : List D) : Prop := Opt (iterD d) fun ds => Q ds S1
theorem run_iter {m : M D} : Run (mIter m ρ Ss) QL E = Run (m ρ Ss) (kIter QL) E := by
  unfold mIter
  rw [run_bind]
  congr 1
  funext a s
  unfold kIter
  cases iterD a <;> (first | rfl | exact run_ok | exact run_bad | exact run_exc | (funext _ _; exact run_ok) | (congr 1; funext _ _; exact run_ok) | (congr 1; exact run_ok) | (congr 1; congr 1; funext _ _; exact run_ok) | (congr 1; funext _ _; congr 1; funext _ _; exact run_ok))
def kEnum (Q : List D → List D → Prop) (d : D) (S1 : List D) : Prop := Opt (iterD d) fun ds => Q (enumD 0 ds) S1
theorem run_enum {m : M D} : Run (mEnum m ρ Ss) QL E = Run (m ρ Ss) (kEnum QL) E := by
  unfold mEnum
  rw [run_bind]
  congr 1
  funext a s
  unfold kEnum
  cases iterD a <;> (first | rfl | exact run_ok | exact run_bad | exact run_exc | (funext _ _; exact run_ok) | (congr 1; funext _ _; exact run_ok) | (congr 1; exact run_ok) | (congr 1; congr 1; funext _ _; exact run_ok) | (congr 1; funext _ _; congr 1; funext _ _; exact run_ok))
def kRng (Q : List D → List D → Prop) (d : D) (S1 : List D) : Prop := match d with
  | .int j => (-(2 ^ 62) ≤ j ∧ j < 2 ^ 62) ∧ Q (rangeD 0 j.toNat) S1
  | _ => False
theorem run_rng {m : M D} : Run (mRange1 m ρ Ss) QL E = Run (m ρ Ss) (kRng QL) E := by
  unfold mRange1
  rw [run_bind]
  congr 1
  funext a s
  cases a <;> first
    | (first | rfl | exact run_ok | exact run_bad | exact run_exc | (funext _ _; exact run_ok) | (congr 1; funext _ _; exact run_ok) | (congr 1; exact run_ok) | (congr 1; congr 1; funext _ _; exact run_ok) | (congr 1; funext _ _; congr 1; funext _ _; exact run_ok))
    | (simp only [kRng]; rw [run_if_bad]; (first | rfl | exact run_ok | exact run_bad | exact run_exc | (funext _ _; exact run_ok) | (congr 1; funext _ _; exact run_ok) | (congr 1; exact run_ok) | (congr 1; congr 1; funext _ _; exact run_ok) | (congr 1; funext _ _; congr 1; funext _ _; exact run_ok)))
def kRng2B (d1 : D) (Q : List D → List D → Prop) (d2 : D) (S1 : List D) : Prop := match d1, d2 with
  | .int i, .int j => ((-(2 ^ 62) ≤ i ∧ i < 2 ^ 62) ∧ (-(2 ^ 62) ≤ j ∧ j < 2 ^ 62)) ∧ Q (rangeD i (j - i).toNat) S1
  | _, _ => False
def kRng2A (m2 : M D) (ρ : DEnv) (Q : List D → List D → Prop) (E : Str → Option Int → List D → Prop) (d : D) (S1 : List D) : Prop := Run (m2 ρ S1) (kRng2B d Q) E
theorem run_rng2 {m m2 : M D} : Run (mRange2 m m2 ρ Ss) QL E = Run (m ρ Ss) (kRng2A m2 ρ QL E) E := by
  unfold mRange2
  rw [run_bind]
  congr 1
  funext a s
  rw [run_bind]
  unfold kRng2A
  congr 1
  funext b s
  cases a <;> cases b <;> first
    | (first | rfl | exact run_ok | exact run_bad | exact run_exc | (funext _ _; exact run_ok) | (congr 1; funext _ _; exact run_ok) | (congr 1; exact run_ok) | (congr 1; congr 1; funext _ _; exact run_ok) | (congr 1; funext _ _; congr 1; funext _ _; exact run_ok))
    | (simp only [kRng2B]; rw [run_if_bad]; (first | rfl | exact run_ok | exact run_bad | exact run_exc | (funext _ _; exact run_ok) | (congr 1; funext _ _; exact run_ok) | (congr 1; exact run_ok) | (congr 1; congr 1; funext _ _; exact run_ok) | (congr 1; funext _ _; congr 1; funext _ _; exact run_ok)))
def kZipB (d1 : D) (Q : List D → List D → Prop) (d2 : D) (S1 : List D) : Prop := Opt (iterD d1) fun xs => Opt (iterD d2) fun ys => Q (zipD xs ys) S1
def kZipA (m2 : M D) (ρ : DEnv) (Q : List D → List D → Prop) (E : Str → Option Int → List D → Prop) (d : D) (S1 : List D) : Prop := Run (m2 ρ S1) (kZipB d Q) E
theorem run_zip {m m2 : M D} : Run (mZip m m2 ρ Ss) QL E = Run (m ρ Ss) (kZipA m2 ρ QL E) E := by
  unfold mZip
  rw [run_bind]
  congr 1
  funext a s
  rw [run_bind]
  unfold kZipA
  congr 1
  funext b s
  unfold kZipB
  cases iterD a <;> cases iterD b <;> (first | rfl | exact run_ok | exact run_bad | exact run_exc | (funext _ _; exact run_ok) | (congr 1; funext _ _; exact run_ok) | (congr 1; exact run_ok) | (congr 1; congr 1; funext _ _; exact run_ok) | (congr 1; funext _ _; congr 1; funext _ _; exact run_ok))
def kCmpB (Q : D → List D → Prop) (xs : List D) (S2 : List D) : Prop := Q (.lst xs) S2
def kCmp (t : Tgt) (vs : List Nat) (mc : M Bool) (me : M D) (ρ : DEnv) (Q : D → List D → Prop) (E : Str → Option Int → List D → Prop) (ds : List D) (S1 : List D) : Prop := ds.length ≤ big ∧ Run (mColl (oneC t vs mc me ρ) ds S1) (kCmpB Q) E
theorem run_comp {mi : M (List D)} {t : Tgt} {vs : List Nat} {mc : M Bool} {me : M D} : Run (mComp mi t vs mc me ρ Ss) QD E = Run (mi ρ Ss) (kCmp t vs mc me ρ QD E) E := by
  unfold mComp
  rw [run_bind]
  congr 1
  funext a s
  rw [run_if_bad, run_bind]
  (first | rfl | exact run_ok | exact run_bad | exact run_exc | (funext _ _; exact run_ok) | (congr 1; funext _ _; exact run_ok) | (congr 1; exact run_ok) | (congr 1; congr 1; funext _ _; exact run_ok) | (congr 1; funext _ _; congr 1; funext _ _; exact run_ok))
theorem run_yes : Run (mYes ρ Ss) QB E = QB true Ss := run_ok
/-! statements -/
def kSeq (n : MS) (Q : Fl → List D → Prop) (E : Str → Option Int → List D → Prop) (f : Fl) (S1 : List D) : Prop := match f with
  | .nx ρ' => Run (n ρ' S1) Q E
  | f => Q f S1
theorem kSeq_nx {n : MS} {ρ' : DEnv} : kSeq n QF E (.nx ρ') Ss = Run (n ρ' Ss) QF E := rfl
theorem kSeq_rt {n : MS} {d : D} : kSeq n QF E (.rt d) Ss = QF (.rt d) Ss := rfl
theorem kSeq_bk {n : MS} {ρ' : DEnv} : kSeq n QF E (.bk ρ') Ss = QF (.bk ρ') Ss := rfl
theorem kSeq_ct {n : MS} {ρ' : DEnv} : kSeq n QF E (.ct ρ') Ss = QF (.ct ρ') Ss := rfl
theorem run_seq {m n : MS} : Run (mSeq m n ρ Ss) QF E = Run (m ρ Ss) (kSeq n QF E) E := by
  unfold mSeq
  rw [run_bind]
  congr 1
  funext f s
  cases f <;> (first | rfl | exact run_ok | exact run_bad | exact run_exc | (funext _ _; exact run_ok) | (congr 1; funext _ _; exact run_ok) | (congr 1; exact run_ok) | (congr 1; congr 1; funext _ _; exact run_ok) | (congr 1; funext _ _; congr 1; funext _ _; exact run_ok))
theorem run_skip : Run (mSkip ρ Ss) QF E = QF (.nx ρ) Ss := run_ok
def kSet (i : Nat) (ρ : DEnv) (Q : Fl → List D → Prop) (d : D) (S1 : List D) : Prop := Q (.nx (ρ.set i (some (.val d)))) S1
def kSetO (i : Nat) (ρ : DEnv) (Q : Fl → List D → Prop) (d : D) (S1 : List D) : Prop := Q (.nx (ρ.set i (some (.own d)))) S1
def kSetC (i : Nat) (ρ : DEnv) (Q : Fl → List D → Prop) (d : D) (S1 : List D) : Prop := Q (.nx (ρ.set i (some (.val (.cel S1.length))))) (S1 ++ [d])
theorem run_set {i : Nat} {m : M D} : Run (mSet i m ρ Ss) QF E = Run (m ρ Ss) (kSet i ρ QF) E := by
  unfold mSet
  rw [run_bind]
  (first | rfl | exact run_ok | exact run_bad | exact run_exc | (funext _ _; exact run_ok) | (congr 1; funext _ _; exact run_ok) | (congr 1; exact run_ok) | (congr 1; congr 1; funext _ _; exact run_ok) | (congr 1; funext _ _; congr 1; funext _ _; exact run_ok))
theorem run_setO {i : Nat} {m : M D} : Run (mSetO i m ρ Ss) QF E = Run (m ρ Ss) (kSetO i ρ QF) E := by
  unfold mSetO
  rw [run_bind]
  (first | rfl | exact run_ok | exact run_bad | exact run_exc | (funext _ _; exact run_ok) | (congr 1; funext _ _; exact run_ok) | (congr 1; exact run_ok) | (congr 1; congr 1; funext _ _; exact run_ok) | (congr 1; funext _ _; congr 1; funext _ _; exact run_ok))
theorem run_setC {i : Nat} {m : M D} : Run (mSetC i m ρ Ss) QF E = Run (m ρ Ss) (kSetC i ρ QF) E := by
  unfold mSetC
  rw [run_bind]
  (first | rfl | exact run_ok | exact run_bad | exact run_exc | (funext _ _; exact run_ok) | (congr 1; funext _ _; exact run_ok) | (congr 1; exact run_ok) | (congr 1; congr 1; funext _ _; exact run_ok) | (congr 1; funext _ _; congr 1; funext _ _; exact run_ok))
def kParB (i j : Nat) (o1 o2 : Bool) (ρ : DEnv) (d1 : D) (Q : Fl → List D → Prop) (d2 : D) (S2 : List D) : Prop := Q (.nx ((ρ.set i (some (slo o1 d1))).set j (some (slo o2 d2)))) S2
def kParA (i j : Nat) (o1 o2 : Bool) (m2 : M D) (ρ : DEnv) (Q : Fl → List D → Prop) (E : Str → Option Int → List D → Prop) (d1 : D) (S1 : List D) : Prop := Run (m2 ρ S1) (kParB i j o1 o2 ρ d1 Q) E
theorem run_par {i j : Nat} {o1 o2 : Bool} {m1 m2 : M D} : Run (mPar i j o1 o2 m1 m2 ρ Ss) QF E = Run (m1 ρ Ss) (kParA i j o1 o2 m2 ρ QF E) E := by
  unfold mPar
  rw [run_bind]
  congr 1
  funext a s
  rw [run_bind]
  (first | rfl | exact run_ok | exact run_bad | exact run_exc | (funext _ _; exact run_ok) | (congr 1; funext _ _; exact run_ok) | (congr 1; exact run_ok) | (congr 1; congr 1; funext _ _; exact run_ok) | (congr 1; funext _ _; congr 1; funext _ _; exact run_ok))
def kRetE (Q : Fl → List D → Prop) (d : D) (S1 : List D) : Prop := Q (.rt d) S1
theorem run_ret {m : M D} : Run (mRet m ρ Ss) QF E = Run (m ρ Ss) (kRetE QF) E := by
  unfold mRet
  rw [run_bind]
  (first | rfl | exact run_ok | exact run_bad | exact run_exc | (funext _ _; exact run_ok) | (congr 1; funext _ _; exact run_ok) | (congr 1; exact run_ok) | (congr 1; congr 1; funext _ _; exact run_ok) | (congr 1; funext _ _; congr 1; funext _ _; exact run_ok))
theorem run_retN : Run (mRetN ρ Ss) QF E = QF (.rt .non) Ss := run_ok
theorem run_retO {i : Nat} : Run (mRetO i ρ Ss) QF E = SlO ρ[i]? (fun d => QF (.rt d) Ss) := by
  unfold mRetO
  rcases ρ[i]? with _ | _ | _ | _ <;> (first | rfl | exact run_ok | exact run_bad | exact run_exc | (funext _ _; exact run_ok) | (congr 1; funext _ _; exact run_ok) | (congr 1; exact run_ok) | (congr 1; congr 1; funext _ _; exact run_ok) | (congr 1; funext _ _; congr 1; funext _ _; exact run_ok))
def kIf (m n : MS) (ρ : DEnv) (Q : Fl → List D → Prop) (E : Str → Option Int → List D → Prop) (b : Bool) (S1 : List D) : Prop := cond b (Run (m ρ S1) Q E) (Run (n ρ S1) Q E)
theorem run_ifS {c : M Bool} {m n : MS} : Run (mIf c m n ρ Ss) QF E = Run (c ρ Ss) (kIf m n ρ QF E) E := by
  unfold mIf
  rw [run_bind]
  congr 1
  funext b s
  cases b <;> (first | rfl | exact run_ok | exact run_bad | exact run_exc | (funext _ _; exact run_ok) | (congr 1; funext _ _; exact run_ok) | (congr 1; exact run_ok) | (congr 1; congr 1; funext _ _; exact run_ok) | (congr 1; funext _ _; congr 1; funext _ _; exact run_ok))
def kDrop (ρ : DEnv) (Q : Fl → List D → Prop) (d : D) (S1 : List D) : Prop := Q (.nx ρ) S1
theorem run_drop {m : M D} : Run (mDrop m ρ Ss) QF E = Run (m ρ Ss) (kDrop ρ QF) E := by
  unfold mDrop
  rw [run_bind]
  (first | rfl | exact run_ok | exact run_bad | exact run_exc | (funext _ _; exact run_ok) | (congr 1; funext _ _; exact run_ok) | (congr 1; exact run_ok) | (congr 1; congr 1; funext _ _; exact run_ok) | (congr 1; funext _ _; congr 1; funext _ _; exact run_ok))
theorem run_raise {c : Str} : Run (mRaise c ρ Ss) QF E = E c none Ss := run_exc
theorem run_break : Run (mBreak ρ Ss) QF E = QF (.bk ρ) Ss := run_ok
theorem run_cont : Run (mCont ρ Ss) QF E = QF (.ct ρ) Ss := run_ok
def kTgt (t : Tgt) (ρ : DEnv) (Q : Fl → List D → Prop) (d : D) (S1 : List D) : Prop := Opt (bindT t d ρ) fun ρ' => Q (.nx ρ') S1
theorem run_tgt {t : Tgt} {m : M D} : Run (mTgt t m ρ Ss) QF E = Run (m ρ Ss) (kTgt t ρ QF) E := by
  unfold mTgt
  rw [run_bind]
  congr 1
  funext a s
  unfold kTgt
  cases bindT t a ρ <;> (first | rfl | exact run_ok | exact run_bad | exact run_exc | (funext _ _; exact run_ok) | (congr 1; funext _ _; exact run_ok) | (congr 1; exact run_ok) | (congr 1; congr 1; funext _ _; exact run_ok) | (congr 1; funext _ _; congr 1; funext _ _; exact run_ok))
theorem run_frz {i : Nat} {m : MS} : Run (mFrz i m ρ Ss) QF E = Run (m (frz i ρ) Ss) QF E := rfl
def kFor (t : Tgt) (body : MS) (ρ : DEnv) (Q : Fl → List D → Prop) (E : Str → Option Int → List D → Prop) (ds : List D) (S1 : List D) : Prop := Run (mForL t body ds ρ S1) Q E
theorem run_for {mi : M (List D)} {t : Tgt} {body : MS} : Run (mFor mi t body ρ Ss) QF E = Run (mi ρ Ss) (kFor t body ρ QF E) E := by
  unfold mFor
  rw [run_bind]
  (first | rfl | exact run_ok | exact run_bad | exact run_exc | (funext _ _; exact run_ok) | (congr 1; funext _ _; exact run_ok) | (congr 1; exact run_ok) | (congr 1; congr 1; funext _ _; exact run_ok) | (congr 1; funext _ _; congr 1; funext _ _; exact run_ok))
def kLoop (t : Tgt) (body : MS) (ds : List D) (Q : Fl → List D → Prop) (E : Str → Option Int → List D → Prop) (f : Fl) (S1 : List D) : Prop := match f with
  | .nx ρ2 => Run (mForL t body ds ρ2 S1) Q E
  | .ct ρ2 => Run (mForL t body ds ρ2 S1) Q E
  | .bk ρ2 => Q (.nx ρ2) S1
  | .rt d => Q (.rt d) S1
theorem run_forL_nil {t : Tgt} {body : MS} : Run (mForL t body [] ρ Ss) QF E = QF (.nx ρ) Ss := run_ok
theorem run_forL_cons {t : Tgt} {body : MS} {d : D} {ds : List D} : Run (mForL t body (d :: ds) ρ Ss) QF E = Opt (bindT t d ρ) fun ρ1 => Run (body ρ1 Ss) (kLoop t body ds QF E) E := by
  rw [mForL.eq_def]
  show Run (match bindT t d ρ with | none => _ | some ρ1 => _) _ _ = _
  generalize bindT t d ρ = o
  cases o with
  | none => (first | rfl | exact run_ok | exact run_bad | exact run_exc | (funext _ _; exact run_ok) | (congr 1; funext _ _; exact run_ok) | (congr 1; exact run_ok) | (congr 1; congr 1; funext _ _; exact run_ok) | (congr 1; funext _ _; congr 1; funext _ _; exact run_ok))
  | some ρ1 =>
    show Run (R.bind _ _) _ _ = Run _ _ _
    rw [run_bind]
    congr 1
    funext f s
    cases f <;> (first | rfl | exact run_ok | exact run_bad | exact run_exc | (funext _ _; exact run_ok) | (congr 1; funext _ _; exact run_ok) | (congr 1; exact run_ok) | (congr 1; congr 1; funext _ _; exact run_ok) | (congr 1; funext _ _; congr 1; funext _ _; exact run_ok))
def kSubCC (w o : D) (ρ : DEnv) (Q : Fl → List D → Prop) (q : D) (S3 : List D) : Prop := match o with
  | .cel n => Opt S3[n]? fun d => Opt (putD d q w) fun d' => Q (.nx ρ) (S3.set n d')
  | _ => False
def kSubCB (w : D) (mi : M D) (ρ : DEnv) (Q : Fl → List D → Prop) (E : Str → Option Int → List D → Prop) (o : D) (S2 : List D) : Prop := Run (mi ρ S2) (kSubCC w o ρ Q) E
def kSubCA (mo mi : M D) (ρ : DEnv) (Q : Fl → List D → Prop) (E : Str → Option Int → List D → Prop) (w : D) (S1 : List D) : Prop := Run (mo ρ S1) (kSubCB w mi ρ Q E) E
theorem run_subC {mo mi mv : M D} : Run (mSubC mo mi mv ρ Ss) QF E = Run (mv ρ Ss) (kSubCA mo mi ρ QF E) E := by
  unfold mSubC
  rw [run_bind]
  congr 1
  funext a s
  rw [run_bind]
  unfold kSubCA
  congr 1
  funext o s
  rw [run_bind]
  unfold kSubCB
  congr 1
  funext q s
  cases o <;> first
    | (first | rfl | exact run_ok | exact run_bad | exact run_exc | (funext _ _; exact run_ok) | (congr 1; funext _ _; exact run_ok) | (congr 1; exact run_ok) | (congr 1; congr 1; funext _ _; exact run_ok) | (congr 1; funext _ _; congr 1; funext _ _; exact run_ok))
    | (simp only [kSubCC]
       rename_i n
       cases s[n]? with
       | none => (first | rfl | exact run_ok | exact run_bad | exact run_exc | (funext _ _; exact run_ok) | (congr 1; funext _ _; exact run_ok) | (congr 1; exact run_ok) | (congr 1; congr 1; funext _ _; exact run_ok) | (congr 1; funext _ _; congr 1; funext _ _; exact run_ok))
       | some x =>
         simp only [opt_some]
         cases putD x q a <;> (first | rfl | exact run_ok | exact run_bad | exact run_exc | (funext _ _; exact run_ok) | (congr 1; funext _ _; exact run_ok) | (congr 1; exact run_ok) | (congr 1; congr 1; funext _ _; exact run_ok) | (congr 1; funext _ _; congr 1; funext _ _; exact run_ok)))
def kSubOB (i : Nat) (w d : D) (ρ : DEnv) (Q : Fl → List D → Prop) (q : D) (S3 : List D) : Prop := Opt (putD d q w) fun d' => Q (.nx (ρ.set i (some (.own d')))) S3
def kSubOA (i : Nat) (d : D) (mi : M D) (ρ : DEnv) (Q : Fl → List D → Prop) (E : Str → Option Int → List D → Prop) (w : D) (S1 : List D) : Prop := Run (mi ρ S1) (kSubOB i w d ρ Q) E
theorem run_subO {i : Nat} {mi mv : M D} : Run (mSubO i mi mv ρ Ss) QF E = SlO ρ[i]? (fun d => Run (mv ρ Ss) (kSubOA i d mi ρ QF E) E) := by
  unfold mSubO
  rcases ρ[i]? with _ | _ | _ | d
  · (first | rfl | exact run_ok | exact run_bad | exact run_exc | (funext _ _; exact run_ok) | (congr 1; funext _ _; exact run_ok) | (congr 1; exact run_ok) | (congr 1; congr 1; funext _ _; exact run_ok) | (congr 1; funext _ _; congr 1; funext _ _; exact run_ok))
  · (first | rfl | exact run_ok | exact run_bad | exact run_exc | (funext _ _; exact run_ok) | (congr 1; funext _ _; exact run_ok) | (congr 1; exact run_ok) | (congr 1; congr 1; funext _ _; exact run_ok) | (congr 1; funext _ _; congr 1; funext _ _; exact run_ok))
  · (first | rfl | exact run_ok | exact run_bad | exact run_exc | (funext _ _; exact run_ok) | (congr 1; funext _ _; exact run_ok) | (congr 1; exact run_ok) | (congr 1; congr 1; funext _ _; exact run_ok) | (congr 1; funext _ _; congr 1; funext _ _; exact run_ok))
  · simp only [slO_own]
    rw [run_bind]
    congr 1
    funext w s
    rw [run_bind]
    unfold kSubOA
    congr 1
    funext q s
    unfold kSubOB
    cases putD d q w <;> (first | rfl | exact run_ok | exact run_bad | exact run_exc | (funext _ _; exact run_ok) | (congr 1; funext _ _; exact run_ok) | (congr 1; exact run_ok) | (congr 1; congr 1; funext _ _; exact run_ok) | (congr 1; funext _ _; congr 1; funext _ _; exact run_ok))
def kOwnB (i : Nat) (xs : List D) (F : List D → D → Option (List D)) (ρ : DEnv) (Q : Fl → List D → Prop) (w : D) (S1 : List D) : Prop := Opt (F xs w) fun ys => Q (.nx (ρ.set i (some (.own (.lst ys))))) S1
def kOwnA (i : Nat) (F : List D → D → Option (List D)) (m : M D) (ρ : DEnv) (Ss : List D) (Q : Fl → List D → Prop) (E : Str → Option Int → List D → Prop) (d : D) : Prop := match d with
  | .lst xs => Run (m ρ Ss) (kOwnB i xs F ρ Q) E
  | _ => False
theorem run_own {i : Nat} {F : List D → D → Option (List D)} {m : M D} : Run (mOwn i F m ρ Ss) QF E = SlO ρ[i]? (kOwnA i F m ρ Ss QF E) := by
  unfold mOwn
  rcases ρ[i]? with _ | _ | d | d
  · (first | rfl | exact run_ok | exact run_bad | exact run_exc | (funext _ _; exact run_ok) | (congr 1; funext _ _; exact run_ok) | (congr 1; exact run_ok) | (congr 1; congr 1; funext _ _; exact run_ok) | (congr 1; funext _ _; congr 1; funext _ _; exact run_ok))
  · (first | rfl | exact run_ok | exact run_bad | exact run_exc | (funext _ _; exact run_ok) | (congr 1; funext _ _; exact run_ok) | (congr 1; exact run_ok) | (congr 1; congr 1; funext _ _; exact run_ok) | (congr 1; funext _ _; congr 1; funext _ _; exact run_ok))
  · cases d <;> (first | rfl | exact run_ok | exact run_bad | exact run_exc | (funext _ _; exact run_ok) | (congr 1; funext _ _; exact run_ok) | (congr 1; exact run_ok) | (congr 1; congr 1; funext _ _; exact run_ok) | (congr 1; funext _ _; congr 1; funext _ _; exact run_ok))
  · cases d <;> first
      | (first | rfl | exact run_ok | exact run_bad | exact run_exc | (funext _ _; exact run_ok) | (congr 1; funext _ _; exact run_ok) | (congr 1; exact run_ok) | (congr 1; congr 1; funext _ _; exact run_ok) | (congr 1; funext _ _; congr 1; funext _ _; exact run_ok))
      | (simp only [slO_own, kOwnA]
         rw [run_bind]
         congr 1
         funext w s
         unfold kOwnB
         cases F _ w <;> (first | rfl | exact run_ok | exact run_bad | exact run_exc | (funext _ _; exact run_ok) | (congr 1; funext _ _; exact run_ok) | (congr 1; exact run_ok) | (congr 1; congr 1; funext _ _; exact run_ok) | (congr 1; funext _ _; congr 1; funext _ _; exact run_ok)))
/-! functions -/
def kRet (b : Bool) (Q : D → List D → Prop) (f : Fl) (S1 : List D) : Prop := match f with
  | .nx _ => cond b (Q .non S1) False
  | .rt d => Q d S1
  | _ => False
theorem run_mkF {b : Bool} {n N : Nat} {body : MS} {ds : List D} : Run (mkFb b n N body ds Ss) QD E = (ds.length = n ∧ Run (body (ds.map (fun d => some (.val d)) ++ List.replicate (N - n) none) Ss) (kRet b QD) E) := by
  unfold mkFb
  rw [run_if_bad, run_bind]
  congr 2
  funext f s
  cases f <;> first
    | (first | rfl | exact run_ok | exact run_bad | exact run_exc | (funext _ _; exact run_ok) | (congr 1; funext _ _; exact run_ok) | (congr 1; exact run_ok) | (congr 1; congr 1; funext _ _; exact run_ok) | (congr 1; funext _ _; congr 1; funext _ _; exact run_ok))
    | (cases b <;> (first | rfl | exact run_ok | exact run_bad | exact run_exc | (funext _ _; exact run_ok) | (congr 1; funext _ _; exact run_ok) | (congr 1; exact run_ok) | (congr 1; congr 1; funext _ _; exact run_ok) | (congr 1; funext _ _; congr 1; funext _ _; exact run_ok)))
end
end Dm
end
section
namespace Dm
open PySem PySem.Spec L2 PyProof.Rows
/-! ### the data's operations, case by case -/
section
variable {i j k : Int} {a b s : List Nat} {xs ys ks vs : List D} {x y z q : D} {bb : Bool} {ns : List Int} {cs : List Str} {c : Str}
theorem oo_add_i : addD (.int i) (.int j) = some (.int (i + j)) := rfl
theorem oo_add_str : addD (.str a) (.str b) = if a.length + b.length ≤ big then some (.str (a ++ b)) else none := rfl
theorem oo_add_tup : addD (.tup xs) (.tup ys) = if xs.length + ys.length ≤ big then some (.tup (xs ++ ys)) else none := rfl
theorem oo_add_lst : addD (.lst xs) (.lst ys) = if xs.length + ys.length ≤ big then some (.lst (xs ++ ys)) else none := rfl
theorem oo_sub_i : subD (.int i) (.int j) = some (.int (i - j)) := rfl
theorem oo_mul_i : mulD (.int i) (.int j) = if mulOk i j then some (.int (i * j)) else none := rfl
theorem oo_mul_s : mulD (.str a) (.int k) = if 0 ≤ k ∧ k ≤ 1000 ∧ a.length ≤ 1000 then some (.str (List.replicate k.toNat a).flatten) else none := rfl
theorem oo_mul_t : mulD (.tup xs) (.int k) = if repOk xs.length k then some (.tup (List.replicate k.toNat xs).flatten) else none := rfl
theorem oo_mul_l : mulD (.lst xs) (.int k) = if 0 ≤ k ∧ k ≤ 1000 ∧ xs.length ≤ 1000 then some (.lst (List.replicate k.toNat xs).flatten) else none := rfl
theorem oo_rep_l : repF (.lst xs) (.int k) = if 0 ≤ k ∧ k ≤ 1000 ∧ xs.length ≤ 1000 then some (.lst (List.replicate k.toNat xs).flatten) else none := rfl
theorem oo_cat_l : catD (.lst xs) (.lst ys) = if xs.length + ys.length ≤ big then some (.lst (xs ++ ys)) else none := rfl
theorem oo_fdiv : fdivD (.int i) (.int j) = if divOk j then some (.int (i / j)) else none := rfl
theorem oo_mod : modD (.int i) (.int j) = if 0 < j then some (.int (i % j)) else none := rfl
theorem oo_pow : powD (.int i) (.int j) = if 0 ≤ j ∧ j ≤ 1000 ∧ i.natAbs < 2 ^ 64 then some (.int (i ^ j.toNat)) else none := rfl
theorem oo_neg : negD (.int i) = some (.int (-i)) := rfl
theorem oo_lt_i : ltD (.int i) (.int j) = some (.bl (decide (i < j))) := rfl
theorem oo_le_i : leD (.int i) (.int j) = some (.bl (decide (i ≤ j))) := rfl
theorem oo_gt_i : gtD (.int i) (.int j) = some (.bl (decide (j < i))) := rfl
theorem oo_ge_i : geD (.int i) (.int j) = some (.bl (decide (j ≤ i))) := rfl
theorem oo_lt_s : ltD (.str a) (.str b) = some (.bl (decide (a < b))) := rfl
theorem oo_gt_s : gtD (.str a) (.str b) = some (.bl (decide (b < a))) := rfl
theorem oo_le_s : leD (.str a) (.str b) = some (.bl (!decide (b < a))) := rfl
theorem oo_ge_s : geD (.str a) (.str b) = some (.bl (!decide (a < b))) := rfl
theorem oo_is : isD x .non = some (.bl (isNon x)) := rfl
theorem oo_isnt : isntD x .non = some (.bl (!isNon x)) := rfl
theorem oo_isn_non : isNon (.non) = true := rfl
theorem oo_isn_bl : isNon (.bl bb) = false := rfl
theorem oo_isn_int : isNon (.int i) = false := rfl
theorem oo_isn_str : isNon (.str a) = false := rfl
theorem oo_isn_tup : isNon (.tup xs) = false := rfl
theorem oo_isn_lst : isNon (.lst xs) = false := rfl
theorem oo_isn_dic : isNon (.dic ks vs) = false := rfl
theorem oo_eq : eqD x y = if D.ok 60 x && D.ok 60 y then some (.bl (eqB x y)) else none := rfl
theorem oo_ne : neD x y = if D.ok 60 x && D.ok 60 y then some (.bl (!eqB x y)) else none := rfl
theorem oo_tru_non : truD .non = some false := rfl
theorem oo_tru_bl : truD (.bl bb) = some bb := rfl
theorem oo_tru_int : truD (.int i) = some (i != 0) := rfl
theorem oo_tru_str : truD (.str a) = if a.length ≤ big then some (!a.isEmpty) else none := rfl
theorem oo_tru_tup : truD (.tup xs) = some (!xs.isEmpty) := rfl
theorem oo_tru_lst : truD (.lst xs) = some (!xs.isEmpty) := rfl
theorem oo_len_str : lenD [.str s] = if s.length ≤ big then some (.int s.length) else none := rfl
theorem oo_len_tup : lenD [.tup xs] = some (.int xs.length) := rfl
theorem oo_len_lst : lenD [.lst xs] = some (.int xs.length) := rfl
theorem oo_len_scr : lenD [.scr ns] = some (.int ns.length) := rfl
theorem oo_len_dic : lenD [.dic ks vs] = some (.int ks.length) := rfl
theorem oo_sum : sumD [.lst xs] = (intsOf xs).map fun ns => .int ns.sum := rfl
theorem oo_max_l : maxD [.lst xs] = (intsOf xs).bind fun ns => ns.max?.map .int := rfl
theorem oo_max_2 : maxD [.int i, .int j] = some (.int (max i j)) := rfl
theorem oo_min_l : minD [.lst xs] = (intsOf xs).bind fun ns => ns.min?.map .int := rfl
theorem oo_min_2 : minD [.int i, .int j] = some (.int (min i j)) := rfl
theorem oo_all : allD [.lst xs] = (blsOf xs).map fun bs => .bl (bs.all id) := rfl
theorem oo_any : anyD [.lst xs] = (blsOf xs).map fun bs => .bl (bs.any id) := rfl
theorem oo_abs : absD [.int i] = some (.int (if i < 0 then -i else i)) := rfl
theorem oo_int_i : intD [.int i] = some (.int i) := rfl
theorem oo_int_b : intD [.bl bb] = some (.int (if bb then 1 else 0)) := rfl
theorem oo_tup_t : tupD [.tup xs] = some (.tup xs) := rfl
theorem oo_tup_l : tupD [.lst xs] = some (.tup xs) := rfl
theorem oo_lstF_t : lstF [.tup xs] = some (.lst xs) := rfl
theorem oo_lstF_l : lstF [.lst xs] = some (.lst xs) := rfl
theorem oo_lstF2_t : lstF2 [.tup xs] = some (.lst xs) := rfl
theorem oo_lstF2_l : lstF2 [.lst xs] = some (.lst xs) := rfl
theorem oo_lstF2_s : lstF2 [.str s] = if s.length ≤ big then some (.lst (s.map fun c => .str [c])) else none := rfl
theorem oo_lstF2_r : lstF2 [.scr ns] = some (.lst (ns.map .int)) := rfl
theorem oo_nJoin : nJoin (.str s) = some ("str", "str.join") := rfl
theorem oo_nIndex : nIndex (.lst xs) = some ("list", "list.index") := rfl
theorem oo_join_lst : joinD (.str s) [.lst xs] = (strsOf xs).bind fun ys => if (ys.map List.length).sum + ys.length * s.length ≤ big then some (.str (joinL s ys)) else none := rfl
theorem oo_join_tup : joinD (.str s) [.tup xs] = (strsOf xs).bind fun ys => if (ys.map List.length).sum + ys.length * s.length ≤ big then some (.str (joinL s ys)) else none := rfl
theorem oo_index : indexD (.lst xs) [x] = if D.ok 60 x && D.oks 60 xs then (xs.findIdx? fun z => eqB z x).map fun (i : Nat) => D.int (i : Int) else none := rfl
theorem oo_it_tup : iterD (.tup xs) = some xs := rfl
theorem oo_it_lst : iterD (.lst xs) = some xs := rfl
theorem oo_it_str : iterD (.str s) = some (s.map fun c => .str [c]) := rfl
theorem oo_it_scr : iterD (.scr ns) = some (ns.map .int) := rfl
theorem oo_ix_tup : idxD (.tup xs) (.int i) = if xs.length ≤ big then atI xs i else none := rfl
theorem oo_ix_lst : idxD (.lst xs) (.int i) = if xs.length ≤ big then atI xs i else none := rfl
theorem oo_ix_str : idxD (.str s) (.int i) = if s.length ≤ big then (atI s i).map fun c => .str [c] else none := rfl
theorem oo_ix_whole : idxD (.dic [.str [119, 104, 111, 108, 101], .str [99, 101, 108, 108, 115], .str [99, 111, 117, 110, 116]] [x, y, z]) (.str [119, 104, 111, 108, 101]) = some x := rfl
theorem oo_put_whole : putD (.dic [.str [119, 104, 111, 108, 101], .str [99, 101, 108, 108, 115], .str [99, 111, 117, 110, 116]] [x, y, z]) (.str [119, 104, 111, 108, 101]) q = some (.dic [.str [119, 104, 111, 108, 101], .str [99, 101, 108, 108, 115], .str [99, 111, 117, 110, 116]] [q, y, z]) := rfl
theorem oo_ix_cells : idxD (.dic [.str [119, 104, 111, 108, 101], .str [99, 101, 108, 108, 115], .str [99, 111, 117, 110, 116]] [x, y, z]) (.str [99, 101, 108, 108, 115]) = some y := rfl
theorem oo_put_cells : putD (.dic [.str [119, 104, 111, 108, 101], .str [99, 101, 108, 108, 115], .str [99, 111, 117, 110, 116]] [x, y, z]) (.str [99, 101, 108, 108, 115]) q = some (.dic [.str [119, 104, 111, 108, 101], .str [99, 101, 108, 108, 115], .str [99, 111, 117, 110, 116]] [x, q, z]) := rfl
theorem oo_ix_count : idxD (.dic [.str [119, 104, 111, 108, 101], .str [99, 101, 108, 108, 115], .str [99, 111, 117, 110, 116]] [x, y, z]) (.str [99, 111, 117, 110, 116]) = some z := rfl
theorem oo_put_count : putD (.dic [.str [119, 104, 111, 108, 101], .str [99, 101, 108, 108, 115], .str [99, 111, 117, 110, 116]] [x, y, z]) (.str [99, 111, 117, 110, 116]) q = some (.dic [.str [119, 104, 111, 108, 101], .str [99, 101, 108, 108, 115], .str [99, 111, 117, 110, 116]] [x, y, q]) := rfl
theorem oo_put_l : putD (.lst xs) (.int i) q = (ixN xs.length i).map fun j => .lst (xs.set j q) := rfl
theorem oo_app : appD xs x = if xs.length < big then some (xs ++ [x]) else none := rfl
theorem oo_slc_t : slcD (.tup xs) = fun lo hi => some (.tup (cut xs lo hi)) := rfl
theorem oo_slc_l : slcD (.lst xs) = fun lo hi => some (.lst (cut xs lo hi)) := rfl
theorem oo_slc_s : slcD (.str s) = fun lo hi => if s.length ≤ big then some (.str (cut s lo hi)) else none := rfl
theorem oo_isi_ty {n : String} : isiC cs [x, .ty n] = (isiN x n).map .bl := by cases x <;> rfl
theorem oo_isi_ex {p : Option Int} : isiC cs [.exo c p, .fn c] = if c ∈ cs then some (.bl true) else none := by simp [isiC]
theorem oo_isi_non_bool : isiN (.non) "bool" = some false := rfl
theorem oo_isi_non_int : isiN (.non) "int" = some false := rfl
theorem oo_isi_non_str : isiN (.non) "str" = some false := rfl
theorem oo_isi_non_tuple : isiN (.non) "tuple" = some false := rfl
theorem oo_isi_non_list : isiN (.non) "list" = some false := rfl
theorem oo_isi_non_dict : isiN (.non) "dict" = some false := rfl
theorem oo_isi_bl_bool : isiN (.bl bb) "bool" = some true := rfl
theorem oo_isi_bl_int : isiN (.bl bb) "int" = some true := rfl
theorem oo_isi_bl_str : isiN (.bl bb) "str" = some false := rfl
theorem oo_isi_bl_tuple : isiN (.bl bb) "tuple" = some false := rfl
theorem oo_isi_bl_list : isiN (.bl bb) "list" = some false := rfl
theorem oo_isi_bl_dict : isiN (.bl bb) "dict" = some false := rfl
theorem oo_isi_int_bool : isiN (.int i) "bool" = some false := rfl
theorem oo_isi_int_int : isiN (.int i) "int" = some true := rfl
theorem oo_isi_int_str : isiN (.int i) "str" = some false := rfl
theorem oo_isi_int_tuple : isiN (.int i) "tuple" = some false := rfl
theorem oo_isi_int_list : isiN (.int i) "list" = some false := rfl
theorem oo_isi_int_dict : isiN (.int i) "dict" = some false := rfl
theorem oo_isi_str_bool : isiN (.str a) "bool" = some false := rfl
theorem oo_isi_str_int : isiN (.str a) "int" = some false := rfl
theorem oo_isi_str_str : isiN (.str a) "str" = some true := rfl
theorem oo_isi_str_tuple : isiN (.str a) "tuple" = some false := rfl
theorem oo_isi_str_list : isiN (.str a) "list" = some false := rfl
theorem oo_isi_str_dict : isiN (.str a) "dict" = some false := rfl
theorem oo_isi_tup_bool : isiN (.tup xs) "bool" = some false := rfl
theorem oo_isi_tup_int : isiN (.tup xs) "int" = some false := rfl
theorem oo_isi_tup_str : isiN (.tup xs) "str" = some false := rfl
theorem oo_isi_tup_tuple : isiN (.tup xs) "tuple" = some true := rfl
theorem oo_isi_tup_list : isiN (.tup xs) "list" = some false := rfl
theorem oo_isi_tup_dict : isiN (.tup xs) "dict" = some false := rfl
theorem oo_isi_lst_bool : isiN (.lst xs) "bool" = some false := rfl
theorem oo_isi_lst_int : isiN (.lst xs) "int" = some false := rfl
theorem oo_isi_lst_str : isiN (.lst xs) "str" = some false := rfl
theorem oo_isi_lst_tuple : isiN (.lst xs) "tuple" = some false := rfl
theorem oo_isi_lst_list : isiN (.lst xs) "list" = some true := rfl
theorem oo_isi_lst_dict : isiN (.lst xs) "dict" = some false := rfl
theorem oo_isi_dic_bool : isiN (.dic ks vs) "bool" = some false := rfl
theorem oo_isi_dic_int : isiN (.dic ks vs) "int" = some false := rfl
theorem oo_isi_dic_str : isiN (.dic ks vs) "str" = some false := rfl
theorem oo_isi_dic_tuple : isiN (.dic ks vs) "tuple" = some false := rfl
theorem oo_isi_dic_list : isiN (.dic ks vs) "list" = some false := rfl
theorem oo_isi_dic_dict : isiN (.dic ks vs) "dict" = some true := rfl
theorem oo_in_c {n : Nat} : inB (.str [n]) (.str s) = some (decide (n ∈ s)) := rfl
theorem oo_inD : inD x y = (inB x y).map .bl := rfl
theorem oo_ninD : ninD x y = (inB x y).map fun b => .bl (!b) := rfl
end
/-! ### comprehensions -/
theorem mColl_pure {f : D → List D → R (Option D)} {g : D → Option D} {S : List D} : ∀ {ds : List D}, (∀ d ∈ ds, f d S = .ok (g d) S) → mColl f ds S = .ok (ds.filterMap g) S
  | [], _ => rfl
  | d :: ds, h => by
    have ih := mColl_pure (f := f) (g := g) (S := S) (ds := ds) fun x hx => h x (List.mem_cons_of_mem _ hx)
    rw [mColl, h d (List.mem_cons_self ..), R.bind_ok, ih, R.bind_ok, List.filterMap_cons]
    cases g d <;> rfl
theorem run_coll_nil {f : D → List D → R (Option D)} {S : List D} {Q E} : Run (mColl f [] S) Q E = Q [] S := run_ok
theorem run_coll_cons {f : D → List D → R (Option D)} {d : D} {ds S : List D} {Q E} : Run (mColl f (d :: ds) S) Q E = Run (f d S) (fun o S1 => Run (mColl f ds S1) (fun r S2 => Q (match o with | some x => x :: r | none => r) S2) E) E := by
  rw [mColl, run_bind]
  congr 1
  funext o S1
  rw [run_bind]
  congr 1
  funext _ _
  exact run_ok
/-- no draw: each element's value known -/
theorem run_coll_pure {f : D → List D → R (Option D)} {g : D → Option D} {ds S : List D} {Q E} (h : ∀ d ∈ ds, f d S = .ok (g d) S) (hQ : Q (ds.filterMap g) S) : Run (mColl f ds S) Q E := by
  rw [mColl_pure h, run_ok]
  exact hQ
/-- with draws: each turn of the loop keeps the invariant, takes from the store -/
theorem run_coll_inv {f : D → List D → R (Option D)} {I : Nat → List D → Prop} {P : D → Prop} {c : Nat} {Q : List D → List D → Prop} {E} : ∀ {ds S : List D} {m : Nat}, I m S → ds.length * c ≤ m →
    (∀ d ∈ ds, ∀ n T, I n T → c ≤ n → Run (f d T) (fun o T' => ∃ x, o = some x ∧ P x ∧ I (n - c) T') (fun _ _ _ => False)) →
    (∀ xs S', xs.length = ds.length → (∀ x ∈ xs, P x) → I (m - ds.length * c) S' → Q xs S') → Run (mColl f ds S) Q E
  | [], S, m, hI, hm, h, hQ => .ok (hQ [] S rfl (by simp) (by simpa using hI))
  | d :: ds, S, m, hI, hm, h, hQ => by
    have e : (d :: ds).length * c = c + ds.length * c := by rw [List.length_cons, Nat.succ_mul]; omega
    rw [run_coll_cons]
    refine Run.step (h d (List.mem_cons_self ..) m S hI (by omega)) ?_
    rintro _ S1 ⟨x, rfl, hx, hI1⟩
    refine run_coll_inv (ds := ds) (m := m - c) hI1 (by omega) (fun z hz => h z (List.mem_cons_of_mem _ hz)) fun xs S' hl hP hI' => ?_
    refine hQ _ _ (by simp [hl]) (fun z hz => ?_) ?_
    · rcases List.mem_cons.mp hz with rfl | hz
      · exact hx
      · exact hP z hz
    · have : m - (d :: ds).length * c = m - c - ds.length * c := by omega
      rw [this]; exact hI'
theorem run_noX {α : Type} {r : R α} {Q E} : Run (noX r) Q E = Run r Q (fun _ _ _ => False) := by
  cases r
  · rw [noX_ok, run_ok, run_ok]
  · rw [run_exc]; exact run_bad
  · rw [run_bad]; exact run_bad
def kOneB (Q : Option D → List D → Prop) (x : D) (S2 : List D) : Prop := Q (some x) S2
def kOneA (me : M D) (ρ2 : DEnv) (Q : Option D → List D → Prop) (b : Bool) (S1 : List D) : Prop := cond b (Run (me ρ2 S1) (kOneB Q) (fun _ _ _ => False)) (Q none S1)
theorem run_one {t : Tgt} {vs : List Nat} {mc : M Bool} {me : M D} {ρ : DEnv} {d : D} {S : List D} {Q E} : Run (oneC t vs mc me ρ d S) Q E = Opt (bindT t d (wipeD ρ vs)) fun ρ2 => Run (mc ρ2 S) (kOneA me ρ2 Q) (fun _ _ _ => False) := by
  unfold oneC
  cases bindT t d (wipeD ρ vs) with
  | none => exact run_bad
  | some ρ2 =>
    simp only [opt_some]
    rw [run_bind, run_noX]
    congr 1
    funext b S1
    cases b
    · exact run_ok
    · show Run (R.bind _ _) _ _ = _
      rw [run_bind, run_noX]
      unfold kOneA
      simp only [cond_true]
      congr 1
      funext _ _
      exact run_ok
/-! ### loops -/
/-- a loop whose turns keep an invariant of the place, the locals and the cells, and don't leave it -/
theorem run_forL_inv {t : Tgt} {body : MS} {I : Nat → DEnv → List D → Prop} {Q : Fl → List D → Prop} {E} : ∀ {ds : List D} {i : Nat} {ρ : DEnv} {S : List D}, I i ρ S →
    (∀ (j : Nat) d ρ S, ds[j]? = some d → I (i + j) ρ S → ∃ ρ1, bindT t d ρ = some ρ1 ∧ Run (body ρ1 S) (fun f S' => ∃ ρ2, (f = .nx ρ2 ∨ f = .ct ρ2) ∧ I (i + j + 1) ρ2 S') (fun _ _ _ => False)) →
    (∀ ρ S, I (i + ds.length) ρ S → Q (.nx ρ) S) → Run (mForL t body ds ρ S) Q E
  | [], i, ρ, S, hI, h, hQ => .ok (hQ ρ S hI)
  | d :: ds, i, ρ, S, hI, h, hQ => by
    rw [run_forL_cons]
    obtain ⟨ρ1, hb, hr⟩ := h 0 d ρ S rfl hI
    rw [hb, opt_some]
    refine Run.step hr ?_
    rintro f S' ⟨ρ2, hf, hI2⟩
    have key : Run (mForL t body ds ρ2 S') Q E := by
      refine run_forL_inv (i := i + 1) hI2 (fun j d ρ S hj hI3 => ?_) fun ρ S hI3 => ?_
      · have := h (j + 1) d ρ S hj (by rw [show i + (j + 1) = i + 1 + j by omega]; exact hI3)
        rw [show i + (j + 1) = i + 1 + j by omega] at this
        exact this
      · exact hQ ρ S (by rw [List.length_cons, show i + (ds.length + 1) = i + 1 + ds.length by omega]; exact hI3)
    rcases hf with rfl | rfl <;> exact key
/-! ### what the laws compare -/
mutual
theorem eqv_refl : ∀ (n : Nat) (d : D), D.ok n d = true → PyData.eqv d.py d.py = true
  | _, .non, _ => by simp [D.py, PyData.eqv]
  | _, .bl _, _ => by simp [D.py, PyData.eqv]
  | _, .int _, _ => by simp [D.py, PyData.eqv]
  | _, .str _, _ => by simp [D.py, PyData.eqv]
  | n + 1, .tup xs, h => by
    have := eqvs_refl n xs (by simpa [D.ok] using h)
    simpa [D.py, PyData.eqv] using this
  | n + 1, .lst xs, h => by
    have := eqvs_refl n xs (by simpa [D.ok] using h)
    simpa [D.py, PyData.eqv] using this
  | 0, .tup xs, h => by simp [D.ok] at h
  | 0, .lst xs, h => by simp [D.ok] at h
  | _, .dic _ _, h => by simp [D.ok] at h
  | _, .fn _, h => by simp [D.ok] at h
  | _, .ty _, h => by simp [D.ok] at h
  | _, .exo _ _, h => by simp [D.ok] at h
  | _, .cel _, h => by simp [D.ok] at h
  | _, .scr _, h => by simp [D.ok] at h
theorem eqvs_refl : ∀ (n : Nat) (ds : List D), D.oks n ds = true → PyData.eqvAll (D.pys ds) (D.pys ds) = true
  | _, [], _ => by simp [D.pys, PyData.eqvAll]
  | n, d :: ds, h => by
    simp only [D.oks, Bool.and_eq_true] at h
    simp [D.pys, PyData.eqvAll, eqv_refl n d h.1, eqvs_refl n ds h.2]
end
theorem eqB_refl {d : D} (h : D.ok 60 d = true) : eqB d d = true := eqv_refl 60 d h

end Dm
end
section
namespace Dm
open PySem PySem.Spec L2 PyProof.Rows
/-! ### sizes -/
abbrev lg (i : Int) : Nat := i.natAbs.log2
theorem log2_le_of {n k : Nat} (h : n < 2 ^ (k + 1)) : n.log2 ≤ k := by
  by_cases h0 : n = 0
  · subst h0; simp
  · exact Nat.lt_succ_iff.mp ((Nat.log2_lt h0).mpr h)
theorem lg_add (a b : Int) : lg (a + b) ≤ max (lg a) (lg b) + 1 := by
  apply log2_le_of
  have h1 : a.natAbs < 2 ^ (lg a + 1) := Nat.lt_log2_self
  have h2 : b.natAbs < 2 ^ (lg b + 1) := Nat.lt_log2_self
  have h3 : 2 ^ (lg a + 1) ≤ 2 ^ (max (lg a) (lg b) + 1) := Nat.pow_le_pow_right (by decide) (by omega)
  have h4 : 2 ^ (lg b + 1) ≤ 2 ^ (max (lg a) (lg b) + 1) := Nat.pow_le_pow_right (by decide) (by omega)
  have h5 := Int.natAbs_add_le a b
  rw [Nat.pow_succ 2 (max (lg a) (lg b) + 1)]
  omega
theorem lg_mul (a b : Int) : lg (a * b) ≤ lg a + lg b + 1 := by
  apply log2_le_of
  have h1 : a.natAbs < 2 ^ (lg a + 1) := Nat.lt_log2_self
  have h2 : b.natAbs < 2 ^ (lg b + 1) := Nat.lt_log2_self
  rw [Int.natAbs_mul]
  have := Nat.mul_lt_mul'' h1 h2
  rw [← Nat.pow_add] at this
  exact Nat.lt_of_lt_of_le this (Nat.pow_le_pow_right (by decide) (by omega))
theorem lg_of {i : Int} {k : Nat} (h0 : 0 ≤ i) (h : i < 2 ^ (k + 1)) : lg i ≤ k := by
  apply log2_le_of
  have : (i.natAbs : Int) < ((2 ^ (k + 1) : Nat) : Int) := by
    rw [Int.natAbs_of_nonneg h0]
    simpa using h
  exact_mod_cast this
theorem lg_neg (a : Int) : lg (-a) = lg a := by simp [lg]
theorem lg_sub (a b : Int) : lg (a - b) ≤ max (lg a) (lg b) + 1 := by
  have := lg_add a (-b)
  rw [lg_neg] at this
  exact this
theorem mulOk_of {a b : Int} {m n : Nat} (h1 : lg a ≤ m) (h2 : lg b ≤ n) (h : m + n < 100000000) : mulOk a b := by
  show lg a + lg b < 100000000
  omega
theorem lg_bits {z : Int} {n : Nat} (h : Builtin.Int.intBits z ≤ n) : lg z ≤ n := by
  unfold Builtin.Int.intBits at h
  by_cases h0 : (z == 0) = true
  · have : z = 0 := by simpa using h0
    subst this
    simp [lg]
  · rw [if_neg h0] at h
    show z.natAbs.log2 ≤ n
    omega
theorem le_big {n : Nat} (h : n ≤ 16000000) : n ≤ big := Nat.le_trans h (by decide)
theorem lt_big {n : Nat} (h : n ≤ 16000000) : n < big := Nat.lt_of_le_of_lt h (by decide)
theorem rangeD_length (lo : Int) (n : Nat) : (rangeD lo n).length = n := by unfold rangeD; rw [List.length_map, List.length_range]
theorem rangeD_at {lo : Int} {n j : Nat} {d : D} (h : (rangeD lo n)[j]? = some d) : j < n ∧ d = .int (lo + (j : Int)) := by
  unfold rangeD at h
  rw [List.getElem?_map] at h
  by_cases hj : j < n
  · rw [List.getElem?_range hj] at h
    exact ⟨hj, (Option.some.inj h).symm⟩
  · rw [List.getElem?_eq_none (by rw [List.length_range]; omega)] at h
    cases h
theorem rng_ok {k : Int} (h0 : 0 ≤ k) (h1 : k ≤ 1000000) : -(2 ^ 62) ≤ k ∧ k < 2 ^ 62 := by omega
/-! ### places -/
theorem atI_nat {α : Type} {xs : List α} {k : Int} (h0 : 0 ≤ k) (h1 : k < xs.length) : atI xs k = xs[k.toNat]? := by
  unfold atI ixN
  rw [if_pos h0, if_pos h1]
  rfl
theorem atI_mem {α : Type} {xs : List α} {k : Int} (h0 : 0 ≤ k) (h1 : k < xs.length) : ∃ x, atI xs k = some x ∧ x ∈ xs := by
  rw [atI_nat h0 h1]
  have : k.toNat < xs.length := by omega
  exact ⟨xs[k.toNat], List.getElem?_eq_getElem this, List.getElem_mem this⟩
theorem ixN_nat {n : Nat} {k : Int} (h0 : 0 ≤ k) (h1 : k < n) : ixN n k = some k.toNat := by
  unfold ixN
  rw [if_pos h0, if_pos h1]
theorem cut_to {α : Type} (xs : List α) (k : Nat) : cut xs none (some (k : Int)) = xs.take k := by
  unfold cut
  rw [HT.sIx_nat, HT.sIx_none, List.drop_zero, Nat.sub_zero]
  by_cases h : k ≤ xs.length
  · rw [Nat.min_eq_left h]
  · rw [Nat.min_eq_right (by omega), List.take_length, List.take_of_length_le (by omega)]
theorem joinL_nil : ∀ ys : List (List Nat), joinL [] ys = ys.flatten
  | [] => rfl
  | [p] => by simp [joinL, TL.joinL]
  | p :: q :: r => by
    have := joinL_nil (q :: r)
    show p ++ ([] ++ TL.joinL [] (q :: r)) = _
    rw [List.nil_append, show TL.joinL [] (q :: r) = _ from this]
    rfl
/-- letters, as texts of one sign -/
def chs (s : List Nat) : List D := s.map fun c => .str [c]
theorem strsOf_chs (s : List Nat) : strsOf (chs s) = some (s.map fun c => [c]) := by
  unfold chs
  have := strsOf_map (s.map fun c => [c])
  rw [List.map_map] at this
  exact this
theorem flat_chs (s : List Nat) : (s.map fun c => [c]).flatten = s := by
  induction s with
  | nil => rfl
  | cons c s ih => simp [ih]
theorem sum_chs (s : List Nat) : ((s.map fun c => [c]).map List.length).sum = s.length := by
  induction s with
  | nil => rfl
  | cons c s ih => simp at ih ⊢; omega
theorem chs_of {xs : List D} (h : ∀ x ∈ xs, ∃ c, x = .str [c]) : ∃ s, xs = chs s := by
  induction xs with
  | nil => exact ⟨[], rfl⟩
  | cons x xs ih =>
    obtain ⟨s, hs⟩ := ih fun x hx => h x (List.mem_cons_of_mem _ hx)
    obtain ⟨c, hc⟩ := h x (List.mem_cons_self ..)
    exact ⟨c :: s, by rw [hs, hc]; rfl⟩
theorem chs_ofP {P : Nat → Prop} {xs : List D} (h : ∀ x ∈ xs, ∃ c, x = .str [c] ∧ P c) : ∃ s, xs = chs s ∧ ∀ c ∈ s, P c := by
  induction xs with
  | nil => exact ⟨[], rfl, by simp⟩
  | cons x xs ih =>
    obtain ⟨s, hs, hP⟩ := ih fun x hx => h x (List.mem_cons_of_mem _ hx)
    obtain ⟨c, hc, hp⟩ := h x (List.mem_cons_self ..)
    refine ⟨c :: s, by rw [hs, hc]; rfl, fun z hz => ?_⟩
    rcases List.mem_cons.mp hz with rfl | hz
    · exact hp
    · exact hP z hz
theorem strs_ofP {P : List Nat → Prop} {xs : List D} (h : ∀ x ∈ xs, ∃ c, x = .str c ∧ P c) : ∃ ws : List (List Nat), xs = ws.map .str ∧ ∀ c ∈ ws, P c := by
  induction xs with
  | nil => exact ⟨[], rfl, by simp⟩
  | cons x xs ih =>
    obtain ⟨s, hs, hP⟩ := ih fun x hx => h x (List.mem_cons_of_mem _ hx)
    obtain ⟨c, hc, hp⟩ := h x (List.mem_cons_self ..)
    refine ⟨c :: s, by rw [hs, hc]; rfl, fun z hz => ?_⟩
    rcases List.mem_cons.mp hz with rfl | hz
    · exact hp
    · exact hP z hz
theorem join_chs {s : List Nat} (h : s.length ≤ big) : joinD (.str []) [.lst (chs s)] = some (.str s) := by
  rw [oo_join_lst, strsOf_chs]
  simp only [Option.bind_some, List.length_nil, Nat.mul_zero, Nat.add_zero]
  rw [if_pos (by rw [sum_chs]; exact h), joinL_nil, flat_chs]
@[simp] theorem chs_length (s : List Nat) : (chs s).length = s.length := by simp [chs]
theorem chs_set (s : List Nat) (k c : Nat) : (chs s).set k (.str [c]) = chs (s.set k c) := by
  unfold chs
  exact List.map_set.symm
theorem oks_chs {n : Nat} : ∀ {s : List Nat}, (∀ c ∈ s, c < 0x110000) → D.oks n (chs s) = true
  | [], _ => by simp [chs, D.oks]
  | c :: s, h => by
    have := oks_chs (n := n) (s := s) fun z hz => h z (List.mem_cons_of_mem _ hz)
    have h1 := h c (List.mem_cons_self ..)
    show (D.ok n (.str [c]) && D.oks n (chs s)) = true
    rw [this, D.ok]
    simpa using h1
/-- a word's letters -/
def Wd (s : List Nat) : Prop := ∀ c ∈ s, c = 97 ∨ c = 98 ∨ c = 99 ∨ c = 100 ∨ c = 101 ∨ c = 102
theorem Wd.lt {s : List Nat} (h : Wd s) : ∀ c ∈ s, c < 0x110000 := fun c hc => by
  have := h c hc
  omega
theorem ne_chs {s : List Nat} (h : Wd s) (h0 : s ≠ []) : neD (.lst (chs s)) (.lst []) = some (.bl true) := by
  have e1 : D.ok 60 (.lst (chs s)) = true := by rw [D.ok]; exact oks_chs h.lt
  have e2 : D.ok 60 (.lst []) = true := by decide
  have e3 : eqB (.lst (chs s)) (.lst []) = false := by
    cases s with
    | nil => exact absurd rfl h0
    | cons c s => simp [eqB, chs, D.py, D.pys, PyData.eqv, PyData.eqvAll]
  rw [oo_ne, e1, e2, e3]
  rfl
theorem eq_int {i j : Int} : eqD (.int i) (.int j) = some (.bl (i == j)) := rfl
theorem ne_int {i j : Int} : neD (.int i) (.int j) = some (.bl (!(i == j))) := rfl
/-! ### loops without a turn -/
theorem run_while_no {c : M Bool} {body : MS} {ρ : DEnv} {S : List D} {Q : Fl → List D → Prop} {E} (h : Run (c ρ S) (fun b S' => b = false ∧ Q (.nx ρ) S') (fun _ _ _ => False)) : Run (mWhile c body ρ S) Q E := by
  obtain ⟨b, S', e, rfl, hq⟩ := h.ok_of
  have : mWhileN c body 1 ρ S = .ok (.nx ρ) S' := by
    unfold mWhileN
    rw [e]
    rfl
  rw [mWhile_eq (n := 1) (by rw [this]; simp), this, run_ok]
  exact hq
/-! ### the draws -/
def Dr (m : Nat) (S : List D) : Prop := ∃ (w c : Int) (cells : List Int), S = [.dic [.str [119, 104, 111, 108, 101], .str [99, 101, 108, 108, 115], .str [99, 111, 117, 110, 116]] [.int w, .lst (cells.map .int), .int c]] ∧
  0 ≤ w ∧ (∀ z ∈ cells, lg z ≤ 2000000) ∧ cells.length ≤ 1000 ∧ 0 ≤ c ∧ c + (m : Int) ≤ 2 ^ 64
theorem Dr.mono {m n : Nat} {S : List D} (h : Dr m S) (hn : n ≤ m) : Dr n S := by
  obtain ⟨w, c, cells, h1, h2, h3, h4, h5, h6⟩ := h
  exact ⟨w, c, cells, h1, h2, h3, h4, h5, by omega⟩
/-- a promise of a draw: a value, and the store it leaves -/
abbrev DrR (P : D → Prop) (m : Nat) : D → List D → Prop := fun d S' => P d ∧ Dr m S'
abbrev E0 : Str → Option Int → List D → Prop := fun _ _ _ => False
end Dm
end
section
namespace Dm
open PySem PySem.Spec L2 PyProof.Rows
theorem Run.eq_of {α : Type} {r : R α} {v : α} {S : List D} (h : Run r (fun d S' => d = v ∧ S' = S) E0) : r = .ok v S := by
  obtain ⟨a, S', e, rfl, rfl⟩ := h.ok_of
  exact e
theorem eqB_str {a b : List Nat} : eqB (.str a) (.str b) = decide (a = b) := by
  unfold eqB
  simp only [D.py, PyData.eqv]
  by_cases h : a = b
  · subst h; simp
  · have : ¬ (S a = S b) := fun e => h (by
      have := congrArg (fun z : Str => z.cps.toList) e
      simpa [S] using this)
    simp [h, this]
theorem ok_str {a : List Nat} {n : Nat} (h : ∀ c ∈ a, c < 0x110000) : D.ok n (.str a) = true := by
  cases n <;> (rw [D.ok]; simpa using h)
theorem ne_str {a b : List Nat} (h1 : ∀ c ∈ a, c < 0x110000) (h2 : ∀ c ∈ b, c < 0x110000) : neD (.str a) (.str b) = some (.bl (!decide (a = b))) := by
  rw [oo_ne, ok_str h1, ok_str h2, eqB_str]
  rfl
theorem eq_str {a b : List Nat} (h1 : ∀ c ∈ a, c < 0x110000) (h2 : ∀ c ∈ b, c < 0x110000) : eqD (.str a) (.str b) = some (.bl (decide (a = b))) := by
  rw [oo_eq, ok_str h1, ok_str h2, eqB_str]
  rfl
theorem ne_chr {c d : Nat} (h1 : c < 0x110000) (h2 : d < 0x110000) : neD (.str [c]) (.str [d]) = some (.bl (!decide (c = d))) := by
  rw [ne_str (by simpa using h1) (by simpa using h2)]
  simp
/-! ### far -/
def dist : List Nat → List Nat → Nat
  | a :: as, b :: bs => (if a = b then 0 else 1) + dist as bs
  | _, _ => 0
theorem coll_zip {F : D → List D → R (Option D)} {S : List D} : ∀ {a b : List Nat}, (∀ c ∈ a, ∀ d ∈ b, F (.tup [.str [c], .str [d]]) S = .ok (if c = d then none else some (.int 1)) S) →
    mColl F (zipD (chs a) (chs b)) S = .ok (List.replicate (dist a b) (.int 1)) S
  | [], [], h => rfl
  | [], _ :: _, h => rfl
  | _ :: _, [], h => rfl
  | c :: a, d :: b, h => by
    have ih := coll_zip (F := F) (S := S) (a := a) (b := b) fun x hx y hy => h x (List.mem_cons_of_mem _ hx) y (List.mem_cons_of_mem _ hy)
    show mColl F (.tup [.str [c], .str [d]] :: zipD (chs a) (chs b)) S = _
    rw [mColl, h c (List.mem_cons_self ..) d (List.mem_cons_self ..), R.bind_ok, ih, R.bind_ok]
    by_cases e : c = d
    · subst e; simp [dist]
    · simp [dist, e, Nat.add_comm 1, List.replicate_succ]
theorem sum_ones (n : Nat) : sumD [.lst (List.replicate n (.int 1))] = some (.int n) := by
  have : List.replicate n (D.int 1) = (List.replicate n (1 : Int)).map .int := by simp
  rw [this, oo_sum, intsOf_map]
  simp only [Option.map_some, Option.some.injEq, D.int.injEq]
  induction n with
  | zero => rfl
  | succ n ih => rw [List.replicate_succ, List.sum_cons, ih (by simp)]; omega
theorem dist_le : ∀ (a b : List Nat), dist a b ≤ a.length
  | [], [] => by simp [dist]
  | [], _ :: _ => by simp [dist]
  | _ :: _, [] => by simp [dist]
  | x :: a, y :: b => by
    have := dist_le a b
    rw [dist, List.length_cons]
    split <;> omega
theorem zip_len : ∀ {a b : List D}, (zipD a b).length ≤ a.length
  | [], [] => by simp [zipD]
  | [], _ :: _ => by simp [zipD]
  | _ :: _, [] => by simp [zipD]
  | x :: a, y :: b => by
    have := zip_len (a := a) (b := b)
    simp [zipD]
    exact this
theorem enum_len : ∀ {n : Nat} {a : List D}, (enumD n a).length = a.length
  | _, [] => rfl
  | n, x :: a => by simp [enumD, enum_len (n := n + 1) (a := a)]
/-- places at which two words differ -/
def diffs (n : Nat) : List Nat → List Nat → List Nat
  | a :: as, b :: bs => if a = b then diffs (n + 1) as bs else n :: diffs (n + 1) as bs
  | _, _ => []
theorem diffs_len : ∀ {n : Nat} {a b : List Nat}, (diffs n a b).length = dist a b
  | _, [], [] => rfl
  | _, [], _ :: _ => rfl
  | _, _ :: _, [] => rfl
  | n, c :: a, d :: b => by
    have := diffs_len (n := n + 1) (a := a) (b := b)
    by_cases e : c = d
    · subst e; simp [diffs, dist, this]
    · simp [diffs, dist, e, this]; omega
theorem coll_enum {F : D → List D → R (Option D)} {S : List D} : ∀ {n : Nat} {a b : List Nat}, a.length = b.length → (∀ i c d, c ∈ a → d ∈ b → b[i]? = some d → F (.tup [.int ((n + i : Nat) : Int), .str [c]]) S = .ok (if c = d then none else some (.int ((n + i : Nat) : Int))) S) →
    mColl F (enumD n (chs a)) S = .ok ((diffs n a b).map fun (i : Nat) => D.int (i : Int)) S
  | _, [], [], _, h => rfl
  | _, [], _ :: _, hl, h => by simp at hl
  | _, _ :: _, [], hl, h => by simp at hl
  | n, c :: a, d :: b, hl, h => by
    have ih := coll_enum (F := F) (S := S) (n := n + 1) (a := a) (b := b) (by simpa using hl) fun i x y hx hy hi => by
      have := h (i + 1) x y (List.mem_cons_of_mem _ hx) (List.mem_cons_of_mem _ hy) hi
      rw [show n + (i + 1) = n + 1 + i by omega] at this
      exact this
    have h0 := h 0 c d (List.mem_cons_self ..) (List.mem_cons_self ..) rfl
    show mColl F (.tup [.int (n : Int), .str [c]] :: enumD (n + 1) (chs a)) S = _
    rw [Nat.add_zero] at h0
    rw [mColl, h0, R.bind_ok, ih, R.bind_ok]
    by_cases e : c = d
    · subst e; simp [diffs]
    · simp [diffs, e]
/-! ### each of a list -/
theorem coll_map {F : D → List D → R (Option D)} {S : List D} {α : Type} {u : α → D} {v : α → D} {l : List α} (h : ∀ x ∈ l, F (u x) S = .ok (some (v x)) S) : mColl F (l.map u) S = .ok (l.map v) S := by
  induction l with
  | nil => rfl
  | cons x l ih => rw [List.map_cons, mColl, h x (List.mem_cons_self ..), R.bind_ok, ih fun y hy => h y (List.mem_cons_of_mem _ hy), R.bind_ok, List.map_cons]
theorem all_bl {α : Type} {p : α → Bool} {l : List α} : allD [.lst (l.map fun x => .bl (p x))] = some (.bl (l.all p)) := by
  have : (l.map fun x => D.bl (p x)) = (l.map p).map .bl := by simp
  rw [this, oo_all, blsOf_map]
  simp [List.all_map]
theorem all_yes {α : Type} {l : List α} : allD [.lst (l.map fun _ => .bl true)] = some (.bl true) := by
  rw [all_bl (p := fun _ => true)]
  simp
theorem coll_ex {F : D → List D → R (Option D)} {P : D → Prop} : ∀ {xs : List D}, (∀ x ∈ xs, ∃ k, (∀ S, F x S = .ok (some k) S) ∧ P k) → ∃ ks, (∀ S, mColl F xs S = .ok ks S) ∧ ks.length = xs.length ∧ ∀ k ∈ ks, P k
  | [], _ => ⟨[], fun _ => rfl, rfl, by simp⟩
  | x :: xs, h => by
    obtain ⟨ks, h1, h2, h3⟩ := coll_ex (F := F) (P := P) (xs := xs) fun y hy => h y (List.mem_cons_of_mem _ hy)
    obtain ⟨k, h4, h5⟩ := h x (List.mem_cons_self ..)
    refine ⟨k :: ks, fun S => by rw [mColl, h4, R.bind_ok, h1, R.bind_ok], by simp [h2], fun z hz => ?_⟩
    rcases List.mem_cons.mp hz with rfl | hz
    · exact h5
    · exact h3 z hz
theorem oks_all {n : Nat} : ∀ {xs : List D}, (∀ x ∈ xs, D.ok n x = true) → D.oks n xs = true
  | [], _ => by rw [D.oks]
  | x :: xs, h => by rw [D.oks, h x (List.mem_cons_self ..), oks_all fun y hy => h y (List.mem_cons_of_mem _ hy)]; rfl
/-- plain data of a depth -/
def pl : Nat → D → Prop
  | _, .non => True
  | _, .bl _ => True
  | _, .int _ => True
  | _, .str s => ∀ c ∈ s, c < 0x110000
  | n + 1, .tup xs => xs.length ≤ big ∧ ∀ x ∈ xs, pl n x
  | n + 1, .lst xs => xs.length ≤ big ∧ ∀ x ∈ xs, pl n x
  | _, _ => False
theorem pl_ints {n : Nat} {l : List Int} (h : l.length ≤ 1000000) : pl (n + 1) (.tup (l.map .int)) := by
  rw [pl]
  refine ⟨le_big (by rw [List.length_map]; omega), fun x hx => ?_⟩
  obtain ⟨i, _, rfl⟩ := List.mem_map.mp hx
  rw [pl] <;> trivial
theorem oks_ints {n : Nat} {l : List Int} : D.oks n (l.map .int) = true := by
  induction l with
  | nil => rw [List.map_nil, D.oks]
  | cons x l ih =>
    rw [List.map_cons, D.oks, ih]
    cases n <;> rfl
theorem max_ex {l : List Int} (h : l ≠ []) : ∃ M, l.max? = some M ∧ M ∈ l := by
  cases e : l.max? with
  | none => exact absurd (List.max?_eq_none_iff.mp e) h
  | some M => exact ⟨M, rfl, List.max?_mem e⟩
theorem index_ex {l : List Int} {M : Int} (h : M ∈ l) : ∃ j : Nat, indexD (.lst (l.map .int)) [.int M] = some (.int j) := by
  rw [oo_index, oks_ints]
  have : ((l.map D.int).findIdx? fun z => eqB z (.int M)).isSome = true := by
    rw [List.findIdx?_isSome, List.any_eq_true]
    exact ⟨.int M, List.mem_map.mpr ⟨M, h, rfl⟩, eqB_refl rfl⟩
  obtain ⟨j, e⟩ := Option.isSome_iff_exists.mp this
  rw [e]
  exact ⟨j, rfl⟩
def near (m : Int) : Nat → List Int → List Int
  | _, [] => []
  | n, x :: xs => if x ≤ m then (n : Int) :: near m (n + 1) xs else near m (n + 1) xs
theorem coll_near {F : D → List D → R (Option D)} {S : List D} {m : Int} : ∀ {n : Nat} {l : List Int}, (∀ (i : Nat) (x : Int), F (.tup [.int (i : Int), .int x]) S = .ok (if x ≤ m then some (.int (i : Int)) else none) S) →
    mColl F (enumD n (l.map .int)) S = .ok ((near m n l).map .int) S
  | _, [], h => rfl
  | n, x :: l, h => by
    have ih := coll_near (F := F) (S := S) (m := m) (n := n + 1) (l := l) h
    show mColl F (.tup [.int (n : Int), .int x] :: enumD (n + 1) (l.map .int)) S = _
    rw [mColl, h, R.bind_ok, ih, R.bind_ok]
    by_cases e : x ≤ m
    · simp [near, e]
    · simp [near, e]
theorem near_le {m : Int} : ∀ {n : Nat} {l : List Int}, (near m n l).length ≤ l.length
  | _, [] => by simp [near]
  | n, x :: l => by
    have := near_le (m := m) (n := n + 1) (l := l)
    rw [near, List.length_cons]
    split
    · rw [List.length_cons]; omega
    · omega
/-- a lot: words of one length -/
def Lot (ws : List (List Nat)) (n : Nat) : Prop := 1 ≤ ws.length ∧ ws.length ≤ 20 ∧ n ≤ 24 ∧ ∀ v ∈ ws, v.length = n ∧ Wd v
theorem Lot.head {ws : List (List Nat)} {n : Nat} (h : Lot ws n) : ∃ v r, ws = v :: r ∧ v.length = n ∧ Wd v := by
  obtain ⟨h1, h2, h3, h4⟩ := h
  cases ws with
  | nil => simp at h1
  | cons v r => exact ⟨v, r, rfl, h4 v (List.mem_cons_self ..)⟩
def row (w : List Nat) (ws : List (List Nat)) : List Int := ws.map fun v => (dist w v : Int)
theorem row_len {w : List Nat} {ws : List (List Nat)} : (row w ws).length = ws.length := by simp [row]
end Dm
end
section
namespace Dm
open PySem PySem.Spec L2 PyProof.Rows
theorem p_mixed {m : Nat} {S : List D} (h : Dr m S) (hm : 1 ≤ m) : Run (f__law_mixed [.cel 0] S) (DrR (fun d => ∃ k : Int, d = .int k ∧ 0 ≤ k ∧ k < 2 ^ 72) (m - 1)) E0 := by
  obtain ⟨w, c, cells, rfl, hw, hc, hcl, hc0, hcm⟩ := h
  simp only [f__law_mixed, b__law_mixed, run_ok, run_exc, run_bad, run_ofO, run_ofB, run_var, run_peek, run_lit, run_op2, run_op1, run_idx, run_tru, run_not, run_and, run_or, run_ite, run_bl, run_asB, run_andV, run_orV, run_nil, run_cons, run_tup, run_lst, run_star, run_dict, run_noPart, run_part, run_slc, run_chain, run_call, run_meth, run_fn, run_fnK, run_fnL, run_caught, run_iter, run_enum, run_rng, run_rng2, run_zip, run_comp, run_yes, run_seq, run_skip, run_set, run_setO, run_setC, run_par, run_ret, run_retN, run_retO, run_ifS, run_drop, run_raise, run_break, run_cont, run_tgt, run_frz, run_for, run_subC, run_subO, run_own, run_mkF, kOpB, kOpA, kOp1, kIxB, kIxA, kTru, kNot, kAnd, kOr, kIte, kBl, kAsB, kAndV, kOrV, kConsB, kConsA, kTup, kLst, kStarB, kStarA, kDict, kPart, kSlC, kSlB, kSlA, kChC, kChB, kChA, kCall, kMeB, kMeA, kFn, kFnKB, kFnKA, kFnLA, kCaughtE, kCaughtQ, kIter, kEnum, kRng, kRng2B, kRng2A, kZipB, kZipA, kCmpB, kCmp, kSet, kSetO, kSetC, kParB, kParA, kRetE, kIf, kDrop, kTgt, kFor, kSubCC, kSubCB, kSubCA, kSubOB, kSubOA, kOwnB, kOwnA, kRet, kSeq_nx, kSeq_rt, kSeq_bk, kSeq_ct, opt_some, opt_none, opt_if, opt_map, opt_bind, slV_val, slO_own, slP_val, slP_own, cond_true, cond_false, List.getElem?_cons_zero, List.getElem?_cons_succ, List.set_cons_zero, List.set_cons_succ, List.replicate_succ, List.replicate_zero, List.map_cons, List.map_nil, List.cons_append, List.nil_append, List.length_cons, List.length_nil, Nat.reduceAdd, Nat.reduceSub, Nat.zero_add, Int.toNat_natCast, bindT, bindTs, itemsD, wipeD, slo, frz, permD, true_and, and_true, Bool.not_true, Bool.not_false, oo_add_i, oo_add_str, oo_add_tup, oo_add_lst, oo_sub_i, oo_mul_i, oo_mul_s, oo_mul_t, oo_mul_l, oo_rep_l, oo_cat_l, oo_fdiv, oo_mod, oo_pow, oo_neg, oo_lt_i, oo_le_i, oo_gt_i, oo_ge_i, oo_lt_s, oo_gt_s, oo_le_s, oo_ge_s, oo_is, oo_isnt, oo_isn_non, oo_isn_bl, oo_isn_int, oo_isn_str, oo_isn_tup, oo_isn_lst, oo_isn_dic, oo_tru_non, oo_tru_bl, oo_tru_int, oo_tru_str, oo_tru_tup, oo_tru_lst, oo_len_str, oo_len_tup, oo_len_lst, oo_len_scr, oo_len_dic, oo_sum, oo_max_l, oo_max_2, oo_min_l, oo_min_2, oo_all, oo_any, oo_abs, oo_int_i, oo_int_b, oo_tup_t, oo_tup_l, oo_lstF_t, oo_lstF_l, oo_lstF2_t, oo_lstF2_l, oo_lstF2_s, oo_lstF2_r, oo_nJoin, oo_nIndex, oo_join_lst, oo_join_tup, oo_index, oo_it_tup, oo_it_lst, oo_it_str, oo_it_scr, oo_ix_tup, oo_ix_lst, oo_ix_str, oo_ix_whole, oo_put_whole, oo_ix_cells, oo_put_cells, oo_ix_count, oo_put_count, oo_put_l, oo_app, oo_slc_t, oo_slc_l, oo_slc_s, oo_isi_ty, oo_isi_ex, oo_isi_non_bool, oo_isi_non_int, oo_isi_non_str, oo_isi_non_tuple, oo_isi_non_list, oo_isi_non_dict, oo_isi_bl_bool, oo_isi_bl_int, oo_isi_bl_str, oo_isi_bl_tuple, oo_isi_bl_list, oo_isi_bl_dict, oo_isi_int_bool, oo_isi_int_int, oo_isi_int_str, oo_isi_int_tuple, oo_isi_int_list, oo_isi_int_dict, oo_isi_str_bool, oo_isi_str_int, oo_isi_str_str, oo_isi_str_tuple, oo_isi_str_list, oo_isi_str_dict, oo_isi_tup_bool, oo_isi_tup_int, oo_isi_tup_str, oo_isi_tup_tuple, oo_isi_tup_list, oo_isi_tup_dict, oo_isi_lst_bool, oo_isi_lst_int, oo_isi_lst_str, oo_isi_lst_tuple, oo_isi_lst_list, oo_isi_lst_dict, oo_isi_dic_bool, oo_isi_dic_int, oo_isi_dic_str, oo_isi_dic_tuple, oo_isi_dic_list, oo_isi_dic_dict, oo_in_c, oo_inD, oo_ninD, eq_self_iff_true, if_true]
  have hl : lg (c + 1) ≤ 64 := lg_of (by omega) (by omega)
  refine ⟨mulOk_of (m := 6) (n := 64) (by decide) hl (by decide), by decide, le_big (by rw [List.length_map]; omega), ?_⟩
  refine run_forL_inv (i := 0) (I := fun _ ρ T => T = [.dic [.str [119, 104, 111, 108, 101], .str [99, 101, 108, 108, 115], .str [99, 111, 117, 110, 116]] [.int w, .lst (cells.map .int), .int (c + 1)]] ∧ ∃ (f : Int) (o : Option Slot), ρ = [some (.val (.cel 0)), some (.val (.int f)), o] ∧ 0 ≤ f ∧ f < 2 ^ 72) ⟨rfl, _, _, rfl, by omega, by omega⟩ ?_ ?_
  · rintro j d ρ T hj ⟨rfl, f, o, rfl, hf0, hf1⟩
    have hd : ∃ z : Int, d = .int z ∧ lg z ≤ 2000000 := by
      have := List.mem_of_getElem? hj
      rcases List.mem_append.mp this with h | h
      · obtain ⟨z, hz, rfl⟩ := List.mem_map.mp h
        exact ⟨z, rfl, hc z hz⟩
      · exact ⟨c + 1, by simpa using h, by omega⟩
    obtain ⟨z, rfl, hz⟩ := hd
    refine ⟨_, rfl, ?_⟩
    have h1 : lg (f + z) ≤ 2000001 := by
      have := lg_add f z
      have h2 : lg f ≤ 71 := lg_of hf0 hf1
      omega
    simp only [run_ok, run_exc, run_bad, run_ofO, run_ofB, run_var, run_peek, run_lit, run_op2, run_op1, run_idx, run_tru, run_not, run_and, run_or, run_ite, run_bl, run_asB, run_andV, run_orV, run_nil, run_cons, run_tup, run_lst, run_star, run_dict, run_noPart, run_part, run_slc, run_chain, run_call, run_meth, run_fn, run_fnK, run_fnL, run_caught, run_iter, run_enum, run_rng, run_rng2, run_zip, run_comp, run_yes, run_seq, run_skip, run_set, run_setO, run_setC, run_par, run_ret, run_retN, run_retO, run_ifS, run_drop, run_raise, run_break, run_cont, run_tgt, run_frz, run_for, run_subC, run_subO, run_own, run_mkF, kOpB, kOpA, kOp1, kIxB, kIxA, kTru, kNot, kAnd, kOr, kIte, kBl, kAsB, kAndV, kOrV, kConsB, kConsA, kTup, kLst, kStarB, kStarA, kDict, kPart, kSlC, kSlB, kSlA, kChC, kChB, kChA, kCall, kMeB, kMeA, kFn, kFnKB, kFnKA, kFnLA, kCaughtE, kCaughtQ, kIter, kEnum, kRng, kRng2B, kRng2A, kZipB, kZipA, kCmpB, kCmp, kSet, kSetO, kSetC, kParB, kParA, kRetE, kIf, kDrop, kTgt, kFor, kSubCC, kSubCB, kSubCA, kSubOB, kSubOA, kOwnB, kOwnA, kRet, kSeq_nx, kSeq_rt, kSeq_bk, kSeq_ct, opt_some, opt_none, opt_if, opt_map, opt_bind, slV_val, slO_own, slP_val, slP_own, cond_true, cond_false, List.getElem?_cons_zero, List.getElem?_cons_succ, List.set_cons_zero, List.set_cons_succ, List.replicate_succ, List.replicate_zero, List.map_cons, List.map_nil, List.cons_append, List.nil_append, List.length_cons, List.length_nil, Nat.reduceAdd, Nat.reduceSub, Nat.zero_add, Int.toNat_natCast, bindT, bindTs, itemsD, wipeD, slo, frz, permD, true_and, and_true, Bool.not_true, Bool.not_false, oo_add_i, oo_add_str, oo_add_tup, oo_add_lst, oo_sub_i, oo_mul_i, oo_mul_s, oo_mul_t, oo_mul_l, oo_rep_l, oo_cat_l, oo_fdiv, oo_mod, oo_pow, oo_neg, oo_lt_i, oo_le_i, oo_gt_i, oo_ge_i, oo_lt_s, oo_gt_s, oo_le_s, oo_ge_s, oo_is, oo_isnt, oo_isn_non, oo_isn_bl, oo_isn_int, oo_isn_str, oo_isn_tup, oo_isn_lst, oo_isn_dic, oo_tru_non, oo_tru_bl, oo_tru_int, oo_tru_str, oo_tru_tup, oo_tru_lst, oo_len_str, oo_len_tup, oo_len_lst, oo_len_scr, oo_len_dic, oo_sum, oo_max_l, oo_max_2, oo_min_l, oo_min_2, oo_all, oo_any, oo_abs, oo_int_i, oo_int_b, oo_tup_t, oo_tup_l, oo_lstF_t, oo_lstF_l, oo_lstF2_t, oo_lstF2_l, oo_lstF2_s, oo_lstF2_r, oo_nJoin, oo_nIndex, oo_join_lst, oo_join_tup, oo_index, oo_it_tup, oo_it_lst, oo_it_str, oo_it_scr, oo_ix_tup, oo_ix_lst, oo_ix_str, oo_ix_whole, oo_put_whole, oo_ix_cells, oo_put_cells, oo_ix_count, oo_put_count, oo_put_l, oo_app, oo_slc_t, oo_slc_l, oo_slc_s, oo_isi_ty, oo_isi_ex, oo_isi_non_bool, oo_isi_non_int, oo_isi_non_str, oo_isi_non_tuple, oo_isi_non_list, oo_isi_non_dict, oo_isi_bl_bool, oo_isi_bl_int, oo_isi_bl_str, oo_isi_bl_tuple, oo_isi_bl_list, oo_isi_bl_dict, oo_isi_int_bool, oo_isi_int_int, oo_isi_int_str, oo_isi_int_tuple, oo_isi_int_list, oo_isi_int_dict, oo_isi_str_bool, oo_isi_str_int, oo_isi_str_str, oo_isi_str_tuple, oo_isi_str_list, oo_isi_str_dict, oo_isi_tup_bool, oo_isi_tup_int, oo_isi_tup_str, oo_isi_tup_tuple, oo_isi_tup_list, oo_isi_tup_dict, oo_isi_lst_bool, oo_isi_lst_int, oo_isi_lst_str, oo_isi_lst_tuple, oo_isi_lst_list, oo_isi_lst_dict, oo_isi_dic_bool, oo_isi_dic_int, oo_isi_dic_str, oo_isi_dic_tuple, oo_isi_dic_list, oo_isi_dic_dict, oo_in_c, oo_inD, oo_ninD]
    have e61 : (2 : Int) ^ (61 : Int).toNat - 1 = 2305843009213693951 := by decide
    have e17 : (2 : Int) ^ (17 : Int).toNat = 131072 := by decide
    rw [e61, e17]
    have q0 : 0 ≤ (f + z) * 1099511628211 % 2305843009213693951 := Int.emod_nonneg _ (by decide)
    have q1 : (f + z) * 1099511628211 % 2305843009213693951 < 2305843009213693951 := Int.emod_lt_of_pos _ (by decide)
    refine ⟨mulOk_of (n := 40) h1 (by decide) (by decide), by decide, by decide, by decide, by decide, _, .inl rfl, _, _, rfl, ?_, ?_⟩
    · omega
    · omega
  · rintro ρ T ⟨rfl, f, o, rfl, hf0, hf1⟩
    simp only [run_ok, run_exc, run_bad, run_ofO, run_ofB, run_var, run_peek, run_lit, run_op2, run_op1, run_idx, run_tru, run_not, run_and, run_or, run_ite, run_bl, run_asB, run_andV, run_orV, run_nil, run_cons, run_tup, run_lst, run_star, run_dict, run_noPart, run_part, run_slc, run_chain, run_call, run_meth, run_fn, run_fnK, run_fnL, run_caught, run_iter, run_enum, run_rng, run_rng2, run_zip, run_comp, run_yes, run_seq, run_skip, run_set, run_setO, run_setC, run_par, run_ret, run_retN, run_retO, run_ifS, run_drop, run_raise, run_break, run_cont, run_tgt, run_frz, run_for, run_subC, run_subO, run_own, run_mkF, kOpB, kOpA, kOp1, kIxB, kIxA, kTru, kNot, kAnd, kOr, kIte, kBl, kAsB, kAndV, kOrV, kConsB, kConsA, kTup, kLst, kStarB, kStarA, kDict, kPart, kSlC, kSlB, kSlA, kChC, kChB, kChA, kCall, kMeB, kMeA, kFn, kFnKB, kFnKA, kFnLA, kCaughtE, kCaughtQ, kIter, kEnum, kRng, kRng2B, kRng2A, kZipB, kZipA, kCmpB, kCmp, kSet, kSetO, kSetC, kParB, kParA, kRetE, kIf, kDrop, kTgt, kFor, kSubCC, kSubCB, kSubCA, kSubOB, kSubOA, kOwnB, kOwnA, kRet, kSeq_nx, kSeq_rt, kSeq_bk, kSeq_ct, opt_some, opt_none, opt_if, opt_map, opt_bind, slV_val, slO_own, slP_val, slP_own, cond_true, cond_false, List.getElem?_cons_zero, List.getElem?_cons_succ, List.set_cons_zero, List.set_cons_succ, List.replicate_succ, List.replicate_zero, List.map_cons, List.map_nil, List.cons_append, List.nil_append, List.length_cons, List.length_nil, Nat.reduceAdd, Nat.reduceSub, Nat.zero_add, Int.toNat_natCast, bindT, bindTs, itemsD, wipeD, slo, frz, permD, true_and, and_true, Bool.not_true, Bool.not_false]
    exact ⟨⟨f, rfl, hf0, hf1⟩, w, c + 1, cells, rfl, hw, hc, hcl, by omega, by omega⟩
theorem p_take0 {S : List D} {n : Int} (h : n ≤ 1) {Q E} (hQ : Q (.int 0) S) : Run (f__law_take [.cel 0, .int n] S) Q E := by
  simp only [f__law_take, b__law_take, run_ok, run_exc, run_bad, run_ofO, run_ofB, run_var, run_peek, run_lit, run_op2, run_op1, run_idx, run_tru, run_not, run_and, run_or, run_ite, run_bl, run_asB, run_andV, run_orV, run_nil, run_cons, run_tup, run_lst, run_star, run_dict, run_noPart, run_part, run_slc, run_chain, run_call, run_meth, run_fn, run_fnK, run_fnL, run_caught, run_iter, run_enum, run_rng, run_rng2, run_zip, run_comp, run_yes, run_seq, run_skip, run_set, run_setO, run_setC, run_par, run_ret, run_retN, run_retO, run_ifS, run_drop, run_raise, run_break, run_cont, run_tgt, run_frz, run_for, run_subC, run_subO, run_own, run_mkF, kOpB, kOpA, kOp1, kIxB, kIxA, kTru, kNot, kAnd, kOr, kIte, kBl, kAsB, kAndV, kOrV, kConsB, kConsA, kTup, kLst, kStarB, kStarA, kDict, kPart, kSlC, kSlB, kSlA, kChC, kChB, kChA, kCall, kMeB, kMeA, kFn, kFnKB, kFnKA, kFnLA, kCaughtE, kCaughtQ, kIter, kEnum, kRng, kRng2B, kRng2A, kZipB, kZipA, kCmpB, kCmp, kSet, kSetO, kSetC, kParB, kParA, kRetE, kIf, kDrop, kTgt, kFor, kSubCC, kSubCB, kSubCA, kSubOB, kSubOA, kOwnB, kOwnA, kRet, kSeq_nx, kSeq_rt, kSeq_bk, kSeq_ct, opt_some, opt_none, opt_if, opt_map, opt_bind, slV_val, slO_own, slP_val, slP_own, cond_true, cond_false, List.getElem?_cons_zero, List.getElem?_cons_succ, List.set_cons_zero, List.set_cons_succ, List.replicate_succ, List.replicate_zero, List.map_cons, List.map_nil, List.cons_append, List.nil_append, List.length_cons, List.length_nil, Nat.reduceAdd, Nat.reduceSub, Nat.zero_add, Int.toNat_natCast, bindT, bindTs, itemsD, wipeD, slo, frz, permD, true_and, and_true, Bool.not_true, Bool.not_false, oo_add_i, oo_add_str, oo_add_tup, oo_add_lst, oo_sub_i, oo_mul_i, oo_mul_s, oo_mul_t, oo_mul_l, oo_rep_l, oo_cat_l, oo_fdiv, oo_mod, oo_pow, oo_neg, oo_lt_i, oo_le_i, oo_gt_i, oo_ge_i, oo_lt_s, oo_gt_s, oo_le_s, oo_ge_s, oo_is, oo_isnt, oo_isn_non, oo_isn_bl, oo_isn_int, oo_isn_str, oo_isn_tup, oo_isn_lst, oo_isn_dic, oo_tru_non, oo_tru_bl, oo_tru_int, oo_tru_str, oo_tru_tup, oo_tru_lst, oo_len_str, oo_len_tup, oo_len_lst, oo_len_scr, oo_len_dic, oo_sum, oo_max_l, oo_max_2, oo_min_l, oo_min_2, oo_all, oo_any, oo_abs, oo_int_i, oo_int_b, oo_tup_t, oo_tup_l, oo_lstF_t, oo_lstF_l, oo_lstF2_t, oo_lstF2_l, oo_lstF2_s, oo_lstF2_r, oo_nJoin, oo_nIndex, oo_join_lst, oo_join_tup, oo_index, oo_it_tup, oo_it_lst, oo_it_str, oo_it_scr, oo_ix_tup, oo_ix_lst, oo_ix_str, oo_ix_whole, oo_put_whole, oo_ix_cells, oo_put_cells, oo_ix_count, oo_put_count, oo_put_l, oo_app, oo_slc_t, oo_slc_l, oo_slc_s, oo_isi_ty, oo_isi_ex, oo_isi_non_bool, oo_isi_non_int, oo_isi_non_str, oo_isi_non_tuple, oo_isi_non_list, oo_isi_non_dict, oo_isi_bl_bool, oo_isi_bl_int, oo_isi_bl_str, oo_isi_bl_tuple, oo_isi_bl_list, oo_isi_bl_dict, oo_isi_int_bool, oo_isi_int_int, oo_isi_int_str, oo_isi_int_tuple, oo_isi_int_list, oo_isi_int_dict, oo_isi_str_bool, oo_isi_str_int, oo_isi_str_str, oo_isi_str_tuple, oo_isi_str_list, oo_isi_str_dict, oo_isi_tup_bool, oo_isi_tup_int, oo_isi_tup_str, oo_isi_tup_tuple, oo_isi_tup_list, oo_isi_tup_dict, oo_isi_lst_bool, oo_isi_lst_int, oo_isi_lst_str, oo_isi_lst_tuple, oo_isi_lst_list, oo_isi_lst_dict, oo_isi_dic_bool, oo_isi_dic_int, oo_isi_dic_str, oo_isi_dic_tuple, oo_isi_dic_list, oo_isi_dic_dict, oo_in_c, oo_inD, oo_ninD, show n < 2 by omega, decide_true]
  exact hQ
theorem p_take {m : Nat} {S : List D} {n : Int} (h : Dr m S) (hm : 1 ≤ m) (h1 : 1 ≤ n) (h2 : n ≤ 2 ^ 50) : Run (f__law_take [.cel 0, .int n] S) (DrR (fun d => ∃ k : Int, d = .int k ∧ 0 ≤ k ∧ k < n) (m - 1)) E0 := by
  obtain ⟨w, c, cells, rfl, hw, hc, hcl, hc0, hcm⟩ := id h
  by_cases hn : n < 2
  · exact p_take0 (by omega) ⟨⟨0, rfl, by omega, by omega⟩, h.mono (by omega)⟩
  have hlg : lg n ≤ 50 := lg_of (by omega) (by omega)
  simp only [f__law_take, b__law_take, run_ok, run_exc, run_bad, run_ofO, run_ofB, run_var, run_peek, run_lit, run_op2, run_op1, run_idx, run_tru, run_not, run_and, run_or, run_ite, run_bl, run_asB, run_andV, run_orV, run_nil, run_cons, run_tup, run_lst, run_star, run_dict, run_noPart, run_part, run_slc, run_chain, run_call, run_meth, run_fn, run_fnK, run_fnL, run_caught, run_iter, run_enum, run_rng, run_rng2, run_zip, run_comp, run_yes, run_seq, run_skip, run_set, run_setO, run_setC, run_par, run_ret, run_retN, run_retO, run_ifS, run_drop, run_raise, run_break, run_cont, run_tgt, run_frz, run_for, run_subC, run_subO, run_own, run_mkF, kOpB, kOpA, kOp1, kIxB, kIxA, kTru, kNot, kAnd, kOr, kIte, kBl, kAsB, kAndV, kOrV, kConsB, kConsA, kTup, kLst, kStarB, kStarA, kDict, kPart, kSlC, kSlB, kSlA, kChC, kChB, kChA, kCall, kMeB, kMeA, kFn, kFnKB, kFnKA, kFnLA, kCaughtE, kCaughtQ, kIter, kEnum, kRng, kRng2B, kRng2A, kZipB, kZipA, kCmpB, kCmp, kSet, kSetO, kSetC, kParB, kParA, kRetE, kIf, kDrop, kTgt, kFor, kSubCC, kSubCB, kSubCA, kSubOB, kSubOA, kOwnB, kOwnA, kRet, kSeq_nx, kSeq_rt, kSeq_bk, kSeq_ct, opt_some, opt_none, opt_if, opt_map, opt_bind, slV_val, slO_own, slP_val, slP_own, cond_true, cond_false, List.getElem?_cons_zero, List.getElem?_cons_succ, List.set_cons_zero, List.set_cons_succ, List.replicate_succ, List.replicate_zero, List.map_cons, List.map_nil, List.cons_append, List.nil_append, List.length_cons, List.length_nil, Nat.reduceAdd, Nat.reduceSub, Nat.zero_add, Int.toNat_natCast, bindT, bindTs, itemsD, wipeD, slo, frz, permD, true_and, and_true, Bool.not_true, Bool.not_false, oo_add_i, oo_add_str, oo_add_tup, oo_add_lst, oo_sub_i, oo_mul_i, oo_mul_s, oo_mul_t, oo_mul_l, oo_rep_l, oo_cat_l, oo_fdiv, oo_mod, oo_pow, oo_neg, oo_lt_i, oo_le_i, oo_gt_i, oo_ge_i, oo_lt_s, oo_gt_s, oo_le_s, oo_ge_s, oo_is, oo_isnt, oo_isn_non, oo_isn_bl, oo_isn_int, oo_isn_str, oo_isn_tup, oo_isn_lst, oo_isn_dic, oo_tru_non, oo_tru_bl, oo_tru_int, oo_tru_str, oo_tru_tup, oo_tru_lst, oo_len_str, oo_len_tup, oo_len_lst, oo_len_scr, oo_len_dic, oo_sum, oo_max_l, oo_max_2, oo_min_l, oo_min_2, oo_all, oo_any, oo_abs, oo_int_i, oo_int_b, oo_tup_t, oo_tup_l, oo_lstF_t, oo_lstF_l, oo_lstF2_t, oo_lstF2_l, oo_lstF2_s, oo_lstF2_r, oo_nJoin, oo_nIndex, oo_join_lst, oo_join_tup, oo_index, oo_it_tup, oo_it_lst, oo_it_str, oo_it_scr, oo_ix_tup, oo_ix_lst, oo_ix_str, oo_ix_whole, oo_put_whole, oo_ix_cells, oo_put_cells, oo_ix_count, oo_put_count, oo_put_l, oo_app, oo_slc_t, oo_slc_l, oo_slc_s, oo_isi_ty, oo_isi_ex, oo_isi_non_bool, oo_isi_non_int, oo_isi_non_str, oo_isi_non_tuple, oo_isi_non_list, oo_isi_non_dict, oo_isi_bl_bool, oo_isi_bl_int, oo_isi_bl_str, oo_isi_bl_tuple, oo_isi_bl_list, oo_isi_bl_dict, oo_isi_int_bool, oo_isi_int_int, oo_isi_int_str, oo_isi_int_tuple, oo_isi_int_list, oo_isi_int_dict, oo_isi_str_bool, oo_isi_str_int, oo_isi_str_str, oo_isi_str_tuple, oo_isi_str_list, oo_isi_str_dict, oo_isi_tup_bool, oo_isi_tup_int, oo_isi_tup_str, oo_isi_tup_tuple, oo_isi_tup_list, oo_isi_tup_dict, oo_isi_lst_bool, oo_isi_lst_int, oo_isi_lst_str, oo_isi_lst_tuple, oo_isi_lst_list, oo_isi_lst_dict, oo_isi_dic_bool, oo_isi_dic_int, oo_isi_dic_str, oo_isi_dic_tuple, oo_isi_dic_list, oo_isi_dic_dict, oo_in_c, oo_inD, oo_ninD, decide_false, show ¬ n < 2 from hn]
  by_cases hw0 : 0 < w
  · simp only [hw0, decide_true, cond_true]
    have hd : divOk n := ⟨by omega, by show lg n < 9000; omega⟩
    have e0 : w / n ≥ 0 := Int.ediv_nonneg hw (by omega)
    exact ⟨by omega, hd, ⟨_, rfl, Int.emod_nonneg _ (by omega), Int.emod_lt_of_pos _ (by omega)⟩, _, _, _, rfl, e0, hc, hcl, hc0, by omega⟩
  · simp only [hw0, decide_false, cond_false]
    refine Run.step (p_mixed h hm) ?_
    rintro _ S1 ⟨⟨k, rfl, hk0, hk1⟩, hD⟩
    simp only [run_ok, run_exc, run_bad, run_ofO, run_ofB, run_var, run_peek, run_lit, run_op2, run_op1, run_idx, run_tru, run_not, run_and, run_or, run_ite, run_bl, run_asB, run_andV, run_orV, run_nil, run_cons, run_tup, run_lst, run_star, run_dict, run_noPart, run_part, run_slc, run_chain, run_call, run_meth, run_fn, run_fnK, run_fnL, run_caught, run_iter, run_enum, run_rng, run_rng2, run_zip, run_comp, run_yes, run_seq, run_skip, run_set, run_setO, run_setC, run_par, run_ret, run_retN, run_retO, run_ifS, run_drop, run_raise, run_break, run_cont, run_tgt, run_frz, run_for, run_subC, run_subO, run_own, run_mkF, kOpB, kOpA, kOp1, kIxB, kIxA, kTru, kNot, kAnd, kOr, kIte, kBl, kAsB, kAndV, kOrV, kConsB, kConsA, kTup, kLst, kStarB, kStarA, kDict, kPart, kSlC, kSlB, kSlA, kChC, kChB, kChA, kCall, kMeB, kMeA, kFn, kFnKB, kFnKA, kFnLA, kCaughtE, kCaughtQ, kIter, kEnum, kRng, kRng2B, kRng2A, kZipB, kZipA, kCmpB, kCmp, kSet, kSetO, kSetC, kParB, kParA, kRetE, kIf, kDrop, kTgt, kFor, kSubCC, kSubCB, kSubCA, kSubOB, kSubOA, kOwnB, kOwnA, kRet, kSeq_nx, kSeq_rt, kSeq_bk, kSeq_ct, opt_some, opt_none, opt_if, opt_map, opt_bind, slV_val, slO_own, slP_val, slP_own, cond_true, cond_false, List.getElem?_cons_zero, List.getElem?_cons_succ, List.set_cons_zero, List.set_cons_succ, List.replicate_succ, List.replicate_zero, List.map_cons, List.map_nil, List.cons_append, List.nil_append, List.length_cons, List.length_nil, Nat.reduceAdd, Nat.reduceSub, Nat.zero_add, Int.toNat_natCast, bindT, bindTs, itemsD, wipeD, slo, frz, permD, true_and, and_true, Bool.not_true, Bool.not_false]
    refine run_while_no ?_
    simp only [run_ok, run_exc, run_bad, run_ofO, run_ofB, run_var, run_peek, run_lit, run_op2, run_op1, run_idx, run_tru, run_not, run_and, run_or, run_ite, run_bl, run_asB, run_andV, run_orV, run_nil, run_cons, run_tup, run_lst, run_star, run_dict, run_noPart, run_part, run_slc, run_chain, run_call, run_meth, run_fn, run_fnK, run_fnL, run_caught, run_iter, run_enum, run_rng, run_rng2, run_zip, run_comp, run_yes, run_seq, run_skip, run_set, run_setO, run_setC, run_par, run_ret, run_retN, run_retO, run_ifS, run_drop, run_raise, run_break, run_cont, run_tgt, run_frz, run_for, run_subC, run_subO, run_own, run_mkF, kOpB, kOpA, kOp1, kIxB, kIxA, kTru, kNot, kAnd, kOr, kIte, kBl, kAsB, kAndV, kOrV, kConsB, kConsA, kTup, kLst, kStarB, kStarA, kDict, kPart, kSlC, kSlB, kSlA, kChC, kChB, kChA, kCall, kMeB, kMeA, kFn, kFnKB, kFnKA, kFnLA, kCaughtE, kCaughtQ, kIter, kEnum, kRng, kRng2B, kRng2A, kZipB, kZipA, kCmpB, kCmp, kSet, kSetO, kSetC, kParB, kParA, kRetE, kIf, kDrop, kTgt, kFor, kSubCC, kSubCB, kSubCA, kSubOB, kSubOA, kOwnB, kOwnA, kRet, kSeq_nx, kSeq_rt, kSeq_bk, kSeq_ct, opt_some, opt_none, opt_if, opt_map, opt_bind, slV_val, slO_own, slP_val, slP_own, cond_true, cond_false, List.getElem?_cons_zero, List.getElem?_cons_succ, List.set_cons_zero, List.set_cons_succ, List.replicate_succ, List.replicate_zero, List.map_cons, List.map_nil, List.cons_append, List.nil_append, List.length_cons, List.length_nil, Nat.reduceAdd, Nat.reduceSub, Nat.zero_add, Int.toNat_natCast, bindT, bindTs, itemsD, wipeD, slo, frz, permD, true_and, and_true, Bool.not_true, Bool.not_false, oo_add_i, oo_add_str, oo_add_tup, oo_add_lst, oo_sub_i, oo_mul_i, oo_mul_s, oo_mul_t, oo_mul_l, oo_rep_l, oo_cat_l, oo_fdiv, oo_mod, oo_pow, oo_neg, oo_lt_i, oo_le_i, oo_gt_i, oo_ge_i, oo_lt_s, oo_gt_s, oo_le_s, oo_ge_s, oo_is, oo_isnt, oo_isn_non, oo_isn_bl, oo_isn_int, oo_isn_str, oo_isn_tup, oo_isn_lst, oo_isn_dic, oo_tru_non, oo_tru_bl, oo_tru_int, oo_tru_str, oo_tru_tup, oo_tru_lst, oo_len_str, oo_len_tup, oo_len_lst, oo_len_scr, oo_len_dic, oo_sum, oo_max_l, oo_max_2, oo_min_l, oo_min_2, oo_all, oo_any, oo_abs, oo_int_i, oo_int_b, oo_tup_t, oo_tup_l, oo_lstF_t, oo_lstF_l, oo_lstF2_t, oo_lstF2_l, oo_lstF2_s, oo_lstF2_r, oo_nJoin, oo_nIndex, oo_join_lst, oo_join_tup, oo_index, oo_it_tup, oo_it_lst, oo_it_str, oo_it_scr, oo_ix_tup, oo_ix_lst, oo_ix_str, oo_ix_whole, oo_put_whole, oo_ix_cells, oo_put_cells, oo_ix_count, oo_put_count, oo_put_l, oo_app, oo_slc_t, oo_slc_l, oo_slc_s, oo_isi_ty, oo_isi_ex, oo_isi_non_bool, oo_isi_non_int, oo_isi_non_str, oo_isi_non_tuple, oo_isi_non_list, oo_isi_non_dict, oo_isi_bl_bool, oo_isi_bl_int, oo_isi_bl_str, oo_isi_bl_tuple, oo_isi_bl_list, oo_isi_bl_dict, oo_isi_int_bool, oo_isi_int_int, oo_isi_int_str, oo_isi_int_tuple, oo_isi_int_list, oo_isi_int_dict, oo_isi_str_bool, oo_isi_str_int, oo_isi_str_str, oo_isi_str_tuple, oo_isi_str_list, oo_isi_str_dict, oo_isi_tup_bool, oo_isi_tup_int, oo_isi_tup_str, oo_isi_tup_tuple, oo_isi_tup_list, oo_isi_tup_dict, oo_isi_lst_bool, oo_isi_lst_int, oo_isi_lst_str, oo_isi_lst_tuple, oo_isi_lst_list, oo_isi_lst_dict, oo_isi_dic_bool, oo_isi_dic_int, oo_isi_dic_str, oo_isi_dic_tuple, oo_isi_dic_list, oo_isi_dic_dict, oo_in_c, oo_inD, oo_ninD, show ¬ (n > 2 ^ (50 : Int).toNat) by simpa using h2, decide_false]
    exact ⟨by decide, by decide, by omega, ⟨_, rfl, Int.emod_nonneg _ (by omega), Int.emod_lt_of_pos _ (by omega)⟩, hD⟩
/-- one of a list's items -/
theorem p_pick {m : Nat} {S xs : List D} (h : Dr m S) (hm : 1 ≤ m) (h1 : 1 ≤ xs.length) (h2 : xs.length ≤ 1000) : Run (f__law_pick [.cel 0, .lst xs] S) (DrR (· ∈ xs) (m - 1)) E0 := by
  simp only [f__law_pick, b__law_pick, run_ok, run_exc, run_bad, run_ofO, run_ofB, run_var, run_peek, run_lit, run_op2, run_op1, run_idx, run_tru, run_not, run_and, run_or, run_ite, run_bl, run_asB, run_andV, run_orV, run_nil, run_cons, run_tup, run_lst, run_star, run_dict, run_noPart, run_part, run_slc, run_chain, run_call, run_meth, run_fn, run_fnK, run_fnL, run_caught, run_iter, run_enum, run_rng, run_rng2, run_zip, run_comp, run_yes, run_seq, run_skip, run_set, run_setO, run_setC, run_par, run_ret, run_retN, run_retO, run_ifS, run_drop, run_raise, run_break, run_cont, run_tgt, run_frz, run_for, run_subC, run_subO, run_own, run_mkF, kOpB, kOpA, kOp1, kIxB, kIxA, kTru, kNot, kAnd, kOr, kIte, kBl, kAsB, kAndV, kOrV, kConsB, kConsA, kTup, kLst, kStarB, kStarA, kDict, kPart, kSlC, kSlB, kSlA, kChC, kChB, kChA, kCall, kMeB, kMeA, kFn, kFnKB, kFnKA, kFnLA, kCaughtE, kCaughtQ, kIter, kEnum, kRng, kRng2B, kRng2A, kZipB, kZipA, kCmpB, kCmp, kSet, kSetO, kSetC, kParB, kParA, kRetE, kIf, kDrop, kTgt, kFor, kSubCC, kSubCB, kSubCA, kSubOB, kSubOA, kOwnB, kOwnA, kRet, kSeq_nx, kSeq_rt, kSeq_bk, kSeq_ct, opt_some, opt_none, opt_if, opt_map, opt_bind, slV_val, slO_own, slP_val, slP_own, cond_true, cond_false, List.getElem?_cons_zero, List.getElem?_cons_succ, List.set_cons_zero, List.set_cons_succ, List.replicate_succ, List.replicate_zero, List.map_cons, List.map_nil, List.cons_append, List.nil_append, List.length_cons, List.length_nil, Nat.reduceAdd, Nat.reduceSub, Nat.zero_add, Int.toNat_natCast, bindT, bindTs, itemsD, wipeD, slo, frz, permD, true_and, and_true, Bool.not_true, Bool.not_false, oo_add_i, oo_add_str, oo_add_tup, oo_add_lst, oo_sub_i, oo_mul_i, oo_mul_s, oo_mul_t, oo_mul_l, oo_rep_l, oo_cat_l, oo_fdiv, oo_mod, oo_pow, oo_neg, oo_lt_i, oo_le_i, oo_gt_i, oo_ge_i, oo_lt_s, oo_gt_s, oo_le_s, oo_ge_s, oo_is, oo_isnt, oo_isn_non, oo_isn_bl, oo_isn_int, oo_isn_str, oo_isn_tup, oo_isn_lst, oo_isn_dic, oo_tru_non, oo_tru_bl, oo_tru_int, oo_tru_str, oo_tru_tup, oo_tru_lst, oo_len_str, oo_len_tup, oo_len_lst, oo_len_scr, oo_len_dic, oo_sum, oo_max_l, oo_max_2, oo_min_l, oo_min_2, oo_all, oo_any, oo_abs, oo_int_i, oo_int_b, oo_tup_t, oo_tup_l, oo_lstF_t, oo_lstF_l, oo_lstF2_t, oo_lstF2_l, oo_lstF2_s, oo_lstF2_r, oo_nJoin, oo_nIndex, oo_join_lst, oo_join_tup, oo_index, oo_it_tup, oo_it_lst, oo_it_str, oo_it_scr, oo_ix_tup, oo_ix_lst, oo_ix_str, oo_ix_whole, oo_put_whole, oo_ix_cells, oo_put_cells, oo_ix_count, oo_put_count, oo_put_l, oo_app, oo_slc_t, oo_slc_l, oo_slc_s, oo_isi_ty, oo_isi_ex, oo_isi_non_bool, oo_isi_non_int, oo_isi_non_str, oo_isi_non_tuple, oo_isi_non_list, oo_isi_non_dict, oo_isi_bl_bool, oo_isi_bl_int, oo_isi_bl_str, oo_isi_bl_tuple, oo_isi_bl_list, oo_isi_bl_dict, oo_isi_int_bool, oo_isi_int_int, oo_isi_int_str, oo_isi_int_tuple, oo_isi_int_list, oo_isi_int_dict, oo_isi_str_bool, oo_isi_str_int, oo_isi_str_str, oo_isi_str_tuple, oo_isi_str_list, oo_isi_str_dict, oo_isi_tup_bool, oo_isi_tup_int, oo_isi_tup_str, oo_isi_tup_tuple, oo_isi_tup_list, oo_isi_tup_dict, oo_isi_lst_bool, oo_isi_lst_int, oo_isi_lst_str, oo_isi_lst_tuple, oo_isi_lst_list, oo_isi_lst_dict, oo_isi_dic_bool, oo_isi_dic_int, oo_isi_dic_str, oo_isi_dic_tuple, oo_isi_dic_list, oo_isi_dic_dict, oo_in_c, oo_inD, oo_ninD]
  refine Run.step (p_take h hm (by omega) (by omega)) ?_
  rintro _ S1 ⟨⟨k, rfl, hk0, hk1⟩, hD⟩
  obtain ⟨x, e, hx⟩ := atI_mem hk0 hk1
  simp only [run_ok, run_exc, run_bad, run_ofO, run_ofB, run_var, run_peek, run_lit, run_op2, run_op1, run_idx, run_tru, run_not, run_and, run_or, run_ite, run_bl, run_asB, run_andV, run_orV, run_nil, run_cons, run_tup, run_lst, run_star, run_dict, run_noPart, run_part, run_slc, run_chain, run_call, run_meth, run_fn, run_fnK, run_fnL, run_caught, run_iter, run_enum, run_rng, run_rng2, run_zip, run_comp, run_yes, run_seq, run_skip, run_set, run_setO, run_setC, run_par, run_ret, run_retN, run_retO, run_ifS, run_drop, run_raise, run_break, run_cont, run_tgt, run_frz, run_for, run_subC, run_subO, run_own, run_mkF, kOpB, kOpA, kOp1, kIxB, kIxA, kTru, kNot, kAnd, kOr, kIte, kBl, kAsB, kAndV, kOrV, kConsB, kConsA, kTup, kLst, kStarB, kStarA, kDict, kPart, kSlC, kSlB, kSlA, kChC, kChB, kChA, kCall, kMeB, kMeA, kFn, kFnKB, kFnKA, kFnLA, kCaughtE, kCaughtQ, kIter, kEnum, kRng, kRng2B, kRng2A, kZipB, kZipA, kCmpB, kCmp, kSet, kSetO, kSetC, kParB, kParA, kRetE, kIf, kDrop, kTgt, kFor, kSubCC, kSubCB, kSubCA, kSubOB, kSubOA, kOwnB, kOwnA, kRet, kSeq_nx, kSeq_rt, kSeq_bk, kSeq_ct, opt_some, opt_none, opt_if, opt_map, opt_bind, slV_val, slO_own, slP_val, slP_own, cond_true, cond_false, List.getElem?_cons_zero, List.getElem?_cons_succ, List.set_cons_zero, List.set_cons_succ, List.replicate_succ, List.replicate_zero, List.map_cons, List.map_nil, List.cons_append, List.nil_append, List.length_cons, List.length_nil, Nat.reduceAdd, Nat.reduceSub, Nat.zero_add, Int.toNat_natCast, bindT, bindTs, itemsD, wipeD, slo, frz, permD, true_and, and_true, Bool.not_true, Bool.not_false, oo_add_i, oo_add_str, oo_add_tup, oo_add_lst, oo_sub_i, oo_mul_i, oo_mul_s, oo_mul_t, oo_mul_l, oo_rep_l, oo_cat_l, oo_fdiv, oo_mod, oo_pow, oo_neg, oo_lt_i, oo_le_i, oo_gt_i, oo_ge_i, oo_lt_s, oo_gt_s, oo_le_s, oo_ge_s, oo_is, oo_isnt, oo_isn_non, oo_isn_bl, oo_isn_int, oo_isn_str, oo_isn_tup, oo_isn_lst, oo_isn_dic, oo_tru_non, oo_tru_bl, oo_tru_int, oo_tru_str, oo_tru_tup, oo_tru_lst, oo_len_str, oo_len_tup, oo_len_lst, oo_len_scr, oo_len_dic, oo_sum, oo_max_l, oo_max_2, oo_min_l, oo_min_2, oo_all, oo_any, oo_abs, oo_int_i, oo_int_b, oo_tup_t, oo_tup_l, oo_lstF_t, oo_lstF_l, oo_lstF2_t, oo_lstF2_l, oo_lstF2_s, oo_lstF2_r, oo_nJoin, oo_nIndex, oo_join_lst, oo_join_tup, oo_index, oo_it_tup, oo_it_lst, oo_it_str, oo_it_scr, oo_ix_tup, oo_ix_lst, oo_ix_str, oo_ix_whole, oo_put_whole, oo_ix_cells, oo_put_cells, oo_ix_count, oo_put_count, oo_put_l, oo_app, oo_slc_t, oo_slc_l, oo_slc_s, oo_isi_ty, oo_isi_ex, oo_isi_non_bool, oo_isi_non_int, oo_isi_non_str, oo_isi_non_tuple, oo_isi_non_list, oo_isi_non_dict, oo_isi_bl_bool, oo_isi_bl_int, oo_isi_bl_str, oo_isi_bl_tuple, oo_isi_bl_list, oo_isi_bl_dict, oo_isi_int_bool, oo_isi_int_int, oo_isi_int_str, oo_isi_int_tuple, oo_isi_int_list, oo_isi_int_dict, oo_isi_str_bool, oo_isi_str_int, oo_isi_str_str, oo_isi_str_tuple, oo_isi_str_list, oo_isi_str_dict, oo_isi_tup_bool, oo_isi_tup_int, oo_isi_tup_str, oo_isi_tup_tuple, oo_isi_tup_list, oo_isi_tup_dict, oo_isi_lst_bool, oo_isi_lst_int, oo_isi_lst_str, oo_isi_lst_tuple, oo_isi_lst_list, oo_isi_lst_dict, oo_isi_dic_bool, oo_isi_dic_int, oo_isi_dic_str, oo_isi_dic_tuple, oo_isi_dic_list, oo_isi_dic_dict, oo_in_c, oo_inD, oo_ninD, e]
  exact ⟨le_big (by omega), hx, hD⟩
theorem p_letters (n : Nat) (h1 : 1 ≤ n) : ∃ l : List Nat, cut [D.str [97], D.str [98], D.str [99], D.str [100], D.str [101], D.str [102]] none (some (n : Int)) = chs l ∧ 1 ≤ l.length ∧ l.length ≤ 6 ∧ Wd l := by
  refine ⟨[97, 98, 99, 100, 101, 102].take n, by rw [cut_to]; exact (List.map_take (f := fun c => D.str [c]) (l := [97, 98, 99, 100, 101, 102])).symm, ?_, ?_, fun c hc => ?_⟩
  · rw [List.length_take]; simp; omega
  · rw [List.length_take]; simp; omega
  · have := List.mem_of_mem_take hc
    simpa using this
theorem p_word {m : Nat} {S : List D} {n k : Nat} (h : Dr m S) (hm : k ≤ m) (h1 : 1 ≤ n) (h2 : k ≤ 1000) : Run (f__law_word [.cel 0, .int n, .int k] S) (DrR (fun d => ∃ s, d = .str s ∧ s.length = k ∧ Wd s) (m - k)) E0 := by
  simp only [f__law_word, b__law_word, run_ok, run_exc, run_bad, run_ofO, run_ofB, run_var, run_peek, run_lit, run_op2, run_op1, run_idx, run_tru, run_not, run_and, run_or, run_ite, run_bl, run_asB, run_andV, run_orV, run_nil, run_cons, run_tup, run_lst, run_star, run_dict, run_noPart, run_part, run_slc, run_chain, run_call, run_meth, run_fn, run_fnK, run_fnL, run_caught, run_iter, run_enum, run_rng, run_rng2, run_zip, run_comp, run_yes, run_seq, run_skip, run_set, run_setO, run_setC, run_par, run_ret, run_retN, run_retO, run_ifS, run_drop, run_raise, run_break, run_cont, run_tgt, run_frz, run_for, run_subC, run_subO, run_own, run_mkF, kOpB, kOpA, kOp1, kIxB, kIxA, kTru, kNot, kAnd, kOr, kIte, kBl, kAsB, kAndV, kOrV, kConsB, kConsA, kTup, kLst, kStarB, kStarA, kDict, kPart, kSlC, kSlB, kSlA, kChC, kChB, kChA, kCall, kMeB, kMeA, kFn, kFnKB, kFnKA, kFnLA, kCaughtE, kCaughtQ, kIter, kEnum, kRng, kRng2B, kRng2A, kZipB, kZipA, kCmpB, kCmp, kSet, kSetO, kSetC, kParB, kParA, kRetE, kIf, kDrop, kTgt, kFor, kSubCC, kSubCB, kSubCA, kSubOB, kSubOA, kOwnB, kOwnA, kRet, kSeq_nx, kSeq_rt, kSeq_bk, kSeq_ct, opt_some, opt_none, opt_if, opt_map, opt_bind, slV_val, slO_own, slP_val, slP_own, cond_true, cond_false, List.getElem?_cons_zero, List.getElem?_cons_succ, List.set_cons_zero, List.set_cons_succ, List.replicate_succ, List.replicate_zero, List.map_cons, List.map_nil, List.cons_append, List.nil_append, List.length_cons, List.length_nil, Nat.reduceAdd, Nat.reduceSub, Nat.zero_add, Int.toNat_natCast, bindT, bindTs, itemsD, wipeD, slo, frz, permD, true_and, and_true, Bool.not_true, Bool.not_false, oo_add_i, oo_add_str, oo_add_tup, oo_add_lst, oo_sub_i, oo_mul_i, oo_mul_s, oo_mul_t, oo_mul_l, oo_rep_l, oo_cat_l, oo_fdiv, oo_mod, oo_pow, oo_neg, oo_lt_i, oo_le_i, oo_gt_i, oo_ge_i, oo_lt_s, oo_gt_s, oo_le_s, oo_ge_s, oo_is, oo_isnt, oo_isn_non, oo_isn_bl, oo_isn_int, oo_isn_str, oo_isn_tup, oo_isn_lst, oo_isn_dic, oo_tru_non, oo_tru_bl, oo_tru_int, oo_tru_str, oo_tru_tup, oo_tru_lst, oo_len_str, oo_len_tup, oo_len_lst, oo_len_scr, oo_len_dic, oo_sum, oo_max_l, oo_max_2, oo_min_l, oo_min_2, oo_all, oo_any, oo_abs, oo_int_i, oo_int_b, oo_tup_t, oo_tup_l, oo_lstF_t, oo_lstF_l, oo_lstF2_t, oo_lstF2_l, oo_lstF2_s, oo_lstF2_r, oo_nJoin, oo_nIndex, oo_join_lst, oo_join_tup, oo_index, oo_it_tup, oo_it_lst, oo_it_str, oo_it_scr, oo_ix_tup, oo_ix_lst, oo_ix_str, oo_ix_whole, oo_put_whole, oo_ix_cells, oo_put_cells, oo_ix_count, oo_put_count, oo_put_l, oo_app, oo_slc_t, oo_slc_l, oo_slc_s, oo_isi_ty, oo_isi_ex, oo_isi_non_bool, oo_isi_non_int, oo_isi_non_str, oo_isi_non_tuple, oo_isi_non_list, oo_isi_non_dict, oo_isi_bl_bool, oo_isi_bl_int, oo_isi_bl_str, oo_isi_bl_tuple, oo_isi_bl_list, oo_isi_bl_dict, oo_isi_int_bool, oo_isi_int_int, oo_isi_int_str, oo_isi_int_tuple, oo_isi_int_list, oo_isi_int_dict, oo_isi_str_bool, oo_isi_str_int, oo_isi_str_str, oo_isi_str_tuple, oo_isi_str_list, oo_isi_str_dict, oo_isi_tup_bool, oo_isi_tup_int, oo_isi_tup_str, oo_isi_tup_tuple, oo_isi_tup_list, oo_isi_tup_dict, oo_isi_lst_bool, oo_isi_lst_int, oo_isi_lst_str, oo_isi_lst_tuple, oo_isi_lst_list, oo_isi_lst_dict, oo_isi_dic_bool, oo_isi_dic_int, oo_isi_dic_str, oo_isi_dic_tuple, oo_isi_dic_list, oo_isi_dic_dict, oo_in_c, oo_inD, oo_ninD]
  refine ⟨rng_ok (by omega) (by omega), le_big (by rw [rangeD_length]; omega), ?_⟩
  refine run_coll_inv (I := Dr) (c := 1) (P := fun d => ∃ c, d = .str [c] ∧ (c = 97 ∨ c = 98 ∨ c = 99 ∨ c = 100 ∨ c = 101 ∨ c = 102)) h (by rw [rangeD_length]; omega) ?_ ?_
  · intro d hd j T hT hj
    obtain ⟨l, el, l1, l2, l3⟩ := p_letters n h1
    simp only [run_one, run_ok, run_exc, run_bad, run_ofO, run_ofB, run_var, run_peek, run_lit, run_op2, run_op1, run_idx, run_tru, run_not, run_and, run_or, run_ite, run_bl, run_asB, run_andV, run_orV, run_nil, run_cons, run_tup, run_lst, run_star, run_dict, run_noPart, run_part, run_slc, run_chain, run_call, run_meth, run_fn, run_fnK, run_fnL, run_caught, run_iter, run_enum, run_rng, run_rng2, run_zip, run_comp, run_yes, run_seq, run_skip, run_set, run_setO, run_setC, run_par, run_ret, run_retN, run_retO, run_ifS, run_drop, run_raise, run_break, run_cont, run_tgt, run_frz, run_for, run_subC, run_subO, run_own, run_mkF, kOpB, kOpA, kOp1, kIxB, kIxA, kTru, kNot, kAnd, kOr, kIte, kBl, kAsB, kAndV, kOrV, kConsB, kConsA, kTup, kLst, kStarB, kStarA, kDict, kPart, kSlC, kSlB, kSlA, kChC, kChB, kChA, kCall, kMeB, kMeA, kFn, kFnKB, kFnKA, kFnLA, kCaughtE, kCaughtQ, kIter, kEnum, kRng, kRng2B, kRng2A, kZipB, kZipA, kCmpB, kCmp, kSet, kSetO, kSetC, kParB, kParA, kRetE, kIf, kDrop, kTgt, kFor, kSubCC, kSubCB, kSubCA, kSubOB, kSubOA, kOwnB, kOwnA, kRet, kSeq_nx, kSeq_rt, kSeq_bk, kSeq_ct, opt_some, opt_none, opt_if, opt_map, opt_bind, slV_val, slO_own, slP_val, slP_own, cond_true, cond_false, List.getElem?_cons_zero, List.getElem?_cons_succ, List.set_cons_zero, List.set_cons_succ, List.replicate_succ, List.replicate_zero, List.map_cons, List.map_nil, List.cons_append, List.nil_append, List.length_cons, List.length_nil, Nat.reduceAdd, Nat.reduceSub, Nat.zero_add, Int.toNat_natCast, bindT, bindTs, itemsD, wipeD, slo, frz, permD, true_and, and_true, Bool.not_true, Bool.not_false, oo_add_i, oo_add_str, oo_add_tup, oo_add_lst, oo_sub_i, oo_mul_i, oo_mul_s, oo_mul_t, oo_mul_l, oo_rep_l, oo_cat_l, oo_fdiv, oo_mod, oo_pow, oo_neg, oo_lt_i, oo_le_i, oo_gt_i, oo_ge_i, oo_lt_s, oo_gt_s, oo_le_s, oo_ge_s, oo_is, oo_isnt, oo_isn_non, oo_isn_bl, oo_isn_int, oo_isn_str, oo_isn_tup, oo_isn_lst, oo_isn_dic, oo_tru_non, oo_tru_bl, oo_tru_int, oo_tru_str, oo_tru_tup, oo_tru_lst, oo_len_str, oo_len_tup, oo_len_lst, oo_len_scr, oo_len_dic, oo_sum, oo_max_l, oo_max_2, oo_min_l, oo_min_2, oo_all, oo_any, oo_abs, oo_int_i, oo_int_b, oo_tup_t, oo_tup_l, oo_lstF_t, oo_lstF_l, oo_lstF2_t, oo_lstF2_l, oo_lstF2_s, oo_lstF2_r, oo_nJoin, oo_nIndex, oo_join_lst, oo_join_tup, oo_index, oo_it_tup, oo_it_lst, oo_it_str, oo_it_scr, oo_ix_tup, oo_ix_lst, oo_ix_str, oo_ix_whole, oo_put_whole, oo_ix_cells, oo_put_cells, oo_ix_count, oo_put_count, oo_put_l, oo_app, oo_slc_t, oo_slc_l, oo_slc_s, oo_isi_ty, oo_isi_ex, oo_isi_non_bool, oo_isi_non_int, oo_isi_non_str, oo_isi_non_tuple, oo_isi_non_list, oo_isi_non_dict, oo_isi_bl_bool, oo_isi_bl_int, oo_isi_bl_str, oo_isi_bl_tuple, oo_isi_bl_list, oo_isi_bl_dict, oo_isi_int_bool, oo_isi_int_int, oo_isi_int_str, oo_isi_int_tuple, oo_isi_int_list, oo_isi_int_dict, oo_isi_str_bool, oo_isi_str_int, oo_isi_str_str, oo_isi_str_tuple, oo_isi_str_list, oo_isi_str_dict, oo_isi_tup_bool, oo_isi_tup_int, oo_isi_tup_str, oo_isi_tup_tuple, oo_isi_tup_list, oo_isi_tup_dict, oo_isi_lst_bool, oo_isi_lst_int, oo_isi_lst_str, oo_isi_lst_tuple, oo_isi_lst_list, oo_isi_lst_dict, oo_isi_dic_bool, oo_isi_dic_int, oo_isi_dic_str, oo_isi_dic_tuple, oo_isi_dic_list, oo_isi_dic_dict, oo_in_c, oo_inD, oo_ninD, kOneA, kOneB]
    refine ⟨by decide, ?_⟩
    rw [el]
    refine Run.step (p_pick hT hj (by simpa using l1) (by simp; omega)) ?_
    rintro x S1 ⟨hx, hD⟩
    obtain ⟨c, hc, rfl⟩ := List.mem_map.mp hx
    exact ⟨_, rfl, ⟨c, rfl, l3 c hc⟩, hD⟩
  · intro xs S1 hl hP hD
    obtain ⟨s, rfl, hs⟩ := chs_ofP hP
    have hlen : s.length = k := by rw [chs_length, rangeD_length] at hl; exact hl
    simp only [run_ok, run_exc, run_bad, run_ofO, run_ofB, run_var, run_peek, run_lit, run_op2, run_op1, run_idx, run_tru, run_not, run_and, run_or, run_ite, run_bl, run_asB, run_andV, run_orV, run_nil, run_cons, run_tup, run_lst, run_star, run_dict, run_noPart, run_part, run_slc, run_chain, run_call, run_meth, run_fn, run_fnK, run_fnL, run_caught, run_iter, run_enum, run_rng, run_rng2, run_zip, run_comp, run_yes, run_seq, run_skip, run_set, run_setO, run_setC, run_par, run_ret, run_retN, run_retO, run_ifS, run_drop, run_raise, run_break, run_cont, run_tgt, run_frz, run_for, run_subC, run_subO, run_own, run_mkF, kOpB, kOpA, kOp1, kIxB, kIxA, kTru, kNot, kAnd, kOr, kIte, kBl, kAsB, kAndV, kOrV, kConsB, kConsA, kTup, kLst, kStarB, kStarA, kDict, kPart, kSlC, kSlB, kSlA, kChC, kChB, kChA, kCall, kMeB, kMeA, kFn, kFnKB, kFnKA, kFnLA, kCaughtE, kCaughtQ, kIter, kEnum, kRng, kRng2B, kRng2A, kZipB, kZipA, kCmpB, kCmp, kSet, kSetO, kSetC, kParB, kParA, kRetE, kIf, kDrop, kTgt, kFor, kSubCC, kSubCB, kSubCA, kSubOB, kSubOA, kOwnB, kOwnA, kRet, kSeq_nx, kSeq_rt, kSeq_bk, kSeq_ct, opt_some, opt_none, opt_if, opt_map, opt_bind, slV_val, slO_own, slP_val, slP_own, cond_true, cond_false, List.getElem?_cons_zero, List.getElem?_cons_succ, List.set_cons_zero, List.set_cons_succ, List.replicate_succ, List.replicate_zero, List.map_cons, List.map_nil, List.cons_append, List.nil_append, List.length_cons, List.length_nil, Nat.reduceAdd, Nat.reduceSub, Nat.zero_add, Int.toNat_natCast, bindT, bindTs, itemsD, wipeD, slo, frz, permD, true_and, and_true, Bool.not_true, Bool.not_false]
    rw [join_chs (le_big (by omega))]
    simp only [opt_some, kRetE, kRet]
    exact ⟨⟨s, rfl, hlen, hs⟩, by rw [rangeD_length, Nat.mul_one] at hD; exact hD⟩
theorem p_near {m : Nat} {S : List D} {n k : Nat} {s : List Nat} (h : Dr m S) (hm : 2 * k ≤ m) (h1 : 1 ≤ n) (h2 : k ≤ 1000) (hs : Wd s) (hl : s.length ≤ 100) : Run (f__law_near_word [.cel 0, .str s, .int n, .int k] S) (DrR (fun d => ∃ s', d = .str s' ∧ s'.length = s.length ∧ Wd s') (m - 2 * k)) E0 := by
  simp only [f__law_near_word, b__law_near_word, run_ok, run_exc, run_bad, run_ofO, run_ofB, run_var, run_peek, run_lit, run_op2, run_op1, run_idx, run_tru, run_not, run_and, run_or, run_ite, run_bl, run_asB, run_andV, run_orV, run_nil, run_cons, run_tup, run_lst, run_star, run_dict, run_noPart, run_part, run_slc, run_chain, run_call, run_meth, run_fn, run_fnK, run_fnL, run_caught, run_iter, run_enum, run_rng, run_rng2, run_zip, run_comp, run_yes, run_seq, run_skip, run_set, run_setO, run_setC, run_par, run_ret, run_retN, run_retO, run_ifS, run_drop, run_raise, run_break, run_cont, run_tgt, run_frz, run_for, run_subC, run_subO, run_own, run_mkF, kOpB, kOpA, kOp1, kIxB, kIxA, kTru, kNot, kAnd, kOr, kIte, kBl, kAsB, kAndV, kOrV, kConsB, kConsA, kTup, kLst, kStarB, kStarA, kDict, kPart, kSlC, kSlB, kSlA, kChC, kChB, kChA, kCall, kMeB, kMeA, kFn, kFnKB, kFnKA, kFnLA, kCaughtE, kCaughtQ, kIter, kEnum, kRng, kRng2B, kRng2A, kZipB, kZipA, kCmpB, kCmp, kSet, kSetO, kSetC, kParB, kParA, kRetE, kIf, kDrop, kTgt, kFor, kSubCC, kSubCB, kSubCA, kSubOB, kSubOA, kOwnB, kOwnA, kRet, kSeq_nx, kSeq_rt, kSeq_bk, kSeq_ct, opt_some, opt_none, opt_if, opt_map, opt_bind, slV_val, slO_own, slP_val, slP_own, cond_true, cond_false, List.getElem?_cons_zero, List.getElem?_cons_succ, List.set_cons_zero, List.set_cons_succ, List.replicate_succ, List.replicate_zero, List.map_cons, List.map_nil, List.cons_append, List.nil_append, List.length_cons, List.length_nil, Nat.reduceAdd, Nat.reduceSub, Nat.zero_add, Int.toNat_natCast, bindT, bindTs, itemsD, wipeD, slo, frz, permD, true_and, and_true, Bool.not_true, Bool.not_false, oo_add_i, oo_add_str, oo_add_tup, oo_add_lst, oo_sub_i, oo_mul_i, oo_mul_s, oo_mul_t, oo_mul_l, oo_rep_l, oo_cat_l, oo_fdiv, oo_mod, oo_pow, oo_neg, oo_lt_i, oo_le_i, oo_gt_i, oo_ge_i, oo_lt_s, oo_gt_s, oo_le_s, oo_ge_s, oo_is, oo_isnt, oo_isn_non, oo_isn_bl, oo_isn_int, oo_isn_str, oo_isn_tup, oo_isn_lst, oo_isn_dic, oo_tru_non, oo_tru_bl, oo_tru_int, oo_tru_str, oo_tru_tup, oo_tru_lst, oo_len_str, oo_len_tup, oo_len_lst, oo_len_scr, oo_len_dic, oo_sum, oo_max_l, oo_max_2, oo_min_l, oo_min_2, oo_all, oo_any, oo_abs, oo_int_i, oo_int_b, oo_tup_t, oo_tup_l, oo_lstF_t, oo_lstF_l, oo_lstF2_t, oo_lstF2_l, oo_lstF2_s, oo_lstF2_r, oo_nJoin, oo_nIndex, oo_join_lst, oo_join_tup, oo_index, oo_it_tup, oo_it_lst, oo_it_str, oo_it_scr, oo_ix_tup, oo_ix_lst, oo_ix_str, oo_ix_whole, oo_put_whole, oo_ix_cells, oo_put_cells, oo_ix_count, oo_put_count, oo_put_l, oo_app, oo_slc_t, oo_slc_l, oo_slc_s, oo_isi_ty, oo_isi_ex, oo_isi_non_bool, oo_isi_non_int, oo_isi_non_str, oo_isi_non_tuple, oo_isi_non_list, oo_isi_non_dict, oo_isi_bl_bool, oo_isi_bl_int, oo_isi_bl_str, oo_isi_bl_tuple, oo_isi_bl_list, oo_isi_bl_dict, oo_isi_int_bool, oo_isi_int_int, oo_isi_int_str, oo_isi_int_tuple, oo_isi_int_list, oo_isi_int_dict, oo_isi_str_bool, oo_isi_str_int, oo_isi_str_str, oo_isi_str_tuple, oo_isi_str_list, oo_isi_str_dict, oo_isi_tup_bool, oo_isi_tup_int, oo_isi_tup_str, oo_isi_tup_tuple, oo_isi_tup_list, oo_isi_tup_dict, oo_isi_lst_bool, oo_isi_lst_int, oo_isi_lst_str, oo_isi_lst_tuple, oo_isi_lst_list, oo_isi_lst_dict, oo_isi_dic_bool, oo_isi_dic_int, oo_isi_dic_str, oo_isi_dic_tuple, oo_isi_dic_list, oo_isi_dic_dict, oo_in_c, oo_inD, oo_ninD]
  refine ⟨le_big (by omega), rng_ok (by omega) (by omega), ?_⟩
  refine run_forL_inv (i := 0) (I := fun i ρ T => ∃ (s' : List Nat) (o : Option Slot), ρ = [some (.val (.cel 0)), some (.val (.str s)), some (.val (.int n)), some (.val (.int k)), some (.own (.lst (chs s'))), o] ∧ s'.length = s.length ∧ Wd s' ∧ Dr (m - 2 * i) T) ⟨s, _, rfl, rfl, hs, h⟩ ?_ ?_
  · rintro j d ρ T hj ⟨s', o, rfl, hl', hs', hT⟩
    obtain ⟨hj, rfl⟩ := rangeD_at hj
    refine ⟨_, rfl, ?_⟩
    have ex : 2 * (0 + j) = 2 * j := by omega
    rw [ex] at hT
    by_cases he : s' = []
    · subst he
      have e : neD (.lst (chs [])) (.lst []) = some (.bl false) := by rfl
      simp only [run_ok, run_exc, run_bad, run_ofO, run_ofB, run_var, run_peek, run_lit, run_op2, run_op1, run_idx, run_tru, run_not, run_and, run_or, run_ite, run_bl, run_asB, run_andV, run_orV, run_nil, run_cons, run_tup, run_lst, run_star, run_dict, run_noPart, run_part, run_slc, run_chain, run_call, run_meth, run_fn, run_fnK, run_fnL, run_caught, run_iter, run_enum, run_rng, run_rng2, run_zip, run_comp, run_yes, run_seq, run_skip, run_set, run_setO, run_setC, run_par, run_ret, run_retN, run_retO, run_ifS, run_drop, run_raise, run_break, run_cont, run_tgt, run_frz, run_for, run_subC, run_subO, run_own, run_mkF, kOpB, kOpA, kOp1, kIxB, kIxA, kTru, kNot, kAnd, kOr, kIte, kBl, kAsB, kAndV, kOrV, kConsB, kConsA, kTup, kLst, kStarB, kStarA, kDict, kPart, kSlC, kSlB, kSlA, kChC, kChB, kChA, kCall, kMeB, kMeA, kFn, kFnKB, kFnKA, kFnLA, kCaughtE, kCaughtQ, kIter, kEnum, kRng, kRng2B, kRng2A, kZipB, kZipA, kCmpB, kCmp, kSet, kSetO, kSetC, kParB, kParA, kRetE, kIf, kDrop, kTgt, kFor, kSubCC, kSubCB, kSubCA, kSubOB, kSubOA, kOwnB, kOwnA, kRet, kSeq_nx, kSeq_rt, kSeq_bk, kSeq_ct, opt_some, opt_none, opt_if, opt_map, opt_bind, slV_val, slO_own, slP_val, slP_own, cond_true, cond_false, List.getElem?_cons_zero, List.getElem?_cons_succ, List.set_cons_zero, List.set_cons_succ, List.replicate_succ, List.replicate_zero, List.map_cons, List.map_nil, List.cons_append, List.nil_append, List.length_cons, List.length_nil, Nat.reduceAdd, Nat.reduceSub, Nat.zero_add, Int.toNat_natCast, bindT, bindTs, itemsD, wipeD, slo, frz, permD, true_and, and_true, Bool.not_true, Bool.not_false, oo_add_i, oo_add_str, oo_add_tup, oo_add_lst, oo_sub_i, oo_mul_i, oo_mul_s, oo_mul_t, oo_mul_l, oo_rep_l, oo_cat_l, oo_fdiv, oo_mod, oo_pow, oo_neg, oo_lt_i, oo_le_i, oo_gt_i, oo_ge_i, oo_lt_s, oo_gt_s, oo_le_s, oo_ge_s, oo_is, oo_isnt, oo_isn_non, oo_isn_bl, oo_isn_int, oo_isn_str, oo_isn_tup, oo_isn_lst, oo_isn_dic, oo_tru_non, oo_tru_bl, oo_tru_int, oo_tru_str, oo_tru_tup, oo_tru_lst, oo_len_str, oo_len_tup, oo_len_lst, oo_len_scr, oo_len_dic, oo_sum, oo_max_l, oo_max_2, oo_min_l, oo_min_2, oo_all, oo_any, oo_abs, oo_int_i, oo_int_b, oo_tup_t, oo_tup_l, oo_lstF_t, oo_lstF_l, oo_lstF2_t, oo_lstF2_l, oo_lstF2_s, oo_lstF2_r, oo_nJoin, oo_nIndex, oo_join_lst, oo_join_tup, oo_index, oo_it_tup, oo_it_lst, oo_it_str, oo_it_scr, oo_ix_tup, oo_ix_lst, oo_ix_str, oo_ix_whole, oo_put_whole, oo_ix_cells, oo_put_cells, oo_ix_count, oo_put_count, oo_put_l, oo_app, oo_slc_t, oo_slc_l, oo_slc_s, oo_isi_ty, oo_isi_ex, oo_isi_non_bool, oo_isi_non_int, oo_isi_non_str, oo_isi_non_tuple, oo_isi_non_list, oo_isi_non_dict, oo_isi_bl_bool, oo_isi_bl_int, oo_isi_bl_str, oo_isi_bl_tuple, oo_isi_bl_list, oo_isi_bl_dict, oo_isi_int_bool, oo_isi_int_int, oo_isi_int_str, oo_isi_int_tuple, oo_isi_int_list, oo_isi_int_dict, oo_isi_str_bool, oo_isi_str_int, oo_isi_str_str, oo_isi_str_tuple, oo_isi_str_list, oo_isi_str_dict, oo_isi_tup_bool, oo_isi_tup_int, oo_isi_tup_str, oo_isi_tup_tuple, oo_isi_tup_list, oo_isi_tup_dict, oo_isi_lst_bool, oo_isi_lst_int, oo_isi_lst_str, oo_isi_lst_tuple, oo_isi_lst_list, oo_isi_lst_dict, oo_isi_dic_bool, oo_isi_dic_int, oo_isi_dic_str, oo_isi_dic_tuple, oo_isi_dic_list, oo_isi_dic_dict, oo_in_c, oo_inD, oo_ninD, e]
      exact ⟨by decide, _, .inl rfl, [], _, rfl, hl', hs', hT.mono (by omega)⟩
    · simp only [run_ok, run_exc, run_bad, run_ofO, run_ofB, run_var, run_peek, run_lit, run_op2, run_op1, run_idx, run_tru, run_not, run_and, run_or, run_ite, run_bl, run_asB, run_andV, run_orV, run_nil, run_cons, run_tup, run_lst, run_star, run_dict, run_noPart, run_part, run_slc, run_chain, run_call, run_meth, run_fn, run_fnK, run_fnL, run_caught, run_iter, run_enum, run_rng, run_rng2, run_zip, run_comp, run_yes, run_seq, run_skip, run_set, run_setO, run_setC, run_par, run_ret, run_retN, run_retO, run_ifS, run_drop, run_raise, run_break, run_cont, run_tgt, run_frz, run_for, run_subC, run_subO, run_own, run_mkF, kOpB, kOpA, kOp1, kIxB, kIxA, kTru, kNot, kAnd, kOr, kIte, kBl, kAsB, kAndV, kOrV, kConsB, kConsA, kTup, kLst, kStarB, kStarA, kDict, kPart, kSlC, kSlB, kSlA, kChC, kChB, kChA, kCall, kMeB, kMeA, kFn, kFnKB, kFnKA, kFnLA, kCaughtE, kCaughtQ, kIter, kEnum, kRng, kRng2B, kRng2A, kZipB, kZipA, kCmpB, kCmp, kSet, kSetO, kSetC, kParB, kParA, kRetE, kIf, kDrop, kTgt, kFor, kSubCC, kSubCB, kSubCA, kSubOB, kSubOA, kOwnB, kOwnA, kRet, kSeq_nx, kSeq_rt, kSeq_bk, kSeq_ct, opt_some, opt_none, opt_if, opt_map, opt_bind, slV_val, slO_own, slP_val, slP_own, cond_true, cond_false, List.getElem?_cons_zero, List.getElem?_cons_succ, List.set_cons_zero, List.set_cons_succ, List.replicate_succ, List.replicate_zero, List.map_cons, List.map_nil, List.cons_append, List.nil_append, List.length_cons, List.length_nil, Nat.reduceAdd, Nat.reduceSub, Nat.zero_add, Int.toNat_natCast, bindT, bindTs, itemsD, wipeD, slo, frz, permD, true_and, and_true, Bool.not_true, Bool.not_false, ne_chs hs' he, oo_tru_bl]
      obtain ⟨l, el, l1, l2, l3⟩ := p_letters n h1
      simp only [run_ok, run_exc, run_bad, run_ofO, run_ofB, run_var, run_peek, run_lit, run_op2, run_op1, run_idx, run_tru, run_not, run_and, run_or, run_ite, run_bl, run_asB, run_andV, run_orV, run_nil, run_cons, run_tup, run_lst, run_star, run_dict, run_noPart, run_part, run_slc, run_chain, run_call, run_meth, run_fn, run_fnK, run_fnL, run_caught, run_iter, run_enum, run_rng, run_rng2, run_zip, run_comp, run_yes, run_seq, run_skip, run_set, run_setO, run_setC, run_par, run_ret, run_retN, run_retO, run_ifS, run_drop, run_raise, run_break, run_cont, run_tgt, run_frz, run_for, run_subC, run_subO, run_own, run_mkF, kOpB, kOpA, kOp1, kIxB, kIxA, kTru, kNot, kAnd, kOr, kIte, kBl, kAsB, kAndV, kOrV, kConsB, kConsA, kTup, kLst, kStarB, kStarA, kDict, kPart, kSlC, kSlB, kSlA, kChC, kChB, kChA, kCall, kMeB, kMeA, kFn, kFnKB, kFnKA, kFnLA, kCaughtE, kCaughtQ, kIter, kEnum, kRng, kRng2B, kRng2A, kZipB, kZipA, kCmpB, kCmp, kSet, kSetO, kSetC, kParB, kParA, kRetE, kIf, kDrop, kTgt, kFor, kSubCC, kSubCB, kSubCA, kSubOB, kSubOA, kOwnB, kOwnA, kRet, kSeq_nx, kSeq_rt, kSeq_bk, kSeq_ct, opt_some, opt_none, opt_if, opt_map, opt_bind, slV_val, slO_own, slP_val, slP_own, cond_true, cond_false, List.getElem?_cons_zero, List.getElem?_cons_succ, List.set_cons_zero, List.set_cons_succ, List.replicate_succ, List.replicate_zero, List.map_cons, List.map_nil, List.cons_append, List.nil_append, List.length_cons, List.length_nil, Nat.reduceAdd, Nat.reduceSub, Nat.zero_add, Int.toNat_natCast, bindT, bindTs, itemsD, wipeD, slo, frz, permD, true_and, and_true, Bool.not_true, Bool.not_false, oo_add_i, oo_add_str, oo_add_tup, oo_add_lst, oo_sub_i, oo_mul_i, oo_mul_s, oo_mul_t, oo_mul_l, oo_rep_l, oo_cat_l, oo_fdiv, oo_mod, oo_pow, oo_neg, oo_lt_i, oo_le_i, oo_gt_i, oo_ge_i, oo_lt_s, oo_gt_s, oo_le_s, oo_ge_s, oo_is, oo_isnt, oo_isn_non, oo_isn_bl, oo_isn_int, oo_isn_str, oo_isn_tup, oo_isn_lst, oo_isn_dic, oo_tru_non, oo_tru_bl, oo_tru_int, oo_tru_str, oo_tru_tup, oo_tru_lst, oo_len_str, oo_len_tup, oo_len_lst, oo_len_scr, oo_len_dic, oo_sum, oo_max_l, oo_max_2, oo_min_l, oo_min_2, oo_all, oo_any, oo_abs, oo_int_i, oo_int_b, oo_tup_t, oo_tup_l, oo_lstF_t, oo_lstF_l, oo_lstF2_t, oo_lstF2_l, oo_lstF2_s, oo_lstF2_r, oo_nJoin, oo_nIndex, oo_join_lst, oo_join_tup, oo_index, oo_it_tup, oo_it_lst, oo_it_str, oo_it_scr, oo_ix_tup, oo_ix_lst, oo_ix_str, oo_ix_whole, oo_put_whole, oo_ix_cells, oo_put_cells, oo_ix_count, oo_put_count, oo_put_l, oo_app, oo_slc_t, oo_slc_l, oo_slc_s, oo_isi_ty, oo_isi_ex, oo_isi_non_bool, oo_isi_non_int, oo_isi_non_str, oo_isi_non_tuple, oo_isi_non_list, oo_isi_non_dict, oo_isi_bl_bool, oo_isi_bl_int, oo_isi_bl_str, oo_isi_bl_tuple, oo_isi_bl_list, oo_isi_bl_dict, oo_isi_int_bool, oo_isi_int_int, oo_isi_int_str, oo_isi_int_tuple, oo_isi_int_list, oo_isi_int_dict, oo_isi_str_bool, oo_isi_str_int, oo_isi_str_str, oo_isi_str_tuple, oo_isi_str_list, oo_isi_str_dict, oo_isi_tup_bool, oo_isi_tup_int, oo_isi_tup_str, oo_isi_tup_tuple, oo_isi_tup_list, oo_isi_tup_dict, oo_isi_lst_bool, oo_isi_lst_int, oo_isi_lst_str, oo_isi_lst_tuple, oo_isi_lst_list, oo_isi_lst_dict, oo_isi_dic_bool, oo_isi_dic_int, oo_isi_dic_str, oo_isi_dic_tuple, oo_isi_dic_list, oo_isi_dic_dict, oo_in_c, oo_inD, oo_ninD]
      refine ⟨by decide, by decide, ?_⟩
      rw [el]
      refine Run.step (p_pick hT (by omega) (by rw [chs_length]; exact l1) (by rw [chs_length]; omega)) ?_
      rintro x S1 ⟨hx, hD⟩
      obtain ⟨c, hc, rfl⟩ := List.mem_map.mp hx
      simp only [run_ok, run_exc, run_bad, run_ofO, run_ofB, run_var, run_peek, run_lit, run_op2, run_op1, run_idx, run_tru, run_not, run_and, run_or, run_ite, run_bl, run_asB, run_andV, run_orV, run_nil, run_cons, run_tup, run_lst, run_star, run_dict, run_noPart, run_part, run_slc, run_chain, run_call, run_meth, run_fn, run_fnK, run_fnL, run_caught, run_iter, run_enum, run_rng, run_rng2, run_zip, run_comp, run_yes, run_seq, run_skip, run_set, run_setO, run_setC, run_par, run_ret, run_retN, run_retO, run_ifS, run_drop, run_raise, run_break, run_cont, run_tgt, run_frz, run_for, run_subC, run_subO, run_own, run_mkF, kOpB, kOpA, kOp1, kIxB, kIxA, kTru, kNot, kAnd, kOr, kIte, kBl, kAsB, kAndV, kOrV, kConsB, kConsA, kTup, kLst, kStarB, kStarA, kDict, kPart, kSlC, kSlB, kSlA, kChC, kChB, kChA, kCall, kMeB, kMeA, kFn, kFnKB, kFnKA, kFnLA, kCaughtE, kCaughtQ, kIter, kEnum, kRng, kRng2B, kRng2A, kZipB, kZipA, kCmpB, kCmp, kSet, kSetO, kSetC, kParB, kParA, kRetE, kIf, kDrop, kTgt, kFor, kSubCC, kSubCB, kSubCA, kSubOB, kSubOA, kOwnB, kOwnA, kRet, kSeq_nx, kSeq_rt, kSeq_bk, kSeq_ct, opt_some, opt_none, opt_if, opt_map, opt_bind, slV_val, slO_own, slP_val, slP_own, cond_true, cond_false, List.getElem?_cons_zero, List.getElem?_cons_succ, List.set_cons_zero, List.set_cons_succ, List.replicate_succ, List.replicate_zero, List.map_cons, List.map_nil, List.cons_append, List.nil_append, List.length_cons, List.length_nil, Nat.reduceAdd, Nat.reduceSub, Nat.zero_add, Int.toNat_natCast, bindT, bindTs, itemsD, wipeD, slo, frz, permD, true_and, and_true, Bool.not_true, Bool.not_false, oo_add_i, oo_add_str, oo_add_tup, oo_add_lst, oo_sub_i, oo_mul_i, oo_mul_s, oo_mul_t, oo_mul_l, oo_rep_l, oo_cat_l, oo_fdiv, oo_mod, oo_pow, oo_neg, oo_lt_i, oo_le_i, oo_gt_i, oo_ge_i, oo_lt_s, oo_gt_s, oo_le_s, oo_ge_s, oo_is, oo_isnt, oo_isn_non, oo_isn_bl, oo_isn_int, oo_isn_str, oo_isn_tup, oo_isn_lst, oo_isn_dic, oo_tru_non, oo_tru_bl, oo_tru_int, oo_tru_str, oo_tru_tup, oo_tru_lst, oo_len_str, oo_len_tup, oo_len_lst, oo_len_scr, oo_len_dic, oo_sum, oo_max_l, oo_max_2, oo_min_l, oo_min_2, oo_all, oo_any, oo_abs, oo_int_i, oo_int_b, oo_tup_t, oo_tup_l, oo_lstF_t, oo_lstF_l, oo_lstF2_t, oo_lstF2_l, oo_lstF2_s, oo_lstF2_r, oo_nJoin, oo_nIndex, oo_join_lst, oo_join_tup, oo_index, oo_it_tup, oo_it_lst, oo_it_str, oo_it_scr, oo_ix_tup, oo_ix_lst, oo_ix_str, oo_ix_whole, oo_put_whole, oo_ix_cells, oo_put_cells, oo_ix_count, oo_put_count, oo_put_l, oo_app, oo_slc_t, oo_slc_l, oo_slc_s, oo_isi_ty, oo_isi_ex, oo_isi_non_bool, oo_isi_non_int, oo_isi_non_str, oo_isi_non_tuple, oo_isi_non_list, oo_isi_non_dict, oo_isi_bl_bool, oo_isi_bl_int, oo_isi_bl_str, oo_isi_bl_tuple, oo_isi_bl_list, oo_isi_bl_dict, oo_isi_int_bool, oo_isi_int_int, oo_isi_int_str, oo_isi_int_tuple, oo_isi_int_list, oo_isi_int_dict, oo_isi_str_bool, oo_isi_str_int, oo_isi_str_str, oo_isi_str_tuple, oo_isi_str_list, oo_isi_str_dict, oo_isi_tup_bool, oo_isi_tup_int, oo_isi_tup_str, oo_isi_tup_tuple, oo_isi_tup_list, oo_isi_tup_dict, oo_isi_lst_bool, oo_isi_lst_int, oo_isi_lst_str, oo_isi_lst_tuple, oo_isi_lst_list, oo_isi_lst_dict, oo_isi_dic_bool, oo_isi_dic_int, oo_isi_dic_str, oo_isi_dic_tuple, oo_isi_dic_list, oo_isi_dic_dict, oo_in_c, oo_inD, oo_ninD]
      have hpos : 1 ≤ s'.length := Nat.one_le_iff_ne_zero.mpr fun h => he (List.length_eq_zero_iff.mp h)
      refine Run.step (p_take hD (by omega) (by rw [chs_length]; omega) (by rw [chs_length]; omega)) ?_
      rintro _ S2 ⟨⟨i, rfl, hi0, hi1⟩, hD2⟩
      simp only [run_ok, run_exc, run_bad, run_ofO, run_ofB, run_var, run_peek, run_lit, run_op2, run_op1, run_idx, run_tru, run_not, run_and, run_or, run_ite, run_bl, run_asB, run_andV, run_orV, run_nil, run_cons, run_tup, run_lst, run_star, run_dict, run_noPart, run_part, run_slc, run_chain, run_call, run_meth, run_fn, run_fnK, run_fnL, run_caught, run_iter, run_enum, run_rng, run_rng2, run_zip, run_comp, run_yes, run_seq, run_skip, run_set, run_setO, run_setC, run_par, run_ret, run_retN, run_retO, run_ifS, run_drop, run_raise, run_break, run_cont, run_tgt, run_frz, run_for, run_subC, run_subO, run_own, run_mkF, kOpB, kOpA, kOp1, kIxB, kIxA, kTru, kNot, kAnd, kOr, kIte, kBl, kAsB, kAndV, kOrV, kConsB, kConsA, kTup, kLst, kStarB, kStarA, kDict, kPart, kSlC, kSlB, kSlA, kChC, kChB, kChA, kCall, kMeB, kMeA, kFn, kFnKB, kFnKA, kFnLA, kCaughtE, kCaughtQ, kIter, kEnum, kRng, kRng2B, kRng2A, kZipB, kZipA, kCmpB, kCmp, kSet, kSetO, kSetC, kParB, kParA, kRetE, kIf, kDrop, kTgt, kFor, kSubCC, kSubCB, kSubCA, kSubOB, kSubOA, kOwnB, kOwnA, kRet, kSeq_nx, kSeq_rt, kSeq_bk, kSeq_ct, opt_some, opt_none, opt_if, opt_map, opt_bind, slV_val, slO_own, slP_val, slP_own, cond_true, cond_false, List.getElem?_cons_zero, List.getElem?_cons_succ, List.set_cons_zero, List.set_cons_succ, List.replicate_succ, List.replicate_zero, List.map_cons, List.map_nil, List.cons_append, List.nil_append, List.length_cons, List.length_nil, Nat.reduceAdd, Nat.reduceSub, Nat.zero_add, Int.toNat_natCast, bindT, bindTs, itemsD, wipeD, slo, frz, permD, true_and, and_true, Bool.not_true, Bool.not_false, oo_add_i, oo_add_str, oo_add_tup, oo_add_lst, oo_sub_i, oo_mul_i, oo_mul_s, oo_mul_t, oo_mul_l, oo_rep_l, oo_cat_l, oo_fdiv, oo_mod, oo_pow, oo_neg, oo_lt_i, oo_le_i, oo_gt_i, oo_ge_i, oo_lt_s, oo_gt_s, oo_le_s, oo_ge_s, oo_is, oo_isnt, oo_isn_non, oo_isn_bl, oo_isn_int, oo_isn_str, oo_isn_tup, oo_isn_lst, oo_isn_dic, oo_tru_non, oo_tru_bl, oo_tru_int, oo_tru_str, oo_tru_tup, oo_tru_lst, oo_len_str, oo_len_tup, oo_len_lst, oo_len_scr, oo_len_dic, oo_sum, oo_max_l, oo_max_2, oo_min_l, oo_min_2, oo_all, oo_any, oo_abs, oo_int_i, oo_int_b, oo_tup_t, oo_tup_l, oo_lstF_t, oo_lstF_l, oo_lstF2_t, oo_lstF2_l, oo_lstF2_s, oo_lstF2_r, oo_nJoin, oo_nIndex, oo_join_lst, oo_join_tup, oo_index, oo_it_tup, oo_it_lst, oo_it_str, oo_it_scr, oo_ix_tup, oo_ix_lst, oo_ix_str, oo_ix_whole, oo_put_whole, oo_ix_cells, oo_put_cells, oo_ix_count, oo_put_count, oo_put_l, oo_app, oo_slc_t, oo_slc_l, oo_slc_s, oo_isi_ty, oo_isi_ex, oo_isi_non_bool, oo_isi_non_int, oo_isi_non_str, oo_isi_non_tuple, oo_isi_non_list, oo_isi_non_dict, oo_isi_bl_bool, oo_isi_bl_int, oo_isi_bl_str, oo_isi_bl_tuple, oo_isi_bl_list, oo_isi_bl_dict, oo_isi_int_bool, oo_isi_int_int, oo_isi_int_str, oo_isi_int_tuple, oo_isi_int_list, oo_isi_int_dict, oo_isi_str_bool, oo_isi_str_int, oo_isi_str_str, oo_isi_str_tuple, oo_isi_str_list, oo_isi_str_dict, oo_isi_tup_bool, oo_isi_tup_int, oo_isi_tup_str, oo_isi_tup_tuple, oo_isi_tup_list, oo_isi_tup_dict, oo_isi_lst_bool, oo_isi_lst_int, oo_isi_lst_str, oo_isi_lst_tuple, oo_isi_lst_list, oo_isi_lst_dict, oo_isi_dic_bool, oo_isi_dic_int, oo_isi_dic_str, oo_isi_dic_tuple, oo_isi_dic_list, oo_isi_dic_dict, oo_in_c, oo_inD, oo_ninD, ixN_nat hi0 hi1, chs_set]
      refine ⟨_, .inl rfl, _, _, rfl, by rw [List.length_set]; exact hl', fun z hz => ?_, hD2.mono (by omega)⟩
      rcases List.mem_or_eq_of_mem_set hz with hz | rfl
      · exact hs' z hz
      · exact l3 _ hc
  · rintro ρ T ⟨s', o, rfl, hl', hs', hT⟩
    rw [rangeD_length] at hT
    simp only [run_ok, run_exc, run_bad, run_ofO, run_ofB, run_var, run_peek, run_lit, run_op2, run_op1, run_idx, run_tru, run_not, run_and, run_or, run_ite, run_bl, run_asB, run_andV, run_orV, run_nil, run_cons, run_tup, run_lst, run_star, run_dict, run_noPart, run_part, run_slc, run_chain, run_call, run_meth, run_fn, run_fnK, run_fnL, run_caught, run_iter, run_enum, run_rng, run_rng2, run_zip, run_comp, run_yes, run_seq, run_skip, run_set, run_setO, run_setC, run_par, run_ret, run_retN, run_retO, run_ifS, run_drop, run_raise, run_break, run_cont, run_tgt, run_frz, run_for, run_subC, run_subO, run_own, run_mkF, kOpB, kOpA, kOp1, kIxB, kIxA, kTru, kNot, kAnd, kOr, kIte, kBl, kAsB, kAndV, kOrV, kConsB, kConsA, kTup, kLst, kStarB, kStarA, kDict, kPart, kSlC, kSlB, kSlA, kChC, kChB, kChA, kCall, kMeB, kMeA, kFn, kFnKB, kFnKA, kFnLA, kCaughtE, kCaughtQ, kIter, kEnum, kRng, kRng2B, kRng2A, kZipB, kZipA, kCmpB, kCmp, kSet, kSetO, kSetC, kParB, kParA, kRetE, kIf, kDrop, kTgt, kFor, kSubCC, kSubCB, kSubCA, kSubOB, kSubOA, kOwnB, kOwnA, kRet, kSeq_nx, kSeq_rt, kSeq_bk, kSeq_ct, opt_some, opt_none, opt_if, opt_map, opt_bind, slV_val, slO_own, slP_val, slP_own, cond_true, cond_false, List.getElem?_cons_zero, List.getElem?_cons_succ, List.set_cons_zero, List.set_cons_succ, List.replicate_succ, List.replicate_zero, List.map_cons, List.map_nil, List.cons_append, List.nil_append, List.length_cons, List.length_nil, Nat.reduceAdd, Nat.reduceSub, Nat.zero_add, Int.toNat_natCast, bindT, bindTs, itemsD, wipeD, slo, frz, permD, true_and, and_true, Bool.not_true, Bool.not_false, join_chs (s := s') (le_big (by omega)), oo_nJoin]
    exact ⟨⟨s', rfl, hl', hs'⟩, hT.mono (by omega)⟩
theorem p_lot {m : Nat} {S : List D} {n k M : Nat} (h : Dr m S) (hm : 2000 ≤ m) (h1 : 1 ≤ n) (hk : k ≤ 24) (hM1 : 1 ≤ M) (hM2 : M ≤ 20) : Run (f__law_lot [.cel 0, .int n, .int k, .int M] S) (DrR (fun d => ∃ ws, d = .tup (ws.map .str) ∧ Lot ws k) (m - 2000)) E0 := by
  simp only [f__law_lot, b__law_lot, run_ok, run_exc, run_bad, run_ofO, run_ofB, run_var, run_peek, run_lit, run_op2, run_op1, run_idx, run_tru, run_not, run_and, run_or, run_ite, run_bl, run_asB, run_andV, run_orV, run_nil, run_cons, run_tup, run_lst, run_star, run_dict, run_noPart, run_part, run_slc, run_chain, run_call, run_meth, run_fn, run_fnK, run_fnL, run_caught, run_iter, run_enum, run_rng, run_rng2, run_zip, run_comp, run_yes, run_seq, run_skip, run_set, run_setO, run_setC, run_par, run_ret, run_retN, run_retO, run_ifS, run_drop, run_raise, run_break, run_cont, run_tgt, run_frz, run_for, run_subC, run_subO, run_own, run_mkF, kOpB, kOpA, kOp1, kIxB, kIxA, kTru, kNot, kAnd, kOr, kIte, kBl, kAsB, kAndV, kOrV, kConsB, kConsA, kTup, kLst, kStarB, kStarA, kDict, kPart, kSlC, kSlB, kSlA, kChC, kChB, kChA, kCall, kMeB, kMeA, kFn, kFnKB, kFnKA, kFnLA, kCaughtE, kCaughtQ, kIter, kEnum, kRng, kRng2B, kRng2A, kZipB, kZipA, kCmpB, kCmp, kSet, kSetO, kSetC, kParB, kParA, kRetE, kIf, kDrop, kTgt, kFor, kSubCC, kSubCB, kSubCA, kSubOB, kSubOA, kOwnB, kOwnA, kRet, kSeq_nx, kSeq_rt, kSeq_bk, kSeq_ct, opt_some, opt_none, opt_if, opt_map, opt_bind, slV_val, slO_own, slP_val, slP_own, cond_true, cond_false, List.getElem?_cons_zero, List.getElem?_cons_succ, List.set_cons_zero, List.set_cons_succ, List.replicate_succ, List.replicate_zero, List.map_cons, List.map_nil, List.cons_append, List.nil_append, List.length_cons, List.length_nil, Nat.reduceAdd, Nat.reduceSub, Nat.zero_add, Int.toNat_natCast, bindT, bindTs, itemsD, wipeD, slo, frz, permD, true_and, and_true, Bool.not_true, Bool.not_false, oo_add_i, oo_add_str, oo_add_tup, oo_add_lst, oo_sub_i, oo_mul_i, oo_mul_s, oo_mul_t, oo_mul_l, oo_rep_l, oo_cat_l, oo_fdiv, oo_mod, oo_pow, oo_neg, oo_lt_i, oo_le_i, oo_gt_i, oo_ge_i, oo_lt_s, oo_gt_s, oo_le_s, oo_ge_s, oo_is, oo_isnt, oo_isn_non, oo_isn_bl, oo_isn_int, oo_isn_str, oo_isn_tup, oo_isn_lst, oo_isn_dic, oo_tru_non, oo_tru_bl, oo_tru_int, oo_tru_str, oo_tru_tup, oo_tru_lst, oo_len_str, oo_len_tup, oo_len_lst, oo_len_scr, oo_len_dic, oo_sum, oo_max_l, oo_max_2, oo_min_l, oo_min_2, oo_all, oo_any, oo_abs, oo_int_i, oo_int_b, oo_tup_t, oo_tup_l, oo_lstF_t, oo_lstF_l, oo_lstF2_t, oo_lstF2_l, oo_lstF2_s, oo_lstF2_r, oo_nJoin, oo_nIndex, oo_join_lst, oo_join_tup, oo_index, oo_it_tup, oo_it_lst, oo_it_str, oo_it_scr, oo_ix_tup, oo_ix_lst, oo_ix_str, oo_ix_whole, oo_put_whole, oo_ix_cells, oo_put_cells, oo_ix_count, oo_put_count, oo_put_l, oo_app, oo_slc_t, oo_slc_l, oo_slc_s, oo_isi_ty, oo_isi_ex, oo_isi_non_bool, oo_isi_non_int, oo_isi_non_str, oo_isi_non_tuple, oo_isi_non_list, oo_isi_non_dict, oo_isi_bl_bool, oo_isi_bl_int, oo_isi_bl_str, oo_isi_bl_tuple, oo_isi_bl_list, oo_isi_bl_dict, oo_isi_int_bool, oo_isi_int_int, oo_isi_int_str, oo_isi_int_tuple, oo_isi_int_list, oo_isi_int_dict, oo_isi_str_bool, oo_isi_str_int, oo_isi_str_str, oo_isi_str_tuple, oo_isi_str_list, oo_isi_str_dict, oo_isi_tup_bool, oo_isi_tup_int, oo_isi_tup_str, oo_isi_tup_tuple, oo_isi_tup_list, oo_isi_tup_dict, oo_isi_lst_bool, oo_isi_lst_int, oo_isi_lst_str, oo_isi_lst_tuple, oo_isi_lst_list, oo_isi_lst_dict, oo_isi_dic_bool, oo_isi_dic_int, oo_isi_dic_str, oo_isi_dic_tuple, oo_isi_dic_list, oo_isi_dic_dict, oo_in_c, oo_inD, oo_ninD]
  refine Run.step (p_take h (by omega) (by omega) (by omega)) ?_
  rintro _ S1 ⟨⟨i, rfl, hi0, hi1⟩, hD1⟩
  simp only [run_ok, run_exc, run_bad, run_ofO, run_ofB, run_var, run_peek, run_lit, run_op2, run_op1, run_idx, run_tru, run_not, run_and, run_or, run_ite, run_bl, run_asB, run_andV, run_orV, run_nil, run_cons, run_tup, run_lst, run_star, run_dict, run_noPart, run_part, run_slc, run_chain, run_call, run_meth, run_fn, run_fnK, run_fnL, run_caught, run_iter, run_enum, run_rng, run_rng2, run_zip, run_comp, run_yes, run_seq, run_skip, run_set, run_setO, run_setC, run_par, run_ret, run_retN, run_retO, run_ifS, run_drop, run_raise, run_break, run_cont, run_tgt, run_frz, run_for, run_subC, run_subO, run_own, run_mkF, kOpB, kOpA, kOp1, kIxB, kIxA, kTru, kNot, kAnd, kOr, kIte, kBl, kAsB, kAndV, kOrV, kConsB, kConsA, kTup, kLst, kStarB, kStarA, kDict, kPart, kSlC, kSlB, kSlA, kChC, kChB, kChA, kCall, kMeB, kMeA, kFn, kFnKB, kFnKA, kFnLA, kCaughtE, kCaughtQ, kIter, kEnum, kRng, kRng2B, kRng2A, kZipB, kZipA, kCmpB, kCmp, kSet, kSetO, kSetC, kParB, kParA, kRetE, kIf, kDrop, kTgt, kFor, kSubCC, kSubCB, kSubCA, kSubOB, kSubOA, kOwnB, kOwnA, kRet, kSeq_nx, kSeq_rt, kSeq_bk, kSeq_ct, opt_some, opt_none, opt_if, opt_map, opt_bind, slV_val, slO_own, slP_val, slP_own, cond_true, cond_false, List.getElem?_cons_zero, List.getElem?_cons_succ, List.set_cons_zero, List.set_cons_succ, List.replicate_succ, List.replicate_zero, List.map_cons, List.map_nil, List.cons_append, List.nil_append, List.length_cons, List.length_nil, Nat.reduceAdd, Nat.reduceSub, Nat.zero_add, Int.toNat_natCast, bindT, bindTs, itemsD, wipeD, slo, frz, permD, true_and, and_true, Bool.not_true, Bool.not_false, oo_add_i, oo_add_str, oo_add_tup, oo_add_lst, oo_sub_i, oo_mul_i, oo_mul_s, oo_mul_t, oo_mul_l, oo_rep_l, oo_cat_l, oo_fdiv, oo_mod, oo_pow, oo_neg, oo_lt_i, oo_le_i, oo_gt_i, oo_ge_i, oo_lt_s, oo_gt_s, oo_le_s, oo_ge_s, oo_is, oo_isnt, oo_isn_non, oo_isn_bl, oo_isn_int, oo_isn_str, oo_isn_tup, oo_isn_lst, oo_isn_dic, oo_tru_non, oo_tru_bl, oo_tru_int, oo_tru_str, oo_tru_tup, oo_tru_lst, oo_len_str, oo_len_tup, oo_len_lst, oo_len_scr, oo_len_dic, oo_sum, oo_max_l, oo_max_2, oo_min_l, oo_min_2, oo_all, oo_any, oo_abs, oo_int_i, oo_int_b, oo_tup_t, oo_tup_l, oo_lstF_t, oo_lstF_l, oo_lstF2_t, oo_lstF2_l, oo_lstF2_s, oo_lstF2_r, oo_nJoin, oo_nIndex, oo_join_lst, oo_join_tup, oo_index, oo_it_tup, oo_it_lst, oo_it_str, oo_it_scr, oo_ix_tup, oo_ix_lst, oo_ix_str, oo_ix_whole, oo_put_whole, oo_ix_cells, oo_put_cells, oo_ix_count, oo_put_count, oo_put_l, oo_app, oo_slc_t, oo_slc_l, oo_slc_s, oo_isi_ty, oo_isi_ex, oo_isi_non_bool, oo_isi_non_int, oo_isi_non_str, oo_isi_non_tuple, oo_isi_non_list, oo_isi_non_dict, oo_isi_bl_bool, oo_isi_bl_int, oo_isi_bl_str, oo_isi_bl_tuple, oo_isi_bl_list, oo_isi_bl_dict, oo_isi_int_bool, oo_isi_int_int, oo_isi_int_str, oo_isi_int_tuple, oo_isi_int_list, oo_isi_int_dict, oo_isi_str_bool, oo_isi_str_int, oo_isi_str_str, oo_isi_str_tuple, oo_isi_str_list, oo_isi_str_dict, oo_isi_tup_bool, oo_isi_tup_int, oo_isi_tup_str, oo_isi_tup_tuple, oo_isi_tup_list, oo_isi_tup_dict, oo_isi_lst_bool, oo_isi_lst_int, oo_isi_lst_str, oo_isi_lst_tuple, oo_isi_lst_list, oo_isi_lst_dict, oo_isi_dic_bool, oo_isi_dic_int, oo_isi_dic_str, oo_isi_dic_tuple, oo_isi_dic_list, oo_isi_dic_dict, oo_in_c, oo_inD, oo_ninD]
  refine Run.step (p_take hD1 (by omega) (by omega) (by omega)) ?_
  rintro _ S2 ⟨⟨way, rfl, hw0, hw1⟩, hD2⟩
  simp only [run_ok, run_exc, run_bad, run_ofO, run_ofB, run_var, run_peek, run_lit, run_op2, run_op1, run_idx, run_tru, run_not, run_and, run_or, run_ite, run_bl, run_asB, run_andV, run_orV, run_nil, run_cons, run_tup, run_lst, run_star, run_dict, run_noPart, run_part, run_slc, run_chain, run_call, run_meth, run_fn, run_fnK, run_fnL, run_caught, run_iter, run_enum, run_rng, run_rng2, run_zip, run_comp, run_yes, run_seq, run_skip, run_set, run_setO, run_setC, run_par, run_ret, run_retN, run_retO, run_ifS, run_drop, run_raise, run_break, run_cont, run_tgt, run_frz, run_for, run_subC, run_subO, run_own, run_mkF, kOpB, kOpA, kOp1, kIxB, kIxA, kTru, kNot, kAnd, kOr, kIte, kBl, kAsB, kAndV, kOrV, kConsB, kConsA, kTup, kLst, kStarB, kStarA, kDict, kPart, kSlC, kSlB, kSlA, kChC, kChB, kChA, kCall, kMeB, kMeA, kFn, kFnKB, kFnKA, kFnLA, kCaughtE, kCaughtQ, kIter, kEnum, kRng, kRng2B, kRng2A, kZipB, kZipA, kCmpB, kCmp, kSet, kSetO, kSetC, kParB, kParA, kRetE, kIf, kDrop, kTgt, kFor, kSubCC, kSubCB, kSubCA, kSubOB, kSubOA, kOwnB, kOwnA, kRet, kSeq_nx, kSeq_rt, kSeq_bk, kSeq_ct, opt_some, opt_none, opt_if, opt_map, opt_bind, slV_val, slO_own, slP_val, slP_own, cond_true, cond_false, List.getElem?_cons_zero, List.getElem?_cons_succ, List.set_cons_zero, List.set_cons_succ, List.replicate_succ, List.replicate_zero, List.map_cons, List.map_nil, List.cons_append, List.nil_append, List.length_cons, List.length_nil, Nat.reduceAdd, Nat.reduceSub, Nat.zero_add, Int.toNat_natCast, bindT, bindTs, itemsD, wipeD, slo, frz, permD, true_and, and_true, Bool.not_true, Bool.not_false, oo_add_i, oo_add_str, oo_add_tup, oo_add_lst, oo_sub_i, oo_mul_i, oo_mul_s, oo_mul_t, oo_mul_l, oo_rep_l, oo_cat_l, oo_fdiv, oo_mod, oo_pow, oo_neg, oo_lt_i, oo_le_i, oo_gt_i, oo_ge_i, oo_lt_s, oo_gt_s, oo_le_s, oo_ge_s, oo_is, oo_isnt, oo_isn_non, oo_isn_bl, oo_isn_int, oo_isn_str, oo_isn_tup, oo_isn_lst, oo_isn_dic, oo_tru_non, oo_tru_bl, oo_tru_int, oo_tru_str, oo_tru_tup, oo_tru_lst, oo_len_str, oo_len_tup, oo_len_lst, oo_len_scr, oo_len_dic, oo_sum, oo_max_l, oo_max_2, oo_min_l, oo_min_2, oo_all, oo_any, oo_abs, oo_int_i, oo_int_b, oo_tup_t, oo_tup_l, oo_lstF_t, oo_lstF_l, oo_lstF2_t, oo_lstF2_l, oo_lstF2_s, oo_lstF2_r, oo_nJoin, oo_nIndex, oo_join_lst, oo_join_tup, oo_index, oo_it_tup, oo_it_lst, oo_it_str, oo_it_scr, oo_ix_tup, oo_ix_lst, oo_ix_str, oo_ix_whole, oo_put_whole, oo_ix_cells, oo_put_cells, oo_ix_count, oo_put_count, oo_put_l, oo_app, oo_slc_t, oo_slc_l, oo_slc_s, oo_isi_ty, oo_isi_ex, oo_isi_non_bool, oo_isi_non_int, oo_isi_non_str, oo_isi_non_tuple, oo_isi_non_list, oo_isi_non_dict, oo_isi_bl_bool, oo_isi_bl_int, oo_isi_bl_str, oo_isi_bl_tuple, oo_isi_bl_list, oo_isi_bl_dict, oo_isi_int_bool, oo_isi_int_int, oo_isi_int_str, oo_isi_int_tuple, oo_isi_int_list, oo_isi_int_dict, oo_isi_str_bool, oo_isi_str_int, oo_isi_str_str, oo_isi_str_tuple, oo_isi_str_list, oo_isi_str_dict, oo_isi_tup_bool, oo_isi_tup_int, oo_isi_tup_str, oo_isi_tup_tuple, oo_isi_tup_list, oo_isi_tup_dict, oo_isi_lst_bool, oo_isi_lst_int, oo_isi_lst_str, oo_isi_lst_tuple, oo_isi_lst_list, oo_isi_lst_dict, oo_isi_dic_bool, oo_isi_dic_int, oo_isi_dic_str, oo_isi_dic_tuple, oo_isi_dic_list, oo_isi_dic_dict, oo_in_c, oo_inD, oo_ninD]
  refine Run.step (p_word hD2 (by omega) h1 (by omega)) ?_
  rintro _ S3 ⟨⟨mid, rfl, hml, hmw⟩, hD3⟩
  simp only [run_ok, run_exc, run_bad, run_ofO, run_ofB, run_var, run_peek, run_lit, run_op2, run_op1, run_idx, run_tru, run_not, run_and, run_or, run_ite, run_bl, run_asB, run_andV, run_orV, run_nil, run_cons, run_tup, run_lst, run_star, run_dict, run_noPart, run_part, run_slc, run_chain, run_call, run_meth, run_fn, run_fnK, run_fnL, run_caught, run_iter, run_enum, run_rng, run_rng2, run_zip, run_comp, run_yes, run_seq, run_skip, run_set, run_setO, run_setC, run_par, run_ret, run_retN, run_retO, run_ifS, run_drop, run_raise, run_break, run_cont, run_tgt, run_frz, run_for, run_subC, run_subO, run_own, run_mkF, kOpB, kOpA, kOp1, kIxB, kIxA, kTru, kNot, kAnd, kOr, kIte, kBl, kAsB, kAndV, kOrV, kConsB, kConsA, kTup, kLst, kStarB, kStarA, kDict, kPart, kSlC, kSlB, kSlA, kChC, kChB, kChA, kCall, kMeB, kMeA, kFn, kFnKB, kFnKA, kFnLA, kCaughtE, kCaughtQ, kIter, kEnum, kRng, kRng2B, kRng2A, kZipB, kZipA, kCmpB, kCmp, kSet, kSetO, kSetC, kParB, kParA, kRetE, kIf, kDrop, kTgt, kFor, kSubCC, kSubCB, kSubCA, kSubOB, kSubOA, kOwnB, kOwnA, kRet, kSeq_nx, kSeq_rt, kSeq_bk, kSeq_ct, opt_some, opt_none, opt_if, opt_map, opt_bind, slV_val, slO_own, slP_val, slP_own, cond_true, cond_false, List.getElem?_cons_zero, List.getElem?_cons_succ, List.set_cons_zero, List.set_cons_succ, List.replicate_succ, List.replicate_zero, List.map_cons, List.map_nil, List.cons_append, List.nil_append, List.length_cons, List.length_nil, Nat.reduceAdd, Nat.reduceSub, Nat.zero_add, Int.toNat_natCast, bindT, bindTs, itemsD, wipeD, slo, frz, permD, true_and, and_true, Bool.not_true, Bool.not_false, oo_add_i, oo_add_str, oo_add_tup, oo_add_lst, oo_sub_i, oo_mul_i, oo_mul_s, oo_mul_t, oo_mul_l, oo_rep_l, oo_cat_l, oo_fdiv, oo_mod, oo_pow, oo_neg, oo_lt_i, oo_le_i, oo_gt_i, oo_ge_i, oo_lt_s, oo_gt_s, oo_le_s, oo_ge_s, oo_is, oo_isnt, oo_isn_non, oo_isn_bl, oo_isn_int, oo_isn_str, oo_isn_tup, oo_isn_lst, oo_isn_dic, oo_tru_non, oo_tru_bl, oo_tru_int, oo_tru_str, oo_tru_tup, oo_tru_lst, oo_len_str, oo_len_tup, oo_len_lst, oo_len_scr, oo_len_dic, oo_sum, oo_max_l, oo_max_2, oo_min_l, oo_min_2, oo_all, oo_any, oo_abs, oo_int_i, oo_int_b, oo_tup_t, oo_tup_l, oo_lstF_t, oo_lstF_l, oo_lstF2_t, oo_lstF2_l, oo_lstF2_s, oo_lstF2_r, oo_nJoin, oo_nIndex, oo_join_lst, oo_join_tup, oo_index, oo_it_tup, oo_it_lst, oo_it_str, oo_it_scr, oo_ix_tup, oo_ix_lst, oo_ix_str, oo_ix_whole, oo_put_whole, oo_ix_cells, oo_put_cells, oo_ix_count, oo_put_count, oo_put_l, oo_app, oo_slc_t, oo_slc_l, oo_slc_s, oo_isi_ty, oo_isi_ex, oo_isi_non_bool, oo_isi_non_int, oo_isi_non_str, oo_isi_non_tuple, oo_isi_non_list, oo_isi_non_dict, oo_isi_bl_bool, oo_isi_bl_int, oo_isi_bl_str, oo_isi_bl_tuple, oo_isi_bl_list, oo_isi_bl_dict, oo_isi_int_bool, oo_isi_int_int, oo_isi_int_str, oo_isi_int_tuple, oo_isi_int_list, oo_isi_int_dict, oo_isi_str_bool, oo_isi_str_int, oo_isi_str_str, oo_isi_str_tuple, oo_isi_str_list, oo_isi_str_dict, oo_isi_tup_bool, oo_isi_tup_int, oo_isi_tup_str, oo_isi_tup_tuple, oo_isi_tup_list, oo_isi_tup_dict, oo_isi_lst_bool, oo_isi_lst_int, oo_isi_lst_str, oo_isi_lst_tuple, oo_isi_lst_list, oo_isi_lst_dict, oo_isi_dic_bool, oo_isi_dic_int, oo_isi_dic_str, oo_isi_dic_tuple, oo_isi_dic_list, oo_isi_dic_dict, oo_in_c, oo_inD, oo_ninD, eq_int]
  have hR : (rangeD 0 (1 + i).toNat).length ≤ 20 ∧ 1 ≤ (rangeD 0 (1 + i).toNat).length := by rw [rangeD_length]; omega
  have fin : ∀ (xs : List D), xs.length = (rangeD 0 (1 + i).toNat).length → (∀ x ∈ xs, ∃ s, x = .str s ∧ s.length = k ∧ Wd s) → ∃ ws, D.tup xs = .tup (ws.map .str) ∧ Lot ws k := fun xs hx hP => by
    obtain ⟨ws, rfl, hws⟩ := strs_ofP hP
    rw [List.length_map] at hx
    exact ⟨ws, rfl, by omega, by omega, hk, hws⟩
  by_cases e0 : way = 0
  · subst e0
    simp only [show ((0 : Int) == 0) = true from rfl, cond_true]
    refine ⟨rng_ok (by omega) (by omega), le_big (by omega), ?_⟩
    refine run_coll_inv (I := Dr) (c := 80) (P := fun x => ∃ s, x = .str s ∧ s.length = k ∧ Wd s) hD3 (by omega) ?_ ?_
    · intro d hd j T hT hj
      simp only [run_one, run_ok, run_exc, run_bad, run_ofO, run_ofB, run_var, run_peek, run_lit, run_op2, run_op1, run_idx, run_tru, run_not, run_and, run_or, run_ite, run_bl, run_asB, run_andV, run_orV, run_nil, run_cons, run_tup, run_lst, run_star, run_dict, run_noPart, run_part, run_slc, run_chain, run_call, run_meth, run_fn, run_fnK, run_fnL, run_caught, run_iter, run_enum, run_rng, run_rng2, run_zip, run_comp, run_yes, run_seq, run_skip, run_set, run_setO, run_setC, run_par, run_ret, run_retN, run_retO, run_ifS, run_drop, run_raise, run_break, run_cont, run_tgt, run_frz, run_for, run_subC, run_subO, run_own, run_mkF, kOpB, kOpA, kOp1, kIxB, kIxA, kTru, kNot, kAnd, kOr, kIte, kBl, kAsB, kAndV, kOrV, kConsB, kConsA, kTup, kLst, kStarB, kStarA, kDict, kPart, kSlC, kSlB, kSlA, kChC, kChB, kChA, kCall, kMeB, kMeA, kFn, kFnKB, kFnKA, kFnLA, kCaughtE, kCaughtQ, kIter, kEnum, kRng, kRng2B, kRng2A, kZipB, kZipA, kCmpB, kCmp, kSet, kSetO, kSetC, kParB, kParA, kRetE, kIf, kDrop, kTgt, kFor, kSubCC, kSubCB, kSubCA, kSubOB, kSubOA, kOwnB, kOwnA, kRet, kSeq_nx, kSeq_rt, kSeq_bk, kSeq_ct, opt_some, opt_none, opt_if, opt_map, opt_bind, slV_val, slO_own, slP_val, slP_own, cond_true, cond_false, List.getElem?_cons_zero, List.getElem?_cons_succ, List.set_cons_zero, List.set_cons_succ, List.replicate_succ, List.replicate_zero, List.map_cons, List.map_nil, List.cons_append, List.nil_append, List.length_cons, List.length_nil, Nat.reduceAdd, Nat.reduceSub, Nat.zero_add, Int.toNat_natCast, bindT, bindTs, itemsD, wipeD, slo, frz, permD, true_and, and_true, Bool.not_true, Bool.not_false, oo_add_i, oo_add_str, oo_add_tup, oo_add_lst, oo_sub_i, oo_mul_i, oo_mul_s, oo_mul_t, oo_mul_l, oo_rep_l, oo_cat_l, oo_fdiv, oo_mod, oo_pow, oo_neg, oo_lt_i, oo_le_i, oo_gt_i, oo_ge_i, oo_lt_s, oo_gt_s, oo_le_s, oo_ge_s, oo_is, oo_isnt, oo_isn_non, oo_isn_bl, oo_isn_int, oo_isn_str, oo_isn_tup, oo_isn_lst, oo_isn_dic, oo_tru_non, oo_tru_bl, oo_tru_int, oo_tru_str, oo_tru_tup, oo_tru_lst, oo_len_str, oo_len_tup, oo_len_lst, oo_len_scr, oo_len_dic, oo_sum, oo_max_l, oo_max_2, oo_min_l, oo_min_2, oo_all, oo_any, oo_abs, oo_int_i, oo_int_b, oo_tup_t, oo_tup_l, oo_lstF_t, oo_lstF_l, oo_lstF2_t, oo_lstF2_l, oo_lstF2_s, oo_lstF2_r, oo_nJoin, oo_nIndex, oo_join_lst, oo_join_tup, oo_index, oo_it_tup, oo_it_lst, oo_it_str, oo_it_scr, oo_ix_tup, oo_ix_lst, oo_ix_str, oo_ix_whole, oo_put_whole, oo_ix_cells, oo_put_cells, oo_ix_count, oo_put_count, oo_put_l, oo_app, oo_slc_t, oo_slc_l, oo_slc_s, oo_isi_ty, oo_isi_ex, oo_isi_non_bool, oo_isi_non_int, oo_isi_non_str, oo_isi_non_tuple, oo_isi_non_list, oo_isi_non_dict, oo_isi_bl_bool, oo_isi_bl_int, oo_isi_bl_str, oo_isi_bl_tuple, oo_isi_bl_list, oo_isi_bl_dict, oo_isi_int_bool, oo_isi_int_int, oo_isi_int_str, oo_isi_int_tuple, oo_isi_int_list, oo_isi_int_dict, oo_isi_str_bool, oo_isi_str_int, oo_isi_str_str, oo_isi_str_tuple, oo_isi_str_list, oo_isi_str_dict, oo_isi_tup_bool, oo_isi_tup_int, oo_isi_tup_str, oo_isi_tup_tuple, oo_isi_tup_list, oo_isi_tup_dict, oo_isi_lst_bool, oo_isi_lst_int, oo_isi_lst_str, oo_isi_lst_tuple, oo_isi_lst_list, oo_isi_lst_dict, oo_isi_dic_bool, oo_isi_dic_int, oo_isi_dic_str, oo_isi_dic_tuple, oo_isi_dic_list, oo_isi_dic_dict, oo_in_c, oo_inD, oo_ninD, kOneA, kOneB]
      refine Run.step (p_word hT (by omega) h1 (by omega)) ?_
      rintro _ T' ⟨⟨v, rfl, hv⟩, hD⟩
      exact ⟨_, rfl, ⟨v, rfl, hv⟩, hD.mono (by omega)⟩
    · intro xs S4 hl hP hD
      simp only [run_ok, run_exc, run_bad, run_ofO, run_ofB, run_var, run_peek, run_lit, run_op2, run_op1, run_idx, run_tru, run_not, run_and, run_or, run_ite, run_bl, run_asB, run_andV, run_orV, run_nil, run_cons, run_tup, run_lst, run_star, run_dict, run_noPart, run_part, run_slc, run_chain, run_call, run_meth, run_fn, run_fnK, run_fnL, run_caught, run_iter, run_enum, run_rng, run_rng2, run_zip, run_comp, run_yes, run_seq, run_skip, run_set, run_setO, run_setC, run_par, run_ret, run_retN, run_retO, run_ifS, run_drop, run_raise, run_break, run_cont, run_tgt, run_frz, run_for, run_subC, run_subO, run_own, run_mkF, kOpB, kOpA, kOp1, kIxB, kIxA, kTru, kNot, kAnd, kOr, kIte, kBl, kAsB, kAndV, kOrV, kConsB, kConsA, kTup, kLst, kStarB, kStarA, kDict, kPart, kSlC, kSlB, kSlA, kChC, kChB, kChA, kCall, kMeB, kMeA, kFn, kFnKB, kFnKA, kFnLA, kCaughtE, kCaughtQ, kIter, kEnum, kRng, kRng2B, kRng2A, kZipB, kZipA, kCmpB, kCmp, kSet, kSetO, kSetC, kParB, kParA, kRetE, kIf, kDrop, kTgt, kFor, kSubCC, kSubCB, kSubCA, kSubOB, kSubOA, kOwnB, kOwnA, kRet, kSeq_nx, kSeq_rt, kSeq_bk, kSeq_ct, opt_some, opt_none, opt_if, opt_map, opt_bind, slV_val, slO_own, slP_val, slP_own, cond_true, cond_false, List.getElem?_cons_zero, List.getElem?_cons_succ, List.set_cons_zero, List.set_cons_succ, List.replicate_succ, List.replicate_zero, List.map_cons, List.map_nil, List.cons_append, List.nil_append, List.length_cons, List.length_nil, Nat.reduceAdd, Nat.reduceSub, Nat.zero_add, Int.toNat_natCast, bindT, bindTs, itemsD, wipeD, slo, frz, permD, true_and, and_true, Bool.not_true, Bool.not_false, oo_add_i, oo_add_str, oo_add_tup, oo_add_lst, oo_sub_i, oo_mul_i, oo_mul_s, oo_mul_t, oo_mul_l, oo_rep_l, oo_cat_l, oo_fdiv, oo_mod, oo_pow, oo_neg, oo_lt_i, oo_le_i, oo_gt_i, oo_ge_i, oo_lt_s, oo_gt_s, oo_le_s, oo_ge_s, oo_is, oo_isnt, oo_isn_non, oo_isn_bl, oo_isn_int, oo_isn_str, oo_isn_tup, oo_isn_lst, oo_isn_dic, oo_tru_non, oo_tru_bl, oo_tru_int, oo_tru_str, oo_tru_tup, oo_tru_lst, oo_len_str, oo_len_tup, oo_len_lst, oo_len_scr, oo_len_dic, oo_sum, oo_max_l, oo_max_2, oo_min_l, oo_min_2, oo_all, oo_any, oo_abs, oo_int_i, oo_int_b, oo_tup_t, oo_tup_l, oo_lstF_t, oo_lstF_l, oo_lstF2_t, oo_lstF2_l, oo_lstF2_s, oo_lstF2_r, oo_nJoin, oo_nIndex, oo_join_lst, oo_join_tup, oo_index, oo_it_tup, oo_it_lst, oo_it_str, oo_it_scr, oo_ix_tup, oo_ix_lst, oo_ix_str, oo_ix_whole, oo_put_whole, oo_ix_cells, oo_put_cells, oo_ix_count, oo_put_count, oo_put_l, oo_app, oo_slc_t, oo_slc_l, oo_slc_s, oo_isi_ty, oo_isi_ex, oo_isi_non_bool, oo_isi_non_int, oo_isi_non_str, oo_isi_non_tuple, oo_isi_non_list, oo_isi_non_dict, oo_isi_bl_bool, oo_isi_bl_int, oo_isi_bl_str, oo_isi_bl_tuple, oo_isi_bl_list, oo_isi_bl_dict, oo_isi_int_bool, oo_isi_int_int, oo_isi_int_str, oo_isi_int_tuple, oo_isi_int_list, oo_isi_int_dict, oo_isi_str_bool, oo_isi_str_int, oo_isi_str_str, oo_isi_str_tuple, oo_isi_str_list, oo_isi_str_dict, oo_isi_tup_bool, oo_isi_tup_int, oo_isi_tup_str, oo_isi_tup_tuple, oo_isi_tup_list, oo_isi_tup_dict, oo_isi_lst_bool, oo_isi_lst_int, oo_isi_lst_str, oo_isi_lst_tuple, oo_isi_lst_list, oo_isi_lst_dict, oo_isi_dic_bool, oo_isi_dic_int, oo_isi_dic_str, oo_isi_dic_tuple, oo_isi_dic_list, oo_isi_dic_dict, oo_in_c, oo_inD, oo_ninD]
      exact ⟨fin xs hl hP, hD.mono (by omega)⟩
  · have e0' : (way == 0) = false := by simp [e0]
    by_cases e1 : way = 1
    · subst e1
      simp only [show ((1 : Int) == 1) = true from rfl, show ((1 : Int) == 0) = false from rfl, cond_true, cond_false]
      refine Run.step (p_word hD3 (by omega) h1 (by omega)) ?_
      rintro _ S4 ⟨⟨v2, rfl, hv2⟩, hD4⟩
      simp only [run_ok, run_exc, run_bad, run_ofO, run_ofB, run_var, run_peek, run_lit, run_op2, run_op1, run_idx, run_tru, run_not, run_and, run_or, run_ite, run_bl, run_asB, run_andV, run_orV, run_nil, run_cons, run_tup, run_lst, run_star, run_dict, run_noPart, run_part, run_slc, run_chain, run_call, run_meth, run_fn, run_fnK, run_fnL, run_caught, run_iter, run_enum, run_rng, run_rng2, run_zip, run_comp, run_yes, run_seq, run_skip, run_set, run_setO, run_setC, run_par, run_ret, run_retN, run_retO, run_ifS, run_drop, run_raise, run_break, run_cont, run_tgt, run_frz, run_for, run_subC, run_subO, run_own, run_mkF, kOpB, kOpA, kOp1, kIxB, kIxA, kTru, kNot, kAnd, kOr, kIte, kBl, kAsB, kAndV, kOrV, kConsB, kConsA, kTup, kLst, kStarB, kStarA, kDict, kPart, kSlC, kSlB, kSlA, kChC, kChB, kChA, kCall, kMeB, kMeA, kFn, kFnKB, kFnKA, kFnLA, kCaughtE, kCaughtQ, kIter, kEnum, kRng, kRng2B, kRng2A, kZipB, kZipA, kCmpB, kCmp, kSet, kSetO, kSetC, kParB, kParA, kRetE, kIf, kDrop, kTgt, kFor, kSubCC, kSubCB, kSubCA, kSubOB, kSubOA, kOwnB, kOwnA, kRet, kSeq_nx, kSeq_rt, kSeq_bk, kSeq_ct, opt_some, opt_none, opt_if, opt_map, opt_bind, slV_val, slO_own, slP_val, slP_own, cond_true, cond_false, List.getElem?_cons_zero, List.getElem?_cons_succ, List.set_cons_zero, List.set_cons_succ, List.replicate_succ, List.replicate_zero, List.map_cons, List.map_nil, List.cons_append, List.nil_append, List.length_cons, List.length_nil, Nat.reduceAdd, Nat.reduceSub, Nat.zero_add, Int.toNat_natCast, bindT, bindTs, itemsD, wipeD, slo, frz, permD, true_and, and_true, Bool.not_true, Bool.not_false, oo_add_i, oo_add_str, oo_add_tup, oo_add_lst, oo_sub_i, oo_mul_i, oo_mul_s, oo_mul_t, oo_mul_l, oo_rep_l, oo_cat_l, oo_fdiv, oo_mod, oo_pow, oo_neg, oo_lt_i, oo_le_i, oo_gt_i, oo_ge_i, oo_lt_s, oo_gt_s, oo_le_s, oo_ge_s, oo_is, oo_isnt, oo_isn_non, oo_isn_bl, oo_isn_int, oo_isn_str, oo_isn_tup, oo_isn_lst, oo_isn_dic, oo_tru_non, oo_tru_bl, oo_tru_int, oo_tru_str, oo_tru_tup, oo_tru_lst, oo_len_str, oo_len_tup, oo_len_lst, oo_len_scr, oo_len_dic, oo_sum, oo_max_l, oo_max_2, oo_min_l, oo_min_2, oo_all, oo_any, oo_abs, oo_int_i, oo_int_b, oo_tup_t, oo_tup_l, oo_lstF_t, oo_lstF_l, oo_lstF2_t, oo_lstF2_l, oo_lstF2_s, oo_lstF2_r, oo_nJoin, oo_nIndex, oo_join_lst, oo_join_tup, oo_index, oo_it_tup, oo_it_lst, oo_it_str, oo_it_scr, oo_ix_tup, oo_ix_lst, oo_ix_str, oo_ix_whole, oo_put_whole, oo_ix_cells, oo_put_cells, oo_ix_count, oo_put_count, oo_put_l, oo_app, oo_slc_t, oo_slc_l, oo_slc_s, oo_isi_ty, oo_isi_ex, oo_isi_non_bool, oo_isi_non_int, oo_isi_non_str, oo_isi_non_tuple, oo_isi_non_list, oo_isi_non_dict, oo_isi_bl_bool, oo_isi_bl_int, oo_isi_bl_str, oo_isi_bl_tuple, oo_isi_bl_list, oo_isi_bl_dict, oo_isi_int_bool, oo_isi_int_int, oo_isi_int_str, oo_isi_int_tuple, oo_isi_int_list, oo_isi_int_dict, oo_isi_str_bool, oo_isi_str_int, oo_isi_str_str, oo_isi_str_tuple, oo_isi_str_list, oo_isi_str_dict, oo_isi_tup_bool, oo_isi_tup_int, oo_isi_tup_str, oo_isi_tup_tuple, oo_isi_tup_list, oo_isi_tup_dict, oo_isi_lst_bool, oo_isi_lst_int, oo_isi_lst_str, oo_isi_lst_tuple, oo_isi_lst_list, oo_isi_lst_dict, oo_isi_dic_bool, oo_isi_dic_int, oo_isi_dic_str, oo_isi_dic_tuple, oo_isi_dic_list, oo_isi_dic_dict, oo_in_c, oo_inD, oo_ninD]
      refine ⟨by decide, rng_ok (by omega) (by omega), le_big (by omega), ?_⟩
      refine run_coll_inv (I := Dr) (c := 80) (P := fun x => ∃ s, x = .str s ∧ s.length = k ∧ Wd s) hD4 (by omega) ?_ ?_
      · intro d hd j T hT hj
        simp only [run_one, run_ok, run_exc, run_bad, run_ofO, run_ofB, run_var, run_peek, run_lit, run_op2, run_op1, run_idx, run_tru, run_not, run_and, run_or, run_ite, run_bl, run_asB, run_andV, run_orV, run_nil, run_cons, run_tup, run_lst, run_star, run_dict, run_noPart, run_part, run_slc, run_chain, run_call, run_meth, run_fn, run_fnK, run_fnL, run_caught, run_iter, run_enum, run_rng, run_rng2, run_zip, run_comp, run_yes, run_seq, run_skip, run_set, run_setO, run_setC, run_par, run_ret, run_retN, run_retO, run_ifS, run_drop, run_raise, run_break, run_cont, run_tgt, run_frz, run_for, run_subC, run_subO, run_own, run_mkF, kOpB, kOpA, kOp1, kIxB, kIxA, kTru, kNot, kAnd, kOr, kIte, kBl, kAsB, kAndV, kOrV, kConsB, kConsA, kTup, kLst, kStarB, kStarA, kDict, kPart, kSlC, kSlB, kSlA, kChC, kChB, kChA, kCall, kMeB, kMeA, kFn, kFnKB, kFnKA, kFnLA, kCaughtE, kCaughtQ, kIter, kEnum, kRng, kRng2B, kRng2A, kZipB, kZipA, kCmpB, kCmp, kSet, kSetO, kSetC, kParB, kParA, kRetE, kIf, kDrop, kTgt, kFor, kSubCC, kSubCB, kSubCA, kSubOB, kSubOA, kOwnB, kOwnA, kRet, kSeq_nx, kSeq_rt, kSeq_bk, kSeq_ct, opt_some, opt_none, opt_if, opt_map, opt_bind, slV_val, slO_own, slP_val, slP_own, cond_true, cond_false, List.getElem?_cons_zero, List.getElem?_cons_succ, List.set_cons_zero, List.set_cons_succ, List.replicate_succ, List.replicate_zero, List.map_cons, List.map_nil, List.cons_append, List.nil_append, List.length_cons, List.length_nil, Nat.reduceAdd, Nat.reduceSub, Nat.zero_add, Int.toNat_natCast, bindT, bindTs, itemsD, wipeD, slo, frz, permD, true_and, and_true, Bool.not_true, Bool.not_false, oo_add_i, oo_add_str, oo_add_tup, oo_add_lst, oo_sub_i, oo_mul_i, oo_mul_s, oo_mul_t, oo_mul_l, oo_rep_l, oo_cat_l, oo_fdiv, oo_mod, oo_pow, oo_neg, oo_lt_i, oo_le_i, oo_gt_i, oo_ge_i, oo_lt_s, oo_gt_s, oo_le_s, oo_ge_s, oo_is, oo_isnt, oo_isn_non, oo_isn_bl, oo_isn_int, oo_isn_str, oo_isn_tup, oo_isn_lst, oo_isn_dic, oo_tru_non, oo_tru_bl, oo_tru_int, oo_tru_str, oo_tru_tup, oo_tru_lst, oo_len_str, oo_len_tup, oo_len_lst, oo_len_scr, oo_len_dic, oo_sum, oo_max_l, oo_max_2, oo_min_l, oo_min_2, oo_all, oo_any, oo_abs, oo_int_i, oo_int_b, oo_tup_t, oo_tup_l, oo_lstF_t, oo_lstF_l, oo_lstF2_t, oo_lstF2_l, oo_lstF2_s, oo_lstF2_r, oo_nJoin, oo_nIndex, oo_join_lst, oo_join_tup, oo_index, oo_it_tup, oo_it_lst, oo_it_str, oo_it_scr, oo_ix_tup, oo_ix_lst, oo_ix_str, oo_ix_whole, oo_put_whole, oo_ix_cells, oo_put_cells, oo_ix_count, oo_put_count, oo_put_l, oo_app, oo_slc_t, oo_slc_l, oo_slc_s, oo_isi_ty, oo_isi_ex, oo_isi_non_bool, oo_isi_non_int, oo_isi_non_str, oo_isi_non_tuple, oo_isi_non_list, oo_isi_non_dict, oo_isi_bl_bool, oo_isi_bl_int, oo_isi_bl_str, oo_isi_bl_tuple, oo_isi_bl_list, oo_isi_bl_dict, oo_isi_int_bool, oo_isi_int_int, oo_isi_int_str, oo_isi_int_tuple, oo_isi_int_list, oo_isi_int_dict, oo_isi_str_bool, oo_isi_str_int, oo_isi_str_str, oo_isi_str_tuple, oo_isi_str_list, oo_isi_str_dict, oo_isi_tup_bool, oo_isi_tup_int, oo_isi_tup_str, oo_isi_tup_tuple, oo_isi_tup_list, oo_isi_tup_dict, oo_isi_lst_bool, oo_isi_lst_int, oo_isi_lst_str, oo_isi_lst_tuple, oo_isi_lst_list, oo_isi_lst_dict, oo_isi_dic_bool, oo_isi_dic_int, oo_isi_dic_str, oo_isi_dic_tuple, oo_isi_dic_list, oo_isi_dic_dict, oo_in_c, oo_inD, oo_ninD, kOneA, kOneB]
        refine Run.step (p_pick hT (by omega) (by simp) (by simp)) ?_
        rintro x T1 ⟨hx, hT1⟩
        have hx2 : ∃ v, x = .str v ∧ v.length = k ∧ Wd v := by
          simp only [List.mem_cons, List.not_mem_nil, or_false] at hx
          rcases hx with rfl | rfl
          · exact ⟨_, rfl, hml, hmw⟩
          · exact ⟨_, rfl, hv2⟩
        obtain ⟨v, rfl, hvl, hvw⟩ := hx2
        simp only [run_ok, run_exc, run_bad, run_ofO, run_ofB, run_var, run_peek, run_lit, run_op2, run_op1, run_idx, run_tru, run_not, run_and, run_or, run_ite, run_bl, run_asB, run_andV, run_orV, run_nil, run_cons, run_tup, run_lst, run_star, run_dict, run_noPart, run_part, run_slc, run_chain, run_call, run_meth, run_fn, run_fnK, run_fnL, run_caught, run_iter, run_enum, run_rng, run_rng2, run_zip, run_comp, run_yes, run_seq, run_skip, run_set, run_setO, run_setC, run_par, run_ret, run_retN, run_retO, run_ifS, run_drop, run_raise, run_break, run_cont, run_tgt, run_frz, run_for, run_subC, run_subO, run_own, run_mkF, kOpB, kOpA, kOp1, kIxB, kIxA, kTru, kNot, kAnd, kOr, kIte, kBl, kAsB, kAndV, kOrV, kConsB, kConsA, kTup, kLst, kStarB, kStarA, kDict, kPart, kSlC, kSlB, kSlA, kChC, kChB, kChA, kCall, kMeB, kMeA, kFn, kFnKB, kFnKA, kFnLA, kCaughtE, kCaughtQ, kIter, kEnum, kRng, kRng2B, kRng2A, kZipB, kZipA, kCmpB, kCmp, kSet, kSetO, kSetC, kParB, kParA, kRetE, kIf, kDrop, kTgt, kFor, kSubCC, kSubCB, kSubCA, kSubOB, kSubOA, kOwnB, kOwnA, kRet, kSeq_nx, kSeq_rt, kSeq_bk, kSeq_ct, opt_some, opt_none, opt_if, opt_map, opt_bind, slV_val, slO_own, slP_val, slP_own, cond_true, cond_false, List.getElem?_cons_zero, List.getElem?_cons_succ, List.set_cons_zero, List.set_cons_succ, List.replicate_succ, List.replicate_zero, List.map_cons, List.map_nil, List.cons_append, List.nil_append, List.length_cons, List.length_nil, Nat.reduceAdd, Nat.reduceSub, Nat.zero_add, Int.toNat_natCast, bindT, bindTs, itemsD, wipeD, slo, frz, permD, true_and, and_true, Bool.not_true, Bool.not_false, oo_add_i, oo_add_str, oo_add_tup, oo_add_lst, oo_sub_i, oo_mul_i, oo_mul_s, oo_mul_t, oo_mul_l, oo_rep_l, oo_cat_l, oo_fdiv, oo_mod, oo_pow, oo_neg, oo_lt_i, oo_le_i, oo_gt_i, oo_ge_i, oo_lt_s, oo_gt_s, oo_le_s, oo_ge_s, oo_is, oo_isnt, oo_isn_non, oo_isn_bl, oo_isn_int, oo_isn_str, oo_isn_tup, oo_isn_lst, oo_isn_dic, oo_tru_non, oo_tru_bl, oo_tru_int, oo_tru_str, oo_tru_tup, oo_tru_lst, oo_len_str, oo_len_tup, oo_len_lst, oo_len_scr, oo_len_dic, oo_sum, oo_max_l, oo_max_2, oo_min_l, oo_min_2, oo_all, oo_any, oo_abs, oo_int_i, oo_int_b, oo_tup_t, oo_tup_l, oo_lstF_t, oo_lstF_l, oo_lstF2_t, oo_lstF2_l, oo_lstF2_s, oo_lstF2_r, oo_nJoin, oo_nIndex, oo_join_lst, oo_join_tup, oo_index, oo_it_tup, oo_it_lst, oo_it_str, oo_it_scr, oo_ix_tup, oo_ix_lst, oo_ix_str, oo_ix_whole, oo_put_whole, oo_ix_cells, oo_put_cells, oo_ix_count, oo_put_count, oo_put_l, oo_app, oo_slc_t, oo_slc_l, oo_slc_s, oo_isi_ty, oo_isi_ex, oo_isi_non_bool, oo_isi_non_int, oo_isi_non_str, oo_isi_non_tuple, oo_isi_non_list, oo_isi_non_dict, oo_isi_bl_bool, oo_isi_bl_int, oo_isi_bl_str, oo_isi_bl_tuple, oo_isi_bl_list, oo_isi_bl_dict, oo_isi_int_bool, oo_isi_int_int, oo_isi_int_str, oo_isi_int_tuple, oo_isi_int_list, oo_isi_int_dict, oo_isi_str_bool, oo_isi_str_int, oo_isi_str_str, oo_isi_str_tuple, oo_isi_str_list, oo_isi_str_dict, oo_isi_tup_bool, oo_isi_tup_int, oo_isi_tup_str, oo_isi_tup_tuple, oo_isi_tup_list, oo_isi_tup_dict, oo_isi_lst_bool, oo_isi_lst_int, oo_isi_lst_str, oo_isi_lst_tuple, oo_isi_lst_list, oo_isi_lst_dict, oo_isi_dic_bool, oo_isi_dic_int, oo_isi_dic_str, oo_isi_dic_tuple, oo_isi_dic_list, oo_isi_dic_dict, oo_in_c, oo_inD, oo_ninD]
        refine Run.step (p_take hT1 (by omega) (by omega) (by omega)) ?_
        rintro _ T2 ⟨⟨q, rfl, hq0, hq1⟩, hT2⟩
        obtain ⟨q, rfl⟩ := Int.eq_ofNat_of_zero_le hq0
        simp only [run_ok, run_exc, run_bad, run_ofO, run_ofB, run_var, run_peek, run_lit, run_op2, run_op1, run_idx, run_tru, run_not, run_and, run_or, run_ite, run_bl, run_asB, run_andV, run_orV, run_nil, run_cons, run_tup, run_lst, run_star, run_dict, run_noPart, run_part, run_slc, run_chain, run_call, run_meth, run_fn, run_fnK, run_fnL, run_caught, run_iter, run_enum, run_rng, run_rng2, run_zip, run_comp, run_yes, run_seq, run_skip, run_set, run_setO, run_setC, run_par, run_ret, run_retN, run_retO, run_ifS, run_drop, run_raise, run_break, run_cont, run_tgt, run_frz, run_for, run_subC, run_subO, run_own, run_mkF, kOpB, kOpA, kOp1, kIxB, kIxA, kTru, kNot, kAnd, kOr, kIte, kBl, kAsB, kAndV, kOrV, kConsB, kConsA, kTup, kLst, kStarB, kStarA, kDict, kPart, kSlC, kSlB, kSlA, kChC, kChB, kChA, kCall, kMeB, kMeA, kFn, kFnKB, kFnKA, kFnLA, kCaughtE, kCaughtQ, kIter, kEnum, kRng, kRng2B, kRng2A, kZipB, kZipA, kCmpB, kCmp, kSet, kSetO, kSetC, kParB, kParA, kRetE, kIf, kDrop, kTgt, kFor, kSubCC, kSubCB, kSubCA, kSubOB, kSubOA, kOwnB, kOwnA, kRet, kSeq_nx, kSeq_rt, kSeq_bk, kSeq_ct, opt_some, opt_none, opt_if, opt_map, opt_bind, slV_val, slO_own, slP_val, slP_own, cond_true, cond_false, List.getElem?_cons_zero, List.getElem?_cons_succ, List.set_cons_zero, List.set_cons_succ, List.replicate_succ, List.replicate_zero, List.map_cons, List.map_nil, List.cons_append, List.nil_append, List.length_cons, List.length_nil, Nat.reduceAdd, Nat.reduceSub, Nat.zero_add, Int.toNat_natCast, bindT, bindTs, itemsD, wipeD, slo, frz, permD, true_and, and_true, Bool.not_true, Bool.not_false, oo_add_i, oo_add_str, oo_add_tup, oo_add_lst, oo_sub_i, oo_mul_i, oo_mul_s, oo_mul_t, oo_mul_l, oo_rep_l, oo_cat_l, oo_fdiv, oo_mod, oo_pow, oo_neg, oo_lt_i, oo_le_i, oo_gt_i, oo_ge_i, oo_lt_s, oo_gt_s, oo_le_s, oo_ge_s, oo_is, oo_isnt, oo_isn_non, oo_isn_bl, oo_isn_int, oo_isn_str, oo_isn_tup, oo_isn_lst, oo_isn_dic, oo_tru_non, oo_tru_bl, oo_tru_int, oo_tru_str, oo_tru_tup, oo_tru_lst, oo_len_str, oo_len_tup, oo_len_lst, oo_len_scr, oo_len_dic, oo_sum, oo_max_l, oo_max_2, oo_min_l, oo_min_2, oo_all, oo_any, oo_abs, oo_int_i, oo_int_b, oo_tup_t, oo_tup_l, oo_lstF_t, oo_lstF_l, oo_lstF2_t, oo_lstF2_l, oo_lstF2_s, oo_lstF2_r, oo_nJoin, oo_nIndex, oo_join_lst, oo_join_tup, oo_index, oo_it_tup, oo_it_lst, oo_it_str, oo_it_scr, oo_ix_tup, oo_ix_lst, oo_ix_str, oo_ix_whole, oo_put_whole, oo_ix_cells, oo_put_cells, oo_ix_count, oo_put_count, oo_put_l, oo_app, oo_slc_t, oo_slc_l, oo_slc_s, oo_isi_ty, oo_isi_ex, oo_isi_non_bool, oo_isi_non_int, oo_isi_non_str, oo_isi_non_tuple, oo_isi_non_list, oo_isi_non_dict, oo_isi_bl_bool, oo_isi_bl_int, oo_isi_bl_str, oo_isi_bl_tuple, oo_isi_bl_list, oo_isi_bl_dict, oo_isi_int_bool, oo_isi_int_int, oo_isi_int_str, oo_isi_int_tuple, oo_isi_int_list, oo_isi_int_dict, oo_isi_str_bool, oo_isi_str_int, oo_isi_str_str, oo_isi_str_tuple, oo_isi_str_list, oo_isi_str_dict, oo_isi_tup_bool, oo_isi_tup_int, oo_isi_tup_str, oo_isi_tup_tuple, oo_isi_tup_list, oo_isi_tup_dict, oo_isi_lst_bool, oo_isi_lst_int, oo_isi_lst_str, oo_isi_lst_tuple, oo_isi_lst_list, oo_isi_lst_dict, oo_isi_dic_bool, oo_isi_dic_int, oo_isi_dic_str, oo_isi_dic_tuple, oo_isi_dic_list, oo_isi_dic_dict, oo_in_c, oo_inD, oo_ninD]
        refine Run.step (p_near hT2 (by omega) h1 (by omega) hvw (by omega)) ?_
        rintro _ T3 ⟨⟨u, rfl, hul, huw⟩, hT3⟩
        exact ⟨_, rfl, ⟨u, rfl, by omega, huw⟩, hT3.mono (by omega)⟩
      · intro xs S5 hl hP hD
        simp only [run_ok, run_exc, run_bad, run_ofO, run_ofB, run_var, run_peek, run_lit, run_op2, run_op1, run_idx, run_tru, run_not, run_and, run_or, run_ite, run_bl, run_asB, run_andV, run_orV, run_nil, run_cons, run_tup, run_lst, run_star, run_dict, run_noPart, run_part, run_slc, run_chain, run_call, run_meth, run_fn, run_fnK, run_fnL, run_caught, run_iter, run_enum, run_rng, run_rng2, run_zip, run_comp, run_yes, run_seq, run_skip, run_set, run_setO, run_setC, run_par, run_ret, run_retN, run_retO, run_ifS, run_drop, run_raise, run_break, run_cont, run_tgt, run_frz, run_for, run_subC, run_subO, run_own, run_mkF, kOpB, kOpA, kOp1, kIxB, kIxA, kTru, kNot, kAnd, kOr, kIte, kBl, kAsB, kAndV, kOrV, kConsB, kConsA, kTup, kLst, kStarB, kStarA, kDict, kPart, kSlC, kSlB, kSlA, kChC, kChB, kChA, kCall, kMeB, kMeA, kFn, kFnKB, kFnKA, kFnLA, kCaughtE, kCaughtQ, kIter, kEnum, kRng, kRng2B, kRng2A, kZipB, kZipA, kCmpB, kCmp, kSet, kSetO, kSetC, kParB, kParA, kRetE, kIf, kDrop, kTgt, kFor, kSubCC, kSubCB, kSubCA, kSubOB, kSubOA, kOwnB, kOwnA, kRet, kSeq_nx, kSeq_rt, kSeq_bk, kSeq_ct, opt_some, opt_none, opt_if, opt_map, opt_bind, slV_val, slO_own, slP_val, slP_own, cond_true, cond_false, List.getElem?_cons_zero, List.getElem?_cons_succ, List.set_cons_zero, List.set_cons_succ, List.replicate_succ, List.replicate_zero, List.map_cons, List.map_nil, List.cons_append, List.nil_append, List.length_cons, List.length_nil, Nat.reduceAdd, Nat.reduceSub, Nat.zero_add, Int.toNat_natCast, bindT, bindTs, itemsD, wipeD, slo, frz, permD, true_and, and_true, Bool.not_true, Bool.not_false, oo_add_i, oo_add_str, oo_add_tup, oo_add_lst, oo_sub_i, oo_mul_i, oo_mul_s, oo_mul_t, oo_mul_l, oo_rep_l, oo_cat_l, oo_fdiv, oo_mod, oo_pow, oo_neg, oo_lt_i, oo_le_i, oo_gt_i, oo_ge_i, oo_lt_s, oo_gt_s, oo_le_s, oo_ge_s, oo_is, oo_isnt, oo_isn_non, oo_isn_bl, oo_isn_int, oo_isn_str, oo_isn_tup, oo_isn_lst, oo_isn_dic, oo_tru_non, oo_tru_bl, oo_tru_int, oo_tru_str, oo_tru_tup, oo_tru_lst, oo_len_str, oo_len_tup, oo_len_lst, oo_len_scr, oo_len_dic, oo_sum, oo_max_l, oo_max_2, oo_min_l, oo_min_2, oo_all, oo_any, oo_abs, oo_int_i, oo_int_b, oo_tup_t, oo_tup_l, oo_lstF_t, oo_lstF_l, oo_lstF2_t, oo_lstF2_l, oo_lstF2_s, oo_lstF2_r, oo_nJoin, oo_nIndex, oo_join_lst, oo_join_tup, oo_index, oo_it_tup, oo_it_lst, oo_it_str, oo_it_scr, oo_ix_tup, oo_ix_lst, oo_ix_str, oo_ix_whole, oo_put_whole, oo_ix_cells, oo_put_cells, oo_ix_count, oo_put_count, oo_put_l, oo_app, oo_slc_t, oo_slc_l, oo_slc_s, oo_isi_ty, oo_isi_ex, oo_isi_non_bool, oo_isi_non_int, oo_isi_non_str, oo_isi_non_tuple, oo_isi_non_list, oo_isi_non_dict, oo_isi_bl_bool, oo_isi_bl_int, oo_isi_bl_str, oo_isi_bl_tuple, oo_isi_bl_list, oo_isi_bl_dict, oo_isi_int_bool, oo_isi_int_int, oo_isi_int_str, oo_isi_int_tuple, oo_isi_int_list, oo_isi_int_dict, oo_isi_str_bool, oo_isi_str_int, oo_isi_str_str, oo_isi_str_tuple, oo_isi_str_list, oo_isi_str_dict, oo_isi_tup_bool, oo_isi_tup_int, oo_isi_tup_str, oo_isi_tup_tuple, oo_isi_tup_list, oo_isi_tup_dict, oo_isi_lst_bool, oo_isi_lst_int, oo_isi_lst_str, oo_isi_lst_tuple, oo_isi_lst_list, oo_isi_lst_dict, oo_isi_dic_bool, oo_isi_dic_int, oo_isi_dic_str, oo_isi_dic_tuple, oo_isi_dic_list, oo_isi_dic_dict, oo_in_c, oo_inD, oo_ninD]
        exact ⟨fin xs hl hP, hD.mono (by omega)⟩
    · have e1' : (way == 1) = false := by simp [e1]
      simp only [e0', e1', cond_false]
      refine ⟨rng_ok (by omega) (by omega), le_big (by omega), ?_⟩
      refine run_coll_inv (I := Dr) (c := 80) (P := fun x => ∃ s, x = .str s ∧ s.length = k ∧ Wd s) hD3 (by omega) ?_ ?_
      · intro d hd j T hT hj
        simp only [run_one, run_ok, run_exc, run_bad, run_ofO, run_ofB, run_var, run_peek, run_lit, run_op2, run_op1, run_idx, run_tru, run_not, run_and, run_or, run_ite, run_bl, run_asB, run_andV, run_orV, run_nil, run_cons, run_tup, run_lst, run_star, run_dict, run_noPart, run_part, run_slc, run_chain, run_call, run_meth, run_fn, run_fnK, run_fnL, run_caught, run_iter, run_enum, run_rng, run_rng2, run_zip, run_comp, run_yes, run_seq, run_skip, run_set, run_setO, run_setC, run_par, run_ret, run_retN, run_retO, run_ifS, run_drop, run_raise, run_break, run_cont, run_tgt, run_frz, run_for, run_subC, run_subO, run_own, run_mkF, kOpB, kOpA, kOp1, kIxB, kIxA, kTru, kNot, kAnd, kOr, kIte, kBl, kAsB, kAndV, kOrV, kConsB, kConsA, kTup, kLst, kStarB, kStarA, kDict, kPart, kSlC, kSlB, kSlA, kChC, kChB, kChA, kCall, kMeB, kMeA, kFn, kFnKB, kFnKA, kFnLA, kCaughtE, kCaughtQ, kIter, kEnum, kRng, kRng2B, kRng2A, kZipB, kZipA, kCmpB, kCmp, kSet, kSetO, kSetC, kParB, kParA, kRetE, kIf, kDrop, kTgt, kFor, kSubCC, kSubCB, kSubCA, kSubOB, kSubOA, kOwnB, kOwnA, kRet, kSeq_nx, kSeq_rt, kSeq_bk, kSeq_ct, opt_some, opt_none, opt_if, opt_map, opt_bind, slV_val, slO_own, slP_val, slP_own, cond_true, cond_false, List.getElem?_cons_zero, List.getElem?_cons_succ, List.set_cons_zero, List.set_cons_succ, List.replicate_succ, List.replicate_zero, List.map_cons, List.map_nil, List.cons_append, List.nil_append, List.length_cons, List.length_nil, Nat.reduceAdd, Nat.reduceSub, Nat.zero_add, Int.toNat_natCast, bindT, bindTs, itemsD, wipeD, slo, frz, permD, true_and, and_true, Bool.not_true, Bool.not_false, oo_add_i, oo_add_str, oo_add_tup, oo_add_lst, oo_sub_i, oo_mul_i, oo_mul_s, oo_mul_t, oo_mul_l, oo_rep_l, oo_cat_l, oo_fdiv, oo_mod, oo_pow, oo_neg, oo_lt_i, oo_le_i, oo_gt_i, oo_ge_i, oo_lt_s, oo_gt_s, oo_le_s, oo_ge_s, oo_is, oo_isnt, oo_isn_non, oo_isn_bl, oo_isn_int, oo_isn_str, oo_isn_tup, oo_isn_lst, oo_isn_dic, oo_tru_non, oo_tru_bl, oo_tru_int, oo_tru_str, oo_tru_tup, oo_tru_lst, oo_len_str, oo_len_tup, oo_len_lst, oo_len_scr, oo_len_dic, oo_sum, oo_max_l, oo_max_2, oo_min_l, oo_min_2, oo_all, oo_any, oo_abs, oo_int_i, oo_int_b, oo_tup_t, oo_tup_l, oo_lstF_t, oo_lstF_l, oo_lstF2_t, oo_lstF2_l, oo_lstF2_s, oo_lstF2_r, oo_nJoin, oo_nIndex, oo_join_lst, oo_join_tup, oo_index, oo_it_tup, oo_it_lst, oo_it_str, oo_it_scr, oo_ix_tup, oo_ix_lst, oo_ix_str, oo_ix_whole, oo_put_whole, oo_ix_cells, oo_put_cells, oo_ix_count, oo_put_count, oo_put_l, oo_app, oo_slc_t, oo_slc_l, oo_slc_s, oo_isi_ty, oo_isi_ex, oo_isi_non_bool, oo_isi_non_int, oo_isi_non_str, oo_isi_non_tuple, oo_isi_non_list, oo_isi_non_dict, oo_isi_bl_bool, oo_isi_bl_int, oo_isi_bl_str, oo_isi_bl_tuple, oo_isi_bl_list, oo_isi_bl_dict, oo_isi_int_bool, oo_isi_int_int, oo_isi_int_str, oo_isi_int_tuple, oo_isi_int_list, oo_isi_int_dict, oo_isi_str_bool, oo_isi_str_int, oo_isi_str_str, oo_isi_str_tuple, oo_isi_str_list, oo_isi_str_dict, oo_isi_tup_bool, oo_isi_tup_int, oo_isi_tup_str, oo_isi_tup_tuple, oo_isi_tup_list, oo_isi_tup_dict, oo_isi_lst_bool, oo_isi_lst_int, oo_isi_lst_str, oo_isi_lst_tuple, oo_isi_lst_list, oo_isi_lst_dict, oo_isi_dic_bool, oo_isi_dic_int, oo_isi_dic_str, oo_isi_dic_tuple, oo_isi_dic_list, oo_isi_dic_dict, oo_in_c, oo_inD, oo_ninD, kOneA, kOneB]
        refine Run.step (p_take hT (by omega) (by omega) (by omega)) ?_
        rintro _ T2 ⟨⟨q, rfl, hq0, hq1⟩, hT2⟩
        obtain ⟨q, rfl⟩ := Int.eq_ofNat_of_zero_le hq0
        simp only [run_ok, run_exc, run_bad, run_ofO, run_ofB, run_var, run_peek, run_lit, run_op2, run_op1, run_idx, run_tru, run_not, run_and, run_or, run_ite, run_bl, run_asB, run_andV, run_orV, run_nil, run_cons, run_tup, run_lst, run_star, run_dict, run_noPart, run_part, run_slc, run_chain, run_call, run_meth, run_fn, run_fnK, run_fnL, run_caught, run_iter, run_enum, run_rng, run_rng2, run_zip, run_comp, run_yes, run_seq, run_skip, run_set, run_setO, run_setC, run_par, run_ret, run_retN, run_retO, run_ifS, run_drop, run_raise, run_break, run_cont, run_tgt, run_frz, run_for, run_subC, run_subO, run_own, run_mkF, kOpB, kOpA, kOp1, kIxB, kIxA, kTru, kNot, kAnd, kOr, kIte, kBl, kAsB, kAndV, kOrV, kConsB, kConsA, kTup, kLst, kStarB, kStarA, kDict, kPart, kSlC, kSlB, kSlA, kChC, kChB, kChA, kCall, kMeB, kMeA, kFn, kFnKB, kFnKA, kFnLA, kCaughtE, kCaughtQ, kIter, kEnum, kRng, kRng2B, kRng2A, kZipB, kZipA, kCmpB, kCmp, kSet, kSetO, kSetC, kParB, kParA, kRetE, kIf, kDrop, kTgt, kFor, kSubCC, kSubCB, kSubCA, kSubOB, kSubOA, kOwnB, kOwnA, kRet, kSeq_nx, kSeq_rt, kSeq_bk, kSeq_ct, opt_some, opt_none, opt_if, opt_map, opt_bind, slV_val, slO_own, slP_val, slP_own, cond_true, cond_false, List.getElem?_cons_zero, List.getElem?_cons_succ, List.set_cons_zero, List.set_cons_succ, List.replicate_succ, List.replicate_zero, List.map_cons, List.map_nil, List.cons_append, List.nil_append, List.length_cons, List.length_nil, Nat.reduceAdd, Nat.reduceSub, Nat.zero_add, Int.toNat_natCast, bindT, bindTs, itemsD, wipeD, slo, frz, permD, true_and, and_true, Bool.not_true, Bool.not_false, oo_add_i, oo_add_str, oo_add_tup, oo_add_lst, oo_sub_i, oo_mul_i, oo_mul_s, oo_mul_t, oo_mul_l, oo_rep_l, oo_cat_l, oo_fdiv, oo_mod, oo_pow, oo_neg, oo_lt_i, oo_le_i, oo_gt_i, oo_ge_i, oo_lt_s, oo_gt_s, oo_le_s, oo_ge_s, oo_is, oo_isnt, oo_isn_non, oo_isn_bl, oo_isn_int, oo_isn_str, oo_isn_tup, oo_isn_lst, oo_isn_dic, oo_tru_non, oo_tru_bl, oo_tru_int, oo_tru_str, oo_tru_tup, oo_tru_lst, oo_len_str, oo_len_tup, oo_len_lst, oo_len_scr, oo_len_dic, oo_sum, oo_max_l, oo_max_2, oo_min_l, oo_min_2, oo_all, oo_any, oo_abs, oo_int_i, oo_int_b, oo_tup_t, oo_tup_l, oo_lstF_t, oo_lstF_l, oo_lstF2_t, oo_lstF2_l, oo_lstF2_s, oo_lstF2_r, oo_nJoin, oo_nIndex, oo_join_lst, oo_join_tup, oo_index, oo_it_tup, oo_it_lst, oo_it_str, oo_it_scr, oo_ix_tup, oo_ix_lst, oo_ix_str, oo_ix_whole, oo_put_whole, oo_ix_cells, oo_put_cells, oo_ix_count, oo_put_count, oo_put_l, oo_app, oo_slc_t, oo_slc_l, oo_slc_s, oo_isi_ty, oo_isi_ex, oo_isi_non_bool, oo_isi_non_int, oo_isi_non_str, oo_isi_non_tuple, oo_isi_non_list, oo_isi_non_dict, oo_isi_bl_bool, oo_isi_bl_int, oo_isi_bl_str, oo_isi_bl_tuple, oo_isi_bl_list, oo_isi_bl_dict, oo_isi_int_bool, oo_isi_int_int, oo_isi_int_str, oo_isi_int_tuple, oo_isi_int_list, oo_isi_int_dict, oo_isi_str_bool, oo_isi_str_int, oo_isi_str_str, oo_isi_str_tuple, oo_isi_str_list, oo_isi_str_dict, oo_isi_tup_bool, oo_isi_tup_int, oo_isi_tup_str, oo_isi_tup_tuple, oo_isi_tup_list, oo_isi_tup_dict, oo_isi_lst_bool, oo_isi_lst_int, oo_isi_lst_str, oo_isi_lst_tuple, oo_isi_lst_list, oo_isi_lst_dict, oo_isi_dic_bool, oo_isi_dic_int, oo_isi_dic_str, oo_isi_dic_tuple, oo_isi_dic_list, oo_isi_dic_dict, oo_in_c, oo_inD, oo_ninD]
        refine Run.step (p_near hT2 (by omega) h1 (by omega) hmw (by omega)) ?_
        rintro _ T3 ⟨⟨u, rfl, hul, huw⟩, hT3⟩
        exact ⟨_, rfl, ⟨u, rfl, by omega, huw⟩, hT3.mono (by omega)⟩
      · intro xs S5 hl hP hD
        simp only [run_ok, run_exc, run_bad, run_ofO, run_ofB, run_var, run_peek, run_lit, run_op2, run_op1, run_idx, run_tru, run_not, run_and, run_or, run_ite, run_bl, run_asB, run_andV, run_orV, run_nil, run_cons, run_tup, run_lst, run_star, run_dict, run_noPart, run_part, run_slc, run_chain, run_call, run_meth, run_fn, run_fnK, run_fnL, run_caught, run_iter, run_enum, run_rng, run_rng2, run_zip, run_comp, run_yes, run_seq, run_skip, run_set, run_setO, run_setC, run_par, run_ret, run_retN, run_retO, run_ifS, run_drop, run_raise, run_break, run_cont, run_tgt, run_frz, run_for, run_subC, run_subO, run_own, run_mkF, kOpB, kOpA, kOp1, kIxB, kIxA, kTru, kNot, kAnd, kOr, kIte, kBl, kAsB, kAndV, kOrV, kConsB, kConsA, kTup, kLst, kStarB, kStarA, kDict, kPart, kSlC, kSlB, kSlA, kChC, kChB, kChA, kCall, kMeB, kMeA, kFn, kFnKB, kFnKA, kFnLA, kCaughtE, kCaughtQ, kIter, kEnum, kRng, kRng2B, kRng2A, kZipB, kZipA, kCmpB, kCmp, kSet, kSetO, kSetC, kParB, kParA, kRetE, kIf, kDrop, kTgt, kFor, kSubCC, kSubCB, kSubCA, kSubOB, kSubOA, kOwnB, kOwnA, kRet, kSeq_nx, kSeq_rt, kSeq_bk, kSeq_ct, opt_some, opt_none, opt_if, opt_map, opt_bind, slV_val, slO_own, slP_val, slP_own, cond_true, cond_false, List.getElem?_cons_zero, List.getElem?_cons_succ, List.set_cons_zero, List.set_cons_succ, List.replicate_succ, List.replicate_zero, List.map_cons, List.map_nil, List.cons_append, List.nil_append, List.length_cons, List.length_nil, Nat.reduceAdd, Nat.reduceSub, Nat.zero_add, Int.toNat_natCast, bindT, bindTs, itemsD, wipeD, slo, frz, permD, true_and, and_true, Bool.not_true, Bool.not_false, oo_add_i, oo_add_str, oo_add_tup, oo_add_lst, oo_sub_i, oo_mul_i, oo_mul_s, oo_mul_t, oo_mul_l, oo_rep_l, oo_cat_l, oo_fdiv, oo_mod, oo_pow, oo_neg, oo_lt_i, oo_le_i, oo_gt_i, oo_ge_i, oo_lt_s, oo_gt_s, oo_le_s, oo_ge_s, oo_is, oo_isnt, oo_isn_non, oo_isn_bl, oo_isn_int, oo_isn_str, oo_isn_tup, oo_isn_lst, oo_isn_dic, oo_tru_non, oo_tru_bl, oo_tru_int, oo_tru_str, oo_tru_tup, oo_tru_lst, oo_len_str, oo_len_tup, oo_len_lst, oo_len_scr, oo_len_dic, oo_sum, oo_max_l, oo_max_2, oo_min_l, oo_min_2, oo_all, oo_any, oo_abs, oo_int_i, oo_int_b, oo_tup_t, oo_tup_l, oo_lstF_t, oo_lstF_l, oo_lstF2_t, oo_lstF2_l, oo_lstF2_s, oo_lstF2_r, oo_nJoin, oo_nIndex, oo_join_lst, oo_join_tup, oo_index, oo_it_tup, oo_it_lst, oo_it_str, oo_it_scr, oo_ix_tup, oo_ix_lst, oo_ix_str, oo_ix_whole, oo_put_whole, oo_ix_cells, oo_put_cells, oo_ix_count, oo_put_count, oo_put_l, oo_app, oo_slc_t, oo_slc_l, oo_slc_s, oo_isi_ty, oo_isi_ex, oo_isi_non_bool, oo_isi_non_int, oo_isi_non_str, oo_isi_non_tuple, oo_isi_non_list, oo_isi_non_dict, oo_isi_bl_bool, oo_isi_bl_int, oo_isi_bl_str, oo_isi_bl_tuple, oo_isi_bl_list, oo_isi_bl_dict, oo_isi_int_bool, oo_isi_int_int, oo_isi_int_str, oo_isi_int_tuple, oo_isi_int_list, oo_isi_int_dict, oo_isi_str_bool, oo_isi_str_int, oo_isi_str_str, oo_isi_str_tuple, oo_isi_str_list, oo_isi_str_dict, oo_isi_tup_bool, oo_isi_tup_int, oo_isi_tup_str, oo_isi_tup_tuple, oo_isi_tup_list, oo_isi_tup_dict, oo_isi_lst_bool, oo_isi_lst_int, oo_isi_lst_str, oo_isi_lst_tuple, oo_isi_lst_list, oo_isi_lst_dict, oo_isi_dic_bool, oo_isi_dic_int, oo_isi_dic_str, oo_isi_dic_tuple, oo_isi_dic_list, oo_isi_dic_dict, oo_in_c, oo_inD, oo_ninD]
        exact ⟨fin xs hl hP, hD.mono (by omega)⟩
theorem p_any {m : Nat} {S : List D} (h : Dr m S) (hm : 2010 ≤ m) : Run (f__law_any_lot [.cel 0] S) (DrR (fun d => ∃ (k : Nat) (ws : List (List Nat)), d = .tup (ws.map .str) ∧ Lot ws k) (m - 2010)) E0 := by
  simp only [f__law_any_lot, b__law_any_lot, run_ok, run_exc, run_bad, run_ofO, run_ofB, run_var, run_peek, run_lit, run_op2, run_op1, run_idx, run_tru, run_not, run_and, run_or, run_ite, run_bl, run_asB, run_andV, run_orV, run_nil, run_cons, run_tup, run_lst, run_star, run_dict, run_noPart, run_part, run_slc, run_chain, run_call, run_meth, run_fn, run_fnK, run_fnL, run_caught, run_iter, run_enum, run_rng, run_rng2, run_zip, run_comp, run_yes, run_seq, run_skip, run_set, run_setO, run_setC, run_par, run_ret, run_retN, run_retO, run_ifS, run_drop, run_raise, run_break, run_cont, run_tgt, run_frz, run_for, run_subC, run_subO, run_own, run_mkF, kOpB, kOpA, kOp1, kIxB, kIxA, kTru, kNot, kAnd, kOr, kIte, kBl, kAsB, kAndV, kOrV, kConsB, kConsA, kTup, kLst, kStarB, kStarA, kDict, kPart, kSlC, kSlB, kSlA, kChC, kChB, kChA, kCall, kMeB, kMeA, kFn, kFnKB, kFnKA, kFnLA, kCaughtE, kCaughtQ, kIter, kEnum, kRng, kRng2B, kRng2A, kZipB, kZipA, kCmpB, kCmp, kSet, kSetO, kSetC, kParB, kParA, kRetE, kIf, kDrop, kTgt, kFor, kSubCC, kSubCB, kSubCA, kSubOB, kSubOA, kOwnB, kOwnA, kRet, kSeq_nx, kSeq_rt, kSeq_bk, kSeq_ct, opt_some, opt_none, opt_if, opt_map, opt_bind, slV_val, slO_own, slP_val, slP_own, cond_true, cond_false, List.getElem?_cons_zero, List.getElem?_cons_succ, List.set_cons_zero, List.set_cons_succ, List.replicate_succ, List.replicate_zero, List.map_cons, List.map_nil, List.cons_append, List.nil_append, List.length_cons, List.length_nil, Nat.reduceAdd, Nat.reduceSub, Nat.zero_add, Int.toNat_natCast, bindT, bindTs, itemsD, wipeD, slo, frz, permD, true_and, and_true, Bool.not_true, Bool.not_false, oo_add_i, oo_add_str, oo_add_tup, oo_add_lst, oo_sub_i, oo_mul_i, oo_mul_s, oo_mul_t, oo_mul_l, oo_rep_l, oo_cat_l, oo_fdiv, oo_mod, oo_pow, oo_neg, oo_lt_i, oo_le_i, oo_gt_i, oo_ge_i, oo_lt_s, oo_gt_s, oo_le_s, oo_ge_s, oo_is, oo_isnt, oo_isn_non, oo_isn_bl, oo_isn_int, oo_isn_str, oo_isn_tup, oo_isn_lst, oo_isn_dic, oo_tru_non, oo_tru_bl, oo_tru_int, oo_tru_str, oo_tru_tup, oo_tru_lst, oo_len_str, oo_len_tup, oo_len_lst, oo_len_scr, oo_len_dic, oo_sum, oo_max_l, oo_max_2, oo_min_l, oo_min_2, oo_all, oo_any, oo_abs, oo_int_i, oo_int_b, oo_tup_t, oo_tup_l, oo_lstF_t, oo_lstF_l, oo_lstF2_t, oo_lstF2_l, oo_lstF2_s, oo_lstF2_r, oo_nJoin, oo_nIndex, oo_join_lst, oo_join_tup, oo_index, oo_it_tup, oo_it_lst, oo_it_str, oo_it_scr, oo_ix_tup, oo_ix_lst, oo_ix_str, oo_ix_whole, oo_put_whole, oo_ix_cells, oo_put_cells, oo_ix_count, oo_put_count, oo_put_l, oo_app, oo_slc_t, oo_slc_l, oo_slc_s, oo_isi_ty, oo_isi_ex, oo_isi_non_bool, oo_isi_non_int, oo_isi_non_str, oo_isi_non_tuple, oo_isi_non_list, oo_isi_non_dict, oo_isi_bl_bool, oo_isi_bl_int, oo_isi_bl_str, oo_isi_bl_tuple, oo_isi_bl_list, oo_isi_bl_dict, oo_isi_int_bool, oo_isi_int_int, oo_isi_int_str, oo_isi_int_tuple, oo_isi_int_list, oo_isi_int_dict, oo_isi_str_bool, oo_isi_str_int, oo_isi_str_str, oo_isi_str_tuple, oo_isi_str_list, oo_isi_str_dict, oo_isi_tup_bool, oo_isi_tup_int, oo_isi_tup_str, oo_isi_tup_tuple, oo_isi_tup_list, oo_isi_tup_dict, oo_isi_lst_bool, oo_isi_lst_int, oo_isi_lst_str, oo_isi_lst_tuple, oo_isi_lst_list, oo_isi_lst_dict, oo_isi_dic_bool, oo_isi_dic_int, oo_isi_dic_str, oo_isi_dic_tuple, oo_isi_dic_list, oo_isi_dic_dict, oo_in_c, oo_inD, oo_ninD]
  refine Run.step (p_take h (by omega) (by omega) (by omega)) ?_
  rintro _ S1 ⟨⟨i, rfl, hi0, hi1⟩, hD1⟩
  simp only [run_ok, run_exc, run_bad, run_ofO, run_ofB, run_var, run_peek, run_lit, run_op2, run_op1, run_idx, run_tru, run_not, run_and, run_or, run_ite, run_bl, run_asB, run_andV, run_orV, run_nil, run_cons, run_tup, run_lst, run_star, run_dict, run_noPart, run_part, run_slc, run_chain, run_call, run_meth, run_fn, run_fnK, run_fnL, run_caught, run_iter, run_enum, run_rng, run_rng2, run_zip, run_comp, run_yes, run_seq, run_skip, run_set, run_setO, run_setC, run_par, run_ret, run_retN, run_retO, run_ifS, run_drop, run_raise, run_break, run_cont, run_tgt, run_frz, run_for, run_subC, run_subO, run_own, run_mkF, kOpB, kOpA, kOp1, kIxB, kIxA, kTru, kNot, kAnd, kOr, kIte, kBl, kAsB, kAndV, kOrV, kConsB, kConsA, kTup, kLst, kStarB, kStarA, kDict, kPart, kSlC, kSlB, kSlA, kChC, kChB, kChA, kCall, kMeB, kMeA, kFn, kFnKB, kFnKA, kFnLA, kCaughtE, kCaughtQ, kIter, kEnum, kRng, kRng2B, kRng2A, kZipB, kZipA, kCmpB, kCmp, kSet, kSetO, kSetC, kParB, kParA, kRetE, kIf, kDrop, kTgt, kFor, kSubCC, kSubCB, kSubCA, kSubOB, kSubOA, kOwnB, kOwnA, kRet, kSeq_nx, kSeq_rt, kSeq_bk, kSeq_ct, opt_some, opt_none, opt_if, opt_map, opt_bind, slV_val, slO_own, slP_val, slP_own, cond_true, cond_false, List.getElem?_cons_zero, List.getElem?_cons_succ, List.set_cons_zero, List.set_cons_succ, List.replicate_succ, List.replicate_zero, List.map_cons, List.map_nil, List.cons_append, List.nil_append, List.length_cons, List.length_nil, Nat.reduceAdd, Nat.reduceSub, Nat.zero_add, Int.toNat_natCast, bindT, bindTs, itemsD, wipeD, slo, frz, permD, true_and, and_true, Bool.not_true, Bool.not_false, oo_add_i, oo_add_str, oo_add_tup, oo_add_lst, oo_sub_i, oo_mul_i, oo_mul_s, oo_mul_t, oo_mul_l, oo_rep_l, oo_cat_l, oo_fdiv, oo_mod, oo_pow, oo_neg, oo_lt_i, oo_le_i, oo_gt_i, oo_ge_i, oo_lt_s, oo_gt_s, oo_le_s, oo_ge_s, oo_is, oo_isnt, oo_isn_non, oo_isn_bl, oo_isn_int, oo_isn_str, oo_isn_tup, oo_isn_lst, oo_isn_dic, oo_tru_non, oo_tru_bl, oo_tru_int, oo_tru_str, oo_tru_tup, oo_tru_lst, oo_len_str, oo_len_tup, oo_len_lst, oo_len_scr, oo_len_dic, oo_sum, oo_max_l, oo_max_2, oo_min_l, oo_min_2, oo_all, oo_any, oo_abs, oo_int_i, oo_int_b, oo_tup_t, oo_tup_l, oo_lstF_t, oo_lstF_l, oo_lstF2_t, oo_lstF2_l, oo_lstF2_s, oo_lstF2_r, oo_nJoin, oo_nIndex, oo_join_lst, oo_join_tup, oo_index, oo_it_tup, oo_it_lst, oo_it_str, oo_it_scr, oo_ix_tup, oo_ix_lst, oo_ix_str, oo_ix_whole, oo_put_whole, oo_ix_cells, oo_put_cells, oo_ix_count, oo_put_count, oo_put_l, oo_app, oo_slc_t, oo_slc_l, oo_slc_s, oo_isi_ty, oo_isi_ex, oo_isi_non_bool, oo_isi_non_int, oo_isi_non_str, oo_isi_non_tuple, oo_isi_non_list, oo_isi_non_dict, oo_isi_bl_bool, oo_isi_bl_int, oo_isi_bl_str, oo_isi_bl_tuple, oo_isi_bl_list, oo_isi_bl_dict, oo_isi_int_bool, oo_isi_int_int, oo_isi_int_str, oo_isi_int_tuple, oo_isi_int_list, oo_isi_int_dict, oo_isi_str_bool, oo_isi_str_int, oo_isi_str_str, oo_isi_str_tuple, oo_isi_str_list, oo_isi_str_dict, oo_isi_tup_bool, oo_isi_tup_int, oo_isi_tup_str, oo_isi_tup_tuple, oo_isi_tup_list, oo_isi_tup_dict, oo_isi_lst_bool, oo_isi_lst_int, oo_isi_lst_str, oo_isi_lst_tuple, oo_isi_lst_list, oo_isi_lst_dict, oo_isi_dic_bool, oo_isi_dic_int, oo_isi_dic_str, oo_isi_dic_tuple, oo_isi_dic_list, oo_isi_dic_dict, oo_in_c, oo_inD, oo_ninD]
  refine ⟨by decide, ?_⟩
  refine Run.step (p_pick hD1 (by omega) (by simp) (by simp)) ?_
  rintro x S2 ⟨hx, hD2⟩
  have hx2 : ∃ k : Nat, x = .int k ∧ k ≤ 24 := by
    simp only [List.mem_cons, List.not_mem_nil, or_false] at hx
    rcases hx with rfl | rfl | rfl | rfl | rfl | rfl | rfl | rfl | rfl
    all_goals first
      | exact ⟨0, rfl, by omega⟩
      | exact ⟨1, rfl, by omega⟩
      | exact ⟨2, rfl, by omega⟩
      | exact ⟨3, rfl, by omega⟩
      | exact ⟨4, rfl, by omega⟩
      | exact ⟨5, rfl, by omega⟩
      | exact ⟨6, rfl, by omega⟩
      | exact ⟨24, rfl, by omega⟩
      | exact ⟨i.toNat, by rw [Int.toNat_of_nonneg hi0], by omega⟩
  obtain ⟨k, rfl, hk⟩ := hx2
  simp only [run_ok, run_exc, run_bad, run_ofO, run_ofB, run_var, run_peek, run_lit, run_op2, run_op1, run_idx, run_tru, run_not, run_and, run_or, run_ite, run_bl, run_asB, run_andV, run_orV, run_nil, run_cons, run_tup, run_lst, run_star, run_dict, run_noPart, run_part, run_slc, run_chain, run_call, run_meth, run_fn, run_fnK, run_fnL, run_caught, run_iter, run_enum, run_rng, run_rng2, run_zip, run_comp, run_yes, run_seq, run_skip, run_set, run_setO, run_setC, run_par, run_ret, run_retN, run_retO, run_ifS, run_drop, run_raise, run_break, run_cont, run_tgt, run_frz, run_for, run_subC, run_subO, run_own, run_mkF, kOpB, kOpA, kOp1, kIxB, kIxA, kTru, kNot, kAnd, kOr, kIte, kBl, kAsB, kAndV, kOrV, kConsB, kConsA, kTup, kLst, kStarB, kStarA, kDict, kPart, kSlC, kSlB, kSlA, kChC, kChB, kChA, kCall, kMeB, kMeA, kFn, kFnKB, kFnKA, kFnLA, kCaughtE, kCaughtQ, kIter, kEnum, kRng, kRng2B, kRng2A, kZipB, kZipA, kCmpB, kCmp, kSet, kSetO, kSetC, kParB, kParA, kRetE, kIf, kDrop, kTgt, kFor, kSubCC, kSubCB, kSubCA, kSubOB, kSubOA, kOwnB, kOwnA, kRet, kSeq_nx, kSeq_rt, kSeq_bk, kSeq_ct, opt_some, opt_none, opt_if, opt_map, opt_bind, slV_val, slO_own, slP_val, slP_own, cond_true, cond_false, List.getElem?_cons_zero, List.getElem?_cons_succ, List.set_cons_zero, List.set_cons_succ, List.replicate_succ, List.replicate_zero, List.map_cons, List.map_nil, List.cons_append, List.nil_append, List.length_cons, List.length_nil, Nat.reduceAdd, Nat.reduceSub, Nat.zero_add, Int.toNat_natCast, bindT, bindTs, itemsD, wipeD, slo, frz, permD, true_and, and_true, Bool.not_true, Bool.not_false, oo_add_i, oo_add_str, oo_add_tup, oo_add_lst, oo_sub_i, oo_mul_i, oo_mul_s, oo_mul_t, oo_mul_l, oo_rep_l, oo_cat_l, oo_fdiv, oo_mod, oo_pow, oo_neg, oo_lt_i, oo_le_i, oo_gt_i, oo_ge_i, oo_lt_s, oo_gt_s, oo_le_s, oo_ge_s, oo_is, oo_isnt, oo_isn_non, oo_isn_bl, oo_isn_int, oo_isn_str, oo_isn_tup, oo_isn_lst, oo_isn_dic, oo_tru_non, oo_tru_bl, oo_tru_int, oo_tru_str, oo_tru_tup, oo_tru_lst, oo_len_str, oo_len_tup, oo_len_lst, oo_len_scr, oo_len_dic, oo_sum, oo_max_l, oo_max_2, oo_min_l, oo_min_2, oo_all, oo_any, oo_abs, oo_int_i, oo_int_b, oo_tup_t, oo_tup_l, oo_lstF_t, oo_lstF_l, oo_lstF2_t, oo_lstF2_l, oo_lstF2_s, oo_lstF2_r, oo_nJoin, oo_nIndex, oo_join_lst, oo_join_tup, oo_index, oo_it_tup, oo_it_lst, oo_it_str, oo_it_scr, oo_ix_tup, oo_ix_lst, oo_ix_str, oo_ix_whole, oo_put_whole, oo_ix_cells, oo_put_cells, oo_ix_count, oo_put_count, oo_put_l, oo_app, oo_slc_t, oo_slc_l, oo_slc_s, oo_isi_ty, oo_isi_ex, oo_isi_non_bool, oo_isi_non_int, oo_isi_non_str, oo_isi_non_tuple, oo_isi_non_list, oo_isi_non_dict, oo_isi_bl_bool, oo_isi_bl_int, oo_isi_bl_str, oo_isi_bl_tuple, oo_isi_bl_list, oo_isi_bl_dict, oo_isi_int_bool, oo_isi_int_int, oo_isi_int_str, oo_isi_int_tuple, oo_isi_int_list, oo_isi_int_dict, oo_isi_str_bool, oo_isi_str_int, oo_isi_str_str, oo_isi_str_tuple, oo_isi_str_list, oo_isi_str_dict, oo_isi_tup_bool, oo_isi_tup_int, oo_isi_tup_str, oo_isi_tup_tuple, oo_isi_tup_list, oo_isi_tup_dict, oo_isi_lst_bool, oo_isi_lst_int, oo_isi_lst_str, oo_isi_lst_tuple, oo_isi_lst_list, oo_isi_lst_dict, oo_isi_dic_bool, oo_isi_dic_int, oo_isi_dic_str, oo_isi_dic_tuple, oo_isi_dic_list, oo_isi_dic_dict, oo_in_c, oo_inD, oo_ninD]
  refine ⟨by decide, ?_⟩
  refine Run.step (p_pick hD2 (by omega) (by simp) (by simp)) ?_
  rintro y S3 ⟨hy, hD3⟩
  have hy2 : ∃ k : Nat, y = .int k ∧ 1 ≤ k := by
    simp only [List.mem_cons, List.not_mem_nil, or_false] at hy
    rcases hy with rfl | rfl | rfl | rfl | rfl
    · exact ⟨1, rfl, by omega⟩
    · exact ⟨2, rfl, by omega⟩
    · exact ⟨2, rfl, by omega⟩
    · exact ⟨3, rfl, by omega⟩
    · exact ⟨6, rfl, by omega⟩
  obtain ⟨n, rfl, hn⟩ := hy2
  simp only [run_ok, run_exc, run_bad, run_ofO, run_ofB, run_var, run_peek, run_lit, run_op2, run_op1, run_idx, run_tru, run_not, run_and, run_or, run_ite, run_bl, run_asB, run_andV, run_orV, run_nil, run_cons, run_tup, run_lst, run_star, run_dict, run_noPart, run_part, run_slc, run_chain, run_call, run_meth, run_fn, run_fnK, run_fnL, run_caught, run_iter, run_enum, run_rng, run_rng2, run_zip, run_comp, run_yes, run_seq, run_skip, run_set, run_setO, run_setC, run_par, run_ret, run_retN, run_retO, run_ifS, run_drop, run_raise, run_break, run_cont, run_tgt, run_frz, run_for, run_subC, run_subO, run_own, run_mkF, kOpB, kOpA, kOp1, kIxB, kIxA, kTru, kNot, kAnd, kOr, kIte, kBl, kAsB, kAndV, kOrV, kConsB, kConsA, kTup, kLst, kStarB, kStarA, kDict, kPart, kSlC, kSlB, kSlA, kChC, kChB, kChA, kCall, kMeB, kMeA, kFn, kFnKB, kFnKA, kFnLA, kCaughtE, kCaughtQ, kIter, kEnum, kRng, kRng2B, kRng2A, kZipB, kZipA, kCmpB, kCmp, kSet, kSetO, kSetC, kParB, kParA, kRetE, kIf, kDrop, kTgt, kFor, kSubCC, kSubCB, kSubCA, kSubOB, kSubOA, kOwnB, kOwnA, kRet, kSeq_nx, kSeq_rt, kSeq_bk, kSeq_ct, opt_some, opt_none, opt_if, opt_map, opt_bind, slV_val, slO_own, slP_val, slP_own, cond_true, cond_false, List.getElem?_cons_zero, List.getElem?_cons_succ, List.set_cons_zero, List.set_cons_succ, List.replicate_succ, List.replicate_zero, List.map_cons, List.map_nil, List.cons_append, List.nil_append, List.length_cons, List.length_nil, Nat.reduceAdd, Nat.reduceSub, Nat.zero_add, Int.toNat_natCast, bindT, bindTs, itemsD, wipeD, slo, frz, permD, true_and, and_true, Bool.not_true, Bool.not_false, oo_add_i, oo_add_str, oo_add_tup, oo_add_lst, oo_sub_i, oo_mul_i, oo_mul_s, oo_mul_t, oo_mul_l, oo_rep_l, oo_cat_l, oo_fdiv, oo_mod, oo_pow, oo_neg, oo_lt_i, oo_le_i, oo_gt_i, oo_ge_i, oo_lt_s, oo_gt_s, oo_le_s, oo_ge_s, oo_is, oo_isnt, oo_isn_non, oo_isn_bl, oo_isn_int, oo_isn_str, oo_isn_tup, oo_isn_lst, oo_isn_dic, oo_tru_non, oo_tru_bl, oo_tru_int, oo_tru_str, oo_tru_tup, oo_tru_lst, oo_len_str, oo_len_tup, oo_len_lst, oo_len_scr, oo_len_dic, oo_sum, oo_max_l, oo_max_2, oo_min_l, oo_min_2, oo_all, oo_any, oo_abs, oo_int_i, oo_int_b, oo_tup_t, oo_tup_l, oo_lstF_t, oo_lstF_l, oo_lstF2_t, oo_lstF2_l, oo_lstF2_s, oo_lstF2_r, oo_nJoin, oo_nIndex, oo_join_lst, oo_join_tup, oo_index, oo_it_tup, oo_it_lst, oo_it_str, oo_it_scr, oo_ix_tup, oo_ix_lst, oo_ix_str, oo_ix_whole, oo_put_whole, oo_ix_cells, oo_put_cells, oo_ix_count, oo_put_count, oo_put_l, oo_app, oo_slc_t, oo_slc_l, oo_slc_s, oo_isi_ty, oo_isi_ex, oo_isi_non_bool, oo_isi_non_int, oo_isi_non_str, oo_isi_non_tuple, oo_isi_non_list, oo_isi_non_dict, oo_isi_bl_bool, oo_isi_bl_int, oo_isi_bl_str, oo_isi_bl_tuple, oo_isi_bl_list, oo_isi_bl_dict, oo_isi_int_bool, oo_isi_int_int, oo_isi_int_str, oo_isi_int_tuple, oo_isi_int_list, oo_isi_int_dict, oo_isi_str_bool, oo_isi_str_int, oo_isi_str_str, oo_isi_str_tuple, oo_isi_str_list, oo_isi_str_dict, oo_isi_tup_bool, oo_isi_tup_int, oo_isi_tup_str, oo_isi_tup_tuple, oo_isi_tup_list, oo_isi_tup_dict, oo_isi_lst_bool, oo_isi_lst_int, oo_isi_lst_str, oo_isi_lst_tuple, oo_isi_lst_list, oo_isi_lst_dict, oo_isi_dic_bool, oo_isi_dic_int, oo_isi_dic_str, oo_isi_dic_tuple, oo_isi_dic_list, oo_isi_dic_dict, oo_in_c, oo_inD, oo_ninD]
  refine ⟨by decide, ?_⟩
  refine Run.step (p_pick hD3 (by omega) (by simp) (by simp)) ?_
  rintro z S4 ⟨hz, hD4⟩
  have hz2 : ∃ k : Nat, z = .int k ∧ 1 ≤ k ∧ k ≤ 20 := by
    simp only [List.mem_cons, List.not_mem_nil, or_false] at hz
    rcases hz with rfl | rfl | rfl | rfl
    · exact ⟨2, rfl, by omega⟩
    · exact ⟨4, rfl, by omega⟩
    · exact ⟨6, rfl, by omega⟩
    · exact ⟨20, rfl, by omega⟩
  obtain ⟨M, rfl, hM1, hM2⟩ := hz2
  simp only [run_ok, run_exc, run_bad, run_ofO, run_ofB, run_var, run_peek, run_lit, run_op2, run_op1, run_idx, run_tru, run_not, run_and, run_or, run_ite, run_bl, run_asB, run_andV, run_orV, run_nil, run_cons, run_tup, run_lst, run_star, run_dict, run_noPart, run_part, run_slc, run_chain, run_call, run_meth, run_fn, run_fnK, run_fnL, run_caught, run_iter, run_enum, run_rng, run_rng2, run_zip, run_comp, run_yes, run_seq, run_skip, run_set, run_setO, run_setC, run_par, run_ret, run_retN, run_retO, run_ifS, run_drop, run_raise, run_break, run_cont, run_tgt, run_frz, run_for, run_subC, run_subO, run_own, run_mkF, kOpB, kOpA, kOp1, kIxB, kIxA, kTru, kNot, kAnd, kOr, kIte, kBl, kAsB, kAndV, kOrV, kConsB, kConsA, kTup, kLst, kStarB, kStarA, kDict, kPart, kSlC, kSlB, kSlA, kChC, kChB, kChA, kCall, kMeB, kMeA, kFn, kFnKB, kFnKA, kFnLA, kCaughtE, kCaughtQ, kIter, kEnum, kRng, kRng2B, kRng2A, kZipB, kZipA, kCmpB, kCmp, kSet, kSetO, kSetC, kParB, kParA, kRetE, kIf, kDrop, kTgt, kFor, kSubCC, kSubCB, kSubCA, kSubOB, kSubOA, kOwnB, kOwnA, kRet, kSeq_nx, kSeq_rt, kSeq_bk, kSeq_ct, opt_some, opt_none, opt_if, opt_map, opt_bind, slV_val, slO_own, slP_val, slP_own, cond_true, cond_false, List.getElem?_cons_zero, List.getElem?_cons_succ, List.set_cons_zero, List.set_cons_succ, List.replicate_succ, List.replicate_zero, List.map_cons, List.map_nil, List.cons_append, List.nil_append, List.length_cons, List.length_nil, Nat.reduceAdd, Nat.reduceSub, Nat.zero_add, Int.toNat_natCast, bindT, bindTs, itemsD, wipeD, slo, frz, permD, true_and, and_true, Bool.not_true, Bool.not_false, oo_add_i, oo_add_str, oo_add_tup, oo_add_lst, oo_sub_i, oo_mul_i, oo_mul_s, oo_mul_t, oo_mul_l, oo_rep_l, oo_cat_l, oo_fdiv, oo_mod, oo_pow, oo_neg, oo_lt_i, oo_le_i, oo_gt_i, oo_ge_i, oo_lt_s, oo_gt_s, oo_le_s, oo_ge_s, oo_is, oo_isnt, oo_isn_non, oo_isn_bl, oo_isn_int, oo_isn_str, oo_isn_tup, oo_isn_lst, oo_isn_dic, oo_tru_non, oo_tru_bl, oo_tru_int, oo_tru_str, oo_tru_tup, oo_tru_lst, oo_len_str, oo_len_tup, oo_len_lst, oo_len_scr, oo_len_dic, oo_sum, oo_max_l, oo_max_2, oo_min_l, oo_min_2, oo_all, oo_any, oo_abs, oo_int_i, oo_int_b, oo_tup_t, oo_tup_l, oo_lstF_t, oo_lstF_l, oo_lstF2_t, oo_lstF2_l, oo_lstF2_s, oo_lstF2_r, oo_nJoin, oo_nIndex, oo_join_lst, oo_join_tup, oo_index, oo_it_tup, oo_it_lst, oo_it_str, oo_it_scr, oo_ix_tup, oo_ix_lst, oo_ix_str, oo_ix_whole, oo_put_whole, oo_ix_cells, oo_put_cells, oo_ix_count, oo_put_count, oo_put_l, oo_app, oo_slc_t, oo_slc_l, oo_slc_s, oo_isi_ty, oo_isi_ex, oo_isi_non_bool, oo_isi_non_int, oo_isi_non_str, oo_isi_non_tuple, oo_isi_non_list, oo_isi_non_dict, oo_isi_bl_bool, oo_isi_bl_int, oo_isi_bl_str, oo_isi_bl_tuple, oo_isi_bl_list, oo_isi_bl_dict, oo_isi_int_bool, oo_isi_int_int, oo_isi_int_str, oo_isi_int_tuple, oo_isi_int_list, oo_isi_int_dict, oo_isi_str_bool, oo_isi_str_int, oo_isi_str_str, oo_isi_str_tuple, oo_isi_str_list, oo_isi_str_dict, oo_isi_tup_bool, oo_isi_tup_int, oo_isi_tup_str, oo_isi_tup_tuple, oo_isi_tup_list, oo_isi_tup_dict, oo_isi_lst_bool, oo_isi_lst_int, oo_isi_lst_str, oo_isi_lst_tuple, oo_isi_lst_list, oo_isi_lst_dict, oo_isi_dic_bool, oo_isi_dic_int, oo_isi_dic_str, oo_isi_dic_tuple, oo_isi_dic_list, oo_isi_dic_dict, oo_in_c, oo_inD, oo_ninD]
  refine Run.step (p_lot hD4 (by omega) hn hk hM1 hM2) ?_
  rintro _ S5 ⟨⟨ws, rfl, hws⟩, hD5⟩
  exact ⟨⟨k, ws, rfl, hws⟩, hD5.mono (by omega)⟩
end Dm
end
section
namespace Dm
open PySem PySem.Spec L2 PyProof.Rows
section
variable {S : List D} {w : List Nat} {ws : List (List Nat)} {n : Nat} {m : Int}
theorem q_wf (h : w.length ≤ 1000) : f_is_word_form [.str w] S = .ok (.bl (decide (w.length ≤ 24) && w.all fun c => decide (c ∈ [97, 98, 99, 100, 101, 102]))) S := by
  apply Run.eq_of
  simp only [f_is_word_form, b_is_word_form, run_ok, run_exc, run_bad, run_ofO, run_ofB, run_var, run_peek, run_lit, run_op2, run_op1, run_idx, run_tru, run_not, run_and, run_or, run_ite, run_bl, run_asB, run_andV, run_orV, run_nil, run_cons, run_tup, run_lst, run_star, run_dict, run_noPart, run_part, run_slc, run_chain, run_call, run_meth, run_fn, run_fnK, run_fnL, run_caught, run_iter, run_enum, run_rng, run_rng2, run_zip, run_comp, run_yes, run_seq, run_skip, run_set, run_setO, run_setC, run_par, run_ret, run_retN, run_retO, run_ifS, run_drop, run_raise, run_break, run_cont, run_tgt, run_frz, run_for, run_subC, run_subO, run_own, run_mkF, kOpB, kOpA, kOp1, kIxB, kIxA, kTru, kNot, kAnd, kOr, kIte, kBl, kAsB, kAndV, kOrV, kConsB, kConsA, kTup, kLst, kStarB, kStarA, kDict, kPart, kSlC, kSlB, kSlA, kChC, kChB, kChA, kCall, kMeB, kMeA, kFn, kFnKB, kFnKA, kFnLA, kCaughtE, kCaughtQ, kIter, kEnum, kRng, kRng2B, kRng2A, kZipB, kZipA, kCmpB, kCmp, kSet, kSetO, kSetC, kParB, kParA, kRetE, kIf, kDrop, kTgt, kFor, kSubCC, kSubCB, kSubCA, kSubOB, kSubOA, kOwnB, kOwnA, kRet, kSeq_nx, kSeq_rt, kSeq_bk, kSeq_ct, opt_some, opt_none, opt_if, opt_map, opt_bind, slV_val, slO_own, slP_val, slP_own, cond_true, cond_false, List.getElem?_cons_zero, List.getElem?_cons_succ, List.set_cons_zero, List.set_cons_succ, List.replicate_succ, List.replicate_zero, List.map_cons, List.map_nil, List.cons_append, List.nil_append, List.length_cons, List.length_map, List.length_nil, Nat.reduceAdd, Nat.reduceSub, Nat.zero_add, Int.toNat_natCast, bindT, bindTs, itemsD, wipeD, slo, frz, permD, true_and, and_true, Bool.not_true, Bool.not_false, oo_add_i, oo_add_str, oo_add_tup, oo_add_lst, oo_sub_i, oo_mul_i, oo_mul_s, oo_mul_t, oo_mul_l, oo_rep_l, oo_cat_l, oo_fdiv, oo_mod, oo_pow, oo_neg, oo_lt_i, oo_le_i, oo_gt_i, oo_ge_i, oo_lt_s, oo_gt_s, oo_le_s, oo_ge_s, oo_is, oo_isnt, oo_isn_non, oo_isn_bl, oo_isn_int, oo_isn_str, oo_isn_tup, oo_isn_lst, oo_isn_dic, oo_tru_non, oo_tru_bl, oo_tru_int, oo_tru_str, oo_tru_tup, oo_tru_lst, oo_len_str, oo_len_tup, oo_len_lst, oo_len_scr, oo_len_dic, oo_sum, oo_max_l, oo_max_2, oo_min_l, oo_min_2, oo_all, oo_any, oo_abs, oo_int_i, oo_int_b, oo_tup_t, oo_tup_l, oo_lstF_t, oo_lstF_l, oo_lstF2_t, oo_lstF2_l, oo_lstF2_s, oo_lstF2_r, oo_nJoin, oo_nIndex, oo_join_lst, oo_join_tup, oo_index, oo_it_tup, oo_it_lst, oo_it_str, oo_it_scr, oo_ix_tup, oo_ix_lst, oo_ix_str, oo_ix_whole, oo_put_whole, oo_ix_cells, oo_put_cells, oo_ix_count, oo_put_count, oo_put_l, oo_app, oo_slc_t, oo_slc_l, oo_slc_s, oo_isi_ty, oo_isi_ex, oo_isi_non_bool, oo_isi_non_int, oo_isi_non_str, oo_isi_non_tuple, oo_isi_non_list, oo_isi_non_dict, oo_isi_bl_bool, oo_isi_bl_int, oo_isi_bl_str, oo_isi_bl_tuple, oo_isi_bl_list, oo_isi_bl_dict, oo_isi_int_bool, oo_isi_int_int, oo_isi_int_str, oo_isi_int_tuple, oo_isi_int_list, oo_isi_int_dict, oo_isi_str_bool, oo_isi_str_int, oo_isi_str_str, oo_isi_str_tuple, oo_isi_str_list, oo_isi_str_dict, oo_isi_tup_bool, oo_isi_tup_int, oo_isi_tup_str, oo_isi_tup_tuple, oo_isi_tup_list, oo_isi_tup_dict, oo_isi_lst_bool, oo_isi_lst_int, oo_isi_lst_str, oo_isi_lst_tuple, oo_isi_lst_list, oo_isi_lst_dict, oo_isi_dic_bool, oo_isi_dic_int, oo_isi_dic_str, oo_isi_dic_tuple, oo_isi_dic_list, oo_isi_dic_dict, oo_in_c, oo_inD, oo_ninD]
  refine ⟨le_big (by omega), ?_⟩
  by_cases h24 : w.length ≤ 24
  · rw [decide_eq_true (by omega : (w.length : Int) ≤ 24), decide_eq_true h24]
    simp only [cond_true, run_ok, run_exc, run_bad, run_ofO, run_ofB, run_var, run_peek, run_lit, run_op2, run_op1, run_idx, run_tru, run_not, run_and, run_or, run_ite, run_bl, run_asB, run_andV, run_orV, run_nil, run_cons, run_tup, run_lst, run_star, run_dict, run_noPart, run_part, run_slc, run_chain, run_call, run_meth, run_fn, run_fnK, run_fnL, run_caught, run_iter, run_enum, run_rng, run_rng2, run_zip, run_comp, run_yes, run_seq, run_skip, run_set, run_setO, run_setC, run_par, run_ret, run_retN, run_retO, run_ifS, run_drop, run_raise, run_break, run_cont, run_tgt, run_frz, run_for, run_subC, run_subO, run_own, run_mkF, kOpB, kOpA, kOp1, kIxB, kIxA, kTru, kNot, kAnd, kOr, kIte, kBl, kAsB, kAndV, kOrV, kConsB, kConsA, kTup, kLst, kStarB, kStarA, kDict, kPart, kSlC, kSlB, kSlA, kChC, kChB, kChA, kCall, kMeB, kMeA, kFn, kFnKB, kFnKA, kFnLA, kCaughtE, kCaughtQ, kIter, kEnum, kRng, kRng2B, kRng2A, kZipB, kZipA, kCmpB, kCmp, kSet, kSetO, kSetC, kParB, kParA, kRetE, kIf, kDrop, kTgt, kFor, kSubCC, kSubCB, kSubCA, kSubOB, kSubOA, kOwnB, kOwnA, kRet, kSeq_nx, kSeq_rt, kSeq_bk, kSeq_ct, opt_some, opt_none, opt_if, opt_map, opt_bind, slV_val, slO_own, slP_val, slP_own, cond_true, cond_false, List.getElem?_cons_zero, List.getElem?_cons_succ, List.set_cons_zero, List.set_cons_succ, List.replicate_succ, List.replicate_zero, List.map_cons, List.map_nil, List.cons_append, List.nil_append, List.length_cons, List.length_map, List.length_nil, Nat.reduceAdd, Nat.reduceSub, Nat.zero_add, Int.toNat_natCast, bindT, bindTs, itemsD, wipeD, slo, frz, permD, true_and, and_true, Bool.not_true, Bool.not_false, oo_add_i, oo_add_str, oo_add_tup, oo_add_lst, oo_sub_i, oo_mul_i, oo_mul_s, oo_mul_t, oo_mul_l, oo_rep_l, oo_cat_l, oo_fdiv, oo_mod, oo_pow, oo_neg, oo_lt_i, oo_le_i, oo_gt_i, oo_ge_i, oo_lt_s, oo_gt_s, oo_le_s, oo_ge_s, oo_is, oo_isnt, oo_isn_non, oo_isn_bl, oo_isn_int, oo_isn_str, oo_isn_tup, oo_isn_lst, oo_isn_dic, oo_tru_non, oo_tru_bl, oo_tru_int, oo_tru_str, oo_tru_tup, oo_tru_lst, oo_len_str, oo_len_tup, oo_len_lst, oo_len_scr, oo_len_dic, oo_sum, oo_max_l, oo_max_2, oo_min_l, oo_min_2, oo_all, oo_any, oo_abs, oo_int_i, oo_int_b, oo_tup_t, oo_tup_l, oo_lstF_t, oo_lstF_l, oo_lstF2_t, oo_lstF2_l, oo_lstF2_s, oo_lstF2_r, oo_nJoin, oo_nIndex, oo_join_lst, oo_join_tup, oo_index, oo_it_tup, oo_it_lst, oo_it_str, oo_it_scr, oo_ix_tup, oo_ix_lst, oo_ix_str, oo_ix_whole, oo_put_whole, oo_ix_cells, oo_put_cells, oo_ix_count, oo_put_count, oo_put_l, oo_app, oo_slc_t, oo_slc_l, oo_slc_s, oo_isi_ty, oo_isi_ex, oo_isi_non_bool, oo_isi_non_int, oo_isi_non_str, oo_isi_non_tuple, oo_isi_non_list, oo_isi_non_dict, oo_isi_bl_bool, oo_isi_bl_int, oo_isi_bl_str, oo_isi_bl_tuple, oo_isi_bl_list, oo_isi_bl_dict, oo_isi_int_bool, oo_isi_int_int, oo_isi_int_str, oo_isi_int_tuple, oo_isi_int_list, oo_isi_int_dict, oo_isi_str_bool, oo_isi_str_int, oo_isi_str_str, oo_isi_str_tuple, oo_isi_str_list, oo_isi_str_dict, oo_isi_tup_bool, oo_isi_tup_int, oo_isi_tup_str, oo_isi_tup_tuple, oo_isi_tup_list, oo_isi_tup_dict, oo_isi_lst_bool, oo_isi_lst_int, oo_isi_lst_str, oo_isi_lst_tuple, oo_isi_lst_list, oo_isi_lst_dict, oo_isi_dic_bool, oo_isi_dic_int, oo_isi_dic_str, oo_isi_dic_tuple, oo_isi_dic_list, oo_isi_dic_dict, oo_in_c, oo_inD, oo_ninD]
    refine ⟨le_big (by omega), ?_⟩
    rw [coll_map (v := fun c => .bl (decide (c ∈ [97, 98, 99, 100, 101, 102]))) (fun c hc => by
      apply Run.eq_of
      simp only [run_one, run_ok, run_exc, run_bad, run_ofO, run_ofB, run_var, run_peek, run_lit, run_op2, run_op1, run_idx, run_tru, run_not, run_and, run_or, run_ite, run_bl, run_asB, run_andV, run_orV, run_nil, run_cons, run_tup, run_lst, run_star, run_dict, run_noPart, run_part, run_slc, run_chain, run_call, run_meth, run_fn, run_fnK, run_fnL, run_caught, run_iter, run_enum, run_rng, run_rng2, run_zip, run_comp, run_yes, run_seq, run_skip, run_set, run_setO, run_setC, run_par, run_ret, run_retN, run_retO, run_ifS, run_drop, run_raise, run_break, run_cont, run_tgt, run_frz, run_for, run_subC, run_subO, run_own, run_mkF, kOpB, kOpA, kOp1, kIxB, kIxA, kTru, kNot, kAnd, kOr, kIte, kBl, kAsB, kAndV, kOrV, kConsB, kConsA, kTup, kLst, kStarB, kStarA, kDict, kPart, kSlC, kSlB, kSlA, kChC, kChB, kChA, kCall, kMeB, kMeA, kFn, kFnKB, kFnKA, kFnLA, kCaughtE, kCaughtQ, kIter, kEnum, kRng, kRng2B, kRng2A, kZipB, kZipA, kCmpB, kCmp, kSet, kSetO, kSetC, kParB, kParA, kRetE, kIf, kDrop, kTgt, kFor, kSubCC, kSubCB, kSubCA, kSubOB, kSubOA, kOwnB, kOwnA, kRet, kSeq_nx, kSeq_rt, kSeq_bk, kSeq_ct, opt_some, opt_none, opt_if, opt_map, opt_bind, slV_val, slO_own, slP_val, slP_own, cond_true, cond_false, List.getElem?_cons_zero, List.getElem?_cons_succ, List.set_cons_zero, List.set_cons_succ, List.replicate_succ, List.replicate_zero, List.map_cons, List.map_nil, List.cons_append, List.nil_append, List.length_cons, List.length_map, List.length_nil, Nat.reduceAdd, Nat.reduceSub, Nat.zero_add, Int.toNat_natCast, bindT, bindTs, itemsD, wipeD, slo, frz, permD, true_and, and_true, Bool.not_true, Bool.not_false, oo_add_i, oo_add_str, oo_add_tup, oo_add_lst, oo_sub_i, oo_mul_i, oo_mul_s, oo_mul_t, oo_mul_l, oo_rep_l, oo_cat_l, oo_fdiv, oo_mod, oo_pow, oo_neg, oo_lt_i, oo_le_i, oo_gt_i, oo_ge_i, oo_lt_s, oo_gt_s, oo_le_s, oo_ge_s, oo_is, oo_isnt, oo_isn_non, oo_isn_bl, oo_isn_int, oo_isn_str, oo_isn_tup, oo_isn_lst, oo_isn_dic, oo_tru_non, oo_tru_bl, oo_tru_int, oo_tru_str, oo_tru_tup, oo_tru_lst, oo_len_str, oo_len_tup, oo_len_lst, oo_len_scr, oo_len_dic, oo_sum, oo_max_l, oo_max_2, oo_min_l, oo_min_2, oo_all, oo_any, oo_abs, oo_int_i, oo_int_b, oo_tup_t, oo_tup_l, oo_lstF_t, oo_lstF_l, oo_lstF2_t, oo_lstF2_l, oo_lstF2_s, oo_lstF2_r, oo_nJoin, oo_nIndex, oo_join_lst, oo_join_tup, oo_index, oo_it_tup, oo_it_lst, oo_it_str, oo_it_scr, oo_ix_tup, oo_ix_lst, oo_ix_str, oo_ix_whole, oo_put_whole, oo_ix_cells, oo_put_cells, oo_ix_count, oo_put_count, oo_put_l, oo_app, oo_slc_t, oo_slc_l, oo_slc_s, oo_isi_ty, oo_isi_ex, oo_isi_non_bool, oo_isi_non_int, oo_isi_non_str, oo_isi_non_tuple, oo_isi_non_list, oo_isi_non_dict, oo_isi_bl_bool, oo_isi_bl_int, oo_isi_bl_str, oo_isi_bl_tuple, oo_isi_bl_list, oo_isi_bl_dict, oo_isi_int_bool, oo_isi_int_int, oo_isi_int_str, oo_isi_int_tuple, oo_isi_int_list, oo_isi_int_dict, oo_isi_str_bool, oo_isi_str_int, oo_isi_str_str, oo_isi_str_tuple, oo_isi_str_list, oo_isi_str_dict, oo_isi_tup_bool, oo_isi_tup_int, oo_isi_tup_str, oo_isi_tup_tuple, oo_isi_tup_list, oo_isi_tup_dict, oo_isi_lst_bool, oo_isi_lst_int, oo_isi_lst_str, oo_isi_lst_tuple, oo_isi_lst_list, oo_isi_lst_dict, oo_isi_dic_bool, oo_isi_dic_int, oo_isi_dic_str, oo_isi_dic_tuple, oo_isi_dic_list, oo_isi_dic_dict, oo_in_c, oo_inD, oo_ninD, kOneA, kOneB])]
    simp only [run_ok, run_exc, run_bad, run_ofO, run_ofB, run_var, run_peek, run_lit, run_op2, run_op1, run_idx, run_tru, run_not, run_and, run_or, run_ite, run_bl, run_asB, run_andV, run_orV, run_nil, run_cons, run_tup, run_lst, run_star, run_dict, run_noPart, run_part, run_slc, run_chain, run_call, run_meth, run_fn, run_fnK, run_fnL, run_caught, run_iter, run_enum, run_rng, run_rng2, run_zip, run_comp, run_yes, run_seq, run_skip, run_set, run_setO, run_setC, run_par, run_ret, run_retN, run_retO, run_ifS, run_drop, run_raise, run_break, run_cont, run_tgt, run_frz, run_for, run_subC, run_subO, run_own, run_mkF, kOpB, kOpA, kOp1, kIxB, kIxA, kTru, kNot, kAnd, kOr, kIte, kBl, kAsB, kAndV, kOrV, kConsB, kConsA, kTup, kLst, kStarB, kStarA, kDict, kPart, kSlC, kSlB, kSlA, kChC, kChB, kChA, kCall, kMeB, kMeA, kFn, kFnKB, kFnKA, kFnLA, kCaughtE, kCaughtQ, kIter, kEnum, kRng, kRng2B, kRng2A, kZipB, kZipA, kCmpB, kCmp, kSet, kSetO, kSetC, kParB, kParA, kRetE, kIf, kDrop, kTgt, kFor, kSubCC, kSubCB, kSubCA, kSubOB, kSubOA, kOwnB, kOwnA, kRet, kSeq_nx, kSeq_rt, kSeq_bk, kSeq_ct, opt_some, opt_none, opt_if, opt_map, opt_bind, slV_val, slO_own, slP_val, slP_own, cond_true, cond_false, List.getElem?_cons_zero, List.getElem?_cons_succ, List.set_cons_zero, List.set_cons_succ, List.replicate_succ, List.replicate_zero, List.map_cons, List.map_nil, List.cons_append, List.nil_append, List.length_cons, List.length_map, List.length_nil, Nat.reduceAdd, Nat.reduceSub, Nat.zero_add, Int.toNat_natCast, bindT, bindTs, itemsD, wipeD, slo, frz, permD, true_and, and_true, Bool.not_true, Bool.not_false]
    rw [all_bl]
    simp only [run_ok, run_exc, run_bad, run_ofO, run_ofB, run_var, run_peek, run_lit, run_op2, run_op1, run_idx, run_tru, run_not, run_and, run_or, run_ite, run_bl, run_asB, run_andV, run_orV, run_nil, run_cons, run_tup, run_lst, run_star, run_dict, run_noPart, run_part, run_slc, run_chain, run_call, run_meth, run_fn, run_fnK, run_fnL, run_caught, run_iter, run_enum, run_rng, run_rng2, run_zip, run_comp, run_yes, run_seq, run_skip, run_set, run_setO, run_setC, run_par, run_ret, run_retN, run_retO, run_ifS, run_drop, run_raise, run_break, run_cont, run_tgt, run_frz, run_for, run_subC, run_subO, run_own, run_mkF, kOpB, kOpA, kOp1, kIxB, kIxA, kTru, kNot, kAnd, kOr, kIte, kBl, kAsB, kAndV, kOrV, kConsB, kConsA, kTup, kLst, kStarB, kStarA, kDict, kPart, kSlC, kSlB, kSlA, kChC, kChB, kChA, kCall, kMeB, kMeA, kFn, kFnKB, kFnKA, kFnLA, kCaughtE, kCaughtQ, kIter, kEnum, kRng, kRng2B, kRng2A, kZipB, kZipA, kCmpB, kCmp, kSet, kSetO, kSetC, kParB, kParA, kRetE, kIf, kDrop, kTgt, kFor, kSubCC, kSubCB, kSubCA, kSubOB, kSubOA, kOwnB, kOwnA, kRet, kSeq_nx, kSeq_rt, kSeq_bk, kSeq_ct, opt_some, opt_none, opt_if, opt_map, opt_bind, slV_val, slO_own, slP_val, slP_own, cond_true, cond_false, List.getElem?_cons_zero, List.getElem?_cons_succ, List.set_cons_zero, List.set_cons_succ, List.replicate_succ, List.replicate_zero, List.map_cons, List.map_nil, List.cons_append, List.nil_append, List.length_cons, List.length_map, List.length_nil, Nat.reduceAdd, Nat.reduceSub, Nat.zero_add, Int.toNat_natCast, bindT, bindTs, itemsD, wipeD, slo, frz, permD, true_and, and_true, Bool.not_true, Bool.not_false]
    rfl
  · rw [decide_eq_false (by omega : ¬ (w.length : Int) ≤ 24), decide_eq_false h24]
    rfl
theorem q_wf_ok (h : Wd w) (hl : w.length ≤ 24) : f_is_word_form [.str w] S = .ok (.bl true) S := by
  rw [q_wf (by omega), decide_eq_true hl]
  have : (w.all fun c => decide (c ∈ [97, 98, 99, 100, 101, 102])) = true := by
    rw [List.all_eq_true]
    intro c hc
    have := h c hc
    simpa using this
  rw [this]
  rfl
theorem q_lf_ok (h : Lot ws n) : f_is_lot_form [.tup (ws.map .str)] S = .ok (.bl true) S := by
  apply Run.eq_of
  simp only [f_is_lot_form, b_is_lot_form, run_ok, run_exc, run_bad, run_ofO, run_ofB, run_var, run_peek, run_lit, run_op2, run_op1, run_idx, run_tru, run_not, run_and, run_or, run_ite, run_bl, run_asB, run_andV, run_orV, run_nil, run_cons, run_tup, run_lst, run_star, run_dict, run_noPart, run_part, run_slc, run_chain, run_call, run_meth, run_fn, run_fnK, run_fnL, run_caught, run_iter, run_enum, run_rng, run_rng2, run_zip, run_comp, run_yes, run_seq, run_skip, run_set, run_setO, run_setC, run_par, run_ret, run_retN, run_retO, run_ifS, run_drop, run_raise, run_break, run_cont, run_tgt, run_frz, run_for, run_subC, run_subO, run_own, run_mkF, kOpB, kOpA, kOp1, kIxB, kIxA, kTru, kNot, kAnd, kOr, kIte, kBl, kAsB, kAndV, kOrV, kConsB, kConsA, kTup, kLst, kStarB, kStarA, kDict, kPart, kSlC, kSlB, kSlA, kChC, kChB, kChA, kCall, kMeB, kMeA, kFn, kFnKB, kFnKA, kFnLA, kCaughtE, kCaughtQ, kIter, kEnum, kRng, kRng2B, kRng2A, kZipB, kZipA, kCmpB, kCmp, kSet, kSetO, kSetC, kParB, kParA, kRetE, kIf, kDrop, kTgt, kFor, kSubCC, kSubCB, kSubCA, kSubOB, kSubOA, kOwnB, kOwnA, kRet, kSeq_nx, kSeq_rt, kSeq_bk, kSeq_ct, opt_some, opt_none, opt_if, opt_map, opt_bind, slV_val, slO_own, slP_val, slP_own, cond_true, cond_false, List.getElem?_cons_zero, List.getElem?_cons_succ, List.set_cons_zero, List.set_cons_succ, List.replicate_succ, List.replicate_zero, List.map_cons, List.map_nil, List.cons_append, List.nil_append, List.length_cons, List.length_map, List.length_nil, Nat.reduceAdd, Nat.reduceSub, Nat.zero_add, Int.toNat_natCast, bindT, bindTs, itemsD, wipeD, slo, frz, permD, true_and, and_true, Bool.not_true, Bool.not_false, oo_add_i, oo_add_str, oo_add_tup, oo_add_lst, oo_sub_i, oo_mul_i, oo_mul_s, oo_mul_t, oo_mul_l, oo_rep_l, oo_cat_l, oo_fdiv, oo_mod, oo_pow, oo_neg, oo_lt_i, oo_le_i, oo_gt_i, oo_ge_i, oo_lt_s, oo_gt_s, oo_le_s, oo_ge_s, oo_is, oo_isnt, oo_isn_non, oo_isn_bl, oo_isn_int, oo_isn_str, oo_isn_tup, oo_isn_lst, oo_isn_dic, oo_tru_non, oo_tru_bl, oo_tru_int, oo_tru_str, oo_tru_tup, oo_tru_lst, oo_len_str, oo_len_tup, oo_len_lst, oo_len_scr, oo_len_dic, oo_sum, oo_max_l, oo_max_2, oo_min_l, oo_min_2, oo_all, oo_any, oo_abs, oo_int_i, oo_int_b, oo_tup_t, oo_tup_l, oo_lstF_t, oo_lstF_l, oo_lstF2_t, oo_lstF2_l, oo_lstF2_s, oo_lstF2_r, oo_nJoin, oo_nIndex, oo_join_lst, oo_join_tup, oo_index, oo_it_tup, oo_it_lst, oo_it_str, oo_it_scr, oo_ix_tup, oo_ix_lst, oo_ix_str, oo_ix_whole, oo_put_whole, oo_ix_cells, oo_put_cells, oo_ix_count, oo_put_count, oo_put_l, oo_app, oo_slc_t, oo_slc_l, oo_slc_s, oo_isi_ty, oo_isi_ex, oo_isi_non_bool, oo_isi_non_int, oo_isi_non_str, oo_isi_non_tuple, oo_isi_non_list, oo_isi_non_dict, oo_isi_bl_bool, oo_isi_bl_int, oo_isi_bl_str, oo_isi_bl_tuple, oo_isi_bl_list, oo_isi_bl_dict, oo_isi_int_bool, oo_isi_int_int, oo_isi_int_str, oo_isi_int_tuple, oo_isi_int_list, oo_isi_int_dict, oo_isi_str_bool, oo_isi_str_int, oo_isi_str_str, oo_isi_str_tuple, oo_isi_str_list, oo_isi_str_dict, oo_isi_tup_bool, oo_isi_tup_int, oo_isi_tup_str, oo_isi_tup_tuple, oo_isi_tup_list, oo_isi_tup_dict, oo_isi_lst_bool, oo_isi_lst_int, oo_isi_lst_str, oo_isi_lst_tuple, oo_isi_lst_list, oo_isi_lst_dict, oo_isi_dic_bool, oo_isi_dic_int, oo_isi_dic_str, oo_isi_dic_tuple, oo_isi_dic_list, oo_isi_dic_dict, oo_in_c, oo_inD, oo_ninD]
  obtain ⟨h1, h2, h3, h4⟩ := id h
  obtain ⟨v0, r, e0, hv0, hw0⟩ := h.head
  rw [decide_eq_true (by omega : (1 : Int) ≤ (ws.length : Int)), decide_eq_true (by omega : (ws.length : Int) ≤ 20)]
  simp only [run_ok, run_exc, run_bad, run_ofO, run_ofB, run_var, run_peek, run_lit, run_op2, run_op1, run_idx, run_tru, run_not, run_and, run_or, run_ite, run_bl, run_asB, run_andV, run_orV, run_nil, run_cons, run_tup, run_lst, run_star, run_dict, run_noPart, run_part, run_slc, run_chain, run_call, run_meth, run_fn, run_fnK, run_fnL, run_caught, run_iter, run_enum, run_rng, run_rng2, run_zip, run_comp, run_yes, run_seq, run_skip, run_set, run_setO, run_setC, run_par, run_ret, run_retN, run_retO, run_ifS, run_drop, run_raise, run_break, run_cont, run_tgt, run_frz, run_for, run_subC, run_subO, run_own, run_mkF, kOpB, kOpA, kOp1, kIxB, kIxA, kTru, kNot, kAnd, kOr, kIte, kBl, kAsB, kAndV, kOrV, kConsB, kConsA, kTup, kLst, kStarB, kStarA, kDict, kPart, kSlC, kSlB, kSlA, kChC, kChB, kChA, kCall, kMeB, kMeA, kFn, kFnKB, kFnKA, kFnLA, kCaughtE, kCaughtQ, kIter, kEnum, kRng, kRng2B, kRng2A, kZipB, kZipA, kCmpB, kCmp, kSet, kSetO, kSetC, kParB, kParA, kRetE, kIf, kDrop, kTgt, kFor, kSubCC, kSubCB, kSubCA, kSubOB, kSubOA, kOwnB, kOwnA, kRet, kSeq_nx, kSeq_rt, kSeq_bk, kSeq_ct, opt_some, opt_none, opt_if, opt_map, opt_bind, slV_val, slO_own, slP_val, slP_own, cond_true, cond_false, List.getElem?_cons_zero, List.getElem?_cons_succ, List.set_cons_zero, List.set_cons_succ, List.replicate_succ, List.replicate_zero, List.map_cons, List.map_nil, List.cons_append, List.nil_append, List.length_cons, List.length_map, List.length_nil, Nat.reduceAdd, Nat.reduceSub, Nat.zero_add, Int.toNat_natCast, bindT, bindTs, itemsD, wipeD, slo, frz, permD, true_and, and_true, Bool.not_true, Bool.not_false]
  refine ⟨le_big (by omega), ?_⟩
  rw [coll_map (v := fun _ => .bl true) (fun v hv => by
      apply Run.eq_of
      simp only [run_one, run_ok, run_exc, run_bad, run_ofO, run_ofB, run_var, run_peek, run_lit, run_op2, run_op1, run_idx, run_tru, run_not, run_and, run_or, run_ite, run_bl, run_asB, run_andV, run_orV, run_nil, run_cons, run_tup, run_lst, run_star, run_dict, run_noPart, run_part, run_slc, run_chain, run_call, run_meth, run_fn, run_fnK, run_fnL, run_caught, run_iter, run_enum, run_rng, run_rng2, run_zip, run_comp, run_yes, run_seq, run_skip, run_set, run_setO, run_setC, run_par, run_ret, run_retN, run_retO, run_ifS, run_drop, run_raise, run_break, run_cont, run_tgt, run_frz, run_for, run_subC, run_subO, run_own, run_mkF, kOpB, kOpA, kOp1, kIxB, kIxA, kTru, kNot, kAnd, kOr, kIte, kBl, kAsB, kAndV, kOrV, kConsB, kConsA, kTup, kLst, kStarB, kStarA, kDict, kPart, kSlC, kSlB, kSlA, kChC, kChB, kChA, kCall, kMeB, kMeA, kFn, kFnKB, kFnKA, kFnLA, kCaughtE, kCaughtQ, kIter, kEnum, kRng, kRng2B, kRng2A, kZipB, kZipA, kCmpB, kCmp, kSet, kSetO, kSetC, kParB, kParA, kRetE, kIf, kDrop, kTgt, kFor, kSubCC, kSubCB, kSubCA, kSubOB, kSubOA, kOwnB, kOwnA, kRet, kSeq_nx, kSeq_rt, kSeq_bk, kSeq_ct, opt_some, opt_none, opt_if, opt_map, opt_bind, slV_val, slO_own, slP_val, slP_own, cond_true, cond_false, List.getElem?_cons_zero, List.getElem?_cons_succ, List.set_cons_zero, List.set_cons_succ, List.replicate_succ, List.replicate_zero, List.map_cons, List.map_nil, List.cons_append, List.nil_append, List.length_cons, List.length_map, List.length_nil, Nat.reduceAdd, Nat.reduceSub, Nat.zero_add, Int.toNat_natCast, bindT, bindTs, itemsD, wipeD, slo, frz, permD, true_and, and_true, Bool.not_true, Bool.not_false, oo_add_i, oo_add_str, oo_add_tup, oo_add_lst, oo_sub_i, oo_mul_i, oo_mul_s, oo_mul_t, oo_mul_l, oo_rep_l, oo_cat_l, oo_fdiv, oo_mod, oo_pow, oo_neg, oo_lt_i, oo_le_i, oo_gt_i, oo_ge_i, oo_lt_s, oo_gt_s, oo_le_s, oo_ge_s, oo_is, oo_isnt, oo_isn_non, oo_isn_bl, oo_isn_int, oo_isn_str, oo_isn_tup, oo_isn_lst, oo_isn_dic, oo_tru_non, oo_tru_bl, oo_tru_int, oo_tru_str, oo_tru_tup, oo_tru_lst, oo_len_str, oo_len_tup, oo_len_lst, oo_len_scr, oo_len_dic, oo_sum, oo_max_l, oo_max_2, oo_min_l, oo_min_2, oo_all, oo_any, oo_abs, oo_int_i, oo_int_b, oo_tup_t, oo_tup_l, oo_lstF_t, oo_lstF_l, oo_lstF2_t, oo_lstF2_l, oo_lstF2_s, oo_lstF2_r, oo_nJoin, oo_nIndex, oo_join_lst, oo_join_tup, oo_index, oo_it_tup, oo_it_lst, oo_it_str, oo_it_scr, oo_ix_tup, oo_ix_lst, oo_ix_str, oo_ix_whole, oo_put_whole, oo_ix_cells, oo_put_cells, oo_ix_count, oo_put_count, oo_put_l, oo_app, oo_slc_t, oo_slc_l, oo_slc_s, oo_isi_ty, oo_isi_ex, oo_isi_non_bool, oo_isi_non_int, oo_isi_non_str, oo_isi_non_tuple, oo_isi_non_list, oo_isi_non_dict, oo_isi_bl_bool, oo_isi_bl_int, oo_isi_bl_str, oo_isi_bl_tuple, oo_isi_bl_list, oo_isi_bl_dict, oo_isi_int_bool, oo_isi_int_int, oo_isi_int_str, oo_isi_int_tuple, oo_isi_int_list, oo_isi_int_dict, oo_isi_str_bool, oo_isi_str_int, oo_isi_str_str, oo_isi_str_tuple, oo_isi_str_list, oo_isi_str_dict, oo_isi_tup_bool, oo_isi_tup_int, oo_isi_tup_str, oo_isi_tup_tuple, oo_isi_tup_list, oo_isi_tup_dict, oo_isi_lst_bool, oo_isi_lst_int, oo_isi_lst_str, oo_isi_lst_tuple, oo_isi_lst_list, oo_isi_lst_dict, oo_isi_dic_bool, oo_isi_dic_int, oo_isi_dic_str, oo_isi_dic_tuple, oo_isi_dic_list, oo_isi_dic_dict, oo_in_c, oo_inD, oo_ninD, kOneA, kOneB, q_wf_ok (h4 v hv).2 (by have := (h4 v hv).1; omega)])]
  simp only [run_ok, run_exc, run_bad, run_ofO, run_ofB, run_var, run_peek, run_lit, run_op2, run_op1, run_idx, run_tru, run_not, run_and, run_or, run_ite, run_bl, run_asB, run_andV, run_orV, run_nil, run_cons, run_tup, run_lst, run_star, run_dict, run_noPart, run_part, run_slc, run_chain, run_call, run_meth, run_fn, run_fnK, run_fnL, run_caught, run_iter, run_enum, run_rng, run_rng2, run_zip, run_comp, run_yes, run_seq, run_skip, run_set, run_setO, run_setC, run_par, run_ret, run_retN, run_retO, run_ifS, run_drop, run_raise, run_break, run_cont, run_tgt, run_frz, run_for, run_subC, run_subO, run_own, run_mkF, kOpB, kOpA, kOp1, kIxB, kIxA, kTru, kNot, kAnd, kOr, kIte, kBl, kAsB, kAndV, kOrV, kConsB, kConsA, kTup, kLst, kStarB, kStarA, kDict, kPart, kSlC, kSlB, kSlA, kChC, kChB, kChA, kCall, kMeB, kMeA, kFn, kFnKB, kFnKA, kFnLA, kCaughtE, kCaughtQ, kIter, kEnum, kRng, kRng2B, kRng2A, kZipB, kZipA, kCmpB, kCmp, kSet, kSetO, kSetC, kParB, kParA, kRetE, kIf, kDrop, kTgt, kFor, kSubCC, kSubCB, kSubCA, kSubOB, kSubOA, kOwnB, kOwnA, kRet, kSeq_nx, kSeq_rt, kSeq_bk, kSeq_ct, opt_some, opt_none, opt_if, opt_map, opt_bind, slV_val, slO_own, slP_val, slP_own, cond_true, cond_false, List.getElem?_cons_zero, List.getElem?_cons_succ, List.set_cons_zero, List.set_cons_succ, List.replicate_succ, List.replicate_zero, List.map_cons, List.map_nil, List.cons_append, List.nil_append, List.length_cons, List.length_map, List.length_nil, Nat.reduceAdd, Nat.reduceSub, Nat.zero_add, Int.toNat_natCast, bindT, bindTs, itemsD, wipeD, slo, frz, permD, true_and, and_true, Bool.not_true, Bool.not_false]
  rw [all_yes]
  simp only [run_ok, run_exc, run_bad, run_ofO, run_ofB, run_var, run_peek, run_lit, run_op2, run_op1, run_idx, run_tru, run_not, run_and, run_or, run_ite, run_bl, run_asB, run_andV, run_orV, run_nil, run_cons, run_tup, run_lst, run_star, run_dict, run_noPart, run_part, run_slc, run_chain, run_call, run_meth, run_fn, run_fnK, run_fnL, run_caught, run_iter, run_enum, run_rng, run_rng2, run_zip, run_comp, run_yes, run_seq, run_skip, run_set, run_setO, run_setC, run_par, run_ret, run_retN, run_retO, run_ifS, run_drop, run_raise, run_break, run_cont, run_tgt, run_frz, run_for, run_subC, run_subO, run_own, run_mkF, kOpB, kOpA, kOp1, kIxB, kIxA, kTru, kNot, kAnd, kOr, kIte, kBl, kAsB, kAndV, kOrV, kConsB, kConsA, kTup, kLst, kStarB, kStarA, kDict, kPart, kSlC, kSlB, kSlA, kChC, kChB, kChA, kCall, kMeB, kMeA, kFn, kFnKB, kFnKA, kFnLA, kCaughtE, kCaughtQ, kIter, kEnum, kRng, kRng2B, kRng2A, kZipB, kZipA, kCmpB, kCmp, kSet, kSetO, kSetC, kParB, kParA, kRetE, kIf, kDrop, kTgt, kFor, kSubCC, kSubCB, kSubCA, kSubOB, kSubOA, kOwnB, kOwnA, kRet, kSeq_nx, kSeq_rt, kSeq_bk, kSeq_ct, opt_some, opt_none, opt_if, opt_map, opt_bind, slV_val, slO_own, slP_val, slP_own, cond_true, cond_false, List.getElem?_cons_zero, List.getElem?_cons_succ, List.set_cons_zero, List.set_cons_succ, List.replicate_succ, List.replicate_zero, List.map_cons, List.map_nil, List.cons_append, List.nil_append, List.length_cons, List.length_map, List.length_nil, Nat.reduceAdd, Nat.reduceSub, Nat.zero_add, Int.toNat_natCast, bindT, bindTs, itemsD, wipeD, slo, frz, permD, true_and, and_true, Bool.not_true, Bool.not_false, oo_add_i, oo_add_str, oo_add_tup, oo_add_lst, oo_sub_i, oo_mul_i, oo_mul_s, oo_mul_t, oo_mul_l, oo_rep_l, oo_cat_l, oo_fdiv, oo_mod, oo_pow, oo_neg, oo_lt_i, oo_le_i, oo_gt_i, oo_ge_i, oo_lt_s, oo_gt_s, oo_le_s, oo_ge_s, oo_is, oo_isnt, oo_isn_non, oo_isn_bl, oo_isn_int, oo_isn_str, oo_isn_tup, oo_isn_lst, oo_isn_dic, oo_tru_non, oo_tru_bl, oo_tru_int, oo_tru_str, oo_tru_tup, oo_tru_lst, oo_len_str, oo_len_tup, oo_len_lst, oo_len_scr, oo_len_dic, oo_sum, oo_max_l, oo_max_2, oo_min_l, oo_min_2, oo_all, oo_any, oo_abs, oo_int_i, oo_int_b, oo_tup_t, oo_tup_l, oo_lstF_t, oo_lstF_l, oo_lstF2_t, oo_lstF2_l, oo_lstF2_s, oo_lstF2_r, oo_nJoin, oo_nIndex, oo_join_lst, oo_join_tup, oo_index, oo_it_tup, oo_it_lst, oo_it_str, oo_it_scr, oo_ix_tup, oo_ix_lst, oo_ix_str, oo_ix_whole, oo_put_whole, oo_ix_cells, oo_put_cells, oo_ix_count, oo_put_count, oo_put_l, oo_app, oo_slc_t, oo_slc_l, oo_slc_s, oo_isi_ty, oo_isi_ex, oo_isi_non_bool, oo_isi_non_int, oo_isi_non_str, oo_isi_non_tuple, oo_isi_non_list, oo_isi_non_dict, oo_isi_bl_bool, oo_isi_bl_int, oo_isi_bl_str, oo_isi_bl_tuple, oo_isi_bl_list, oo_isi_bl_dict, oo_isi_int_bool, oo_isi_int_int, oo_isi_int_str, oo_isi_int_tuple, oo_isi_int_list, oo_isi_int_dict, oo_isi_str_bool, oo_isi_str_int, oo_isi_str_str, oo_isi_str_tuple, oo_isi_str_list, oo_isi_str_dict, oo_isi_tup_bool, oo_isi_tup_int, oo_isi_tup_str, oo_isi_tup_tuple, oo_isi_tup_list, oo_isi_tup_dict, oo_isi_lst_bool, oo_isi_lst_int, oo_isi_lst_str, oo_isi_lst_tuple, oo_isi_lst_list, oo_isi_lst_dict, oo_isi_dic_bool, oo_isi_dic_int, oo_isi_dic_str, oo_isi_dic_tuple, oo_isi_dic_list, oo_isi_dic_dict, oo_in_c, oo_inD, oo_ninD]
  refine ⟨le_big (by omega), ?_⟩
  rw [coll_map (v := fun _ => .bl true) (fun v hv => by
      apply Run.eq_of
      have l1 := (h4 v hv).1
      have l2 : v.length ≤ big := le_big (by omega)
      have l3 : v0.length ≤ big := le_big (by omega)
      have l4 : ws.length ≤ big := le_big (by omega)
      have e2 : atI (ws.map D.str) 0 = some (.str v0) := by
        rw [atI_nat (by omega) (by rw [List.length_map]; omega), e0]
        rfl
      simp only [run_one, run_ok, run_exc, run_bad, run_ofO, run_ofB, run_var, run_peek, run_lit, run_op2, run_op1, run_idx, run_tru, run_not, run_and, run_or, run_ite, run_bl, run_asB, run_andV, run_orV, run_nil, run_cons, run_tup, run_lst, run_star, run_dict, run_noPart, run_part, run_slc, run_chain, run_call, run_meth, run_fn, run_fnK, run_fnL, run_caught, run_iter, run_enum, run_rng, run_rng2, run_zip, run_comp, run_yes, run_seq, run_skip, run_set, run_setO, run_setC, run_par, run_ret, run_retN, run_retO, run_ifS, run_drop, run_raise, run_break, run_cont, run_tgt, run_frz, run_for, run_subC, run_subO, run_own, run_mkF, kOpB, kOpA, kOp1, kIxB, kIxA, kTru, kNot, kAnd, kOr, kIte, kBl, kAsB, kAndV, kOrV, kConsB, kConsA, kTup, kLst, kStarB, kStarA, kDict, kPart, kSlC, kSlB, kSlA, kChC, kChB, kChA, kCall, kMeB, kMeA, kFn, kFnKB, kFnKA, kFnLA, kCaughtE, kCaughtQ, kIter, kEnum, kRng, kRng2B, kRng2A, kZipB, kZipA, kCmpB, kCmp, kSet, kSetO, kSetC, kParB, kParA, kRetE, kIf, kDrop, kTgt, kFor, kSubCC, kSubCB, kSubCA, kSubOB, kSubOA, kOwnB, kOwnA, kRet, kSeq_nx, kSeq_rt, kSeq_bk, kSeq_ct, opt_some, opt_none, opt_if, opt_map, opt_bind, slV_val, slO_own, slP_val, slP_own, cond_true, cond_false, List.getElem?_cons_zero, List.getElem?_cons_succ, List.set_cons_zero, List.set_cons_succ, List.replicate_succ, List.replicate_zero, List.map_cons, List.map_nil, List.cons_append, List.nil_append, List.length_cons, List.length_map, List.length_nil, Nat.reduceAdd, Nat.reduceSub, Nat.zero_add, Int.toNat_natCast, bindT, bindTs, itemsD, wipeD, slo, frz, permD, true_and, and_true, Bool.not_true, Bool.not_false, oo_add_i, oo_add_str, oo_add_tup, oo_add_lst, oo_sub_i, oo_mul_i, oo_mul_s, oo_mul_t, oo_mul_l, oo_rep_l, oo_cat_l, oo_fdiv, oo_mod, oo_pow, oo_neg, oo_lt_i, oo_le_i, oo_gt_i, oo_ge_i, oo_lt_s, oo_gt_s, oo_le_s, oo_ge_s, oo_is, oo_isnt, oo_isn_non, oo_isn_bl, oo_isn_int, oo_isn_str, oo_isn_tup, oo_isn_lst, oo_isn_dic, oo_tru_non, oo_tru_bl, oo_tru_int, oo_tru_str, oo_tru_tup, oo_tru_lst, oo_len_str, oo_len_tup, oo_len_lst, oo_len_scr, oo_len_dic, oo_sum, oo_max_l, oo_max_2, oo_min_l, oo_min_2, oo_all, oo_any, oo_abs, oo_int_i, oo_int_b, oo_tup_t, oo_tup_l, oo_lstF_t, oo_lstF_l, oo_lstF2_t, oo_lstF2_l, oo_lstF2_s, oo_lstF2_r, oo_nJoin, oo_nIndex, oo_join_lst, oo_join_tup, oo_index, oo_it_tup, oo_it_lst, oo_it_str, oo_it_scr, oo_ix_tup, oo_ix_lst, oo_ix_str, oo_ix_whole, oo_put_whole, oo_ix_cells, oo_put_cells, oo_ix_count, oo_put_count, oo_put_l, oo_app, oo_slc_t, oo_slc_l, oo_slc_s, oo_isi_ty, oo_isi_ex, oo_isi_non_bool, oo_isi_non_int, oo_isi_non_str, oo_isi_non_tuple, oo_isi_non_list, oo_isi_non_dict, oo_isi_bl_bool, oo_isi_bl_int, oo_isi_bl_str, oo_isi_bl_tuple, oo_isi_bl_list, oo_isi_bl_dict, oo_isi_int_bool, oo_isi_int_int, oo_isi_int_str, oo_isi_int_tuple, oo_isi_int_list, oo_isi_int_dict, oo_isi_str_bool, oo_isi_str_int, oo_isi_str_str, oo_isi_str_tuple, oo_isi_str_list, oo_isi_str_dict, oo_isi_tup_bool, oo_isi_tup_int, oo_isi_tup_str, oo_isi_tup_tuple, oo_isi_tup_list, oo_isi_tup_dict, oo_isi_lst_bool, oo_isi_lst_int, oo_isi_lst_str, oo_isi_lst_tuple, oo_isi_lst_list, oo_isi_lst_dict, oo_isi_dic_bool, oo_isi_dic_int, oo_isi_dic_str, oo_isi_dic_tuple, oo_isi_dic_list, oo_isi_dic_dict, oo_in_c, oo_inD, oo_ninD, kOneA, kOneB, e2, eq_int, l1, hv0]
      refine ⟨le_big (by omega), l4, le_big (by omega), ?_⟩
      simp)]
  simp only [run_ok, run_exc, run_bad, run_ofO, run_ofB, run_var, run_peek, run_lit, run_op2, run_op1, run_idx, run_tru, run_not, run_and, run_or, run_ite, run_bl, run_asB, run_andV, run_orV, run_nil, run_cons, run_tup, run_lst, run_star, run_dict, run_noPart, run_part, run_slc, run_chain, run_call, run_meth, run_fn, run_fnK, run_fnL, run_caught, run_iter, run_enum, run_rng, run_rng2, run_zip, run_comp, run_yes, run_seq, run_skip, run_set, run_setO, run_setC, run_par, run_ret, run_retN, run_retO, run_ifS, run_drop, run_raise, run_break, run_cont, run_tgt, run_frz, run_for, run_subC, run_subO, run_own, run_mkF, kOpB, kOpA, kOp1, kIxB, kIxA, kTru, kNot, kAnd, kOr, kIte, kBl, kAsB, kAndV, kOrV, kConsB, kConsA, kTup, kLst, kStarB, kStarA, kDict, kPart, kSlC, kSlB, kSlA, kChC, kChB, kChA, kCall, kMeB, kMeA, kFn, kFnKB, kFnKA, kFnLA, kCaughtE, kCaughtQ, kIter, kEnum, kRng, kRng2B, kRng2A, kZipB, kZipA, kCmpB, kCmp, kSet, kSetO, kSetC, kParB, kParA, kRetE, kIf, kDrop, kTgt, kFor, kSubCC, kSubCB, kSubCA, kSubOB, kSubOA, kOwnB, kOwnA, kRet, kSeq_nx, kSeq_rt, kSeq_bk, kSeq_ct, opt_some, opt_none, opt_if, opt_map, opt_bind, slV_val, slO_own, slP_val, slP_own, cond_true, cond_false, List.getElem?_cons_zero, List.getElem?_cons_succ, List.set_cons_zero, List.set_cons_succ, List.replicate_succ, List.replicate_zero, List.map_cons, List.map_nil, List.cons_append, List.nil_append, List.length_cons, List.length_map, List.length_nil, Nat.reduceAdd, Nat.reduceSub, Nat.zero_add, Int.toNat_natCast, bindT, bindTs, itemsD, wipeD, slo, frz, permD, true_and, and_true, Bool.not_true, Bool.not_false]
  rw [all_yes]
  simp only [run_ok, run_exc, run_bad, run_ofO, run_ofB, run_var, run_peek, run_lit, run_op2, run_op1, run_idx, run_tru, run_not, run_and, run_or, run_ite, run_bl, run_asB, run_andV, run_orV, run_nil, run_cons, run_tup, run_lst, run_star, run_dict, run_noPart, run_part, run_slc, run_chain, run_call, run_meth, run_fn, run_fnK, run_fnL, run_caught, run_iter, run_enum, run_rng, run_rng2, run_zip, run_comp, run_yes, run_seq, run_skip, run_set, run_setO, run_setC, run_par, run_ret, run_retN, run_retO, run_ifS, run_drop, run_raise, run_break, run_cont, run_tgt, run_frz, run_for, run_subC, run_subO, run_own, run_mkF, kOpB, kOpA, kOp1, kIxB, kIxA, kTru, kNot, kAnd, kOr, kIte, kBl, kAsB, kAndV, kOrV, kConsB, kConsA, kTup, kLst, kStarB, kStarA, kDict, kPart, kSlC, kSlB, kSlA, kChC, kChB, kChA, kCall, kMeB, kMeA, kFn, kFnKB, kFnKA, kFnLA, kCaughtE, kCaughtQ, kIter, kEnum, kRng, kRng2B, kRng2A, kZipB, kZipA, kCmpB, kCmp, kSet, kSetO, kSetC, kParB, kParA, kRetE, kIf, kDrop, kTgt, kFor, kSubCC, kSubCB, kSubCA, kSubOB, kSubOA, kOwnB, kOwnA, kRet, kSeq_nx, kSeq_rt, kSeq_bk, kSeq_ct, opt_some, opt_none, opt_if, opt_map, opt_bind, slV_val, slO_own, slP_val, slP_own, cond_true, cond_false, List.getElem?_cons_zero, List.getElem?_cons_succ, List.set_cons_zero, List.set_cons_succ, List.replicate_succ, List.replicate_zero, List.map_cons, List.map_nil, List.cons_append, List.nil_append, List.length_cons, List.length_map, List.length_nil, Nat.reduceAdd, Nat.reduceSub, Nat.zero_add, Int.toNat_natCast, bindT, bindTs, itemsD, wipeD, slo, frz, permD, true_and, and_true, Bool.not_true, Bool.not_false]
theorem q_need_lot (h : Lot ws n) : f_need_lot [.tup (ws.map .str)] S = .ok .non S := by
  apply Run.eq_of
  simp only [f_need_lot, b_need_lot, run_ok, run_exc, run_bad, run_ofO, run_ofB, run_var, run_peek, run_lit, run_op2, run_op1, run_idx, run_tru, run_not, run_and, run_or, run_ite, run_bl, run_asB, run_andV, run_orV, run_nil, run_cons, run_tup, run_lst, run_star, run_dict, run_noPart, run_part, run_slc, run_chain, run_call, run_meth, run_fn, run_fnK, run_fnL, run_caught, run_iter, run_enum, run_rng, run_rng2, run_zip, run_comp, run_yes, run_seq, run_skip, run_set, run_setO, run_setC, run_par, run_ret, run_retN, run_retO, run_ifS, run_drop, run_raise, run_break, run_cont, run_tgt, run_frz, run_for, run_subC, run_subO, run_own, run_mkF, kOpB, kOpA, kOp1, kIxB, kIxA, kTru, kNot, kAnd, kOr, kIte, kBl, kAsB, kAndV, kOrV, kConsB, kConsA, kTup, kLst, kStarB, kStarA, kDict, kPart, kSlC, kSlB, kSlA, kChC, kChB, kChA, kCall, kMeB, kMeA, kFn, kFnKB, kFnKA, kFnLA, kCaughtE, kCaughtQ, kIter, kEnum, kRng, kRng2B, kRng2A, kZipB, kZipA, kCmpB, kCmp, kSet, kSetO, kSetC, kParB, kParA, kRetE, kIf, kDrop, kTgt, kFor, kSubCC, kSubCB, kSubCA, kSubOB, kSubOA, kOwnB, kOwnA, kRet, kSeq_nx, kSeq_rt, kSeq_bk, kSeq_ct, opt_some, opt_none, opt_if, opt_map, opt_bind, slV_val, slO_own, slP_val, slP_own, cond_true, cond_false, List.getElem?_cons_zero, List.getElem?_cons_succ, List.set_cons_zero, List.set_cons_succ, List.replicate_succ, List.replicate_zero, List.map_cons, List.map_nil, List.cons_append, List.nil_append, List.length_cons, List.length_map, List.length_nil, Nat.reduceAdd, Nat.reduceSub, Nat.zero_add, Int.toNat_natCast, bindT, bindTs, itemsD, wipeD, slo, frz, permD, true_and, and_true, Bool.not_true, Bool.not_false, oo_add_i, oo_add_str, oo_add_tup, oo_add_lst, oo_sub_i, oo_mul_i, oo_mul_s, oo_mul_t, oo_mul_l, oo_rep_l, oo_cat_l, oo_fdiv, oo_mod, oo_pow, oo_neg, oo_lt_i, oo_le_i, oo_gt_i, oo_ge_i, oo_lt_s, oo_gt_s, oo_le_s, oo_ge_s, oo_is, oo_isnt, oo_isn_non, oo_isn_bl, oo_isn_int, oo_isn_str, oo_isn_tup, oo_isn_lst, oo_isn_dic, oo_tru_non, oo_tru_bl, oo_tru_int, oo_tru_str, oo_tru_tup, oo_tru_lst, oo_len_str, oo_len_tup, oo_len_lst, oo_len_scr, oo_len_dic, oo_sum, oo_max_l, oo_max_2, oo_min_l, oo_min_2, oo_all, oo_any, oo_abs, oo_int_i, oo_int_b, oo_tup_t, oo_tup_l, oo_lstF_t, oo_lstF_l, oo_lstF2_t, oo_lstF2_l, oo_lstF2_s, oo_lstF2_r, oo_nJoin, oo_nIndex, oo_join_lst, oo_join_tup, oo_index, oo_it_tup, oo_it_lst, oo_it_str, oo_it_scr, oo_ix_tup, oo_ix_lst, oo_ix_str, oo_ix_whole, oo_put_whole, oo_ix_cells, oo_put_cells, oo_ix_count, oo_put_count, oo_put_l, oo_app, oo_slc_t, oo_slc_l, oo_slc_s, oo_isi_ty, oo_isi_ex, oo_isi_non_bool, oo_isi_non_int, oo_isi_non_str, oo_isi_non_tuple, oo_isi_non_list, oo_isi_non_dict, oo_isi_bl_bool, oo_isi_bl_int, oo_isi_bl_str, oo_isi_bl_tuple, oo_isi_bl_list, oo_isi_bl_dict, oo_isi_int_bool, oo_isi_int_int, oo_isi_int_str, oo_isi_int_tuple, oo_isi_int_list, oo_isi_int_dict, oo_isi_str_bool, oo_isi_str_int, oo_isi_str_str, oo_isi_str_tuple, oo_isi_str_list, oo_isi_str_dict, oo_isi_tup_bool, oo_isi_tup_int, oo_isi_tup_str, oo_isi_tup_tuple, oo_isi_tup_list, oo_isi_tup_dict, oo_isi_lst_bool, oo_isi_lst_int, oo_isi_lst_str, oo_isi_lst_tuple, oo_isi_lst_list, oo_isi_lst_dict, oo_isi_dic_bool, oo_isi_dic_int, oo_isi_dic_str, oo_isi_dic_tuple, oo_isi_dic_list, oo_isi_dic_dict, oo_in_c, oo_inD, oo_ninD, q_lf_ok h]
theorem head_at (h : Lot ws n) : ∃ v0 : List Nat, atI (ws.map D.str) 0 = some (.str v0) ∧ v0.length = n := by
  obtain ⟨h1, h2, h3, h4⟩ := id h
  obtain ⟨v0, r, e0, hv0, hw0⟩ := h.head
  exact ⟨v0, by rw [atI_nat (by omega) (by rw [List.length_map]; omega), e0]; rfl, hv0⟩
theorem q_need_own (h : Lot ws n) (hw : Wd w) (hl : w.length = n) : f_need_own_word [.tup (ws.map .str), .str w] S = .ok .non S := by
  apply Run.eq_of
  obtain ⟨h1, h2, h3, h4⟩ := id h
  obtain ⟨v0, e, hv⟩ := head_at h
  simp only [f_need_own_word, b_need_own_word, run_ok, run_exc, run_bad, run_ofO, run_ofB, run_var, run_peek, run_lit, run_op2, run_op1, run_idx, run_tru, run_not, run_and, run_or, run_ite, run_bl, run_asB, run_andV, run_orV, run_nil, run_cons, run_tup, run_lst, run_star, run_dict, run_noPart, run_part, run_slc, run_chain, run_call, run_meth, run_fn, run_fnK, run_fnL, run_caught, run_iter, run_enum, run_rng, run_rng2, run_zip, run_comp, run_yes, run_seq, run_skip, run_set, run_setO, run_setC, run_par, run_ret, run_retN, run_retO, run_ifS, run_drop, run_raise, run_break, run_cont, run_tgt, run_frz, run_for, run_subC, run_subO, run_own, run_mkF, kOpB, kOpA, kOp1, kIxB, kIxA, kTru, kNot, kAnd, kOr, kIte, kBl, kAsB, kAndV, kOrV, kConsB, kConsA, kTup, kLst, kStarB, kStarA, kDict, kPart, kSlC, kSlB, kSlA, kChC, kChB, kChA, kCall, kMeB, kMeA, kFn, kFnKB, kFnKA, kFnLA, kCaughtE, kCaughtQ, kIter, kEnum, kRng, kRng2B, kRng2A, kZipB, kZipA, kCmpB, kCmp, kSet, kSetO, kSetC, kParB, kParA, kRetE, kIf, kDrop, kTgt, kFor, kSubCC, kSubCB, kSubCA, kSubOB, kSubOA, kOwnB, kOwnA, kRet, kSeq_nx, kSeq_rt, kSeq_bk, kSeq_ct, opt_some, opt_none, opt_if, opt_map, opt_bind, slV_val, slO_own, slP_val, slP_own, cond_true, cond_false, List.getElem?_cons_zero, List.getElem?_cons_succ, List.set_cons_zero, List.set_cons_succ, List.replicate_succ, List.replicate_zero, List.map_cons, List.map_nil, List.cons_append, List.nil_append, List.length_cons, List.length_map, List.length_nil, Nat.reduceAdd, Nat.reduceSub, Nat.zero_add, Int.toNat_natCast, bindT, bindTs, itemsD, wipeD, slo, frz, permD, true_and, and_true, Bool.not_true, Bool.not_false, oo_add_i, oo_add_str, oo_add_tup, oo_add_lst, oo_sub_i, oo_mul_i, oo_mul_s, oo_mul_t, oo_mul_l, oo_rep_l, oo_cat_l, oo_fdiv, oo_mod, oo_pow, oo_neg, oo_lt_i, oo_le_i, oo_gt_i, oo_ge_i, oo_lt_s, oo_gt_s, oo_le_s, oo_ge_s, oo_is, oo_isnt, oo_isn_non, oo_isn_bl, oo_isn_int, oo_isn_str, oo_isn_tup, oo_isn_lst, oo_isn_dic, oo_tru_non, oo_tru_bl, oo_tru_int, oo_tru_str, oo_tru_tup, oo_tru_lst, oo_len_str, oo_len_tup, oo_len_lst, oo_len_scr, oo_len_dic, oo_sum, oo_max_l, oo_max_2, oo_min_l, oo_min_2, oo_all, oo_any, oo_abs, oo_int_i, oo_int_b, oo_tup_t, oo_tup_l, oo_lstF_t, oo_lstF_l, oo_lstF2_t, oo_lstF2_l, oo_lstF2_s, oo_lstF2_r, oo_nJoin, oo_nIndex, oo_join_lst, oo_join_tup, oo_index, oo_it_tup, oo_it_lst, oo_it_str, oo_it_scr, oo_ix_tup, oo_ix_lst, oo_ix_str, oo_ix_whole, oo_put_whole, oo_ix_cells, oo_put_cells, oo_ix_count, oo_put_count, oo_put_l, oo_app, oo_slc_t, oo_slc_l, oo_slc_s, oo_isi_ty, oo_isi_ex, oo_isi_non_bool, oo_isi_non_int, oo_isi_non_str, oo_isi_non_tuple, oo_isi_non_list, oo_isi_non_dict, oo_isi_bl_bool, oo_isi_bl_int, oo_isi_bl_str, oo_isi_bl_tuple, oo_isi_bl_list, oo_isi_bl_dict, oo_isi_int_bool, oo_isi_int_int, oo_isi_int_str, oo_isi_int_tuple, oo_isi_int_list, oo_isi_int_dict, oo_isi_str_bool, oo_isi_str_int, oo_isi_str_str, oo_isi_str_tuple, oo_isi_str_list, oo_isi_str_dict, oo_isi_tup_bool, oo_isi_tup_int, oo_isi_tup_str, oo_isi_tup_tuple, oo_isi_tup_list, oo_isi_tup_dict, oo_isi_lst_bool, oo_isi_lst_int, oo_isi_lst_str, oo_isi_lst_tuple, oo_isi_lst_list, oo_isi_lst_dict, oo_isi_dic_bool, oo_isi_dic_int, oo_isi_dic_str, oo_isi_dic_tuple, oo_isi_dic_list, oo_isi_dic_dict, oo_in_c, oo_inD, oo_ninD, q_wf_ok hw (by omega : w.length ≤ 24), e, ne_int, hl, hv]
  refine ⟨le_big (by omega), le_big (by omega), le_big (by omega), ?_⟩
  simp [kIf, run_skip, kRet]
theorem q_lw (h : Lot ws n) (hw : Wd w) (hl : w.length = n) : f_need_lot_and_word [.tup (ws.map .str), .str w] S = .ok .non S := by
  apply Run.eq_of
  simp only [f_need_lot_and_word, b_need_lot_and_word, run_ok, run_exc, run_bad, run_ofO, run_ofB, run_var, run_peek, run_lit, run_op2, run_op1, run_idx, run_tru, run_not, run_and, run_or, run_ite, run_bl, run_asB, run_andV, run_orV, run_nil, run_cons, run_tup, run_lst, run_star, run_dict, run_noPart, run_part, run_slc, run_chain, run_call, run_meth, run_fn, run_fnK, run_fnL, run_caught, run_iter, run_enum, run_rng, run_rng2, run_zip, run_comp, run_yes, run_seq, run_skip, run_set, run_setO, run_setC, run_par, run_ret, run_retN, run_retO, run_ifS, run_drop, run_raise, run_break, run_cont, run_tgt, run_frz, run_for, run_subC, run_subO, run_own, run_mkF, kOpB, kOpA, kOp1, kIxB, kIxA, kTru, kNot, kAnd, kOr, kIte, kBl, kAsB, kAndV, kOrV, kConsB, kConsA, kTup, kLst, kStarB, kStarA, kDict, kPart, kSlC, kSlB, kSlA, kChC, kChB, kChA, kCall, kMeB, kMeA, kFn, kFnKB, kFnKA, kFnLA, kCaughtE, kCaughtQ, kIter, kEnum, kRng, kRng2B, kRng2A, kZipB, kZipA, kCmpB, kCmp, kSet, kSetO, kSetC, kParB, kParA, kRetE, kIf, kDrop, kTgt, kFor, kSubCC, kSubCB, kSubCA, kSubOB, kSubOA, kOwnB, kOwnA, kRet, kSeq_nx, kSeq_rt, kSeq_bk, kSeq_ct, opt_some, opt_none, opt_if, opt_map, opt_bind, slV_val, slO_own, slP_val, slP_own, cond_true, cond_false, List.getElem?_cons_zero, List.getElem?_cons_succ, List.set_cons_zero, List.set_cons_succ, List.replicate_succ, List.replicate_zero, List.map_cons, List.map_nil, List.cons_append, List.nil_append, List.length_cons, List.length_map, List.length_nil, Nat.reduceAdd, Nat.reduceSub, Nat.zero_add, Int.toNat_natCast, bindT, bindTs, itemsD, wipeD, slo, frz, permD, true_and, and_true, Bool.not_true, Bool.not_false, oo_add_i, oo_add_str, oo_add_tup, oo_add_lst, oo_sub_i, oo_mul_i, oo_mul_s, oo_mul_t, oo_mul_l, oo_rep_l, oo_cat_l, oo_fdiv, oo_mod, oo_pow, oo_neg, oo_lt_i, oo_le_i, oo_gt_i, oo_ge_i, oo_lt_s, oo_gt_s, oo_le_s, oo_ge_s, oo_is, oo_isnt, oo_isn_non, oo_isn_bl, oo_isn_int, oo_isn_str, oo_isn_tup, oo_isn_lst, oo_isn_dic, oo_tru_non, oo_tru_bl, oo_tru_int, oo_tru_str, oo_tru_tup, oo_tru_lst, oo_len_str, oo_len_tup, oo_len_lst, oo_len_scr, oo_len_dic, oo_sum, oo_max_l, oo_max_2, oo_min_l, oo_min_2, oo_all, oo_any, oo_abs, oo_int_i, oo_int_b, oo_tup_t, oo_tup_l, oo_lstF_t, oo_lstF_l, oo_lstF2_t, oo_lstF2_l, oo_lstF2_s, oo_lstF2_r, oo_nJoin, oo_nIndex, oo_join_lst, oo_join_tup, oo_index, oo_it_tup, oo_it_lst, oo_it_str, oo_it_scr, oo_ix_tup, oo_ix_lst, oo_ix_str, oo_ix_whole, oo_put_whole, oo_ix_cells, oo_put_cells, oo_ix_count, oo_put_count, oo_put_l, oo_app, oo_slc_t, oo_slc_l, oo_slc_s, oo_isi_ty, oo_isi_ex, oo_isi_non_bool, oo_isi_non_int, oo_isi_non_str, oo_isi_non_tuple, oo_isi_non_list, oo_isi_non_dict, oo_isi_bl_bool, oo_isi_bl_int, oo_isi_bl_str, oo_isi_bl_tuple, oo_isi_bl_list, oo_isi_bl_dict, oo_isi_int_bool, oo_isi_int_int, oo_isi_int_str, oo_isi_int_tuple, oo_isi_int_list, oo_isi_int_dict, oo_isi_str_bool, oo_isi_str_int, oo_isi_str_str, oo_isi_str_tuple, oo_isi_str_list, oo_isi_str_dict, oo_isi_tup_bool, oo_isi_tup_int, oo_isi_tup_str, oo_isi_tup_tuple, oo_isi_tup_list, oo_isi_tup_dict, oo_isi_lst_bool, oo_isi_lst_int, oo_isi_lst_str, oo_isi_lst_tuple, oo_isi_lst_list, oo_isi_lst_dict, oo_isi_dic_bool, oo_isi_dic_int, oo_isi_dic_str, oo_isi_dic_tuple, oo_isi_dic_list, oo_isi_dic_dict, oo_in_c, oo_inD, oo_ninD, q_need_lot h, q_need_own h hw hl]
theorem q_far (a b : List Nat) (ha : Wd a) (hb : Wd b) (h : a.length = b.length) (hl : b.length ≤ 1000) : f_far_by [.str a, .str b] S = .ok (.int (dist a b)) S := by
  apply Run.eq_of
  simp only [f_far_by, b_far_by, run_ok, run_exc, run_bad, run_ofO, run_ofB, run_var, run_peek, run_lit, run_op2, run_op1, run_idx, run_tru, run_not, run_and, run_or, run_ite, run_bl, run_asB, run_andV, run_orV, run_nil, run_cons, run_tup, run_lst, run_star, run_dict, run_noPart, run_part, run_slc, run_chain, run_call, run_meth, run_fn, run_fnK, run_fnL, run_caught, run_iter, run_enum, run_rng, run_rng2, run_zip, run_comp, run_yes, run_seq, run_skip, run_set, run_setO, run_setC, run_par, run_ret, run_retN, run_retO, run_ifS, run_drop, run_raise, run_break, run_cont, run_tgt, run_frz, run_for, run_subC, run_subO, run_own, run_mkF, kOpB, kOpA, kOp1, kIxB, kIxA, kTru, kNot, kAnd, kOr, kIte, kBl, kAsB, kAndV, kOrV, kConsB, kConsA, kTup, kLst, kStarB, kStarA, kDict, kPart, kSlC, kSlB, kSlA, kChC, kChB, kChA, kCall, kMeB, kMeA, kFn, kFnKB, kFnKA, kFnLA, kCaughtE, kCaughtQ, kIter, kEnum, kRng, kRng2B, kRng2A, kZipB, kZipA, kCmpB, kCmp, kSet, kSetO, kSetC, kParB, kParA, kRetE, kIf, kDrop, kTgt, kFor, kSubCC, kSubCB, kSubCA, kSubOB, kSubOA, kOwnB, kOwnA, kRet, kSeq_nx, kSeq_rt, kSeq_bk, kSeq_ct, opt_some, opt_none, opt_if, opt_map, opt_bind, slV_val, slO_own, slP_val, slP_own, cond_true, cond_false, List.getElem?_cons_zero, List.getElem?_cons_succ, List.set_cons_zero, List.set_cons_succ, List.replicate_succ, List.replicate_zero, List.map_cons, List.map_nil, List.cons_append, List.nil_append, List.length_cons, List.length_map, List.length_nil, Nat.reduceAdd, Nat.reduceSub, Nat.zero_add, Int.toNat_natCast, bindT, bindTs, itemsD, wipeD, slo, frz, permD, true_and, and_true, Bool.not_true, Bool.not_false, oo_add_i, oo_add_str, oo_add_tup, oo_add_lst, oo_sub_i, oo_mul_i, oo_mul_s, oo_mul_t, oo_mul_l, oo_rep_l, oo_cat_l, oo_fdiv, oo_mod, oo_pow, oo_neg, oo_lt_i, oo_le_i, oo_gt_i, oo_ge_i, oo_lt_s, oo_gt_s, oo_le_s, oo_ge_s, oo_is, oo_isnt, oo_isn_non, oo_isn_bl, oo_isn_int, oo_isn_str, oo_isn_tup, oo_isn_lst, oo_isn_dic, oo_tru_non, oo_tru_bl, oo_tru_int, oo_tru_str, oo_tru_tup, oo_tru_lst, oo_len_str, oo_len_tup, oo_len_lst, oo_len_scr, oo_len_dic, oo_sum, oo_max_l, oo_max_2, oo_min_l, oo_min_2, oo_all, oo_any, oo_abs, oo_int_i, oo_int_b, oo_tup_t, oo_tup_l, oo_lstF_t, oo_lstF_l, oo_lstF2_t, oo_lstF2_l, oo_lstF2_s, oo_lstF2_r, oo_nJoin, oo_nIndex, oo_join_lst, oo_join_tup, oo_index, oo_it_tup, oo_it_lst, oo_it_str, oo_it_scr, oo_ix_tup, oo_ix_lst, oo_ix_str, oo_ix_whole, oo_put_whole, oo_ix_cells, oo_put_cells, oo_ix_count, oo_put_count, oo_put_l, oo_app, oo_slc_t, oo_slc_l, oo_slc_s, oo_isi_ty, oo_isi_ex, oo_isi_non_bool, oo_isi_non_int, oo_isi_non_str, oo_isi_non_tuple, oo_isi_non_list, oo_isi_non_dict, oo_isi_bl_bool, oo_isi_bl_int, oo_isi_bl_str, oo_isi_bl_tuple, oo_isi_bl_list, oo_isi_bl_dict, oo_isi_int_bool, oo_isi_int_int, oo_isi_int_str, oo_isi_int_tuple, oo_isi_int_list, oo_isi_int_dict, oo_isi_str_bool, oo_isi_str_int, oo_isi_str_str, oo_isi_str_tuple, oo_isi_str_list, oo_isi_str_dict, oo_isi_tup_bool, oo_isi_tup_int, oo_isi_tup_str, oo_isi_tup_tuple, oo_isi_tup_list, oo_isi_tup_dict, oo_isi_lst_bool, oo_isi_lst_int, oo_isi_lst_str, oo_isi_lst_tuple, oo_isi_lst_list, oo_isi_lst_dict, oo_isi_dic_bool, oo_isi_dic_int, oo_isi_dic_str, oo_isi_dic_tuple, oo_isi_dic_list, oo_isi_dic_dict, oo_in_c, oo_inD, oo_ninD]
  refine ⟨le_big (by rw [enum_len, List.length_map]; omega), ?_⟩
  show Run (mColl _ (enumD 0 (chs a)) S) _ _
  rw [coll_enum (n := 0) (a := a) (b := b) h (fun i c d hc hd hi => by
    apply Run.eq_of
    have e : atI b ((0 + i : Nat) : Int) = some d := by
      have hlt : i < b.length := by
        have := List.getElem?_eq_some_iff.mp hi
        exact this.1
      rw [atI_nat (by omega) (by omega)]
      rw [Int.toNat_natCast, Nat.zero_add]
      exact hi
    simp only [run_one, run_ok, run_exc, run_bad, run_ofO, run_ofB, run_var, run_peek, run_lit, run_op2, run_op1, run_idx, run_tru, run_not, run_and, run_or, run_ite, run_bl, run_asB, run_andV, run_orV, run_nil, run_cons, run_tup, run_lst, run_star, run_dict, run_noPart, run_part, run_slc, run_chain, run_call, run_meth, run_fn, run_fnK, run_fnL, run_caught, run_iter, run_enum, run_rng, run_rng2, run_zip, run_comp, run_yes, run_seq, run_skip, run_set, run_setO, run_setC, run_par, run_ret, run_retN, run_retO, run_ifS, run_drop, run_raise, run_break, run_cont, run_tgt, run_frz, run_for, run_subC, run_subO, run_own, run_mkF, kOpB, kOpA, kOp1, kIxB, kIxA, kTru, kNot, kAnd, kOr, kIte, kBl, kAsB, kAndV, kOrV, kConsB, kConsA, kTup, kLst, kStarB, kStarA, kDict, kPart, kSlC, kSlB, kSlA, kChC, kChB, kChA, kCall, kMeB, kMeA, kFn, kFnKB, kFnKA, kFnLA, kCaughtE, kCaughtQ, kIter, kEnum, kRng, kRng2B, kRng2A, kZipB, kZipA, kCmpB, kCmp, kSet, kSetO, kSetC, kParB, kParA, kRetE, kIf, kDrop, kTgt, kFor, kSubCC, kSubCB, kSubCA, kSubOB, kSubOA, kOwnB, kOwnA, kRet, kSeq_nx, kSeq_rt, kSeq_bk, kSeq_ct, opt_some, opt_none, opt_if, opt_map, opt_bind, slV_val, slO_own, slP_val, slP_own, cond_true, cond_false, List.getElem?_cons_zero, List.getElem?_cons_succ, List.set_cons_zero, List.set_cons_succ, List.replicate_succ, List.replicate_zero, List.map_cons, List.map_nil, List.cons_append, List.nil_append, List.length_cons, List.length_map, List.length_nil, Nat.reduceAdd, Nat.reduceSub, Nat.zero_add, Int.toNat_natCast, bindT, bindTs, itemsD, wipeD, slo, frz, permD, true_and, and_true, Bool.not_true, Bool.not_false, oo_add_i, oo_add_str, oo_add_tup, oo_add_lst, oo_sub_i, oo_mul_i, oo_mul_s, oo_mul_t, oo_mul_l, oo_rep_l, oo_cat_l, oo_fdiv, oo_mod, oo_pow, oo_neg, oo_lt_i, oo_le_i, oo_gt_i, oo_ge_i, oo_lt_s, oo_gt_s, oo_le_s, oo_ge_s, oo_is, oo_isnt, oo_isn_non, oo_isn_bl, oo_isn_int, oo_isn_str, oo_isn_tup, oo_isn_lst, oo_isn_dic, oo_tru_non, oo_tru_bl, oo_tru_int, oo_tru_str, oo_tru_tup, oo_tru_lst, oo_len_str, oo_len_tup, oo_len_lst, oo_len_scr, oo_len_dic, oo_sum, oo_max_l, oo_max_2, oo_min_l, oo_min_2, oo_all, oo_any, oo_abs, oo_int_i, oo_int_b, oo_tup_t, oo_tup_l, oo_lstF_t, oo_lstF_l, oo_lstF2_t, oo_lstF2_l, oo_lstF2_s, oo_lstF2_r, oo_nJoin, oo_nIndex, oo_join_lst, oo_join_tup, oo_index, oo_it_tup, oo_it_lst, oo_it_str, oo_it_scr, oo_ix_tup, oo_ix_lst, oo_ix_str, oo_ix_whole, oo_put_whole, oo_ix_cells, oo_put_cells, oo_ix_count, oo_put_count, oo_put_l, oo_app, oo_slc_t, oo_slc_l, oo_slc_s, oo_isi_ty, oo_isi_ex, oo_isi_non_bool, oo_isi_non_int, oo_isi_non_str, oo_isi_non_tuple, oo_isi_non_list, oo_isi_non_dict, oo_isi_bl_bool, oo_isi_bl_int, oo_isi_bl_str, oo_isi_bl_tuple, oo_isi_bl_list, oo_isi_bl_dict, oo_isi_int_bool, oo_isi_int_int, oo_isi_int_str, oo_isi_int_tuple, oo_isi_int_list, oo_isi_int_dict, oo_isi_str_bool, oo_isi_str_int, oo_isi_str_str, oo_isi_str_tuple, oo_isi_str_list, oo_isi_str_dict, oo_isi_tup_bool, oo_isi_tup_int, oo_isi_tup_str, oo_isi_tup_tuple, oo_isi_tup_list, oo_isi_tup_dict, oo_isi_lst_bool, oo_isi_lst_int, oo_isi_lst_str, oo_isi_lst_tuple, oo_isi_lst_list, oo_isi_lst_dict, oo_isi_dic_bool, oo_isi_dic_int, oo_isi_dic_str, oo_isi_dic_tuple, oo_isi_dic_list, oo_isi_dic_dict, oo_in_c, oo_inD, oo_ninD, kOneA, kOneB]
    rw [Nat.zero_add] at e
    simp only [run_ok, run_exc, run_bad, run_ofO, run_ofB, run_var, run_peek, run_lit, run_op2, run_op1, run_idx, run_tru, run_not, run_and, run_or, run_ite, run_bl, run_asB, run_andV, run_orV, run_nil, run_cons, run_tup, run_lst, run_star, run_dict, run_noPart, run_part, run_slc, run_chain, run_call, run_meth, run_fn, run_fnK, run_fnL, run_caught, run_iter, run_enum, run_rng, run_rng2, run_zip, run_comp, run_yes, run_seq, run_skip, run_set, run_setO, run_setC, run_par, run_ret, run_retN, run_retO, run_ifS, run_drop, run_raise, run_break, run_cont, run_tgt, run_frz, run_for, run_subC, run_subO, run_own, run_mkF, kOpB, kOpA, kOp1, kIxB, kIxA, kTru, kNot, kAnd, kOr, kIte, kBl, kAsB, kAndV, kOrV, kConsB, kConsA, kTup, kLst, kStarB, kStarA, kDict, kPart, kSlC, kSlB, kSlA, kChC, kChB, kChA, kCall, kMeB, kMeA, kFn, kFnKB, kFnKA, kFnLA, kCaughtE, kCaughtQ, kIter, kEnum, kRng, kRng2B, kRng2A, kZipB, kZipA, kCmpB, kCmp, kSet, kSetO, kSetC, kParB, kParA, kRetE, kIf, kDrop, kTgt, kFor, kSubCC, kSubCB, kSubCA, kSubOB, kSubOA, kOwnB, kOwnA, kRet, kSeq_nx, kSeq_rt, kSeq_bk, kSeq_ct, opt_some, opt_none, opt_if, opt_map, opt_bind, slV_val, slO_own, slP_val, slP_own, cond_true, cond_false, List.getElem?_cons_zero, List.getElem?_cons_succ, List.set_cons_zero, List.set_cons_succ, List.replicate_succ, List.replicate_zero, List.map_cons, List.map_nil, List.cons_append, List.nil_append, List.length_cons, List.length_map, List.length_nil, Nat.reduceAdd, Nat.reduceSub, Nat.zero_add, Int.toNat_natCast, bindT, bindTs, itemsD, wipeD, slo, frz, permD, true_and, and_true, Bool.not_true, Bool.not_false, e, ne_chr (ha.lt c hc) (hb.lt d hd), oo_add_i, oo_add_str, oo_add_tup, oo_add_lst, oo_sub_i, oo_mul_i, oo_mul_s, oo_mul_t, oo_mul_l, oo_rep_l, oo_cat_l, oo_fdiv, oo_mod, oo_pow, oo_neg, oo_lt_i, oo_le_i, oo_gt_i, oo_ge_i, oo_lt_s, oo_gt_s, oo_le_s, oo_ge_s, oo_is, oo_isnt, oo_isn_non, oo_isn_bl, oo_isn_int, oo_isn_str, oo_isn_tup, oo_isn_lst, oo_isn_dic, oo_tru_non, oo_tru_bl, oo_tru_int, oo_tru_str, oo_tru_tup, oo_tru_lst, oo_len_str, oo_len_tup, oo_len_lst, oo_len_scr, oo_len_dic, oo_sum, oo_max_l, oo_max_2, oo_min_l, oo_min_2, oo_all, oo_any, oo_abs, oo_int_i, oo_int_b, oo_tup_t, oo_tup_l, oo_lstF_t, oo_lstF_l, oo_lstF2_t, oo_lstF2_l, oo_lstF2_s, oo_lstF2_r, oo_nJoin, oo_nIndex, oo_join_lst, oo_join_tup, oo_index, oo_it_tup, oo_it_lst, oo_it_str, oo_it_scr, oo_ix_tup, oo_ix_lst, oo_ix_str, oo_ix_whole, oo_put_whole, oo_ix_cells, oo_put_cells, oo_ix_count, oo_put_count, oo_put_l, oo_app, oo_slc_t, oo_slc_l, oo_slc_s, oo_isi_ty, oo_isi_ex, oo_isi_non_bool, oo_isi_non_int, oo_isi_non_str, oo_isi_non_tuple, oo_isi_non_list, oo_isi_non_dict, oo_isi_bl_bool, oo_isi_bl_int, oo_isi_bl_str, oo_isi_bl_tuple, oo_isi_bl_list, oo_isi_bl_dict, oo_isi_int_bool, oo_isi_int_int, oo_isi_int_str, oo_isi_int_tuple, oo_isi_int_list, oo_isi_int_dict, oo_isi_str_bool, oo_isi_str_int, oo_isi_str_str, oo_isi_str_tuple, oo_isi_str_list, oo_isi_str_dict, oo_isi_tup_bool, oo_isi_tup_int, oo_isi_tup_str, oo_isi_tup_tuple, oo_isi_tup_list, oo_isi_tup_dict, oo_isi_lst_bool, oo_isi_lst_int, oo_isi_lst_str, oo_isi_lst_tuple, oo_isi_lst_list, oo_isi_lst_dict, oo_isi_dic_bool, oo_isi_dic_int, oo_isi_dic_str, oo_isi_dic_tuple, oo_isi_dic_list, oo_isi_dic_dict, oo_in_c, oo_inD, oo_ninD]
    refine ⟨le_big (by omega), ?_⟩
    by_cases e : c = d
    · subst e; simp
    · simp [e, kOneB])]
  simp only [run_ok, run_exc, run_bad, run_ofO, run_ofB, run_var, run_peek, run_lit, run_op2, run_op1, run_idx, run_tru, run_not, run_and, run_or, run_ite, run_bl, run_asB, run_andV, run_orV, run_nil, run_cons, run_tup, run_lst, run_star, run_dict, run_noPart, run_part, run_slc, run_chain, run_call, run_meth, run_fn, run_fnK, run_fnL, run_caught, run_iter, run_enum, run_rng, run_rng2, run_zip, run_comp, run_yes, run_seq, run_skip, run_set, run_setO, run_setC, run_par, run_ret, run_retN, run_retO, run_ifS, run_drop, run_raise, run_break, run_cont, run_tgt, run_frz, run_for, run_subC, run_subO, run_own, run_mkF, kOpB, kOpA, kOp1, kIxB, kIxA, kTru, kNot, kAnd, kOr, kIte, kBl, kAsB, kAndV, kOrV, kConsB, kConsA, kTup, kLst, kStarB, kStarA, kDict, kPart, kSlC, kSlB, kSlA, kChC, kChB, kChA, kCall, kMeB, kMeA, kFn, kFnKB, kFnKA, kFnLA, kCaughtE, kCaughtQ, kIter, kEnum, kRng, kRng2B, kRng2A, kZipB, kZipA, kCmpB, kCmp, kSet, kSetO, kSetC, kParB, kParA, kRetE, kIf, kDrop, kTgt, kFor, kSubCC, kSubCB, kSubCA, kSubOB, kSubOA, kOwnB, kOwnA, kRet, kSeq_nx, kSeq_rt, kSeq_bk, kSeq_ct, opt_some, opt_none, opt_if, opt_map, opt_bind, slV_val, slO_own, slP_val, slP_own, cond_true, cond_false, List.getElem?_cons_zero, List.getElem?_cons_succ, List.set_cons_zero, List.set_cons_succ, List.replicate_succ, List.replicate_zero, List.map_cons, List.map_nil, List.cons_append, List.nil_append, List.length_cons, List.length_map, List.length_nil, Nat.reduceAdd, Nat.reduceSub, Nat.zero_add, Int.toNat_natCast, bindT, bindTs, itemsD, wipeD, slo, frz, permD, true_and, and_true, Bool.not_true, Bool.not_false, oo_add_i, oo_add_str, oo_add_tup, oo_add_lst, oo_sub_i, oo_mul_i, oo_mul_s, oo_mul_t, oo_mul_l, oo_rep_l, oo_cat_l, oo_fdiv, oo_mod, oo_pow, oo_neg, oo_lt_i, oo_le_i, oo_gt_i, oo_ge_i, oo_lt_s, oo_gt_s, oo_le_s, oo_ge_s, oo_is, oo_isnt, oo_isn_non, oo_isn_bl, oo_isn_int, oo_isn_str, oo_isn_tup, oo_isn_lst, oo_isn_dic, oo_tru_non, oo_tru_bl, oo_tru_int, oo_tru_str, oo_tru_tup, oo_tru_lst, oo_len_str, oo_len_tup, oo_len_lst, oo_len_scr, oo_len_dic, oo_sum, oo_max_l, oo_max_2, oo_min_l, oo_min_2, oo_all, oo_any, oo_abs, oo_int_i, oo_int_b, oo_tup_t, oo_tup_l, oo_lstF_t, oo_lstF_l, oo_lstF2_t, oo_lstF2_l, oo_lstF2_s, oo_lstF2_r, oo_nJoin, oo_nIndex, oo_join_lst, oo_join_tup, oo_index, oo_it_tup, oo_it_lst, oo_it_str, oo_it_scr, oo_ix_tup, oo_ix_lst, oo_ix_str, oo_ix_whole, oo_put_whole, oo_ix_cells, oo_put_cells, oo_ix_count, oo_put_count, oo_put_l, oo_app, oo_slc_t, oo_slc_l, oo_slc_s, oo_isi_ty, oo_isi_ex, oo_isi_non_bool, oo_isi_non_int, oo_isi_non_str, oo_isi_non_tuple, oo_isi_non_list, oo_isi_non_dict, oo_isi_bl_bool, oo_isi_bl_int, oo_isi_bl_str, oo_isi_bl_tuple, oo_isi_bl_list, oo_isi_bl_dict, oo_isi_int_bool, oo_isi_int_int, oo_isi_int_str, oo_isi_int_tuple, oo_isi_int_list, oo_isi_int_dict, oo_isi_str_bool, oo_isi_str_int, oo_isi_str_str, oo_isi_str_tuple, oo_isi_str_list, oo_isi_str_dict, oo_isi_tup_bool, oo_isi_tup_int, oo_isi_tup_str, oo_isi_tup_tuple, oo_isi_tup_list, oo_isi_tup_dict, oo_isi_lst_bool, oo_isi_lst_int, oo_isi_lst_str, oo_isi_lst_tuple, oo_isi_lst_list, oo_isi_lst_dict, oo_isi_dic_bool, oo_isi_dic_int, oo_isi_dic_str, oo_isi_dic_tuple, oo_isi_dic_list, oo_isi_dic_dict, oo_in_c, oo_inD, oo_ninD, diffs_len]
theorem q_row (h : Lot ws n) (hw : Wd w) (hl : w.length = n) : f_row_by [.tup (ws.map .str), .str w] S = .ok (.lst ((row w ws).map .int)) S := by
  apply Run.eq_of
  obtain ⟨h1, h2, h3, h4⟩ := id h
  simp only [f_row_by, b_row_by, run_ok, run_exc, run_bad, run_ofO, run_ofB, run_var, run_peek, run_lit, run_op2, run_op1, run_idx, run_tru, run_not, run_and, run_or, run_ite, run_bl, run_asB, run_andV, run_orV, run_nil, run_cons, run_tup, run_lst, run_star, run_dict, run_noPart, run_part, run_slc, run_chain, run_call, run_meth, run_fn, run_fnK, run_fnL, run_caught, run_iter, run_enum, run_rng, run_rng2, run_zip, run_comp, run_yes, run_seq, run_skip, run_set, run_setO, run_setC, run_par, run_ret, run_retN, run_retO, run_ifS, run_drop, run_raise, run_break, run_cont, run_tgt, run_frz, run_for, run_subC, run_subO, run_own, run_mkF, kOpB, kOpA, kOp1, kIxB, kIxA, kTru, kNot, kAnd, kOr, kIte, kBl, kAsB, kAndV, kOrV, kConsB, kConsA, kTup, kLst, kStarB, kStarA, kDict, kPart, kSlC, kSlB, kSlA, kChC, kChB, kChA, kCall, kMeB, kMeA, kFn, kFnKB, kFnKA, kFnLA, kCaughtE, kCaughtQ, kIter, kEnum, kRng, kRng2B, kRng2A, kZipB, kZipA, kCmpB, kCmp, kSet, kSetO, kSetC, kParB, kParA, kRetE, kIf, kDrop, kTgt, kFor, kSubCC, kSubCB, kSubCA, kSubOB, kSubOA, kOwnB, kOwnA, kRet, kSeq_nx, kSeq_rt, kSeq_bk, kSeq_ct, opt_some, opt_none, opt_if, opt_map, opt_bind, slV_val, slO_own, slP_val, slP_own, cond_true, cond_false, List.getElem?_cons_zero, List.getElem?_cons_succ, List.set_cons_zero, List.set_cons_succ, List.replicate_succ, List.replicate_zero, List.map_cons, List.map_nil, List.cons_append, List.nil_append, List.length_cons, List.length_map, List.length_nil, Nat.reduceAdd, Nat.reduceSub, Nat.zero_add, Int.toNat_natCast, bindT, bindTs, itemsD, wipeD, slo, frz, permD, true_and, and_true, Bool.not_true, Bool.not_false, oo_add_i, oo_add_str, oo_add_tup, oo_add_lst, oo_sub_i, oo_mul_i, oo_mul_s, oo_mul_t, oo_mul_l, oo_rep_l, oo_cat_l, oo_fdiv, oo_mod, oo_pow, oo_neg, oo_lt_i, oo_le_i, oo_gt_i, oo_ge_i, oo_lt_s, oo_gt_s, oo_le_s, oo_ge_s, oo_is, oo_isnt, oo_isn_non, oo_isn_bl, oo_isn_int, oo_isn_str, oo_isn_tup, oo_isn_lst, oo_isn_dic, oo_tru_non, oo_tru_bl, oo_tru_int, oo_tru_str, oo_tru_tup, oo_tru_lst, oo_len_str, oo_len_tup, oo_len_lst, oo_len_scr, oo_len_dic, oo_sum, oo_max_l, oo_max_2, oo_min_l, oo_min_2, oo_all, oo_any, oo_abs, oo_int_i, oo_int_b, oo_tup_t, oo_tup_l, oo_lstF_t, oo_lstF_l, oo_lstF2_t, oo_lstF2_l, oo_lstF2_s, oo_lstF2_r, oo_nJoin, oo_nIndex, oo_join_lst, oo_join_tup, oo_index, oo_it_tup, oo_it_lst, oo_it_str, oo_it_scr, oo_ix_tup, oo_ix_lst, oo_ix_str, oo_ix_whole, oo_put_whole, oo_ix_cells, oo_put_cells, oo_ix_count, oo_put_count, oo_put_l, oo_app, oo_slc_t, oo_slc_l, oo_slc_s, oo_isi_ty, oo_isi_ex, oo_isi_non_bool, oo_isi_non_int, oo_isi_non_str, oo_isi_non_tuple, oo_isi_non_list, oo_isi_non_dict, oo_isi_bl_bool, oo_isi_bl_int, oo_isi_bl_str, oo_isi_bl_tuple, oo_isi_bl_list, oo_isi_bl_dict, oo_isi_int_bool, oo_isi_int_int, oo_isi_int_str, oo_isi_int_tuple, oo_isi_int_list, oo_isi_int_dict, oo_isi_str_bool, oo_isi_str_int, oo_isi_str_str, oo_isi_str_tuple, oo_isi_str_list, oo_isi_str_dict, oo_isi_tup_bool, oo_isi_tup_int, oo_isi_tup_str, oo_isi_tup_tuple, oo_isi_tup_list, oo_isi_tup_dict, oo_isi_lst_bool, oo_isi_lst_int, oo_isi_lst_str, oo_isi_lst_tuple, oo_isi_lst_list, oo_isi_lst_dict, oo_isi_dic_bool, oo_isi_dic_int, oo_isi_dic_str, oo_isi_dic_tuple, oo_isi_dic_list, oo_isi_dic_dict, oo_in_c, oo_inD, oo_ninD]
  refine ⟨le_big (by omega), ?_⟩
  rw [coll_map (v := fun v => .int (dist w v)) (fun v hv => by
      apply Run.eq_of
      simp only [run_one, run_ok, run_exc, run_bad, run_ofO, run_ofB, run_var, run_peek, run_lit, run_op2, run_op1, run_idx, run_tru, run_not, run_and, run_or, run_ite, run_bl, run_asB, run_andV, run_orV, run_nil, run_cons, run_tup, run_lst, run_star, run_dict, run_noPart, run_part, run_slc, run_chain, run_call, run_meth, run_fn, run_fnK, run_fnL, run_caught, run_iter, run_enum, run_rng, run_rng2, run_zip, run_comp, run_yes, run_seq, run_skip, run_set, run_setO, run_setC, run_par, run_ret, run_retN, run_retO, run_ifS, run_drop, run_raise, run_break, run_cont, run_tgt, run_frz, run_for, run_subC, run_subO, run_own, run_mkF, kOpB, kOpA, kOp1, kIxB, kIxA, kTru, kNot, kAnd, kOr, kIte, kBl, kAsB, kAndV, kOrV, kConsB, kConsA, kTup, kLst, kStarB, kStarA, kDict, kPart, kSlC, kSlB, kSlA, kChC, kChB, kChA, kCall, kMeB, kMeA, kFn, kFnKB, kFnKA, kFnLA, kCaughtE, kCaughtQ, kIter, kEnum, kRng, kRng2B, kRng2A, kZipB, kZipA, kCmpB, kCmp, kSet, kSetO, kSetC, kParB, kParA, kRetE, kIf, kDrop, kTgt, kFor, kSubCC, kSubCB, kSubCA, kSubOB, kSubOA, kOwnB, kOwnA, kRet, kSeq_nx, kSeq_rt, kSeq_bk, kSeq_ct, opt_some, opt_none, opt_if, opt_map, opt_bind, slV_val, slO_own, slP_val, slP_own, cond_true, cond_false, List.getElem?_cons_zero, List.getElem?_cons_succ, List.set_cons_zero, List.set_cons_succ, List.replicate_succ, List.replicate_zero, List.map_cons, List.map_nil, List.cons_append, List.nil_append, List.length_cons, List.length_map, List.length_nil, Nat.reduceAdd, Nat.reduceSub, Nat.zero_add, Int.toNat_natCast, bindT, bindTs, itemsD, wipeD, slo, frz, permD, true_and, and_true, Bool.not_true, Bool.not_false, oo_add_i, oo_add_str, oo_add_tup, oo_add_lst, oo_sub_i, oo_mul_i, oo_mul_s, oo_mul_t, oo_mul_l, oo_rep_l, oo_cat_l, oo_fdiv, oo_mod, oo_pow, oo_neg, oo_lt_i, oo_le_i, oo_gt_i, oo_ge_i, oo_lt_s, oo_gt_s, oo_le_s, oo_ge_s, oo_is, oo_isnt, oo_isn_non, oo_isn_bl, oo_isn_int, oo_isn_str, oo_isn_tup, oo_isn_lst, oo_isn_dic, oo_tru_non, oo_tru_bl, oo_tru_int, oo_tru_str, oo_tru_tup, oo_tru_lst, oo_len_str, oo_len_tup, oo_len_lst, oo_len_scr, oo_len_dic, oo_sum, oo_max_l, oo_max_2, oo_min_l, oo_min_2, oo_all, oo_any, oo_abs, oo_int_i, oo_int_b, oo_tup_t, oo_tup_l, oo_lstF_t, oo_lstF_l, oo_lstF2_t, oo_lstF2_l, oo_lstF2_s, oo_lstF2_r, oo_nJoin, oo_nIndex, oo_join_lst, oo_join_tup, oo_index, oo_it_tup, oo_it_lst, oo_it_str, oo_it_scr, oo_ix_tup, oo_ix_lst, oo_ix_str, oo_ix_whole, oo_put_whole, oo_ix_cells, oo_put_cells, oo_ix_count, oo_put_count, oo_put_l, oo_app, oo_slc_t, oo_slc_l, oo_slc_s, oo_isi_ty, oo_isi_ex, oo_isi_non_bool, oo_isi_non_int, oo_isi_non_str, oo_isi_non_tuple, oo_isi_non_list, oo_isi_non_dict, oo_isi_bl_bool, oo_isi_bl_int, oo_isi_bl_str, oo_isi_bl_tuple, oo_isi_bl_list, oo_isi_bl_dict, oo_isi_int_bool, oo_isi_int_int, oo_isi_int_str, oo_isi_int_tuple, oo_isi_int_list, oo_isi_int_dict, oo_isi_str_bool, oo_isi_str_int, oo_isi_str_str, oo_isi_str_tuple, oo_isi_str_list, oo_isi_str_dict, oo_isi_tup_bool, oo_isi_tup_int, oo_isi_tup_str, oo_isi_tup_tuple, oo_isi_tup_list, oo_isi_tup_dict, oo_isi_lst_bool, oo_isi_lst_int, oo_isi_lst_str, oo_isi_lst_tuple, oo_isi_lst_list, oo_isi_lst_dict, oo_isi_dic_bool, oo_isi_dic_int, oo_isi_dic_str, oo_isi_dic_tuple, oo_isi_dic_list, oo_isi_dic_dict, oo_in_c, oo_inD, oo_ninD, kOneA, kOneB, q_far w v hw (h4 v hv).2 (by rw [hl, (h4 v hv).1]) (by have := (h4 v hv).1; omega)])]
  simp only [run_ok, run_exc, run_bad, run_ofO, run_ofB, run_var, run_peek, run_lit, run_op2, run_op1, run_idx, run_tru, run_not, run_and, run_or, run_ite, run_bl, run_asB, run_andV, run_orV, run_nil, run_cons, run_tup, run_lst, run_star, run_dict, run_noPart, run_part, run_slc, run_chain, run_call, run_meth, run_fn, run_fnK, run_fnL, run_caught, run_iter, run_enum, run_rng, run_rng2, run_zip, run_comp, run_yes, run_seq, run_skip, run_set, run_setO, run_setC, run_par, run_ret, run_retN, run_retO, run_ifS, run_drop, run_raise, run_break, run_cont, run_tgt, run_frz, run_for, run_subC, run_subO, run_own, run_mkF, kOpB, kOpA, kOp1, kIxB, kIxA, kTru, kNot, kAnd, kOr, kIte, kBl, kAsB, kAndV, kOrV, kConsB, kConsA, kTup, kLst, kStarB, kStarA, kDict, kPart, kSlC, kSlB, kSlA, kChC, kChB, kChA, kCall, kMeB, kMeA, kFn, kFnKB, kFnKA, kFnLA, kCaughtE, kCaughtQ, kIter, kEnum, kRng, kRng2B, kRng2A, kZipB, kZipA, kCmpB, kCmp, kSet, kSetO, kSetC, kParB, kParA, kRetE, kIf, kDrop, kTgt, kFor, kSubCC, kSubCB, kSubCA, kSubOB, kSubOA, kOwnB, kOwnA, kRet, kSeq_nx, kSeq_rt, kSeq_bk, kSeq_ct, opt_some, opt_none, opt_if, opt_map, opt_bind, slV_val, slO_own, slP_val, slP_own, cond_true, cond_false, List.getElem?_cons_zero, List.getElem?_cons_succ, List.set_cons_zero, List.set_cons_succ, List.replicate_succ, List.replicate_zero, List.map_cons, List.map_nil, List.cons_append, List.nil_append, List.length_cons, List.length_map, List.length_nil, Nat.reduceAdd, Nat.reduceSub, Nat.zero_add, Int.toNat_natCast, bindT, bindTs, itemsD, wipeD, slo, frz, permD, true_and, and_true, Bool.not_true, Bool.not_false, row, List.map_map]
  rfl
theorem q_lfar (a b : List Nat) (ha : Wd a) (hb : Wd b) (hl : a.length ≤ 1000) : f__law_far [.str a, .str b] S = .ok (.int (dist a b)) S := by
  apply Run.eq_of
  simp only [f__law_far, b__law_far, run_ok, run_exc, run_bad, run_ofO, run_ofB, run_var, run_peek, run_lit, run_op2, run_op1, run_idx, run_tru, run_not, run_and, run_or, run_ite, run_bl, run_asB, run_andV, run_orV, run_nil, run_cons, run_tup, run_lst, run_star, run_dict, run_noPart, run_part, run_slc, run_chain, run_call, run_meth, run_fn, run_fnK, run_fnL, run_caught, run_iter, run_enum, run_rng, run_rng2, run_zip, run_comp, run_yes, run_seq, run_skip, run_set, run_setO, run_setC, run_par, run_ret, run_retN, run_retO, run_ifS, run_drop, run_raise, run_break, run_cont, run_tgt, run_frz, run_for, run_subC, run_subO, run_own, run_mkF, kOpB, kOpA, kOp1, kIxB, kIxA, kTru, kNot, kAnd, kOr, kIte, kBl, kAsB, kAndV, kOrV, kConsB, kConsA, kTup, kLst, kStarB, kStarA, kDict, kPart, kSlC, kSlB, kSlA, kChC, kChB, kChA, kCall, kMeB, kMeA, kFn, kFnKB, kFnKA, kFnLA, kCaughtE, kCaughtQ, kIter, kEnum, kRng, kRng2B, kRng2A, kZipB, kZipA, kCmpB, kCmp, kSet, kSetO, kSetC, kParB, kParA, kRetE, kIf, kDrop, kTgt, kFor, kSubCC, kSubCB, kSubCA, kSubOB, kSubOA, kOwnB, kOwnA, kRet, kSeq_nx, kSeq_rt, kSeq_bk, kSeq_ct, opt_some, opt_none, opt_if, opt_map, opt_bind, slV_val, slO_own, slP_val, slP_own, cond_true, cond_false, List.getElem?_cons_zero, List.getElem?_cons_succ, List.set_cons_zero, List.set_cons_succ, List.replicate_succ, List.replicate_zero, List.map_cons, List.map_nil, List.cons_append, List.nil_append, List.length_cons, List.length_map, List.length_nil, Nat.reduceAdd, Nat.reduceSub, Nat.zero_add, Int.toNat_natCast, bindT, bindTs, itemsD, wipeD, slo, frz, permD, true_and, and_true, Bool.not_true, Bool.not_false, oo_add_i, oo_add_str, oo_add_tup, oo_add_lst, oo_sub_i, oo_mul_i, oo_mul_s, oo_mul_t, oo_mul_l, oo_rep_l, oo_cat_l, oo_fdiv, oo_mod, oo_pow, oo_neg, oo_lt_i, oo_le_i, oo_gt_i, oo_ge_i, oo_lt_s, oo_gt_s, oo_le_s, oo_ge_s, oo_is, oo_isnt, oo_isn_non, oo_isn_bl, oo_isn_int, oo_isn_str, oo_isn_tup, oo_isn_lst, oo_isn_dic, oo_tru_non, oo_tru_bl, oo_tru_int, oo_tru_str, oo_tru_tup, oo_tru_lst, oo_len_str, oo_len_tup, oo_len_lst, oo_len_scr, oo_len_dic, oo_sum, oo_max_l, oo_max_2, oo_min_l, oo_min_2, oo_all, oo_any, oo_abs, oo_int_i, oo_int_b, oo_tup_t, oo_tup_l, oo_lstF_t, oo_lstF_l, oo_lstF2_t, oo_lstF2_l, oo_lstF2_s, oo_lstF2_r, oo_nJoin, oo_nIndex, oo_join_lst, oo_join_tup, oo_index, oo_it_tup, oo_it_lst, oo_it_str, oo_it_scr, oo_ix_tup, oo_ix_lst, oo_ix_str, oo_ix_whole, oo_put_whole, oo_ix_cells, oo_put_cells, oo_ix_count, oo_put_count, oo_put_l, oo_app, oo_slc_t, oo_slc_l, oo_slc_s, oo_isi_ty, oo_isi_ex, oo_isi_non_bool, oo_isi_non_int, oo_isi_non_str, oo_isi_non_tuple, oo_isi_non_list, oo_isi_non_dict, oo_isi_bl_bool, oo_isi_bl_int, oo_isi_bl_str, oo_isi_bl_tuple, oo_isi_bl_list, oo_isi_bl_dict, oo_isi_int_bool, oo_isi_int_int, oo_isi_int_str, oo_isi_int_tuple, oo_isi_int_list, oo_isi_int_dict, oo_isi_str_bool, oo_isi_str_int, oo_isi_str_str, oo_isi_str_tuple, oo_isi_str_list, oo_isi_str_dict, oo_isi_tup_bool, oo_isi_tup_int, oo_isi_tup_str, oo_isi_tup_tuple, oo_isi_tup_list, oo_isi_tup_dict, oo_isi_lst_bool, oo_isi_lst_int, oo_isi_lst_str, oo_isi_lst_tuple, oo_isi_lst_list, oo_isi_lst_dict, oo_isi_dic_bool, oo_isi_dic_int, oo_isi_dic_str, oo_isi_dic_tuple, oo_isi_dic_list, oo_isi_dic_dict, oo_in_c, oo_inD, oo_ninD]
  have := zip_len (a := chs a) (b := chs b)
  rw [chs_length] at this
  refine ⟨le_big (by show (zipD (chs a) (chs b)).length ≤ _; omega), ?_⟩
  show Run (mColl _ (zipD (chs a) (chs b)) S) _ _
  rw [coll_zip (a := a) (b := b) (fun c hc d hd => by
    apply Run.eq_of
    simp only [run_one, run_ok, run_exc, run_bad, run_ofO, run_ofB, run_var, run_peek, run_lit, run_op2, run_op1, run_idx, run_tru, run_not, run_and, run_or, run_ite, run_bl, run_asB, run_andV, run_orV, run_nil, run_cons, run_tup, run_lst, run_star, run_dict, run_noPart, run_part, run_slc, run_chain, run_call, run_meth, run_fn, run_fnK, run_fnL, run_caught, run_iter, run_enum, run_rng, run_rng2, run_zip, run_comp, run_yes, run_seq, run_skip, run_set, run_setO, run_setC, run_par, run_ret, run_retN, run_retO, run_ifS, run_drop, run_raise, run_break, run_cont, run_tgt, run_frz, run_for, run_subC, run_subO, run_own, run_mkF, kOpB, kOpA, kOp1, kIxB, kIxA, kTru, kNot, kAnd, kOr, kIte, kBl, kAsB, kAndV, kOrV, kConsB, kConsA, kTup, kLst, kStarB, kStarA, kDict, kPart, kSlC, kSlB, kSlA, kChC, kChB, kChA, kCall, kMeB, kMeA, kFn, kFnKB, kFnKA, kFnLA, kCaughtE, kCaughtQ, kIter, kEnum, kRng, kRng2B, kRng2A, kZipB, kZipA, kCmpB, kCmp, kSet, kSetO, kSetC, kParB, kParA, kRetE, kIf, kDrop, kTgt, kFor, kSubCC, kSubCB, kSubCA, kSubOB, kSubOA, kOwnB, kOwnA, kRet, kSeq_nx, kSeq_rt, kSeq_bk, kSeq_ct, opt_some, opt_none, opt_if, opt_map, opt_bind, slV_val, slO_own, slP_val, slP_own, cond_true, cond_false, List.getElem?_cons_zero, List.getElem?_cons_succ, List.set_cons_zero, List.set_cons_succ, List.replicate_succ, List.replicate_zero, List.map_cons, List.map_nil, List.cons_append, List.nil_append, List.length_cons, List.length_map, List.length_nil, Nat.reduceAdd, Nat.reduceSub, Nat.zero_add, Int.toNat_natCast, bindT, bindTs, itemsD, wipeD, slo, frz, permD, true_and, and_true, Bool.not_true, Bool.not_false, kOneA, kOneB, ne_chr (ha.lt c hc) (hb.lt d hd), oo_tru_bl]
    by_cases e : c = d
    · subst e; simp
    · simp [e, kOneB, run_lit])]
  simp only [run_ok, run_exc, run_bad, run_ofO, run_ofB, run_var, run_peek, run_lit, run_op2, run_op1, run_idx, run_tru, run_not, run_and, run_or, run_ite, run_bl, run_asB, run_andV, run_orV, run_nil, run_cons, run_tup, run_lst, run_star, run_dict, run_noPart, run_part, run_slc, run_chain, run_call, run_meth, run_fn, run_fnK, run_fnL, run_caught, run_iter, run_enum, run_rng, run_rng2, run_zip, run_comp, run_yes, run_seq, run_skip, run_set, run_setO, run_setC, run_par, run_ret, run_retN, run_retO, run_ifS, run_drop, run_raise, run_break, run_cont, run_tgt, run_frz, run_for, run_subC, run_subO, run_own, run_mkF, kOpB, kOpA, kOp1, kIxB, kIxA, kTru, kNot, kAnd, kOr, kIte, kBl, kAsB, kAndV, kOrV, kConsB, kConsA, kTup, kLst, kStarB, kStarA, kDict, kPart, kSlC, kSlB, kSlA, kChC, kChB, kChA, kCall, kMeB, kMeA, kFn, kFnKB, kFnKA, kFnLA, kCaughtE, kCaughtQ, kIter, kEnum, kRng, kRng2B, kRng2A, kZipB, kZipA, kCmpB, kCmp, kSet, kSetO, kSetC, kParB, kParA, kRetE, kIf, kDrop, kTgt, kFor, kSubCC, kSubCB, kSubCA, kSubOB, kSubOA, kOwnB, kOwnA, kRet, kSeq_nx, kSeq_rt, kSeq_bk, kSeq_ct, opt_some, opt_none, opt_if, opt_map, opt_bind, slV_val, slO_own, slP_val, slP_own, cond_true, cond_false, List.getElem?_cons_zero, List.getElem?_cons_succ, List.set_cons_zero, List.set_cons_succ, List.replicate_succ, List.replicate_zero, List.map_cons, List.map_nil, List.cons_append, List.nil_append, List.length_cons, List.length_map, List.length_nil, Nat.reduceAdd, Nat.reduceSub, Nat.zero_add, Int.toNat_natCast, bindT, bindTs, itemsD, wipeD, slo, frz, permD, true_and, and_true, Bool.not_true, Bool.not_false]
  rw [sum_ones]
  simp only [run_ok, run_exc, run_bad, run_ofO, run_ofB, run_var, run_peek, run_lit, run_op2, run_op1, run_idx, run_tru, run_not, run_and, run_or, run_ite, run_bl, run_asB, run_andV, run_orV, run_nil, run_cons, run_tup, run_lst, run_star, run_dict, run_noPart, run_part, run_slc, run_chain, run_call, run_meth, run_fn, run_fnK, run_fnL, run_caught, run_iter, run_enum, run_rng, run_rng2, run_zip, run_comp, run_yes, run_seq, run_skip, run_set, run_setO, run_setC, run_par, run_ret, run_retN, run_retO, run_ifS, run_drop, run_raise, run_break, run_cont, run_tgt, run_frz, run_for, run_subC, run_subO, run_own, run_mkF, kOpB, kOpA, kOp1, kIxB, kIxA, kTru, kNot, kAnd, kOr, kIte, kBl, kAsB, kAndV, kOrV, kConsB, kConsA, kTup, kLst, kStarB, kStarA, kDict, kPart, kSlC, kSlB, kSlA, kChC, kChB, kChA, kCall, kMeB, kMeA, kFn, kFnKB, kFnKA, kFnLA, kCaughtE, kCaughtQ, kIter, kEnum, kRng, kRng2B, kRng2A, kZipB, kZipA, kCmpB, kCmp, kSet, kSetO, kSetC, kParB, kParA, kRetE, kIf, kDrop, kTgt, kFor, kSubCC, kSubCB, kSubCA, kSubOB, kSubOA, kOwnB, kOwnA, kRet, kSeq_nx, kSeq_rt, kSeq_bk, kSeq_ct, opt_some, opt_none, opt_if, opt_map, opt_bind, slV_val, slO_own, slP_val, slP_own, cond_true, cond_false, List.getElem?_cons_zero, List.getElem?_cons_succ, List.set_cons_zero, List.set_cons_succ, List.replicate_succ, List.replicate_zero, List.map_cons, List.map_nil, List.cons_append, List.nil_append, List.length_cons, List.length_map, List.length_nil, Nat.reduceAdd, Nat.reduceSub, Nat.zero_add, Int.toNat_natCast, bindT, bindTs, itemsD, wipeD, slo, frz, permD, true_and, and_true, Bool.not_true, Bool.not_false]
theorem q_lrow (h : Lot ws n) (hw : Wd w) (hl : w.length = n) : f__law_row [.tup (ws.map .str), .str w] S = .ok (.lst ((row w ws).map .int)) S := by
  apply Run.eq_of
  obtain ⟨h1, h2, h3, h4⟩ := id h
  simp only [f__law_row, b__law_row, run_ok, run_exc, run_bad, run_ofO, run_ofB, run_var, run_peek, run_lit, run_op2, run_op1, run_idx, run_tru, run_not, run_and, run_or, run_ite, run_bl, run_asB, run_andV, run_orV, run_nil, run_cons, run_tup, run_lst, run_star, run_dict, run_noPart, run_part, run_slc, run_chain, run_call, run_meth, run_fn, run_fnK, run_fnL, run_caught, run_iter, run_enum, run_rng, run_rng2, run_zip, run_comp, run_yes, run_seq, run_skip, run_set, run_setO, run_setC, run_par, run_ret, run_retN, run_retO, run_ifS, run_drop, run_raise, run_break, run_cont, run_tgt, run_frz, run_for, run_subC, run_subO, run_own, run_mkF, kOpB, kOpA, kOp1, kIxB, kIxA, kTru, kNot, kAnd, kOr, kIte, kBl, kAsB, kAndV, kOrV, kConsB, kConsA, kTup, kLst, kStarB, kStarA, kDict, kPart, kSlC, kSlB, kSlA, kChC, kChB, kChA, kCall, kMeB, kMeA, kFn, kFnKB, kFnKA, kFnLA, kCaughtE, kCaughtQ, kIter, kEnum, kRng, kRng2B, kRng2A, kZipB, kZipA, kCmpB, kCmp, kSet, kSetO, kSetC, kParB, kParA, kRetE, kIf, kDrop, kTgt, kFor, kSubCC, kSubCB, kSubCA, kSubOB, kSubOA, kOwnB, kOwnA, kRet, kSeq_nx, kSeq_rt, kSeq_bk, kSeq_ct, opt_some, opt_none, opt_if, opt_map, opt_bind, slV_val, slO_own, slP_val, slP_own, cond_true, cond_false, List.getElem?_cons_zero, List.getElem?_cons_succ, List.set_cons_zero, List.set_cons_succ, List.replicate_succ, List.replicate_zero, List.map_cons, List.map_nil, List.cons_append, List.nil_append, List.length_cons, List.length_map, List.length_nil, Nat.reduceAdd, Nat.reduceSub, Nat.zero_add, Int.toNat_natCast, bindT, bindTs, itemsD, wipeD, slo, frz, permD, true_and, and_true, Bool.not_true, Bool.not_false, oo_add_i, oo_add_str, oo_add_tup, oo_add_lst, oo_sub_i, oo_mul_i, oo_mul_s, oo_mul_t, oo_mul_l, oo_rep_l, oo_cat_l, oo_fdiv, oo_mod, oo_pow, oo_neg, oo_lt_i, oo_le_i, oo_gt_i, oo_ge_i, oo_lt_s, oo_gt_s, oo_le_s, oo_ge_s, oo_is, oo_isnt, oo_isn_non, oo_isn_bl, oo_isn_int, oo_isn_str, oo_isn_tup, oo_isn_lst, oo_isn_dic, oo_tru_non, oo_tru_bl, oo_tru_int, oo_tru_str, oo_tru_tup, oo_tru_lst, oo_len_str, oo_len_tup, oo_len_lst, oo_len_scr, oo_len_dic, oo_sum, oo_max_l, oo_max_2, oo_min_l, oo_min_2, oo_all, oo_any, oo_abs, oo_int_i, oo_int_b, oo_tup_t, oo_tup_l, oo_lstF_t, oo_lstF_l, oo_lstF2_t, oo_lstF2_l, oo_lstF2_s, oo_lstF2_r, oo_nJoin, oo_nIndex, oo_join_lst, oo_join_tup, oo_index, oo_it_tup, oo_it_lst, oo_it_str, oo_it_scr, oo_ix_tup, oo_ix_lst, oo_ix_str, oo_ix_whole, oo_put_whole, oo_ix_cells, oo_put_cells, oo_ix_count, oo_put_count, oo_put_l, oo_app, oo_slc_t, oo_slc_l, oo_slc_s, oo_isi_ty, oo_isi_ex, oo_isi_non_bool, oo_isi_non_int, oo_isi_non_str, oo_isi_non_tuple, oo_isi_non_list, oo_isi_non_dict, oo_isi_bl_bool, oo_isi_bl_int, oo_isi_bl_str, oo_isi_bl_tuple, oo_isi_bl_list, oo_isi_bl_dict, oo_isi_int_bool, oo_isi_int_int, oo_isi_int_str, oo_isi_int_tuple, oo_isi_int_list, oo_isi_int_dict, oo_isi_str_bool, oo_isi_str_int, oo_isi_str_str, oo_isi_str_tuple, oo_isi_str_list, oo_isi_str_dict, oo_isi_tup_bool, oo_isi_tup_int, oo_isi_tup_str, oo_isi_tup_tuple, oo_isi_tup_list, oo_isi_tup_dict, oo_isi_lst_bool, oo_isi_lst_int, oo_isi_lst_str, oo_isi_lst_tuple, oo_isi_lst_list, oo_isi_lst_dict, oo_isi_dic_bool, oo_isi_dic_int, oo_isi_dic_str, oo_isi_dic_tuple, oo_isi_dic_list, oo_isi_dic_dict, oo_in_c, oo_inD, oo_ninD]
  refine ⟨le_big (by omega), ?_⟩
  rw [coll_map (v := fun v => .int (dist w v)) (fun v hv => by
      apply Run.eq_of
      simp only [run_one, run_ok, run_exc, run_bad, run_ofO, run_ofB, run_var, run_peek, run_lit, run_op2, run_op1, run_idx, run_tru, run_not, run_and, run_or, run_ite, run_bl, run_asB, run_andV, run_orV, run_nil, run_cons, run_tup, run_lst, run_star, run_dict, run_noPart, run_part, run_slc, run_chain, run_call, run_meth, run_fn, run_fnK, run_fnL, run_caught, run_iter, run_enum, run_rng, run_rng2, run_zip, run_comp, run_yes, run_seq, run_skip, run_set, run_setO, run_setC, run_par, run_ret, run_retN, run_retO, run_ifS, run_drop, run_raise, run_break, run_cont, run_tgt, run_frz, run_for, run_subC, run_subO, run_own, run_mkF, kOpB, kOpA, kOp1, kIxB, kIxA, kTru, kNot, kAnd, kOr, kIte, kBl, kAsB, kAndV, kOrV, kConsB, kConsA, kTup, kLst, kStarB, kStarA, kDict, kPart, kSlC, kSlB, kSlA, kChC, kChB, kChA, kCall, kMeB, kMeA, kFn, kFnKB, kFnKA, kFnLA, kCaughtE, kCaughtQ, kIter, kEnum, kRng, kRng2B, kRng2A, kZipB, kZipA, kCmpB, kCmp, kSet, kSetO, kSetC, kParB, kParA, kRetE, kIf, kDrop, kTgt, kFor, kSubCC, kSubCB, kSubCA, kSubOB, kSubOA, kOwnB, kOwnA, kRet, kSeq_nx, kSeq_rt, kSeq_bk, kSeq_ct, opt_some, opt_none, opt_if, opt_map, opt_bind, slV_val, slO_own, slP_val, slP_own, cond_true, cond_false, List.getElem?_cons_zero, List.getElem?_cons_succ, List.set_cons_zero, List.set_cons_succ, List.replicate_succ, List.replicate_zero, List.map_cons, List.map_nil, List.cons_append, List.nil_append, List.length_cons, List.length_map, List.length_nil, Nat.reduceAdd, Nat.reduceSub, Nat.zero_add, Int.toNat_natCast, bindT, bindTs, itemsD, wipeD, slo, frz, permD, true_and, and_true, Bool.not_true, Bool.not_false, oo_add_i, oo_add_str, oo_add_tup, oo_add_lst, oo_sub_i, oo_mul_i, oo_mul_s, oo_mul_t, oo_mul_l, oo_rep_l, oo_cat_l, oo_fdiv, oo_mod, oo_pow, oo_neg, oo_lt_i, oo_le_i, oo_gt_i, oo_ge_i, oo_lt_s, oo_gt_s, oo_le_s, oo_ge_s, oo_is, oo_isnt, oo_isn_non, oo_isn_bl, oo_isn_int, oo_isn_str, oo_isn_tup, oo_isn_lst, oo_isn_dic, oo_tru_non, oo_tru_bl, oo_tru_int, oo_tru_str, oo_tru_tup, oo_tru_lst, oo_len_str, oo_len_tup, oo_len_lst, oo_len_scr, oo_len_dic, oo_sum, oo_max_l, oo_max_2, oo_min_l, oo_min_2, oo_all, oo_any, oo_abs, oo_int_i, oo_int_b, oo_tup_t, oo_tup_l, oo_lstF_t, oo_lstF_l, oo_lstF2_t, oo_lstF2_l, oo_lstF2_s, oo_lstF2_r, oo_nJoin, oo_nIndex, oo_join_lst, oo_join_tup, oo_index, oo_it_tup, oo_it_lst, oo_it_str, oo_it_scr, oo_ix_tup, oo_ix_lst, oo_ix_str, oo_ix_whole, oo_put_whole, oo_ix_cells, oo_put_cells, oo_ix_count, oo_put_count, oo_put_l, oo_app, oo_slc_t, oo_slc_l, oo_slc_s, oo_isi_ty, oo_isi_ex, oo_isi_non_bool, oo_isi_non_int, oo_isi_non_str, oo_isi_non_tuple, oo_isi_non_list, oo_isi_non_dict, oo_isi_bl_bool, oo_isi_bl_int, oo_isi_bl_str, oo_isi_bl_tuple, oo_isi_bl_list, oo_isi_bl_dict, oo_isi_int_bool, oo_isi_int_int, oo_isi_int_str, oo_isi_int_tuple, oo_isi_int_list, oo_isi_int_dict, oo_isi_str_bool, oo_isi_str_int, oo_isi_str_str, oo_isi_str_tuple, oo_isi_str_list, oo_isi_str_dict, oo_isi_tup_bool, oo_isi_tup_int, oo_isi_tup_str, oo_isi_tup_tuple, oo_isi_tup_list, oo_isi_tup_dict, oo_isi_lst_bool, oo_isi_lst_int, oo_isi_lst_str, oo_isi_lst_tuple, oo_isi_lst_list, oo_isi_lst_dict, oo_isi_dic_bool, oo_isi_dic_int, oo_isi_dic_str, oo_isi_dic_tuple, oo_isi_dic_list, oo_isi_dic_dict, oo_in_c, oo_inD, oo_ninD, kOneA, kOneB, q_lfar w v hw (h4 v hv).2 (by omega)])]
  simp only [run_ok, run_exc, run_bad, run_ofO, run_ofB, run_var, run_peek, run_lit, run_op2, run_op1, run_idx, run_tru, run_not, run_and, run_or, run_ite, run_bl, run_asB, run_andV, run_orV, run_nil, run_cons, run_tup, run_lst, run_star, run_dict, run_noPart, run_part, run_slc, run_chain, run_call, run_meth, run_fn, run_fnK, run_fnL, run_caught, run_iter, run_enum, run_rng, run_rng2, run_zip, run_comp, run_yes, run_seq, run_skip, run_set, run_setO, run_setC, run_par, run_ret, run_retN, run_retO, run_ifS, run_drop, run_raise, run_break, run_cont, run_tgt, run_frz, run_for, run_subC, run_subO, run_own, run_mkF, kOpB, kOpA, kOp1, kIxB, kIxA, kTru, kNot, kAnd, kOr, kIte, kBl, kAsB, kAndV, kOrV, kConsB, kConsA, kTup, kLst, kStarB, kStarA, kDict, kPart, kSlC, kSlB, kSlA, kChC, kChB, kChA, kCall, kMeB, kMeA, kFn, kFnKB, kFnKA, kFnLA, kCaughtE, kCaughtQ, kIter, kEnum, kRng, kRng2B, kRng2A, kZipB, kZipA, kCmpB, kCmp, kSet, kSetO, kSetC, kParB, kParA, kRetE, kIf, kDrop, kTgt, kFor, kSubCC, kSubCB, kSubCA, kSubOB, kSubOA, kOwnB, kOwnA, kRet, kSeq_nx, kSeq_rt, kSeq_bk, kSeq_ct, opt_some, opt_none, opt_if, opt_map, opt_bind, slV_val, slO_own, slP_val, slP_own, cond_true, cond_false, List.getElem?_cons_zero, List.getElem?_cons_succ, List.set_cons_zero, List.set_cons_succ, List.replicate_succ, List.replicate_zero, List.map_cons, List.map_nil, List.cons_append, List.nil_append, List.length_cons, List.length_map, List.length_nil, Nat.reduceAdd, Nat.reduceSub, Nat.zero_add, Int.toNat_natCast, bindT, bindTs, itemsD, wipeD, slo, frz, permD, true_and, and_true, Bool.not_true, Bool.not_false, row, List.map_map]
  rfl
end
end Dm
end
section
namespace Dm
open PySem PySem.Spec L2 PyProof.Rows
section
variable {S : List D} {w : List Nat} {ws : List (List Nat)} {n : Nat} {m M : Int}
theorem q_far_row (h : Lot ws n) (hw : Wd w) (hl : w.length = n) : f_far_row [.tup (ws.map .str), .str w] S = .ok (.tup ((row w ws).map .int)) S := by
  apply Run.eq_of
  simp only [f_far_row, b_far_row, run_ok, run_exc, run_bad, run_ofO, run_ofB, run_var, run_peek, run_lit, run_op2, run_op1, run_idx, run_tru, run_not, run_and, run_or, run_ite, run_bl, run_asB, run_andV, run_orV, run_nil, run_cons, run_tup, run_lst, run_star, run_dict, run_noPart, run_part, run_slc, run_chain, run_call, run_meth, run_fn, run_fnK, run_fnL, run_caught, run_iter, run_enum, run_rng, run_rng2, run_zip, run_comp, run_yes, run_seq, run_skip, run_set, run_setO, run_setC, run_par, run_ret, run_retN, run_retO, run_ifS, run_drop, run_raise, run_break, run_cont, run_tgt, run_frz, run_for, run_subC, run_subO, run_own, run_mkF, kOpB, kOpA, kOp1, kIxB, kIxA, kTru, kNot, kAnd, kOr, kIte, kBl, kAsB, kAndV, kOrV, kConsB, kConsA, kTup, kLst, kStarB, kStarA, kDict, kPart, kSlC, kSlB, kSlA, kChC, kChB, kChA, kCall, kMeB, kMeA, kFn, kFnKB, kFnKA, kFnLA, kCaughtE, kCaughtQ, kIter, kEnum, kRng, kRng2B, kRng2A, kZipB, kZipA, kCmpB, kCmp, kSet, kSetO, kSetC, kParB, kParA, kRetE, kIf, kDrop, kTgt, kFor, kSubCC, kSubCB, kSubCA, kSubOB, kSubOA, kOwnB, kOwnA, kRet, kSeq_nx, kSeq_rt, kSeq_bk, kSeq_ct, opt_some, opt_none, opt_if, opt_map, opt_bind, slV_val, slO_own, slP_val, slP_own, cond_true, cond_false, List.getElem?_cons_zero, List.getElem?_cons_succ, List.set_cons_zero, List.set_cons_succ, List.replicate_succ, List.replicate_zero, List.map_cons, List.map_nil, List.cons_append, List.nil_append, List.length_cons, List.length_map, List.length_nil, Nat.reduceAdd, Nat.reduceSub, Nat.zero_add, Int.toNat_natCast, bindT, bindTs, itemsD, wipeD, slo, frz, permD, true_and, and_true, Bool.not_true, Bool.not_false, oo_add_i, oo_add_str, oo_add_tup, oo_add_lst, oo_sub_i, oo_mul_i, oo_mul_s, oo_mul_t, oo_mul_l, oo_rep_l, oo_cat_l, oo_fdiv, oo_mod, oo_pow, oo_neg, oo_lt_i, oo_le_i, oo_gt_i, oo_ge_i, oo_lt_s, oo_gt_s, oo_le_s, oo_ge_s, oo_is, oo_isnt, oo_isn_non, oo_isn_bl, oo_isn_int, oo_isn_str, oo_isn_tup, oo_isn_lst, oo_isn_dic, oo_tru_non, oo_tru_bl, oo_tru_int, oo_tru_str, oo_tru_tup, oo_tru_lst, oo_len_str, oo_len_tup, oo_len_lst, oo_len_scr, oo_len_dic, oo_sum, oo_max_l, oo_max_2, oo_min_l, oo_min_2, oo_all, oo_any, oo_abs, oo_int_i, oo_int_b, oo_tup_t, oo_tup_l, oo_lstF_t, oo_lstF_l, oo_lstF2_t, oo_lstF2_l, oo_lstF2_s, oo_lstF2_r, oo_nJoin, oo_nIndex, oo_join_lst, oo_join_tup, oo_index, oo_it_tup, oo_it_lst, oo_it_str, oo_it_scr, oo_ix_tup, oo_ix_lst, oo_ix_str, oo_ix_whole, oo_put_whole, oo_ix_cells, oo_put_cells, oo_ix_count, oo_put_count, oo_put_l, oo_app, oo_slc_t, oo_slc_l, oo_slc_s, oo_isi_ty, oo_isi_ex, oo_isi_non_bool, oo_isi_non_int, oo_isi_non_str, oo_isi_non_tuple, oo_isi_non_list, oo_isi_non_dict, oo_isi_bl_bool, oo_isi_bl_int, oo_isi_bl_str, oo_isi_bl_tuple, oo_isi_bl_list, oo_isi_bl_dict, oo_isi_int_bool, oo_isi_int_int, oo_isi_int_str, oo_isi_int_tuple, oo_isi_int_list, oo_isi_int_dict, oo_isi_str_bool, oo_isi_str_int, oo_isi_str_str, oo_isi_str_tuple, oo_isi_str_list, oo_isi_str_dict, oo_isi_tup_bool, oo_isi_tup_int, oo_isi_tup_str, oo_isi_tup_tuple, oo_isi_tup_list, oo_isi_tup_dict, oo_isi_lst_bool, oo_isi_lst_int, oo_isi_lst_str, oo_isi_lst_tuple, oo_isi_lst_list, oo_isi_lst_dict, oo_isi_dic_bool, oo_isi_dic_int, oo_isi_dic_str, oo_isi_dic_tuple, oo_isi_dic_list, oo_isi_dic_dict, oo_in_c, oo_inD, oo_ninD, q_lw h hw hl, q_row h hw hl]
theorem q_farthest (h : Lot ws n) (hw : Wd w) (hl : w.length = n) (hM : (row w ws).max? = some M) : f_farthest [.tup (ws.map .str), .str w] S = .ok (.int M) S := by
  apply Run.eq_of
  simp only [f_farthest, b_farthest, run_ok, run_exc, run_bad, run_ofO, run_ofB, run_var, run_peek, run_lit, run_op2, run_op1, run_idx, run_tru, run_not, run_and, run_or, run_ite, run_bl, run_asB, run_andV, run_orV, run_nil, run_cons, run_tup, run_lst, run_star, run_dict, run_noPart, run_part, run_slc, run_chain, run_call, run_meth, run_fn, run_fnK, run_fnL, run_caught, run_iter, run_enum, run_rng, run_rng2, run_zip, run_comp, run_yes, run_seq, run_skip, run_set, run_setO, run_setC, run_par, run_ret, run_retN, run_retO, run_ifS, run_drop, run_raise, run_break, run_cont, run_tgt, run_frz, run_for, run_subC, run_subO, run_own, run_mkF, kOpB, kOpA, kOp1, kIxB, kIxA, kTru, kNot, kAnd, kOr, kIte, kBl, kAsB, kAndV, kOrV, kConsB, kConsA, kTup, kLst, kStarB, kStarA, kDict, kPart, kSlC, kSlB, kSlA, kChC, kChB, kChA, kCall, kMeB, kMeA, kFn, kFnKB, kFnKA, kFnLA, kCaughtE, kCaughtQ, kIter, kEnum, kRng, kRng2B, kRng2A, kZipB, kZipA, kCmpB, kCmp, kSet, kSetO, kSetC, kParB, kParA, kRetE, kIf, kDrop, kTgt, kFor, kSubCC, kSubCB, kSubCA, kSubOB, kSubOA, kOwnB, kOwnA, kRet, kSeq_nx, kSeq_rt, kSeq_bk, kSeq_ct, opt_some, opt_none, opt_if, opt_map, opt_bind, slV_val, slO_own, slP_val, slP_own, cond_true, cond_false, List.getElem?_cons_zero, List.getElem?_cons_succ, List.set_cons_zero, List.set_cons_succ, List.replicate_succ, List.replicate_zero, List.map_cons, List.map_nil, List.cons_append, List.nil_append, List.length_cons, List.length_map, List.length_nil, Nat.reduceAdd, Nat.reduceSub, Nat.zero_add, Int.toNat_natCast, bindT, bindTs, itemsD, wipeD, slo, frz, permD, true_and, and_true, Bool.not_true, Bool.not_false, oo_add_i, oo_add_str, oo_add_tup, oo_add_lst, oo_sub_i, oo_mul_i, oo_mul_s, oo_mul_t, oo_mul_l, oo_rep_l, oo_cat_l, oo_fdiv, oo_mod, oo_pow, oo_neg, oo_lt_i, oo_le_i, oo_gt_i, oo_ge_i, oo_lt_s, oo_gt_s, oo_le_s, oo_ge_s, oo_is, oo_isnt, oo_isn_non, oo_isn_bl, oo_isn_int, oo_isn_str, oo_isn_tup, oo_isn_lst, oo_isn_dic, oo_tru_non, oo_tru_bl, oo_tru_int, oo_tru_str, oo_tru_tup, oo_tru_lst, oo_len_str, oo_len_tup, oo_len_lst, oo_len_scr, oo_len_dic, oo_sum, oo_max_l, oo_max_2, oo_min_l, oo_min_2, oo_all, oo_any, oo_abs, oo_int_i, oo_int_b, oo_tup_t, oo_tup_l, oo_lstF_t, oo_lstF_l, oo_lstF2_t, oo_lstF2_l, oo_lstF2_s, oo_lstF2_r, oo_nJoin, oo_nIndex, oo_join_lst, oo_join_tup, oo_index, oo_it_tup, oo_it_lst, oo_it_str, oo_it_scr, oo_ix_tup, oo_ix_lst, oo_ix_str, oo_ix_whole, oo_put_whole, oo_ix_cells, oo_put_cells, oo_ix_count, oo_put_count, oo_put_l, oo_app, oo_slc_t, oo_slc_l, oo_slc_s, oo_isi_ty, oo_isi_ex, oo_isi_non_bool, oo_isi_non_int, oo_isi_non_str, oo_isi_non_tuple, oo_isi_non_list, oo_isi_non_dict, oo_isi_bl_bool, oo_isi_bl_int, oo_isi_bl_str, oo_isi_bl_tuple, oo_isi_bl_list, oo_isi_bl_dict, oo_isi_int_bool, oo_isi_int_int, oo_isi_int_str, oo_isi_int_tuple, oo_isi_int_list, oo_isi_int_dict, oo_isi_str_bool, oo_isi_str_int, oo_isi_str_str, oo_isi_str_tuple, oo_isi_str_list, oo_isi_str_dict, oo_isi_tup_bool, oo_isi_tup_int, oo_isi_tup_str, oo_isi_tup_tuple, oo_isi_tup_list, oo_isi_tup_dict, oo_isi_lst_bool, oo_isi_lst_int, oo_isi_lst_str, oo_isi_lst_tuple, oo_isi_lst_list, oo_isi_lst_dict, oo_isi_dic_bool, oo_isi_dic_int, oo_isi_dic_str, oo_isi_dic_tuple, oo_isi_dic_list, oo_isi_dic_dict, oo_in_c, oo_inD, oo_ninD, q_lw h hw hl, q_row h hw hl, intsOf_map, hM]
theorem q_farthest_word {j : Nat} (h : Lot ws n) (hw : Wd w) (hl : w.length = n) (hM : (row w ws).max? = some M) (hj : indexD (.lst ((row w ws).map .int)) [.int M] = some (.int j)) : f_farthest_word [.tup (ws.map .str), .str w] S = .ok (.int j) S := by
  apply Run.eq_of
  simp only [f_farthest_word, b_farthest_word, run_ok, run_exc, run_bad, run_ofO, run_ofB, run_var, run_peek, run_lit, run_op2, run_op1, run_idx, run_tru, run_not, run_and, run_or, run_ite, run_bl, run_asB, run_andV, run_orV, run_nil, run_cons, run_tup, run_lst, run_star, run_dict, run_noPart, run_part, run_slc, run_chain, run_call, run_meth, run_fn, run_fnK, run_fnL, run_caught, run_iter, run_enum, run_rng, run_rng2, run_zip, run_comp, run_yes, run_seq, run_skip, run_set, run_setO, run_setC, run_par, run_ret, run_retN, run_retO, run_ifS, run_drop, run_raise, run_break, run_cont, run_tgt, run_frz, run_for, run_subC, run_subO, run_own, run_mkF, kOpB, kOpA, kOp1, kIxB, kIxA, kTru, kNot, kAnd, kOr, kIte, kBl, kAsB, kAndV, kOrV, kConsB, kConsA, kTup, kLst, kStarB, kStarA, kDict, kPart, kSlC, kSlB, kSlA, kChC, kChB, kChA, kCall, kMeB, kMeA, kFn, kFnKB, kFnKA, kFnLA, kCaughtE, kCaughtQ, kIter, kEnum, kRng, kRng2B, kRng2A, kZipB, kZipA, kCmpB, kCmp, kSet, kSetO, kSetC, kParB, kParA, kRetE, kIf, kDrop, kTgt, kFor, kSubCC, kSubCB, kSubCA, kSubOB, kSubOA, kOwnB, kOwnA, kRet, kSeq_nx, kSeq_rt, kSeq_bk, kSeq_ct, opt_some, opt_none, opt_if, opt_map, opt_bind, slV_val, slO_own, slP_val, slP_own, cond_true, cond_false, List.getElem?_cons_zero, List.getElem?_cons_succ, List.set_cons_zero, List.set_cons_succ, List.replicate_succ, List.replicate_zero, List.map_cons, List.map_nil, List.cons_append, List.nil_append, List.length_cons, List.length_map, List.length_nil, Nat.reduceAdd, Nat.reduceSub, Nat.zero_add, Int.toNat_natCast, bindT, bindTs, itemsD, wipeD, slo, frz, permD, true_and, and_true, Bool.not_true, Bool.not_false, q_lw h hw hl, q_row h hw hl, oo_max_l, intsOf_map, hM, oo_nIndex, hj]
theorem q_sum_far (h : Lot ws n) (hw : Wd w) (hl : w.length = n) : f_sum_far [.tup (ws.map .str), .str w] S = .ok (.int (row w ws).sum) S := by
  apply Run.eq_of
  simp only [f_sum_far, b_sum_far, run_ok, run_exc, run_bad, run_ofO, run_ofB, run_var, run_peek, run_lit, run_op2, run_op1, run_idx, run_tru, run_not, run_and, run_or, run_ite, run_bl, run_asB, run_andV, run_orV, run_nil, run_cons, run_tup, run_lst, run_star, run_dict, run_noPart, run_part, run_slc, run_chain, run_call, run_meth, run_fn, run_fnK, run_fnL, run_caught, run_iter, run_enum, run_rng, run_rng2, run_zip, run_comp, run_yes, run_seq, run_skip, run_set, run_setO, run_setC, run_par, run_ret, run_retN, run_retO, run_ifS, run_drop, run_raise, run_break, run_cont, run_tgt, run_frz, run_for, run_subC, run_subO, run_own, run_mkF, kOpB, kOpA, kOp1, kIxB, kIxA, kTru, kNot, kAnd, kOr, kIte, kBl, kAsB, kAndV, kOrV, kConsB, kConsA, kTup, kLst, kStarB, kStarA, kDict, kPart, kSlC, kSlB, kSlA, kChC, kChB, kChA, kCall, kMeB, kMeA, kFn, kFnKB, kFnKA, kFnLA, kCaughtE, kCaughtQ, kIter, kEnum, kRng, kRng2B, kRng2A, kZipB, kZipA, kCmpB, kCmp, kSet, kSetO, kSetC, kParB, kParA, kRetE, kIf, kDrop, kTgt, kFor, kSubCC, kSubCB, kSubCA, kSubOB, kSubOA, kOwnB, kOwnA, kRet, kSeq_nx, kSeq_rt, kSeq_bk, kSeq_ct, opt_some, opt_none, opt_if, opt_map, opt_bind, slV_val, slO_own, slP_val, slP_own, cond_true, cond_false, List.getElem?_cons_zero, List.getElem?_cons_succ, List.set_cons_zero, List.set_cons_succ, List.replicate_succ, List.replicate_zero, List.map_cons, List.map_nil, List.cons_append, List.nil_append, List.length_cons, List.length_map, List.length_nil, Nat.reduceAdd, Nat.reduceSub, Nat.zero_add, Int.toNat_natCast, bindT, bindTs, itemsD, wipeD, slo, frz, permD, true_and, and_true, Bool.not_true, Bool.not_false, oo_add_i, oo_add_str, oo_add_tup, oo_add_lst, oo_sub_i, oo_mul_i, oo_mul_s, oo_mul_t, oo_mul_l, oo_rep_l, oo_cat_l, oo_fdiv, oo_mod, oo_pow, oo_neg, oo_lt_i, oo_le_i, oo_gt_i, oo_ge_i, oo_lt_s, oo_gt_s, oo_le_s, oo_ge_s, oo_is, oo_isnt, oo_isn_non, oo_isn_bl, oo_isn_int, oo_isn_str, oo_isn_tup, oo_isn_lst, oo_isn_dic, oo_tru_non, oo_tru_bl, oo_tru_int, oo_tru_str, oo_tru_tup, oo_tru_lst, oo_len_str, oo_len_tup, oo_len_lst, oo_len_scr, oo_len_dic, oo_sum, oo_max_l, oo_max_2, oo_min_l, oo_min_2, oo_all, oo_any, oo_abs, oo_int_i, oo_int_b, oo_tup_t, oo_tup_l, oo_lstF_t, oo_lstF_l, oo_lstF2_t, oo_lstF2_l, oo_lstF2_s, oo_lstF2_r, oo_nJoin, oo_nIndex, oo_join_lst, oo_join_tup, oo_index, oo_it_tup, oo_it_lst, oo_it_str, oo_it_scr, oo_ix_tup, oo_ix_lst, oo_ix_str, oo_ix_whole, oo_put_whole, oo_ix_cells, oo_put_cells, oo_ix_count, oo_put_count, oo_put_l, oo_app, oo_slc_t, oo_slc_l, oo_slc_s, oo_isi_ty, oo_isi_ex, oo_isi_non_bool, oo_isi_non_int, oo_isi_non_str, oo_isi_non_tuple, oo_isi_non_list, oo_isi_non_dict, oo_isi_bl_bool, oo_isi_bl_int, oo_isi_bl_str, oo_isi_bl_tuple, oo_isi_bl_list, oo_isi_bl_dict, oo_isi_int_bool, oo_isi_int_int, oo_isi_int_str, oo_isi_int_tuple, oo_isi_int_list, oo_isi_int_dict, oo_isi_str_bool, oo_isi_str_int, oo_isi_str_str, oo_isi_str_tuple, oo_isi_str_list, oo_isi_str_dict, oo_isi_tup_bool, oo_isi_tup_int, oo_isi_tup_str, oo_isi_tup_tuple, oo_isi_tup_list, oo_isi_tup_dict, oo_isi_lst_bool, oo_isi_lst_int, oo_isi_lst_str, oo_isi_lst_tuple, oo_isi_lst_list, oo_isi_lst_dict, oo_isi_dic_bool, oo_isi_dic_int, oo_isi_dic_str, oo_isi_dic_tuple, oo_isi_dic_list, oo_isi_dic_dict, oo_in_c, oo_inD, oo_ninD, q_lw h hw hl, q_row h hw hl, intsOf_map]
theorem q_need_most (h0 : 0 ≤ m) (h1 : m ≤ 24) : f_need_most [.int m] S = .ok .non S := by
  apply Run.eq_of
  simp only [f_need_most, b_need_most, f_is_within, b_is_within, f_is_whole, b_is_whole, run_ok, run_exc, run_bad, run_ofO, run_ofB, run_var, run_peek, run_lit, run_op2, run_op1, run_idx, run_tru, run_not, run_and, run_or, run_ite, run_bl, run_asB, run_andV, run_orV, run_nil, run_cons, run_tup, run_lst, run_star, run_dict, run_noPart, run_part, run_slc, run_chain, run_call, run_meth, run_fn, run_fnK, run_fnL, run_caught, run_iter, run_enum, run_rng, run_rng2, run_zip, run_comp, run_yes, run_seq, run_skip, run_set, run_setO, run_setC, run_par, run_ret, run_retN, run_retO, run_ifS, run_drop, run_raise, run_break, run_cont, run_tgt, run_frz, run_for, run_subC, run_subO, run_own, run_mkF, kOpB, kOpA, kOp1, kIxB, kIxA, kTru, kNot, kAnd, kOr, kIte, kBl, kAsB, kAndV, kOrV, kConsB, kConsA, kTup, kLst, kStarB, kStarA, kDict, kPart, kSlC, kSlB, kSlA, kChC, kChB, kChA, kCall, kMeB, kMeA, kFn, kFnKB, kFnKA, kFnLA, kCaughtE, kCaughtQ, kIter, kEnum, kRng, kRng2B, kRng2A, kZipB, kZipA, kCmpB, kCmp, kSet, kSetO, kSetC, kParB, kParA, kRetE, kIf, kDrop, kTgt, kFor, kSubCC, kSubCB, kSubCA, kSubOB, kSubOA, kOwnB, kOwnA, kRet, kSeq_nx, kSeq_rt, kSeq_bk, kSeq_ct, opt_some, opt_none, opt_if, opt_map, opt_bind, slV_val, slO_own, slP_val, slP_own, cond_true, cond_false, List.getElem?_cons_zero, List.getElem?_cons_succ, List.set_cons_zero, List.set_cons_succ, List.replicate_succ, List.replicate_zero, List.map_cons, List.map_nil, List.cons_append, List.nil_append, List.length_cons, List.length_map, List.length_nil, Nat.reduceAdd, Nat.reduceSub, Nat.zero_add, Int.toNat_natCast, bindT, bindTs, itemsD, wipeD, slo, frz, permD, true_and, and_true, Bool.not_true, Bool.not_false, oo_add_i, oo_add_str, oo_add_tup, oo_add_lst, oo_sub_i, oo_mul_i, oo_mul_s, oo_mul_t, oo_mul_l, oo_rep_l, oo_cat_l, oo_fdiv, oo_mod, oo_pow, oo_neg, oo_lt_i, oo_le_i, oo_gt_i, oo_ge_i, oo_lt_s, oo_gt_s, oo_le_s, oo_ge_s, oo_is, oo_isnt, oo_isn_non, oo_isn_bl, oo_isn_int, oo_isn_str, oo_isn_tup, oo_isn_lst, oo_isn_dic, oo_tru_non, oo_tru_bl, oo_tru_int, oo_tru_str, oo_tru_tup, oo_tru_lst, oo_len_str, oo_len_tup, oo_len_lst, oo_len_scr, oo_len_dic, oo_sum, oo_max_l, oo_max_2, oo_min_l, oo_min_2, oo_all, oo_any, oo_abs, oo_int_i, oo_int_b, oo_tup_t, oo_tup_l, oo_lstF_t, oo_lstF_l, oo_lstF2_t, oo_lstF2_l, oo_lstF2_s, oo_lstF2_r, oo_nJoin, oo_nIndex, oo_join_lst, oo_join_tup, oo_index, oo_it_tup, oo_it_lst, oo_it_str, oo_it_scr, oo_ix_tup, oo_ix_lst, oo_ix_str, oo_ix_whole, oo_put_whole, oo_ix_cells, oo_put_cells, oo_ix_count, oo_put_count, oo_put_l, oo_app, oo_slc_t, oo_slc_l, oo_slc_s, oo_isi_ty, oo_isi_ex, oo_isi_non_bool, oo_isi_non_int, oo_isi_non_str, oo_isi_non_tuple, oo_isi_non_list, oo_isi_non_dict, oo_isi_bl_bool, oo_isi_bl_int, oo_isi_bl_str, oo_isi_bl_tuple, oo_isi_bl_list, oo_isi_bl_dict, oo_isi_int_bool, oo_isi_int_int, oo_isi_int_str, oo_isi_int_tuple, oo_isi_int_list, oo_isi_int_dict, oo_isi_str_bool, oo_isi_str_int, oo_isi_str_str, oo_isi_str_tuple, oo_isi_str_list, oo_isi_str_dict, oo_isi_tup_bool, oo_isi_tup_int, oo_isi_tup_str, oo_isi_tup_tuple, oo_isi_tup_list, oo_isi_tup_dict, oo_isi_lst_bool, oo_isi_lst_int, oo_isi_lst_str, oo_isi_lst_tuple, oo_isi_lst_list, oo_isi_lst_dict, oo_isi_dic_bool, oo_isi_dic_int, oo_isi_dic_str, oo_isi_dic_tuple, oo_isi_dic_list, oo_isi_dic_dict, oo_in_c, oo_inD, oo_ninD, decide_eq_true h0, decide_eq_true h1]
theorem q_is_centre (h : Lot ws n) (hw : Wd w) (hl : w.length = n) (hM : (row w ws).max? = some M) (h0 : 0 ≤ m) (h1 : m ≤ 24) : f_is_centre [.tup (ws.map .str), .str w, .int m] S = .ok (.bl (decide (M ≤ m))) S := by
  apply Run.eq_of
  simp only [f_is_centre, b_is_centre, f_is_near, b_is_near, run_ok, run_exc, run_bad, run_ofO, run_ofB, run_var, run_peek, run_lit, run_op2, run_op1, run_idx, run_tru, run_not, run_and, run_or, run_ite, run_bl, run_asB, run_andV, run_orV, run_nil, run_cons, run_tup, run_lst, run_star, run_dict, run_noPart, run_part, run_slc, run_chain, run_call, run_meth, run_fn, run_fnK, run_fnL, run_caught, run_iter, run_enum, run_rng, run_rng2, run_zip, run_comp, run_yes, run_seq, run_skip, run_set, run_setO, run_setC, run_par, run_ret, run_retN, run_retO, run_ifS, run_drop, run_raise, run_break, run_cont, run_tgt, run_frz, run_for, run_subC, run_subO, run_own, run_mkF, kOpB, kOpA, kOp1, kIxB, kIxA, kTru, kNot, kAnd, kOr, kIte, kBl, kAsB, kAndV, kOrV, kConsB, kConsA, kTup, kLst, kStarB, kStarA, kDict, kPart, kSlC, kSlB, kSlA, kChC, kChB, kChA, kCall, kMeB, kMeA, kFn, kFnKB, kFnKA, kFnLA, kCaughtE, kCaughtQ, kIter, kEnum, kRng, kRng2B, kRng2A, kZipB, kZipA, kCmpB, kCmp, kSet, kSetO, kSetC, kParB, kParA, kRetE, kIf, kDrop, kTgt, kFor, kSubCC, kSubCB, kSubCA, kSubOB, kSubOA, kOwnB, kOwnA, kRet, kSeq_nx, kSeq_rt, kSeq_bk, kSeq_ct, opt_some, opt_none, opt_if, opt_map, opt_bind, slV_val, slO_own, slP_val, slP_own, cond_true, cond_false, List.getElem?_cons_zero, List.getElem?_cons_succ, List.set_cons_zero, List.set_cons_succ, List.replicate_succ, List.replicate_zero, List.map_cons, List.map_nil, List.cons_append, List.nil_append, List.length_cons, List.length_map, List.length_nil, Nat.reduceAdd, Nat.reduceSub, Nat.zero_add, Int.toNat_natCast, bindT, bindTs, itemsD, wipeD, slo, frz, permD, true_and, and_true, Bool.not_true, Bool.not_false, oo_add_i, oo_add_str, oo_add_tup, oo_add_lst, oo_sub_i, oo_mul_i, oo_mul_s, oo_mul_t, oo_mul_l, oo_rep_l, oo_cat_l, oo_fdiv, oo_mod, oo_pow, oo_neg, oo_lt_i, oo_le_i, oo_gt_i, oo_ge_i, oo_lt_s, oo_gt_s, oo_le_s, oo_ge_s, oo_is, oo_isnt, oo_isn_non, oo_isn_bl, oo_isn_int, oo_isn_str, oo_isn_tup, oo_isn_lst, oo_isn_dic, oo_tru_non, oo_tru_bl, oo_tru_int, oo_tru_str, oo_tru_tup, oo_tru_lst, oo_len_str, oo_len_tup, oo_len_lst, oo_len_scr, oo_len_dic, oo_sum, oo_max_l, oo_max_2, oo_min_l, oo_min_2, oo_all, oo_any, oo_abs, oo_int_i, oo_int_b, oo_tup_t, oo_tup_l, oo_lstF_t, oo_lstF_l, oo_lstF2_t, oo_lstF2_l, oo_lstF2_s, oo_lstF2_r, oo_nJoin, oo_nIndex, oo_join_lst, oo_join_tup, oo_index, oo_it_tup, oo_it_lst, oo_it_str, oo_it_scr, oo_ix_tup, oo_ix_lst, oo_ix_str, oo_ix_whole, oo_put_whole, oo_ix_cells, oo_put_cells, oo_ix_count, oo_put_count, oo_put_l, oo_app, oo_slc_t, oo_slc_l, oo_slc_s, oo_isi_ty, oo_isi_ex, oo_isi_non_bool, oo_isi_non_int, oo_isi_non_str, oo_isi_non_tuple, oo_isi_non_list, oo_isi_non_dict, oo_isi_bl_bool, oo_isi_bl_int, oo_isi_bl_str, oo_isi_bl_tuple, oo_isi_bl_list, oo_isi_bl_dict, oo_isi_int_bool, oo_isi_int_int, oo_isi_int_str, oo_isi_int_tuple, oo_isi_int_list, oo_isi_int_dict, oo_isi_str_bool, oo_isi_str_int, oo_isi_str_str, oo_isi_str_tuple, oo_isi_str_list, oo_isi_str_dict, oo_isi_tup_bool, oo_isi_tup_int, oo_isi_tup_str, oo_isi_tup_tuple, oo_isi_tup_list, oo_isi_tup_dict, oo_isi_lst_bool, oo_isi_lst_int, oo_isi_lst_str, oo_isi_lst_tuple, oo_isi_lst_list, oo_isi_lst_dict, oo_isi_dic_bool, oo_isi_dic_int, oo_isi_dic_str, oo_isi_dic_tuple, oo_isi_dic_list, oo_isi_dic_dict, oo_in_c, oo_inD, oo_ninD, q_lw h hw hl, q_row h hw hl, q_need_most h0 h1, intsOf_map, hM]
theorem q_near_words (h : Lot ws n) (hw : Wd w) (hl : w.length = n) (h0 : 0 ≤ m) (h1 : m ≤ 24) : f_near_words [.tup (ws.map .str), .str w, .int m] S = .ok (.tup ((near m 0 (row w ws)).map .int)) S := by
  apply Run.eq_of
  simp only [f_near_words, b_near_words, run_ok, run_exc, run_bad, run_ofO, run_ofB, run_var, run_peek, run_lit, run_op2, run_op1, run_idx, run_tru, run_not, run_and, run_or, run_ite, run_bl, run_asB, run_andV, run_orV, run_nil, run_cons, run_tup, run_lst, run_star, run_dict, run_noPart, run_part, run_slc, run_chain, run_call, run_meth, run_fn, run_fnK, run_fnL, run_caught, run_iter, run_enum, run_rng, run_rng2, run_zip, run_comp, run_yes, run_seq, run_skip, run_set, run_setO, run_setC, run_par, run_ret, run_retN, run_retO, run_ifS, run_drop, run_raise, run_break, run_cont, run_tgt, run_frz, run_for, run_subC, run_subO, run_own, run_mkF, kOpB, kOpA, kOp1, kIxB, kIxA, kTru, kNot, kAnd, kOr, kIte, kBl, kAsB, kAndV, kOrV, kConsB, kConsA, kTup, kLst, kStarB, kStarA, kDict, kPart, kSlC, kSlB, kSlA, kChC, kChB, kChA, kCall, kMeB, kMeA, kFn, kFnKB, kFnKA, kFnLA, kCaughtE, kCaughtQ, kIter, kEnum, kRng, kRng2B, kRng2A, kZipB, kZipA, kCmpB, kCmp, kSet, kSetO, kSetC, kParB, kParA, kRetE, kIf, kDrop, kTgt, kFor, kSubCC, kSubCB, kSubCA, kSubOB, kSubOA, kOwnB, kOwnA, kRet, kSeq_nx, kSeq_rt, kSeq_bk, kSeq_ct, opt_some, opt_none, opt_if, opt_map, opt_bind, slV_val, slO_own, slP_val, slP_own, cond_true, cond_false, List.getElem?_cons_zero, List.getElem?_cons_succ, List.set_cons_zero, List.set_cons_succ, List.replicate_succ, List.replicate_zero, List.map_cons, List.map_nil, List.cons_append, List.nil_append, List.length_cons, List.length_map, List.length_nil, Nat.reduceAdd, Nat.reduceSub, Nat.zero_add, Int.toNat_natCast, bindT, bindTs, itemsD, wipeD, slo, frz, permD, true_and, and_true, Bool.not_true, Bool.not_false, oo_add_i, oo_add_str, oo_add_tup, oo_add_lst, oo_sub_i, oo_mul_i, oo_mul_s, oo_mul_t, oo_mul_l, oo_rep_l, oo_cat_l, oo_fdiv, oo_mod, oo_pow, oo_neg, oo_lt_i, oo_le_i, oo_gt_i, oo_ge_i, oo_lt_s, oo_gt_s, oo_le_s, oo_ge_s, oo_is, oo_isnt, oo_isn_non, oo_isn_bl, oo_isn_int, oo_isn_str, oo_isn_tup, oo_isn_lst, oo_isn_dic, oo_tru_non, oo_tru_bl, oo_tru_int, oo_tru_str, oo_tru_tup, oo_tru_lst, oo_len_str, oo_len_tup, oo_len_lst, oo_len_scr, oo_len_dic, oo_sum, oo_max_l, oo_max_2, oo_min_l, oo_min_2, oo_all, oo_any, oo_abs, oo_int_i, oo_int_b, oo_tup_t, oo_tup_l, oo_lstF_t, oo_lstF_l, oo_lstF2_t, oo_lstF2_l, oo_lstF2_s, oo_lstF2_r, oo_nJoin, oo_nIndex, oo_join_lst, oo_join_tup, oo_index, oo_it_tup, oo_it_lst, oo_it_str, oo_it_scr, oo_ix_tup, oo_ix_lst, oo_ix_str, oo_ix_whole, oo_put_whole, oo_ix_cells, oo_put_cells, oo_ix_count, oo_put_count, oo_put_l, oo_app, oo_slc_t, oo_slc_l, oo_slc_s, oo_isi_ty, oo_isi_ex, oo_isi_non_bool, oo_isi_non_int, oo_isi_non_str, oo_isi_non_tuple, oo_isi_non_list, oo_isi_non_dict, oo_isi_bl_bool, oo_isi_bl_int, oo_isi_bl_str, oo_isi_bl_tuple, oo_isi_bl_list, oo_isi_bl_dict, oo_isi_int_bool, oo_isi_int_int, oo_isi_int_str, oo_isi_int_tuple, oo_isi_int_list, oo_isi_int_dict, oo_isi_str_bool, oo_isi_str_int, oo_isi_str_str, oo_isi_str_tuple, oo_isi_str_list, oo_isi_str_dict, oo_isi_tup_bool, oo_isi_tup_int, oo_isi_tup_str, oo_isi_tup_tuple, oo_isi_tup_list, oo_isi_tup_dict, oo_isi_lst_bool, oo_isi_lst_int, oo_isi_lst_str, oo_isi_lst_tuple, oo_isi_lst_list, oo_isi_lst_dict, oo_isi_dic_bool, oo_isi_dic_int, oo_isi_dic_str, oo_isi_dic_tuple, oo_isi_dic_list, oo_isi_dic_dict, oo_in_c, oo_inD, oo_ninD, q_lw h hw hl, q_row h hw hl, q_need_most h0 h1]
  refine ⟨le_big (by rw [enum_len, List.length_map, row_len]; have := h.2.1; omega), ?_⟩
  rw [coll_near (m := m) (fun i x => by
    apply Run.eq_of
    simp only [run_one, run_ok, run_exc, run_bad, run_ofO, run_ofB, run_var, run_peek, run_lit, run_op2, run_op1, run_idx, run_tru, run_not, run_and, run_or, run_ite, run_bl, run_asB, run_andV, run_orV, run_nil, run_cons, run_tup, run_lst, run_star, run_dict, run_noPart, run_part, run_slc, run_chain, run_call, run_meth, run_fn, run_fnK, run_fnL, run_caught, run_iter, run_enum, run_rng, run_rng2, run_zip, run_comp, run_yes, run_seq, run_skip, run_set, run_setO, run_setC, run_par, run_ret, run_retN, run_retO, run_ifS, run_drop, run_raise, run_break, run_cont, run_tgt, run_frz, run_for, run_subC, run_subO, run_own, run_mkF, kOpB, kOpA, kOp1, kIxB, kIxA, kTru, kNot, kAnd, kOr, kIte, kBl, kAsB, kAndV, kOrV, kConsB, kConsA, kTup, kLst, kStarB, kStarA, kDict, kPart, kSlC, kSlB, kSlA, kChC, kChB, kChA, kCall, kMeB, kMeA, kFn, kFnKB, kFnKA, kFnLA, kCaughtE, kCaughtQ, kIter, kEnum, kRng, kRng2B, kRng2A, kZipB, kZipA, kCmpB, kCmp, kSet, kSetO, kSetC, kParB, kParA, kRetE, kIf, kDrop, kTgt, kFor, kSubCC, kSubCB, kSubCA, kSubOB, kSubOA, kOwnB, kOwnA, kRet, kSeq_nx, kSeq_rt, kSeq_bk, kSeq_ct, opt_some, opt_none, opt_if, opt_map, opt_bind, slV_val, slO_own, slP_val, slP_own, cond_true, cond_false, List.getElem?_cons_zero, List.getElem?_cons_succ, List.set_cons_zero, List.set_cons_succ, List.replicate_succ, List.replicate_zero, List.map_cons, List.map_nil, List.cons_append, List.nil_append, List.length_cons, List.length_map, List.length_nil, Nat.reduceAdd, Nat.reduceSub, Nat.zero_add, Int.toNat_natCast, bindT, bindTs, itemsD, wipeD, slo, frz, permD, true_and, and_true, Bool.not_true, Bool.not_false, oo_add_i, oo_add_str, oo_add_tup, oo_add_lst, oo_sub_i, oo_mul_i, oo_mul_s, oo_mul_t, oo_mul_l, oo_rep_l, oo_cat_l, oo_fdiv, oo_mod, oo_pow, oo_neg, oo_lt_i, oo_le_i, oo_gt_i, oo_ge_i, oo_lt_s, oo_gt_s, oo_le_s, oo_ge_s, oo_is, oo_isnt, oo_isn_non, oo_isn_bl, oo_isn_int, oo_isn_str, oo_isn_tup, oo_isn_lst, oo_isn_dic, oo_tru_non, oo_tru_bl, oo_tru_int, oo_tru_str, oo_tru_tup, oo_tru_lst, oo_len_str, oo_len_tup, oo_len_lst, oo_len_scr, oo_len_dic, oo_sum, oo_max_l, oo_max_2, oo_min_l, oo_min_2, oo_all, oo_any, oo_abs, oo_int_i, oo_int_b, oo_tup_t, oo_tup_l, oo_lstF_t, oo_lstF_l, oo_lstF2_t, oo_lstF2_l, oo_lstF2_s, oo_lstF2_r, oo_nJoin, oo_nIndex, oo_join_lst, oo_join_tup, oo_index, oo_it_tup, oo_it_lst, oo_it_str, oo_it_scr, oo_ix_tup, oo_ix_lst, oo_ix_str, oo_ix_whole, oo_put_whole, oo_ix_cells, oo_put_cells, oo_ix_count, oo_put_count, oo_put_l, oo_app, oo_slc_t, oo_slc_l, oo_slc_s, oo_isi_ty, oo_isi_ex, oo_isi_non_bool, oo_isi_non_int, oo_isi_non_str, oo_isi_non_tuple, oo_isi_non_list, oo_isi_non_dict, oo_isi_bl_bool, oo_isi_bl_int, oo_isi_bl_str, oo_isi_bl_tuple, oo_isi_bl_list, oo_isi_bl_dict, oo_isi_int_bool, oo_isi_int_int, oo_isi_int_str, oo_isi_int_tuple, oo_isi_int_list, oo_isi_int_dict, oo_isi_str_bool, oo_isi_str_int, oo_isi_str_str, oo_isi_str_tuple, oo_isi_str_list, oo_isi_str_dict, oo_isi_tup_bool, oo_isi_tup_int, oo_isi_tup_str, oo_isi_tup_tuple, oo_isi_tup_list, oo_isi_tup_dict, oo_isi_lst_bool, oo_isi_lst_int, oo_isi_lst_str, oo_isi_lst_tuple, oo_isi_lst_list, oo_isi_lst_dict, oo_isi_dic_bool, oo_isi_dic_int, oo_isi_dic_str, oo_isi_dic_tuple, oo_isi_dic_list, oo_isi_dic_dict, oo_in_c, oo_inD, oo_ninD, kOneA, kOneB]
    by_cases e : x ≤ m
    · simp [e, run_var, kOneB, SlV]
    · simp [e])]
  simp only [run_ok, run_exc, run_bad, run_ofO, run_ofB, run_var, run_peek, run_lit, run_op2, run_op1, run_idx, run_tru, run_not, run_and, run_or, run_ite, run_bl, run_asB, run_andV, run_orV, run_nil, run_cons, run_tup, run_lst, run_star, run_dict, run_noPart, run_part, run_slc, run_chain, run_call, run_meth, run_fn, run_fnK, run_fnL, run_caught, run_iter, run_enum, run_rng, run_rng2, run_zip, run_comp, run_yes, run_seq, run_skip, run_set, run_setO, run_setC, run_par, run_ret, run_retN, run_retO, run_ifS, run_drop, run_raise, run_break, run_cont, run_tgt, run_frz, run_for, run_subC, run_subO, run_own, run_mkF, kOpB, kOpA, kOp1, kIxB, kIxA, kTru, kNot, kAnd, kOr, kIte, kBl, kAsB, kAndV, kOrV, kConsB, kConsA, kTup, kLst, kStarB, kStarA, kDict, kPart, kSlC, kSlB, kSlA, kChC, kChB, kChA, kCall, kMeB, kMeA, kFn, kFnKB, kFnKA, kFnLA, kCaughtE, kCaughtQ, kIter, kEnum, kRng, kRng2B, kRng2A, kZipB, kZipA, kCmpB, kCmp, kSet, kSetO, kSetC, kParB, kParA, kRetE, kIf, kDrop, kTgt, kFor, kSubCC, kSubCB, kSubCA, kSubOB, kSubOA, kOwnB, kOwnA, kRet, kSeq_nx, kSeq_rt, kSeq_bk, kSeq_ct, opt_some, opt_none, opt_if, opt_map, opt_bind, slV_val, slO_own, slP_val, slP_own, cond_true, cond_false, List.getElem?_cons_zero, List.getElem?_cons_succ, List.set_cons_zero, List.set_cons_succ, List.replicate_succ, List.replicate_zero, List.map_cons, List.map_nil, List.cons_append, List.nil_append, List.length_cons, List.length_map, List.length_nil, Nat.reduceAdd, Nat.reduceSub, Nat.zero_add, Int.toNat_natCast, bindT, bindTs, itemsD, wipeD, slo, frz, permD, true_and, and_true, Bool.not_true, Bool.not_false, oo_add_i, oo_add_str, oo_add_tup, oo_add_lst, oo_sub_i, oo_mul_i, oo_mul_s, oo_mul_t, oo_mul_l, oo_rep_l, oo_cat_l, oo_fdiv, oo_mod, oo_pow, oo_neg, oo_lt_i, oo_le_i, oo_gt_i, oo_ge_i, oo_lt_s, oo_gt_s, oo_le_s, oo_ge_s, oo_is, oo_isnt, oo_isn_non, oo_isn_bl, oo_isn_int, oo_isn_str, oo_isn_tup, oo_isn_lst, oo_isn_dic, oo_tru_non, oo_tru_bl, oo_tru_int, oo_tru_str, oo_tru_tup, oo_tru_lst, oo_len_str, oo_len_tup, oo_len_lst, oo_len_scr, oo_len_dic, oo_sum, oo_max_l, oo_max_2, oo_min_l, oo_min_2, oo_all, oo_any, oo_abs, oo_int_i, oo_int_b, oo_tup_t, oo_tup_l, oo_lstF_t, oo_lstF_l, oo_lstF2_t, oo_lstF2_l, oo_lstF2_s, oo_lstF2_r, oo_nJoin, oo_nIndex, oo_join_lst, oo_join_tup, oo_index, oo_it_tup, oo_it_lst, oo_it_str, oo_it_scr, oo_ix_tup, oo_ix_lst, oo_ix_str, oo_ix_whole, oo_put_whole, oo_ix_cells, oo_put_cells, oo_ix_count, oo_put_count, oo_put_l, oo_app, oo_slc_t, oo_slc_l, oo_slc_s, oo_isi_ty, oo_isi_ex, oo_isi_non_bool, oo_isi_non_int, oo_isi_non_str, oo_isi_non_tuple, oo_isi_non_list, oo_isi_non_dict, oo_isi_bl_bool, oo_isi_bl_int, oo_isi_bl_str, oo_isi_bl_tuple, oo_isi_bl_list, oo_isi_bl_dict, oo_isi_int_bool, oo_isi_int_int, oo_isi_int_str, oo_isi_int_tuple, oo_isi_int_list, oo_isi_int_dict, oo_isi_str_bool, oo_isi_str_int, oo_isi_str_str, oo_isi_str_tuple, oo_isi_str_list, oo_isi_str_dict, oo_isi_tup_bool, oo_isi_tup_int, oo_isi_tup_str, oo_isi_tup_tuple, oo_isi_tup_list, oo_isi_tup_dict, oo_isi_lst_bool, oo_isi_lst_int, oo_isi_lst_str, oo_isi_lst_tuple, oo_isi_lst_list, oo_isi_lst_dict, oo_isi_dic_bool, oo_isi_dic_int, oo_isi_dic_str, oo_isi_dic_tuple, oo_isi_dic_list, oo_isi_dic_dict, oo_in_c, oo_inD, oo_ninD]
/-! what is refused -/
theorem bad_lots : ∀ x ∈ ([.non, .tup [], .lst [.str [97]], .tup [.str [97], .str [98, 98]], .tup [.str [103]], .tup (List.replicate 21 [D.str [97]]).flatten, .str [97, 98], .tup [.str [97], .non], .tup [.str (List.replicate 25 [97]).flatten], .tup [.int 1]] : List D), ∀ S, f_need_lot [x] S = .exc "BadLot" none S := by
  intro x hx S
  simp only [List.mem_cons, List.not_mem_nil, or_false] at hx
  rcases hx with rfl | rfl | rfl | rfl | rfl | rfl | rfl | rfl | rfl | rfl <;> rfl
theorem bad_mosts : ∀ x ∈ ([.non, .int (0 - 1), .int (24 + 1), .str [49], .bl true, .tup [.int 0], .lst [], .int (10 ^ (30 : Int).toNat)] : List D), ∀ S, f_need_most [x] S = .exc "BadMost" none S := by
  intro x hx S
  simp only [List.mem_cons, List.not_mem_nil, or_false] at hx
  rcases hx with rfl | rfl | rfl | rfl | rfl | rfl | rfl | rfl <;> rfl
theorem bad_words (h : Lot ws n) (hw : Wd w) (hl : w.length = n) : ∀ x ∈ ([.non, .str (w ++ [97]), .int 7, .lst [.str [97]]] : List D), ∀ S, f_need_own_word [.tup (ws.map .str), x] S = .exc "BadWord" none S := by
  intro x hx S
  simp only [List.mem_cons, List.not_mem_nil, or_false] at hx
  rcases hx with rfl | rfl | rfl | rfl
  · rfl
  · obtain ⟨h1, h2, h3, h4⟩ := id h
    obtain ⟨v0, e, hv⟩ := head_at h
    have : Run (f_need_own_word [.tup (ws.map .str), .str (w ++ [97])] S) (fun _ _ => False) (fun c p S' => c = "BadWord" ∧ p = none ∧ S' = S) := by
      have e3 : (((w ++ [97]).length : Int) == (n : Int)) = false := by simp [hl]; omega
      simp only [f_need_own_word, b_need_own_word, run_ok, run_exc, run_bad, run_ofO, run_ofB, run_var, run_peek, run_lit, run_op2, run_op1, run_idx, run_tru, run_not, run_and, run_or, run_ite, run_bl, run_asB, run_andV, run_orV, run_nil, run_cons, run_tup, run_lst, run_star, run_dict, run_noPart, run_part, run_slc, run_chain, run_call, run_meth, run_fn, run_fnK, run_fnL, run_caught, run_iter, run_enum, run_rng, run_rng2, run_zip, run_comp, run_yes, run_seq, run_skip, run_set, run_setO, run_setC, run_par, run_ret, run_retN, run_retO, run_ifS, run_drop, run_raise, run_break, run_cont, run_tgt, run_frz, run_for, run_subC, run_subO, run_own, run_mkF, kOpB, kOpA, kOp1, kIxB, kIxA, kTru, kNot, kAnd, kOr, kIte, kBl, kAsB, kAndV, kOrV, kConsB, kConsA, kTup, kLst, kStarB, kStarA, kDict, kPart, kSlC, kSlB, kSlA, kChC, kChB, kChA, kCall, kMeB, kMeA, kFn, kFnKB, kFnKA, kFnLA, kCaughtE, kCaughtQ, kIter, kEnum, kRng, kRng2B, kRng2A, kZipB, kZipA, kCmpB, kCmp, kSet, kSetO, kSetC, kParB, kParA, kRetE, kIf, kDrop, kTgt, kFor, kSubCC, kSubCB, kSubCA, kSubOB, kSubOA, kOwnB, kOwnA, kRet, kSeq_nx, kSeq_rt, kSeq_bk, kSeq_ct, opt_some, opt_none, opt_if, opt_map, opt_bind, slV_val, slO_own, slP_val, slP_own, cond_true, cond_false, List.getElem?_cons_zero, List.getElem?_cons_succ, List.set_cons_zero, List.set_cons_succ, List.replicate_succ, List.replicate_zero, List.map_cons, List.map_nil, List.cons_append, List.nil_append, List.length_cons, List.length_map, List.length_nil, Nat.reduceAdd, Nat.reduceSub, Nat.zero_add, Int.toNat_natCast, bindT, bindTs, itemsD, wipeD, slo, frz, permD, true_and, and_true, Bool.not_true, Bool.not_false, oo_add_i, oo_add_str, oo_add_tup, oo_add_lst, oo_sub_i, oo_mul_i, oo_mul_s, oo_mul_t, oo_mul_l, oo_rep_l, oo_cat_l, oo_fdiv, oo_mod, oo_pow, oo_neg, oo_lt_i, oo_le_i, oo_gt_i, oo_ge_i, oo_lt_s, oo_gt_s, oo_le_s, oo_ge_s, oo_is, oo_isnt, oo_isn_non, oo_isn_bl, oo_isn_int, oo_isn_str, oo_isn_tup, oo_isn_lst, oo_isn_dic, oo_tru_non, oo_tru_bl, oo_tru_int, oo_tru_str, oo_tru_tup, oo_tru_lst, oo_len_str, oo_len_tup, oo_len_lst, oo_len_scr, oo_len_dic, oo_sum, oo_max_l, oo_max_2, oo_min_l, oo_min_2, oo_all, oo_any, oo_abs, oo_int_i, oo_int_b, oo_tup_t, oo_tup_l, oo_lstF_t, oo_lstF_l, oo_lstF2_t, oo_lstF2_l, oo_lstF2_s, oo_lstF2_r, oo_nJoin, oo_nIndex, oo_join_lst, oo_join_tup, oo_index, oo_it_tup, oo_it_lst, oo_it_str, oo_it_scr, oo_ix_tup, oo_ix_lst, oo_ix_str, oo_ix_whole, oo_put_whole, oo_ix_cells, oo_put_cells, oo_ix_count, oo_put_count, oo_put_l, oo_app, oo_slc_t, oo_slc_l, oo_slc_s, oo_isi_ty, oo_isi_ex, oo_isi_non_bool, oo_isi_non_int, oo_isi_non_str, oo_isi_non_tuple, oo_isi_non_list, oo_isi_non_dict, oo_isi_bl_bool, oo_isi_bl_int, oo_isi_bl_str, oo_isi_bl_tuple, oo_isi_bl_list, oo_isi_bl_dict, oo_isi_int_bool, oo_isi_int_int, oo_isi_int_str, oo_isi_int_tuple, oo_isi_int_list, oo_isi_int_dict, oo_isi_str_bool, oo_isi_str_int, oo_isi_str_str, oo_isi_str_tuple, oo_isi_str_list, oo_isi_str_dict, oo_isi_tup_bool, oo_isi_tup_int, oo_isi_tup_str, oo_isi_tup_tuple, oo_isi_tup_list, oo_isi_tup_dict, oo_isi_lst_bool, oo_isi_lst_int, oo_isi_lst_str, oo_isi_lst_tuple, oo_isi_lst_list, oo_isi_lst_dict, oo_isi_dic_bool, oo_isi_dic_int, oo_isi_dic_str, oo_isi_dic_tuple, oo_isi_dic_list, oo_isi_dic_dict, oo_in_c, oo_inD, oo_ninD, q_wf (w := w ++ [97]) (by simp; omega), e, ne_int, hv, e3]
      cases (decide ((w ++ [97]).length ≤ 24) && (w ++ [97]).all fun c => decide (c ∈ [97, 98, 99, 100, 101, 102]))
      · simp [kOr, kIf, run_raise]
      · simp [kOr, kIf, run_raise]
        exact ⟨le_big (by omega), le_big (by omega), le_big (by omega)⟩
    cases hr : f_need_own_word [.tup (ws.map .str), .str (w ++ [97])] S with
    | ok a s => rw [hr, run_ok] at this; exact this.elim
    | bad => rw [hr, run_bad] at this; exact this.elim
    | exc c p s =>
      rw [hr, run_exc] at this
      obtain ⟨rfl, rfl, rfl⟩ := this
      rfl
  · rfl
  · rfl
end
/-! what is said -/
theorem ok_base {d : D} (h : pl 0 d) : ∀ m, D.ok m d = true := by
  intro m
  cases d <;> first
    | (cases m <;> rfl)
    | (exact ok_str (by simpa [pl] using h))
    | (exact absurd h (by simp [pl]))
theorem kinds_base {n : Nat} {d : D} (h : pl 0 d) : ∃ k, (∀ S, f__law_kinds (n + 1) [d] S = .ok k S) ∧ ∀ m, 1 ≤ m → D.ok m k = true := by
  have key : ∀ (t : List Nat), (∀ c ∈ t, c < 0x110000) → ∀ m, 1 ≤ m → D.ok m (.tup [.str t, d]) = true := fun t ht m hm => by
    obtain ⟨m, rfl⟩ : ∃ q, m = q + 1 := ⟨m - 1, by omega⟩
    rw [D.ok, D.oks, D.oks, D.oks, ok_str ht, ok_base h m]
    rfl
  cases d with
  | bl b => exact ⟨.tup [.str [116, 114, 117, 116, 104], .bl b], fun S => by
      apply Run.eq_of
      simp only [f__law_kinds, b__law_kinds, run_ok, run_exc, run_bad, run_ofO, run_ofB, run_var, run_peek, run_lit, run_op2, run_op1, run_idx, run_tru, run_not, run_and, run_or, run_ite, run_bl, run_asB, run_andV, run_orV, run_nil, run_cons, run_tup, run_lst, run_star, run_dict, run_noPart, run_part, run_slc, run_chain, run_call, run_meth, run_fn, run_fnK, run_fnL, run_caught, run_iter, run_enum, run_rng, run_rng2, run_zip, run_comp, run_yes, run_seq, run_skip, run_set, run_setO, run_setC, run_par, run_ret, run_retN, run_retO, run_ifS, run_drop, run_raise, run_break, run_cont, run_tgt, run_frz, run_for, run_subC, run_subO, run_own, run_mkF, kOpB, kOpA, kOp1, kIxB, kIxA, kTru, kNot, kAnd, kOr, kIte, kBl, kAsB, kAndV, kOrV, kConsB, kConsA, kTup, kLst, kStarB, kStarA, kDict, kPart, kSlC, kSlB, kSlA, kChC, kChB, kChA, kCall, kMeB, kMeA, kFn, kFnKB, kFnKA, kFnLA, kCaughtE, kCaughtQ, kIter, kEnum, kRng, kRng2B, kRng2A, kZipB, kZipA, kCmpB, kCmp, kSet, kSetO, kSetC, kParB, kParA, kRetE, kIf, kDrop, kTgt, kFor, kSubCC, kSubCB, kSubCA, kSubOB, kSubOA, kOwnB, kOwnA, kRet, kSeq_nx, kSeq_rt, kSeq_bk, kSeq_ct, opt_some, opt_none, opt_if, opt_map, opt_bind, slV_val, slO_own, slP_val, slP_own, cond_true, cond_false, List.getElem?_cons_zero, List.getElem?_cons_succ, List.set_cons_zero, List.set_cons_succ, List.replicate_succ, List.replicate_zero, List.map_cons, List.map_nil, List.cons_append, List.nil_append, List.length_cons, List.length_map, List.length_nil, Nat.reduceAdd, Nat.reduceSub, Nat.zero_add, Int.toNat_natCast, bindT, bindTs, itemsD, wipeD, slo, frz, permD, true_and, and_true, Bool.not_true, Bool.not_false, oo_add_i, oo_add_str, oo_add_tup, oo_add_lst, oo_sub_i, oo_mul_i, oo_mul_s, oo_mul_t, oo_mul_l, oo_rep_l, oo_cat_l, oo_fdiv, oo_mod, oo_pow, oo_neg, oo_lt_i, oo_le_i, oo_gt_i, oo_ge_i, oo_lt_s, oo_gt_s, oo_le_s, oo_ge_s, oo_is, oo_isnt, oo_isn_non, oo_isn_bl, oo_isn_int, oo_isn_str, oo_isn_tup, oo_isn_lst, oo_isn_dic, oo_tru_non, oo_tru_bl, oo_tru_int, oo_tru_str, oo_tru_tup, oo_tru_lst, oo_len_str, oo_len_tup, oo_len_lst, oo_len_scr, oo_len_dic, oo_sum, oo_max_l, oo_max_2, oo_min_l, oo_min_2, oo_all, oo_any, oo_abs, oo_int_i, oo_int_b, oo_tup_t, oo_tup_l, oo_lstF_t, oo_lstF_l, oo_lstF2_t, oo_lstF2_l, oo_lstF2_s, oo_lstF2_r, oo_nJoin, oo_nIndex, oo_join_lst, oo_join_tup, oo_index, oo_it_tup, oo_it_lst, oo_it_str, oo_it_scr, oo_ix_tup, oo_ix_lst, oo_ix_str, oo_ix_whole, oo_put_whole, oo_ix_cells, oo_put_cells, oo_ix_count, oo_put_count, oo_put_l, oo_app, oo_slc_t, oo_slc_l, oo_slc_s, oo_isi_ty, oo_isi_ex, oo_isi_non_bool, oo_isi_non_int, oo_isi_non_str, oo_isi_non_tuple, oo_isi_non_list, oo_isi_non_dict, oo_isi_bl_bool, oo_isi_bl_int, oo_isi_bl_str, oo_isi_bl_tuple, oo_isi_bl_list, oo_isi_bl_dict, oo_isi_int_bool, oo_isi_int_int, oo_isi_int_str, oo_isi_int_tuple, oo_isi_int_list, oo_isi_int_dict, oo_isi_str_bool, oo_isi_str_int, oo_isi_str_str, oo_isi_str_tuple, oo_isi_str_list, oo_isi_str_dict, oo_isi_tup_bool, oo_isi_tup_int, oo_isi_tup_str, oo_isi_tup_tuple, oo_isi_tup_list, oo_isi_tup_dict, oo_isi_lst_bool, oo_isi_lst_int, oo_isi_lst_str, oo_isi_lst_tuple, oo_isi_lst_list, oo_isi_lst_dict, oo_isi_dic_bool, oo_isi_dic_int, oo_isi_dic_str, oo_isi_dic_tuple, oo_isi_dic_list, oo_isi_dic_dict, oo_in_c, oo_inD, oo_ninD]
      decide, key _ (by decide)⟩
  | non => exact ⟨.tup [.str [112, 108, 97, 105, 110], .non], fun S => by
      apply Run.eq_of
      simp only [f__law_kinds, b__law_kinds, run_ok, run_exc, run_bad, run_ofO, run_ofB, run_var, run_peek, run_lit, run_op2, run_op1, run_idx, run_tru, run_not, run_and, run_or, run_ite, run_bl, run_asB, run_andV, run_orV, run_nil, run_cons, run_tup, run_lst, run_star, run_dict, run_noPart, run_part, run_slc, run_chain, run_call, run_meth, run_fn, run_fnK, run_fnL, run_caught, run_iter, run_enum, run_rng, run_rng2, run_zip, run_comp, run_yes, run_seq, run_skip, run_set, run_setO, run_setC, run_par, run_ret, run_retN, run_retO, run_ifS, run_drop, run_raise, run_break, run_cont, run_tgt, run_frz, run_for, run_subC, run_subO, run_own, run_mkF, kOpB, kOpA, kOp1, kIxB, kIxA, kTru, kNot, kAnd, kOr, kIte, kBl, kAsB, kAndV, kOrV, kConsB, kConsA, kTup, kLst, kStarB, kStarA, kDict, kPart, kSlC, kSlB, kSlA, kChC, kChB, kChA, kCall, kMeB, kMeA, kFn, kFnKB, kFnKA, kFnLA, kCaughtE, kCaughtQ, kIter, kEnum, kRng, kRng2B, kRng2A, kZipB, kZipA, kCmpB, kCmp, kSet, kSetO, kSetC, kParB, kParA, kRetE, kIf, kDrop, kTgt, kFor, kSubCC, kSubCB, kSubCA, kSubOB, kSubOA, kOwnB, kOwnA, kRet, kSeq_nx, kSeq_rt, kSeq_bk, kSeq_ct, opt_some, opt_none, opt_if, opt_map, opt_bind, slV_val, slO_own, slP_val, slP_own, cond_true, cond_false, List.getElem?_cons_zero, List.getElem?_cons_succ, List.set_cons_zero, List.set_cons_succ, List.replicate_succ, List.replicate_zero, List.map_cons, List.map_nil, List.cons_append, List.nil_append, List.length_cons, List.length_map, List.length_nil, Nat.reduceAdd, Nat.reduceSub, Nat.zero_add, Int.toNat_natCast, bindT, bindTs, itemsD, wipeD, slo, frz, permD, true_and, and_true, Bool.not_true, Bool.not_false, oo_add_i, oo_add_str, oo_add_tup, oo_add_lst, oo_sub_i, oo_mul_i, oo_mul_s, oo_mul_t, oo_mul_l, oo_rep_l, oo_cat_l, oo_fdiv, oo_mod, oo_pow, oo_neg, oo_lt_i, oo_le_i, oo_gt_i, oo_ge_i, oo_lt_s, oo_gt_s, oo_le_s, oo_ge_s, oo_is, oo_isnt, oo_isn_non, oo_isn_bl, oo_isn_int, oo_isn_str, oo_isn_tup, oo_isn_lst, oo_isn_dic, oo_tru_non, oo_tru_bl, oo_tru_int, oo_tru_str, oo_tru_tup, oo_tru_lst, oo_len_str, oo_len_tup, oo_len_lst, oo_len_scr, oo_len_dic, oo_sum, oo_max_l, oo_max_2, oo_min_l, oo_min_2, oo_all, oo_any, oo_abs, oo_int_i, oo_int_b, oo_tup_t, oo_tup_l, oo_lstF_t, oo_lstF_l, oo_lstF2_t, oo_lstF2_l, oo_lstF2_s, oo_lstF2_r, oo_nJoin, oo_nIndex, oo_join_lst, oo_join_tup, oo_index, oo_it_tup, oo_it_lst, oo_it_str, oo_it_scr, oo_ix_tup, oo_ix_lst, oo_ix_str, oo_ix_whole, oo_put_whole, oo_ix_cells, oo_put_cells, oo_ix_count, oo_put_count, oo_put_l, oo_app, oo_slc_t, oo_slc_l, oo_slc_s, oo_isi_ty, oo_isi_ex, oo_isi_non_bool, oo_isi_non_int, oo_isi_non_str, oo_isi_non_tuple, oo_isi_non_list, oo_isi_non_dict, oo_isi_bl_bool, oo_isi_bl_int, oo_isi_bl_str, oo_isi_bl_tuple, oo_isi_bl_list, oo_isi_bl_dict, oo_isi_int_bool, oo_isi_int_int, oo_isi_int_str, oo_isi_int_tuple, oo_isi_int_list, oo_isi_int_dict, oo_isi_str_bool, oo_isi_str_int, oo_isi_str_str, oo_isi_str_tuple, oo_isi_str_list, oo_isi_str_dict, oo_isi_tup_bool, oo_isi_tup_int, oo_isi_tup_str, oo_isi_tup_tuple, oo_isi_tup_list, oo_isi_tup_dict, oo_isi_lst_bool, oo_isi_lst_int, oo_isi_lst_str, oo_isi_lst_tuple, oo_isi_lst_list, oo_isi_lst_dict, oo_isi_dic_bool, oo_isi_dic_int, oo_isi_dic_str, oo_isi_dic_tuple, oo_isi_dic_list, oo_isi_dic_dict, oo_in_c, oo_inD, oo_ninD]
      decide, key _ (by decide)⟩
  | int i => exact ⟨.tup [.str [112, 108, 97, 105, 110], .int i], fun S => by
      apply Run.eq_of
      simp only [f__law_kinds, b__law_kinds, run_ok, run_exc, run_bad, run_ofO, run_ofB, run_var, run_peek, run_lit, run_op2, run_op1, run_idx, run_tru, run_not, run_and, run_or, run_ite, run_bl, run_asB, run_andV, run_orV, run_nil, run_cons, run_tup, run_lst, run_star, run_dict, run_noPart, run_part, run_slc, run_chain, run_call, run_meth, run_fn, run_fnK, run_fnL, run_caught, run_iter, run_enum, run_rng, run_rng2, run_zip, run_comp, run_yes, run_seq, run_skip, run_set, run_setO, run_setC, run_par, run_ret, run_retN, run_retO, run_ifS, run_drop, run_raise, run_break, run_cont, run_tgt, run_frz, run_for, run_subC, run_subO, run_own, run_mkF, kOpB, kOpA, kOp1, kIxB, kIxA, kTru, kNot, kAnd, kOr, kIte, kBl, kAsB, kAndV, kOrV, kConsB, kConsA, kTup, kLst, kStarB, kStarA, kDict, kPart, kSlC, kSlB, kSlA, kChC, kChB, kChA, kCall, kMeB, kMeA, kFn, kFnKB, kFnKA, kFnLA, kCaughtE, kCaughtQ, kIter, kEnum, kRng, kRng2B, kRng2A, kZipB, kZipA, kCmpB, kCmp, kSet, kSetO, kSetC, kParB, kParA, kRetE, kIf, kDrop, kTgt, kFor, kSubCC, kSubCB, kSubCA, kSubOB, kSubOA, kOwnB, kOwnA, kRet, kSeq_nx, kSeq_rt, kSeq_bk, kSeq_ct, opt_some, opt_none, opt_if, opt_map, opt_bind, slV_val, slO_own, slP_val, slP_own, cond_true, cond_false, List.getElem?_cons_zero, List.getElem?_cons_succ, List.set_cons_zero, List.set_cons_succ, List.replicate_succ, List.replicate_zero, List.map_cons, List.map_nil, List.cons_append, List.nil_append, List.length_cons, List.length_map, List.length_nil, Nat.reduceAdd, Nat.reduceSub, Nat.zero_add, Int.toNat_natCast, bindT, bindTs, itemsD, wipeD, slo, frz, permD, true_and, and_true, Bool.not_true, Bool.not_false, oo_add_i, oo_add_str, oo_add_tup, oo_add_lst, oo_sub_i, oo_mul_i, oo_mul_s, oo_mul_t, oo_mul_l, oo_rep_l, oo_cat_l, oo_fdiv, oo_mod, oo_pow, oo_neg, oo_lt_i, oo_le_i, oo_gt_i, oo_ge_i, oo_lt_s, oo_gt_s, oo_le_s, oo_ge_s, oo_is, oo_isnt, oo_isn_non, oo_isn_bl, oo_isn_int, oo_isn_str, oo_isn_tup, oo_isn_lst, oo_isn_dic, oo_tru_non, oo_tru_bl, oo_tru_int, oo_tru_str, oo_tru_tup, oo_tru_lst, oo_len_str, oo_len_tup, oo_len_lst, oo_len_scr, oo_len_dic, oo_sum, oo_max_l, oo_max_2, oo_min_l, oo_min_2, oo_all, oo_any, oo_abs, oo_int_i, oo_int_b, oo_tup_t, oo_tup_l, oo_lstF_t, oo_lstF_l, oo_lstF2_t, oo_lstF2_l, oo_lstF2_s, oo_lstF2_r, oo_nJoin, oo_nIndex, oo_join_lst, oo_join_tup, oo_index, oo_it_tup, oo_it_lst, oo_it_str, oo_it_scr, oo_ix_tup, oo_ix_lst, oo_ix_str, oo_ix_whole, oo_put_whole, oo_ix_cells, oo_put_cells, oo_ix_count, oo_put_count, oo_put_l, oo_app, oo_slc_t, oo_slc_l, oo_slc_s, oo_isi_ty, oo_isi_ex, oo_isi_non_bool, oo_isi_non_int, oo_isi_non_str, oo_isi_non_tuple, oo_isi_non_list, oo_isi_non_dict, oo_isi_bl_bool, oo_isi_bl_int, oo_isi_bl_str, oo_isi_bl_tuple, oo_isi_bl_list, oo_isi_bl_dict, oo_isi_int_bool, oo_isi_int_int, oo_isi_int_str, oo_isi_int_tuple, oo_isi_int_list, oo_isi_int_dict, oo_isi_str_bool, oo_isi_str_int, oo_isi_str_str, oo_isi_str_tuple, oo_isi_str_list, oo_isi_str_dict, oo_isi_tup_bool, oo_isi_tup_int, oo_isi_tup_str, oo_isi_tup_tuple, oo_isi_tup_list, oo_isi_tup_dict, oo_isi_lst_bool, oo_isi_lst_int, oo_isi_lst_str, oo_isi_lst_tuple, oo_isi_lst_list, oo_isi_lst_dict, oo_isi_dic_bool, oo_isi_dic_int, oo_isi_dic_str, oo_isi_dic_tuple, oo_isi_dic_list, oo_isi_dic_dict, oo_in_c, oo_inD, oo_ninD]
      decide, key _ (by decide)⟩
  | str i => exact ⟨.tup [.str [112, 108, 97, 105, 110], .str i], fun S => by
      apply Run.eq_of
      simp only [f__law_kinds, b__law_kinds, run_ok, run_exc, run_bad, run_ofO, run_ofB, run_var, run_peek, run_lit, run_op2, run_op1, run_idx, run_tru, run_not, run_and, run_or, run_ite, run_bl, run_asB, run_andV, run_orV, run_nil, run_cons, run_tup, run_lst, run_star, run_dict, run_noPart, run_part, run_slc, run_chain, run_call, run_meth, run_fn, run_fnK, run_fnL, run_caught, run_iter, run_enum, run_rng, run_rng2, run_zip, run_comp, run_yes, run_seq, run_skip, run_set, run_setO, run_setC, run_par, run_ret, run_retN, run_retO, run_ifS, run_drop, run_raise, run_break, run_cont, run_tgt, run_frz, run_for, run_subC, run_subO, run_own, run_mkF, kOpB, kOpA, kOp1, kIxB, kIxA, kTru, kNot, kAnd, kOr, kIte, kBl, kAsB, kAndV, kOrV, kConsB, kConsA, kTup, kLst, kStarB, kStarA, kDict, kPart, kSlC, kSlB, kSlA, kChC, kChB, kChA, kCall, kMeB, kMeA, kFn, kFnKB, kFnKA, kFnLA, kCaughtE, kCaughtQ, kIter, kEnum, kRng, kRng2B, kRng2A, kZipB, kZipA, kCmpB, kCmp, kSet, kSetO, kSetC, kParB, kParA, kRetE, kIf, kDrop, kTgt, kFor, kSubCC, kSubCB, kSubCA, kSubOB, kSubOA, kOwnB, kOwnA, kRet, kSeq_nx, kSeq_rt, kSeq_bk, kSeq_ct, opt_some, opt_none, opt_if, opt_map, opt_bind, slV_val, slO_own, slP_val, slP_own, cond_true, cond_false, List.getElem?_cons_zero, List.getElem?_cons_succ, List.set_cons_zero, List.set_cons_succ, List.replicate_succ, List.replicate_zero, List.map_cons, List.map_nil, List.cons_append, List.nil_append, List.length_cons, List.length_map, List.length_nil, Nat.reduceAdd, Nat.reduceSub, Nat.zero_add, Int.toNat_natCast, bindT, bindTs, itemsD, wipeD, slo, frz, permD, true_and, and_true, Bool.not_true, Bool.not_false, oo_add_i, oo_add_str, oo_add_tup, oo_add_lst, oo_sub_i, oo_mul_i, oo_mul_s, oo_mul_t, oo_mul_l, oo_rep_l, oo_cat_l, oo_fdiv, oo_mod, oo_pow, oo_neg, oo_lt_i, oo_le_i, oo_gt_i, oo_ge_i, oo_lt_s, oo_gt_s, oo_le_s, oo_ge_s, oo_is, oo_isnt, oo_isn_non, oo_isn_bl, oo_isn_int, oo_isn_str, oo_isn_tup, oo_isn_lst, oo_isn_dic, oo_tru_non, oo_tru_bl, oo_tru_int, oo_tru_str, oo_tru_tup, oo_tru_lst, oo_len_str, oo_len_tup, oo_len_lst, oo_len_scr, oo_len_dic, oo_sum, oo_max_l, oo_max_2, oo_min_l, oo_min_2, oo_all, oo_any, oo_abs, oo_int_i, oo_int_b, oo_tup_t, oo_tup_l, oo_lstF_t, oo_lstF_l, oo_lstF2_t, oo_lstF2_l, oo_lstF2_s, oo_lstF2_r, oo_nJoin, oo_nIndex, oo_join_lst, oo_join_tup, oo_index, oo_it_tup, oo_it_lst, oo_it_str, oo_it_scr, oo_ix_tup, oo_ix_lst, oo_ix_str, oo_ix_whole, oo_put_whole, oo_ix_cells, oo_put_cells, oo_ix_count, oo_put_count, oo_put_l, oo_app, oo_slc_t, oo_slc_l, oo_slc_s, oo_isi_ty, oo_isi_ex, oo_isi_non_bool, oo_isi_non_int, oo_isi_non_str, oo_isi_non_tuple, oo_isi_non_list, oo_isi_non_dict, oo_isi_bl_bool, oo_isi_bl_int, oo_isi_bl_str, oo_isi_bl_tuple, oo_isi_bl_list, oo_isi_bl_dict, oo_isi_int_bool, oo_isi_int_int, oo_isi_int_str, oo_isi_int_tuple, oo_isi_int_list, oo_isi_int_dict, oo_isi_str_bool, oo_isi_str_int, oo_isi_str_str, oo_isi_str_tuple, oo_isi_str_list, oo_isi_str_dict, oo_isi_tup_bool, oo_isi_tup_int, oo_isi_tup_str, oo_isi_tup_tuple, oo_isi_tup_list, oo_isi_tup_dict, oo_isi_lst_bool, oo_isi_lst_int, oo_isi_lst_str, oo_isi_lst_tuple, oo_isi_lst_list, oo_isi_lst_dict, oo_isi_dic_bool, oo_isi_dic_int, oo_isi_dic_str, oo_isi_dic_tuple, oo_isi_dic_list, oo_isi_dic_dict, oo_in_c, oo_inD, oo_ninD]
      decide, key _ (by decide)⟩
  | tup _ => exact absurd h (by simp [pl])
  | lst _ => exact absurd h (by simp [pl])
  | dic _ _ => exact absurd h (by simp [pl])
  | fn _ => exact absurd h (by simp [pl])
  | ty _ => exact absurd h (by simp [pl])
  | exo _ _ => exact absurd h (by simp [pl])
  | cel _ => exact absurd h (by simp [pl])
  | scr _ => exact absurd h (by simp [pl])
theorem kinds_ex : ∀ (n : Nat) (d : D), pl n d → ∃ k, (∀ S, f__law_kinds (n + 1) [d] S = .ok k S) ∧ ∀ m, 2 * n + 1 ≤ m → D.ok m k = true
  | 0, d, h => by
    obtain ⟨k, h1, h2⟩ := kinds_base (n := 0) h
    exact ⟨k, h1, fun m hm => h2 m (by omega)⟩
  | n + 1, d, h => by
    have seq : ∀ (xs : List D) (hx : ∀ x ∈ xs, pl n x), ∃ ks, (∀ S ρ0, mColl (oneC (.nm 1) [1] mYes (mFn (f__law_kinds (n + 1)) (mCons (mVar 1) mNil)) [some (.val ρ0), none, none]) xs S = .ok ks S) ∧ ks.length = xs.length ∧ ∀ m, 2 * n + 1 ≤ m → D.oks m ks = true := fun xs hx => by
      have hex : ∀ x : D, ∃ k, pl n x → (∀ S, f__law_kinds (n + 1) [x] S = .ok k S) ∧ ∀ m, 2 * n + 1 ≤ m → D.ok m k = true := fun x => by
        by_cases hp : pl n x
        · exact (kinds_ex n x hp).imp fun k h _ => h
        · exact ⟨.non, fun h => absurd h hp⟩
      obtain ⟨g, hg⟩ := Classical.axiomOfChoice hex
      refine ⟨xs.map g, fun S ρ0 => ?_, by simp, fun m hm => oks_all fun z hz => ?_⟩
      · have := coll_map (F := oneC (.nm 1) [1] mYes (mFn (f__law_kinds (n + 1)) (mCons (mVar 1) mNil)) [some (.val ρ0), none, none]) (S := S) (u := id) (v := g) (l := xs) fun x hx1 => by
          apply Run.eq_of
          simp only [run_one, run_ok, run_exc, run_bad, run_ofO, run_ofB, run_var, run_peek, run_lit, run_op2, run_op1, run_idx, run_tru, run_not, run_and, run_or, run_ite, run_bl, run_asB, run_andV, run_orV, run_nil, run_cons, run_tup, run_lst, run_star, run_dict, run_noPart, run_part, run_slc, run_chain, run_call, run_meth, run_fn, run_fnK, run_fnL, run_caught, run_iter, run_enum, run_rng, run_rng2, run_zip, run_comp, run_yes, run_seq, run_skip, run_set, run_setO, run_setC, run_par, run_ret, run_retN, run_retO, run_ifS, run_drop, run_raise, run_break, run_cont, run_tgt, run_frz, run_for, run_subC, run_subO, run_own, run_mkF, kOpB, kOpA, kOp1, kIxB, kIxA, kTru, kNot, kAnd, kOr, kIte, kBl, kAsB, kAndV, kOrV, kConsB, kConsA, kTup, kLst, kStarB, kStarA, kDict, kPart, kSlC, kSlB, kSlA, kChC, kChB, kChA, kCall, kMeB, kMeA, kFn, kFnKB, kFnKA, kFnLA, kCaughtE, kCaughtQ, kIter, kEnum, kRng, kRng2B, kRng2A, kZipB, kZipA, kCmpB, kCmp, kSet, kSetO, kSetC, kParB, kParA, kRetE, kIf, kDrop, kTgt, kFor, kSubCC, kSubCB, kSubCA, kSubOB, kSubOA, kOwnB, kOwnA, kRet, kSeq_nx, kSeq_rt, kSeq_bk, kSeq_ct, opt_some, opt_none, opt_if, opt_map, opt_bind, slV_val, slO_own, slP_val, slP_own, cond_true, cond_false, List.getElem?_cons_zero, List.getElem?_cons_succ, List.set_cons_zero, List.set_cons_succ, List.replicate_succ, List.replicate_zero, List.map_cons, List.map_nil, List.cons_append, List.nil_append, List.length_cons, List.length_map, List.length_nil, Nat.reduceAdd, Nat.reduceSub, Nat.zero_add, Int.toNat_natCast, bindT, bindTs, itemsD, wipeD, slo, frz, permD, true_and, and_true, Bool.not_true, Bool.not_false, kOneA, kOneB, id, (hg x (hx x hx1)).1 S]
        simpa using this
      · obtain ⟨x, hx1, rfl⟩ := List.mem_map.mp hz
        exact (hg x (hx x hx1)).2 m hm
    have key : ∀ (t : List Nat) (ks : List D), (∀ c ∈ t, c < 0x110000) → (∀ m, 2 * n + 1 ≤ m → D.oks m ks = true) → ∀ m, 2 * (n + 1) + 1 ≤ m → D.ok m (.tup [.str t, .tup ks]) = true := fun t ks ht hk m hm => by
      obtain ⟨m, rfl⟩ : ∃ q, m = q + 2 := ⟨m - 2, by omega⟩
      rw [D.ok, D.oks, D.oks, D.oks, ok_str ht, D.ok, hk m (by omega)]
      rfl
    cases d with
    | tup xs =>
      rw [pl] at h
      obtain ⟨ks, h1, h2, h3⟩ := seq xs h.2
      refine ⟨.tup [.str [116, 117, 112, 108, 101], .tup ks], fun S => ?_, key _ _ (by decide) h3⟩
      apply Run.eq_of
      have e0 : f__law_kinds (n + 1 + 1) = mkF 1 3 (b__law_kinds (f__law_kinds (n + 1))) := rfl
      rw [e0]
      simp only [b__law_kinds, run_ok, run_exc, run_bad, run_ofO, run_ofB, run_var, run_peek, run_lit, run_op2, run_op1, run_idx, run_tru, run_not, run_and, run_or, run_ite, run_bl, run_asB, run_andV, run_orV, run_nil, run_cons, run_tup, run_lst, run_star, run_dict, run_noPart, run_part, run_slc, run_chain, run_call, run_meth, run_fn, run_fnK, run_fnL, run_caught, run_iter, run_enum, run_rng, run_rng2, run_zip, run_comp, run_yes, run_seq, run_skip, run_set, run_setO, run_setC, run_par, run_ret, run_retN, run_retO, run_ifS, run_drop, run_raise, run_break, run_cont, run_tgt, run_frz, run_for, run_subC, run_subO, run_own, run_mkF, kOpB, kOpA, kOp1, kIxB, kIxA, kTru, kNot, kAnd, kOr, kIte, kBl, kAsB, kAndV, kOrV, kConsB, kConsA, kTup, kLst, kStarB, kStarA, kDict, kPart, kSlC, kSlB, kSlA, kChC, kChB, kChA, kCall, kMeB, kMeA, kFn, kFnKB, kFnKA, kFnLA, kCaughtE, kCaughtQ, kIter, kEnum, kRng, kRng2B, kRng2A, kZipB, kZipA, kCmpB, kCmp, kSet, kSetO, kSetC, kParB, kParA, kRetE, kIf, kDrop, kTgt, kFor, kSubCC, kSubCB, kSubCA, kSubOB, kSubOA, kOwnB, kOwnA, kRet, kSeq_nx, kSeq_rt, kSeq_bk, kSeq_ct, opt_some, opt_none, opt_if, opt_map, opt_bind, slV_val, slO_own, slP_val, slP_own, cond_true, cond_false, List.getElem?_cons_zero, List.getElem?_cons_succ, List.set_cons_zero, List.set_cons_succ, List.replicate_succ, List.replicate_zero, List.map_cons, List.map_nil, List.cons_append, List.nil_append, List.length_cons, List.length_map, List.length_nil, Nat.reduceAdd, Nat.reduceSub, Nat.zero_add, Int.toNat_natCast, bindT, bindTs, itemsD, wipeD, slo, frz, permD, true_and, and_true, Bool.not_true, Bool.not_false, oo_add_i, oo_add_str, oo_add_tup, oo_add_lst, oo_sub_i, oo_mul_i, oo_mul_s, oo_mul_t, oo_mul_l, oo_rep_l, oo_cat_l, oo_fdiv, oo_mod, oo_pow, oo_neg, oo_lt_i, oo_le_i, oo_gt_i, oo_ge_i, oo_lt_s, oo_gt_s, oo_le_s, oo_ge_s, oo_is, oo_isnt, oo_isn_non, oo_isn_bl, oo_isn_int, oo_isn_str, oo_isn_tup, oo_isn_lst, oo_isn_dic, oo_tru_non, oo_tru_bl, oo_tru_int, oo_tru_str, oo_tru_tup, oo_tru_lst, oo_len_str, oo_len_tup, oo_len_lst, oo_len_scr, oo_len_dic, oo_sum, oo_max_l, oo_max_2, oo_min_l, oo_min_2, oo_all, oo_any, oo_abs, oo_int_i, oo_int_b, oo_tup_t, oo_tup_l, oo_lstF_t, oo_lstF_l, oo_lstF2_t, oo_lstF2_l, oo_lstF2_s, oo_lstF2_r, oo_nJoin, oo_nIndex, oo_join_lst, oo_join_tup, oo_index, oo_it_tup, oo_it_lst, oo_it_str, oo_it_scr, oo_ix_tup, oo_ix_lst, oo_ix_str, oo_ix_whole, oo_put_whole, oo_ix_cells, oo_put_cells, oo_ix_count, oo_put_count, oo_put_l, oo_app, oo_slc_t, oo_slc_l, oo_slc_s, oo_isi_ty, oo_isi_ex, oo_isi_non_bool, oo_isi_non_int, oo_isi_non_str, oo_isi_non_tuple, oo_isi_non_list, oo_isi_non_dict, oo_isi_bl_bool, oo_isi_bl_int, oo_isi_bl_str, oo_isi_bl_tuple, oo_isi_bl_list, oo_isi_bl_dict, oo_isi_int_bool, oo_isi_int_int, oo_isi_int_str, oo_isi_int_tuple, oo_isi_int_list, oo_isi_int_dict, oo_isi_str_bool, oo_isi_str_int, oo_isi_str_str, oo_isi_str_tuple, oo_isi_str_list, oo_isi_str_dict, oo_isi_tup_bool, oo_isi_tup_int, oo_isi_tup_str, oo_isi_tup_tuple, oo_isi_tup_list, oo_isi_tup_dict, oo_isi_lst_bool, oo_isi_lst_int, oo_isi_lst_str, oo_isi_lst_tuple, oo_isi_lst_list, oo_isi_lst_dict, oo_isi_dic_bool, oo_isi_dic_int, oo_isi_dic_str, oo_isi_dic_tuple, oo_isi_dic_list, oo_isi_dic_dict, oo_in_c, oo_inD, oo_ninD]
      refine ⟨h.1, ?_⟩
      rw [h1 S (.tup xs)]
      simp only [run_ok, run_exc, run_bad, run_ofO, run_ofB, run_var, run_peek, run_lit, run_op2, run_op1, run_idx, run_tru, run_not, run_and, run_or, run_ite, run_bl, run_asB, run_andV, run_orV, run_nil, run_cons, run_tup, run_lst, run_star, run_dict, run_noPart, run_part, run_slc, run_chain, run_call, run_meth, run_fn, run_fnK, run_fnL, run_caught, run_iter, run_enum, run_rng, run_rng2, run_zip, run_comp, run_yes, run_seq, run_skip, run_set, run_setO, run_setC, run_par, run_ret, run_retN, run_retO, run_ifS, run_drop, run_raise, run_break, run_cont, run_tgt, run_frz, run_for, run_subC, run_subO, run_own, run_mkF, kOpB, kOpA, kOp1, kIxB, kIxA, kTru, kNot, kAnd, kOr, kIte, kBl, kAsB, kAndV, kOrV, kConsB, kConsA, kTup, kLst, kStarB, kStarA, kDict, kPart, kSlC, kSlB, kSlA, kChC, kChB, kChA, kCall, kMeB, kMeA, kFn, kFnKB, kFnKA, kFnLA, kCaughtE, kCaughtQ, kIter, kEnum, kRng, kRng2B, kRng2A, kZipB, kZipA, kCmpB, kCmp, kSet, kSetO, kSetC, kParB, kParA, kRetE, kIf, kDrop, kTgt, kFor, kSubCC, kSubCB, kSubCA, kSubOB, kSubOA, kOwnB, kOwnA, kRet, kSeq_nx, kSeq_rt, kSeq_bk, kSeq_ct, opt_some, opt_none, opt_if, opt_map, opt_bind, slV_val, slO_own, slP_val, slP_own, cond_true, cond_false, List.getElem?_cons_zero, List.getElem?_cons_succ, List.set_cons_zero, List.set_cons_succ, List.replicate_succ, List.replicate_zero, List.map_cons, List.map_nil, List.cons_append, List.nil_append, List.length_cons, List.length_map, List.length_nil, Nat.reduceAdd, Nat.reduceSub, Nat.zero_add, Int.toNat_natCast, bindT, bindTs, itemsD, wipeD, slo, frz, permD, true_and, and_true, Bool.not_true, Bool.not_false, oo_add_i, oo_add_str, oo_add_tup, oo_add_lst, oo_sub_i, oo_mul_i, oo_mul_s, oo_mul_t, oo_mul_l, oo_rep_l, oo_cat_l, oo_fdiv, oo_mod, oo_pow, oo_neg, oo_lt_i, oo_le_i, oo_gt_i, oo_ge_i, oo_lt_s, oo_gt_s, oo_le_s, oo_ge_s, oo_is, oo_isnt, oo_isn_non, oo_isn_bl, oo_isn_int, oo_isn_str, oo_isn_tup, oo_isn_lst, oo_isn_dic, oo_tru_non, oo_tru_bl, oo_tru_int, oo_tru_str, oo_tru_tup, oo_tru_lst, oo_len_str, oo_len_tup, oo_len_lst, oo_len_scr, oo_len_dic, oo_sum, oo_max_l, oo_max_2, oo_min_l, oo_min_2, oo_all, oo_any, oo_abs, oo_int_i, oo_int_b, oo_tup_t, oo_tup_l, oo_lstF_t, oo_lstF_l, oo_lstF2_t, oo_lstF2_l, oo_lstF2_s, oo_lstF2_r, oo_nJoin, oo_nIndex, oo_join_lst, oo_join_tup, oo_index, oo_it_tup, oo_it_lst, oo_it_str, oo_it_scr, oo_ix_tup, oo_ix_lst, oo_ix_str, oo_ix_whole, oo_put_whole, oo_ix_cells, oo_put_cells, oo_ix_count, oo_put_count, oo_put_l, oo_app, oo_slc_t, oo_slc_l, oo_slc_s, oo_isi_ty, oo_isi_ex, oo_isi_non_bool, oo_isi_non_int, oo_isi_non_str, oo_isi_non_tuple, oo_isi_non_list, oo_isi_non_dict, oo_isi_bl_bool, oo_isi_bl_int, oo_isi_bl_str, oo_isi_bl_tuple, oo_isi_bl_list, oo_isi_bl_dict, oo_isi_int_bool, oo_isi_int_int, oo_isi_int_str, oo_isi_int_tuple, oo_isi_int_list, oo_isi_int_dict, oo_isi_str_bool, oo_isi_str_int, oo_isi_str_str, oo_isi_str_tuple, oo_isi_str_list, oo_isi_str_dict, oo_isi_tup_bool, oo_isi_tup_int, oo_isi_tup_str, oo_isi_tup_tuple, oo_isi_tup_list, oo_isi_tup_dict, oo_isi_lst_bool, oo_isi_lst_int, oo_isi_lst_str, oo_isi_lst_tuple, oo_isi_lst_list, oo_isi_lst_dict, oo_isi_dic_bool, oo_isi_dic_int, oo_isi_dic_str, oo_isi_dic_tuple, oo_isi_dic_list, oo_isi_dic_dict, oo_in_c, oo_inD, oo_ninD]
      decide
    | lst xs =>
      rw [pl] at h
      obtain ⟨ks, h1, h2, h3⟩ := seq xs h.2
      refine ⟨.tup [.str [108, 105, 115, 116], .tup ks], fun S => ?_, key _ _ (by decide) h3⟩
      apply Run.eq_of
      have e0 : f__law_kinds (n + 1 + 1) = mkF 1 3 (b__law_kinds (f__law_kinds (n + 1))) := rfl
      rw [e0]
      simp only [b__law_kinds, run_ok, run_exc, run_bad, run_ofO, run_ofB, run_var, run_peek, run_lit, run_op2, run_op1, run_idx, run_tru, run_not, run_and, run_or, run_ite, run_bl, run_asB, run_andV, run_orV, run_nil, run_cons, run_tup, run_lst, run_star, run_dict, run_noPart, run_part, run_slc, run_chain, run_call, run_meth, run_fn, run_fnK, run_fnL, run_caught, run_iter, run_enum, run_rng, run_rng2, run_zip, run_comp, run_yes, run_seq, run_skip, run_set, run_setO, run_setC, run_par, run_ret, run_retN, run_retO, run_ifS, run_drop, run_raise, run_break, run_cont, run_tgt, run_frz, run_for, run_subC, run_subO, run_own, run_mkF, kOpB, kOpA, kOp1, kIxB, kIxA, kTru, kNot, kAnd, kOr, kIte, kBl, kAsB, kAndV, kOrV, kConsB, kConsA, kTup, kLst, kStarB, kStarA, kDict, kPart, kSlC, kSlB, kSlA, kChC, kChB, kChA, kCall, kMeB, kMeA, kFn, kFnKB, kFnKA, kFnLA, kCaughtE, kCaughtQ, kIter, kEnum, kRng, kRng2B, kRng2A, kZipB, kZipA, kCmpB, kCmp, kSet, kSetO, kSetC, kParB, kParA, kRetE, kIf, kDrop, kTgt, kFor, kSubCC, kSubCB, kSubCA, kSubOB, kSubOA, kOwnB, kOwnA, kRet, kSeq_nx, kSeq_rt, kSeq_bk, kSeq_ct, opt_some, opt_none, opt_if, opt_map, opt_bind, slV_val, slO_own, slP_val, slP_own, cond_true, cond_false, List.getElem?_cons_zero, List.getElem?_cons_succ, List.set_cons_zero, List.set_cons_succ, List.replicate_succ, List.replicate_zero, List.map_cons, List.map_nil, List.cons_append, List.nil_append, List.length_cons, List.length_map, List.length_nil, Nat.reduceAdd, Nat.reduceSub, Nat.zero_add, Int.toNat_natCast, bindT, bindTs, itemsD, wipeD, slo, frz, permD, true_and, and_true, Bool.not_true, Bool.not_false, oo_add_i, oo_add_str, oo_add_tup, oo_add_lst, oo_sub_i, oo_mul_i, oo_mul_s, oo_mul_t, oo_mul_l, oo_rep_l, oo_cat_l, oo_fdiv, oo_mod, oo_pow, oo_neg, oo_lt_i, oo_le_i, oo_gt_i, oo_ge_i, oo_lt_s, oo_gt_s, oo_le_s, oo_ge_s, oo_is, oo_isnt, oo_isn_non, oo_isn_bl, oo_isn_int, oo_isn_str, oo_isn_tup, oo_isn_lst, oo_isn_dic, oo_tru_non, oo_tru_bl, oo_tru_int, oo_tru_str, oo_tru_tup, oo_tru_lst, oo_len_str, oo_len_tup, oo_len_lst, oo_len_scr, oo_len_dic, oo_sum, oo_max_l, oo_max_2, oo_min_l, oo_min_2, oo_all, oo_any, oo_abs, oo_int_i, oo_int_b, oo_tup_t, oo_tup_l, oo_lstF_t, oo_lstF_l, oo_lstF2_t, oo_lstF2_l, oo_lstF2_s, oo_lstF2_r, oo_nJoin, oo_nIndex, oo_join_lst, oo_join_tup, oo_index, oo_it_tup, oo_it_lst, oo_it_str, oo_it_scr, oo_ix_tup, oo_ix_lst, oo_ix_str, oo_ix_whole, oo_put_whole, oo_ix_cells, oo_put_cells, oo_ix_count, oo_put_count, oo_put_l, oo_app, oo_slc_t, oo_slc_l, oo_slc_s, oo_isi_ty, oo_isi_ex, oo_isi_non_bool, oo_isi_non_int, oo_isi_non_str, oo_isi_non_tuple, oo_isi_non_list, oo_isi_non_dict, oo_isi_bl_bool, oo_isi_bl_int, oo_isi_bl_str, oo_isi_bl_tuple, oo_isi_bl_list, oo_isi_bl_dict, oo_isi_int_bool, oo_isi_int_int, oo_isi_int_str, oo_isi_int_tuple, oo_isi_int_list, oo_isi_int_dict, oo_isi_str_bool, oo_isi_str_int, oo_isi_str_str, oo_isi_str_tuple, oo_isi_str_list, oo_isi_str_dict, oo_isi_tup_bool, oo_isi_tup_int, oo_isi_tup_str, oo_isi_tup_tuple, oo_isi_tup_list, oo_isi_tup_dict, oo_isi_lst_bool, oo_isi_lst_int, oo_isi_lst_str, oo_isi_lst_tuple, oo_isi_lst_list, oo_isi_lst_dict, oo_isi_dic_bool, oo_isi_dic_int, oo_isi_dic_str, oo_isi_dic_tuple, oo_isi_dic_list, oo_isi_dic_dict, oo_in_c, oo_inD, oo_ninD]
      refine ⟨h.1, ?_⟩
      rw [h1 S (.lst xs)]
      simp only [run_ok, run_exc, run_bad, run_ofO, run_ofB, run_var, run_peek, run_lit, run_op2, run_op1, run_idx, run_tru, run_not, run_and, run_or, run_ite, run_bl, run_asB, run_andV, run_orV, run_nil, run_cons, run_tup, run_lst, run_star, run_dict, run_noPart, run_part, run_slc, run_chain, run_call, run_meth, run_fn, run_fnK, run_fnL, run_caught, run_iter, run_enum, run_rng, run_rng2, run_zip, run_comp, run_yes, run_seq, run_skip, run_set, run_setO, run_setC, run_par, run_ret, run_retN, run_retO, run_ifS, run_drop, run_raise, run_break, run_cont, run_tgt, run_frz, run_for, run_subC, run_subO, run_own, run_mkF, kOpB, kOpA, kOp1, kIxB, kIxA, kTru, kNot, kAnd, kOr, kIte, kBl, kAsB, kAndV, kOrV, kConsB, kConsA, kTup, kLst, kStarB, kStarA, kDict, kPart, kSlC, kSlB, kSlA, kChC, kChB, kChA, kCall, kMeB, kMeA, kFn, kFnKB, kFnKA, kFnLA, kCaughtE, kCaughtQ, kIter, kEnum, kRng, kRng2B, kRng2A, kZipB, kZipA, kCmpB, kCmp, kSet, kSetO, kSetC, kParB, kParA, kRetE, kIf, kDrop, kTgt, kFor, kSubCC, kSubCB, kSubCA, kSubOB, kSubOA, kOwnB, kOwnA, kRet, kSeq_nx, kSeq_rt, kSeq_bk, kSeq_ct, opt_some, opt_none, opt_if, opt_map, opt_bind, slV_val, slO_own, slP_val, slP_own, cond_true, cond_false, List.getElem?_cons_zero, List.getElem?_cons_succ, List.set_cons_zero, List.set_cons_succ, List.replicate_succ, List.replicate_zero, List.map_cons, List.map_nil, List.cons_append, List.nil_append, List.length_cons, List.length_map, List.length_nil, Nat.reduceAdd, Nat.reduceSub, Nat.zero_add, Int.toNat_natCast, bindT, bindTs, itemsD, wipeD, slo, frz, permD, true_and, and_true, Bool.not_true, Bool.not_false, oo_add_i, oo_add_str, oo_add_tup, oo_add_lst, oo_sub_i, oo_mul_i, oo_mul_s, oo_mul_t, oo_mul_l, oo_rep_l, oo_cat_l, oo_fdiv, oo_mod, oo_pow, oo_neg, oo_lt_i, oo_le_i, oo_gt_i, oo_ge_i, oo_lt_s, oo_gt_s, oo_le_s, oo_ge_s, oo_is, oo_isnt, oo_isn_non, oo_isn_bl, oo_isn_int, oo_isn_str, oo_isn_tup, oo_isn_lst, oo_isn_dic, oo_tru_non, oo_tru_bl, oo_tru_int, oo_tru_str, oo_tru_tup, oo_tru_lst, oo_len_str, oo_len_tup, oo_len_lst, oo_len_scr, oo_len_dic, oo_sum, oo_max_l, oo_max_2, oo_min_l, oo_min_2, oo_all, oo_any, oo_abs, oo_int_i, oo_int_b, oo_tup_t, oo_tup_l, oo_lstF_t, oo_lstF_l, oo_lstF2_t, oo_lstF2_l, oo_lstF2_s, oo_lstF2_r, oo_nJoin, oo_nIndex, oo_join_lst, oo_join_tup, oo_index, oo_it_tup, oo_it_lst, oo_it_str, oo_it_scr, oo_ix_tup, oo_ix_lst, oo_ix_str, oo_ix_whole, oo_put_whole, oo_ix_cells, oo_put_cells, oo_ix_count, oo_put_count, oo_put_l, oo_app, oo_slc_t, oo_slc_l, oo_slc_s, oo_isi_ty, oo_isi_ex, oo_isi_non_bool, oo_isi_non_int, oo_isi_non_str, oo_isi_non_tuple, oo_isi_non_list, oo_isi_non_dict, oo_isi_bl_bool, oo_isi_bl_int, oo_isi_bl_str, oo_isi_bl_tuple, oo_isi_bl_list, oo_isi_bl_dict, oo_isi_int_bool, oo_isi_int_int, oo_isi_int_str, oo_isi_int_tuple, oo_isi_int_list, oo_isi_int_dict, oo_isi_str_bool, oo_isi_str_int, oo_isi_str_str, oo_isi_str_tuple, oo_isi_str_list, oo_isi_str_dict, oo_isi_tup_bool, oo_isi_tup_int, oo_isi_tup_str, oo_isi_tup_tuple, oo_isi_tup_list, oo_isi_tup_dict, oo_isi_lst_bool, oo_isi_lst_int, oo_isi_lst_str, oo_isi_lst_tuple, oo_isi_lst_list, oo_isi_lst_dict, oo_isi_dic_bool, oo_isi_dic_int, oo_isi_dic_str, oo_isi_dic_tuple, oo_isi_dic_list, oo_isi_dic_dict, oo_in_c, oo_inD, oo_ninD]
      decide
    | non => exact (kinds_base (n := n + 1) (d := .non) (by simp [pl])).imp fun k h => ⟨h.1, fun m hm => h.2 m (by omega)⟩
    | bl b => exact (kinds_base (n := n + 1) (d := .bl b) (by simp [pl])).imp fun k h => ⟨h.1, fun m hm => h.2 m (by omega)⟩
    | int b => exact (kinds_base (n := n + 1) (d := .int b) (by simp [pl])).imp fun k h => ⟨h.1, fun m hm => h.2 m (by omega)⟩
    | str b => exact (kinds_base (n := n + 1) (d := .str b) (by simpa [pl] using h)).imp fun k h => ⟨h.1, fun m hm => h.2 m (by omega)⟩
    | dic _ _ => exact absurd h (by simp [pl])
    | fn _ => exact absurd h (by simp [pl])
    | ty _ => exact absurd h (by simp [pl])
    | exo _ _ => exact absurd h (by simp [pl])
    | cel _ => exact absurd h (by simp [pl])
    | scr _ => exact absurd h (by simp [pl])
theorem q_says {d : D} {S : List D} (h : pl 7 d) : f__law_says [d, d] S = .ok (.bl true) S := by
  obtain ⟨k, h1, h2⟩ := kinds_ex 7 d h
  have := h2 60 (by omega)
  apply Run.eq_of
  simp only [f__law_says, b__law_says, run_ok, run_exc, run_bad, run_ofO, run_ofB, run_var, run_peek, run_lit, run_op2, run_op1, run_idx, run_tru, run_not, run_and, run_or, run_ite, run_bl, run_asB, run_andV, run_orV, run_nil, run_cons, run_tup, run_lst, run_star, run_dict, run_noPart, run_part, run_slc, run_chain, run_call, run_meth, run_fn, run_fnK, run_fnL, run_caught, run_iter, run_enum, run_rng, run_rng2, run_zip, run_comp, run_yes, run_seq, run_skip, run_set, run_setO, run_setC, run_par, run_ret, run_retN, run_retO, run_ifS, run_drop, run_raise, run_break, run_cont, run_tgt, run_frz, run_for, run_subC, run_subO, run_own, run_mkF, kOpB, kOpA, kOp1, kIxB, kIxA, kTru, kNot, kAnd, kOr, kIte, kBl, kAsB, kAndV, kOrV, kConsB, kConsA, kTup, kLst, kStarB, kStarA, kDict, kPart, kSlC, kSlB, kSlA, kChC, kChB, kChA, kCall, kMeB, kMeA, kFn, kFnKB, kFnKA, kFnLA, kCaughtE, kCaughtQ, kIter, kEnum, kRng, kRng2B, kRng2A, kZipB, kZipA, kCmpB, kCmp, kSet, kSetO, kSetC, kParB, kParA, kRetE, kIf, kDrop, kTgt, kFor, kSubCC, kSubCB, kSubCA, kSubOB, kSubOA, kOwnB, kOwnA, kRet, kSeq_nx, kSeq_rt, kSeq_bk, kSeq_ct, opt_some, opt_none, opt_if, opt_map, opt_bind, slV_val, slO_own, slP_val, slP_own, cond_true, cond_false, List.getElem?_cons_zero, List.getElem?_cons_succ, List.set_cons_zero, List.set_cons_succ, List.replicate_succ, List.replicate_zero, List.map_cons, List.map_nil, List.cons_append, List.nil_append, List.length_cons, List.length_map, List.length_nil, Nat.reduceAdd, Nat.reduceSub, Nat.zero_add, Int.toNat_natCast, bindT, bindTs, itemsD, wipeD, slo, frz, permD, true_and, and_true, Bool.not_true, Bool.not_false, h1, oo_eq, this, eqB_refl this, Bool.and_self]
end Dm
end
section
namespace Dm
open PySem PySem.Spec L2 PyProof.Rows
theorem p_begun {ns : List Int} (hl : ns.length ≤ 63) (hb : ∀ z ∈ ns, Builtin.Int.intBits z ≤ 1048576) : ∃ (w : Int) (cells : List Int), f__law_begun [.scr ns] [] = .ok (.dic [.str [119, 104, 111, 108, 101], .str [99, 101, 108, 108, 115], .str [99, 111, 117, 110, 116]] [.int w, .lst (cells.map .int), .int 0]) [] ∧ 0 ≤ w ∧ (∀ z ∈ cells, lg z ≤ 2000000) ∧ cells.length ≤ 1000 := by
  have key : Run (f__law_begun [.scr ns] []) (fun d S' => S' = [] ∧ ∃ (w : Int) (cells : List Int), d = .dic [.str [119, 104, 111, 108, 101], .str [99, 101, 108, 108, 115], .str [99, 111, 117, 110, 116]] [.int w, .lst (cells.map .int), .int 0] ∧ 0 ≤ w ∧ (∀ z ∈ cells, lg z ≤ 2000000) ∧ cells.length ≤ 1000) E0 := by
    simp only [f__law_begun, b__law_begun, run_ok, run_exc, run_bad, run_ofO, run_ofB, run_var, run_peek, run_lit, run_op2, run_op1, run_idx, run_tru, run_not, run_and, run_or, run_ite, run_bl, run_asB, run_andV, run_orV, run_nil, run_cons, run_tup, run_lst, run_star, run_dict, run_noPart, run_part, run_slc, run_chain, run_call, run_meth, run_fn, run_fnK, run_fnL, run_caught, run_iter, run_enum, run_rng, run_rng2, run_zip, run_comp, run_yes, run_seq, run_skip, run_set, run_setO, run_setC, run_par, run_ret, run_retN, run_retO, run_ifS, run_drop, run_raise, run_break, run_cont, run_tgt, run_frz, run_for, run_subC, run_subO, run_own, run_mkF, kOpB, kOpA, kOp1, kIxB, kIxA, kTru, kNot, kAnd, kOr, kIte, kBl, kAsB, kAndV, kOrV, kConsB, kConsA, kTup, kLst, kStarB, kStarA, kDict, kPart, kSlC, kSlB, kSlA, kChC, kChB, kChA, kCall, kMeB, kMeA, kFn, kFnKB, kFnKA, kFnLA, kCaughtE, kCaughtQ, kIter, kEnum, kRng, kRng2B, kRng2A, kZipB, kZipA, kCmpB, kCmp, kSet, kSetO, kSetC, kParB, kParA, kRetE, kIf, kDrop, kTgt, kFor, kSubCC, kSubCB, kSubCA, kSubOB, kSubOA, kOwnB, kOwnA, kRet, kSeq_nx, kSeq_rt, kSeq_bk, kSeq_ct, opt_some, opt_none, opt_if, opt_map, opt_bind, slV_val, slO_own, slP_val, slP_own, cond_true, cond_false, List.getElem?_cons_zero, List.getElem?_cons_succ, List.set_cons_zero, List.set_cons_succ, List.replicate_succ, List.replicate_zero, List.map_cons, List.map_nil, List.cons_append, List.nil_append, List.length_cons, List.length_map, List.length_nil, Nat.reduceAdd, Nat.reduceSub, Nat.zero_add, Int.toNat_natCast, bindT, bindTs, itemsD, wipeD, slo, frz, permD, true_and, and_true, Bool.not_true, Bool.not_false, oo_add_i, oo_add_str, oo_add_tup, oo_add_lst, oo_sub_i, oo_mul_i, oo_mul_s, oo_mul_t, oo_mul_l, oo_rep_l, oo_cat_l, oo_fdiv, oo_mod, oo_pow, oo_neg, oo_lt_i, oo_le_i, oo_gt_i, oo_ge_i, oo_lt_s, oo_gt_s, oo_le_s, oo_ge_s, oo_is, oo_isnt, oo_isn_non, oo_isn_bl, oo_isn_int, oo_isn_str, oo_isn_tup, oo_isn_lst, oo_isn_dic, oo_tru_non, oo_tru_bl, oo_tru_int, oo_tru_str, oo_tru_tup, oo_tru_lst, oo_len_str, oo_len_tup, oo_len_lst, oo_len_scr, oo_len_dic, oo_sum, oo_max_l, oo_max_2, oo_min_l, oo_min_2, oo_all, oo_any, oo_abs, oo_int_i, oo_int_b, oo_tup_t, oo_tup_l, oo_lstF_t, oo_lstF_l, oo_lstF2_t, oo_lstF2_l, oo_lstF2_s, oo_lstF2_r, oo_nJoin, oo_nIndex, oo_join_lst, oo_join_tup, oo_index, oo_it_tup, oo_it_lst, oo_it_str, oo_it_scr, oo_ix_tup, oo_ix_lst, oo_ix_str, oo_ix_whole, oo_put_whole, oo_ix_cells, oo_put_cells, oo_ix_count, oo_put_count, oo_put_l, oo_app, oo_slc_t, oo_slc_l, oo_slc_s, oo_isi_ty, oo_isi_ex, oo_isi_non_bool, oo_isi_non_int, oo_isi_non_str, oo_isi_non_tuple, oo_isi_non_list, oo_isi_non_dict, oo_isi_bl_bool, oo_isi_bl_int, oo_isi_bl_str, oo_isi_bl_tuple, oo_isi_bl_list, oo_isi_bl_dict, oo_isi_int_bool, oo_isi_int_int, oo_isi_int_str, oo_isi_int_tuple, oo_isi_int_list, oo_isi_int_dict, oo_isi_str_bool, oo_isi_str_int, oo_isi_str_str, oo_isi_str_tuple, oo_isi_str_list, oo_isi_str_dict, oo_isi_tup_bool, oo_isi_tup_int, oo_isi_tup_str, oo_isi_tup_tuple, oo_isi_tup_list, oo_isi_tup_dict, oo_isi_lst_bool, oo_isi_lst_int, oo_isi_lst_str, oo_isi_lst_tuple, oo_isi_lst_list, oo_isi_lst_dict, oo_isi_dic_bool, oo_isi_dic_int, oo_isi_dic_str, oo_isi_dic_tuple, oo_isi_dic_list, oo_isi_dic_dict, oo_in_c, oo_inD, oo_ninD]
    refine ⟨by decide, ?_⟩
    refine run_forL_inv (i := 0) (I := fun i ρ T => T = [] ∧ ∃ (w : Int) (cells : List Int) (o : Option Slot), ρ = [some (.val (.scr ns)), some (.val (.int w)), some (.own (.lst (cells.map .int))), o] ∧ 0 ≤ w ∧ lg w ≤ i * 1048600 ∧ (∀ z ∈ cells, lg z ≤ 2000000) ∧ cells.length ≤ i) ⟨rfl, 0, [], _, rfl, by omega, by decide, by simp, by simp⟩ ?_ ?_
    · rintro j d ρ T hj ⟨rfl, w, cells, o, rfl, hw0, hwl, hc, hcl⟩
      rw [List.getElem?_map] at hj
      cases hz : ns[j]? with
      | none => rw [hz] at hj; cases hj
      | some z =>
        rw [hz] at hj
        cases hj
        have hj63 : j < ns.length := (List.getElem?_eq_some_iff.mp hz).1
        have hzl : lg z ≤ 1048576 := lg_bits (hb z (List.mem_of_getElem? hz))
        refine ⟨_, rfl, ?_⟩
        simp only [run_ok, run_exc, run_bad, run_ofO, run_ofB, run_var, run_peek, run_lit, run_op2, run_op1, run_idx, run_tru, run_not, run_and, run_or, run_ite, run_bl, run_asB, run_andV, run_orV, run_nil, run_cons, run_tup, run_lst, run_star, run_dict, run_noPart, run_part, run_slc, run_chain, run_call, run_meth, run_fn, run_fnK, run_fnL, run_caught, run_iter, run_enum, run_rng, run_rng2, run_zip, run_comp, run_yes, run_seq, run_skip, run_set, run_setO, run_setC, run_par, run_ret, run_retN, run_retO, run_ifS, run_drop, run_raise, run_break, run_cont, run_tgt, run_frz, run_for, run_subC, run_subO, run_own, run_mkF, kOpB, kOpA, kOp1, kIxB, kIxA, kTru, kNot, kAnd, kOr, kIte, kBl, kAsB, kAndV, kOrV, kConsB, kConsA, kTup, kLst, kStarB, kStarA, kDict, kPart, kSlC, kSlB, kSlA, kChC, kChB, kChA, kCall, kMeB, kMeA, kFn, kFnKB, kFnKA, kFnLA, kCaughtE, kCaughtQ, kIter, kEnum, kRng, kRng2B, kRng2A, kZipB, kZipA, kCmpB, kCmp, kSet, kSetO, kSetC, kParB, kParA, kRetE, kIf, kDrop, kTgt, kFor, kSubCC, kSubCB, kSubCA, kSubOB, kSubOA, kOwnB, kOwnA, kRet, kSeq_nx, kSeq_rt, kSeq_bk, kSeq_ct, opt_some, opt_none, opt_if, opt_map, opt_bind, slV_val, slO_own, slP_val, slP_own, cond_true, cond_false, List.getElem?_cons_zero, List.getElem?_cons_succ, List.set_cons_zero, List.set_cons_succ, List.replicate_succ, List.replicate_zero, List.map_cons, List.map_nil, List.cons_append, List.nil_append, List.length_cons, List.length_map, List.length_nil, Nat.reduceAdd, Nat.reduceSub, Nat.zero_add, Int.toNat_natCast, bindT, bindTs, itemsD, wipeD, slo, frz, permD, true_and, and_true, Bool.not_true, Bool.not_false, oo_add_i, oo_add_str, oo_add_tup, oo_add_lst, oo_sub_i, oo_mul_i, oo_mul_s, oo_mul_t, oo_mul_l, oo_rep_l, oo_cat_l, oo_fdiv, oo_mod, oo_pow, oo_neg, oo_lt_i, oo_le_i, oo_gt_i, oo_ge_i, oo_lt_s, oo_gt_s, oo_le_s, oo_ge_s, oo_is, oo_isnt, oo_isn_non, oo_isn_bl, oo_isn_int, oo_isn_str, oo_isn_tup, oo_isn_lst, oo_isn_dic, oo_tru_non, oo_tru_bl, oo_tru_int, oo_tru_str, oo_tru_tup, oo_tru_lst, oo_len_str, oo_len_tup, oo_len_lst, oo_len_scr, oo_len_dic, oo_sum, oo_max_l, oo_max_2, oo_min_l, oo_min_2, oo_all, oo_any, oo_abs, oo_int_i, oo_int_b, oo_tup_t, oo_tup_l, oo_lstF_t, oo_lstF_l, oo_lstF2_t, oo_lstF2_l, oo_lstF2_s, oo_lstF2_r, oo_nJoin, oo_nIndex, oo_join_lst, oo_join_tup, oo_index, oo_it_tup, oo_it_lst, oo_it_str, oo_it_scr, oo_ix_tup, oo_ix_lst, oo_ix_str, oo_ix_whole, oo_put_whole, oo_ix_cells, oo_put_cells, oo_ix_count, oo_put_count, oo_put_l, oo_app, oo_slc_t, oo_slc_l, oo_slc_s, oo_isi_ty, oo_isi_ex, oo_isi_non_bool, oo_isi_non_int, oo_isi_non_str, oo_isi_non_tuple, oo_isi_non_list, oo_isi_non_dict, oo_isi_bl_bool, oo_isi_bl_int, oo_isi_bl_str, oo_isi_bl_tuple, oo_isi_bl_list, oo_isi_bl_dict, oo_isi_int_bool, oo_isi_int_int, oo_isi_int_str, oo_isi_int_tuple, oo_isi_int_list, oo_isi_int_dict, oo_isi_str_bool, oo_isi_str_int, oo_isi_str_str, oo_isi_str_tuple, oo_isi_str_list, oo_isi_str_dict, oo_isi_tup_bool, oo_isi_tup_int, oo_isi_tup_str, oo_isi_tup_tuple, oo_isi_tup_list, oo_isi_tup_dict, oo_isi_lst_bool, oo_isi_lst_int, oo_isi_lst_str, oo_isi_lst_tuple, oo_isi_lst_list, oo_isi_lst_dict, oo_isi_dic_bool, oo_isi_dic_int, oo_isi_dic_str, oo_isi_dic_tuple, oo_isi_dic_list, oo_isi_dic_dict, oo_in_c, oo_inD, oo_ninD]
        have e18 : (10 : Int) ^ (18 : Int).toNat = 1000000000000000000 := by decide
        rw [e18]
        have hlen : cells.length < big := lt_big (by omega)
        have hcells : ∀ y ∈ cells ++ [z], lg y ≤ 2000000 := fun y hy => by
          rcases List.mem_append.mp hy with hy | hy
          · exact hc y hy
          · have : y = z := by simpa using hy
            subst this; omega
        have hmap : List.map D.int cells ++ [D.int z] = List.map D.int (cells ++ [z]) := by simp
        refine ⟨by decide, ?_⟩
        by_cases hz18 : (1000000000000000000 : Int) ≤ z
        · rw [decide_eq_true hz18]
          simp only [cond_true]
          have l1 : lg (z - 1000000000000000000) ≤ 1048577 := by
            have := lg_sub z 1000000000000000000
            have h2 : lg 1000000000000000000 ≤ 59 := by decide
            omega
          have l2 : lg (z - 1000000000000000000 + 1) ≤ 1048578 := by
            have := lg_add (z - 1000000000000000000) 1
            have h2 : lg 1 ≤ 1 := by decide
            omega
          have l3 := lg_mul w (z - 1000000000000000000 + 1)
          have l4 := lg_add (w * (z - 1000000000000000000 + 1)) (z - 1000000000000000000)
          have p1 : 0 ≤ w * (z - 1000000000000000000 + 1) := Int.mul_nonneg hw0 (by omega)
          have hj2 : j * 1048600 ≤ 62 * 1048600 := Nat.mul_le_mul_right _ (by omega)
          have hs : (j + 1) * 1048600 = j * 1048600 + 1048600 := Nat.succ_mul ..
          rw [Nat.zero_add] at hwl
          refine ⟨by decide, mulOk_of hwl l2 (by omega), by decide, hlen, _, .inl rfl, _, cells ++ [z], _, by rw [hmap], by omega, by omega, hcells, by simp; omega⟩
        · rw [decide_eq_false hz18]
          simp only [cond_false]
          have hs : (j + 1) * 1048600 = j * 1048600 + 1048600 := Nat.succ_mul ..
          rw [Nat.zero_add] at hwl
          have hg : lg w ≤ (j + 1) * 1048600 := by rw [hs]; exact Nat.le_trans hwl (Nat.le_add_right ..)
          refine ⟨hlen, _, .inl rfl, w, cells ++ [z], _, by rw [hmap], hw0, hg, hcells, ?_⟩
          rw [List.length_append]; simp only [List.length_cons, List.length_nil]; omega
    · rintro ρ T ⟨rfl, w, cells, o, rfl, hw0, hwl, hc, hcl⟩
      simp only [run_ok, run_exc, run_bad, run_ofO, run_ofB, run_var, run_peek, run_lit, run_op2, run_op1, run_idx, run_tru, run_not, run_and, run_or, run_ite, run_bl, run_asB, run_andV, run_orV, run_nil, run_cons, run_tup, run_lst, run_star, run_dict, run_noPart, run_part, run_slc, run_chain, run_call, run_meth, run_fn, run_fnK, run_fnL, run_caught, run_iter, run_enum, run_rng, run_rng2, run_zip, run_comp, run_yes, run_seq, run_skip, run_set, run_setO, run_setC, run_par, run_ret, run_retN, run_retO, run_ifS, run_drop, run_raise, run_break, run_cont, run_tgt, run_frz, run_for, run_subC, run_subO, run_own, run_mkF, kOpB, kOpA, kOp1, kIxB, kIxA, kTru, kNot, kAnd, kOr, kIte, kBl, kAsB, kAndV, kOrV, kConsB, kConsA, kTup, kLst, kStarB, kStarA, kDict, kPart, kSlC, kSlB, kSlA, kChC, kChB, kChA, kCall, kMeB, kMeA, kFn, kFnKB, kFnKA, kFnLA, kCaughtE, kCaughtQ, kIter, kEnum, kRng, kRng2B, kRng2A, kZipB, kZipA, kCmpB, kCmp, kSet, kSetO, kSetC, kParB, kParA, kRetE, kIf, kDrop, kTgt, kFor, kSubCC, kSubCB, kSubCA, kSubOB, kSubOA, kOwnB, kOwnA, kRet, kSeq_nx, kSeq_rt, kSeq_bk, kSeq_ct, opt_some, opt_none, opt_if, opt_map, opt_bind, slV_val, slO_own, slP_val, slP_own, cond_true, cond_false, List.getElem?_cons_zero, List.getElem?_cons_succ, List.set_cons_zero, List.set_cons_succ, List.replicate_succ, List.replicate_zero, List.map_cons, List.map_nil, List.cons_append, List.nil_append, List.length_cons, List.length_map, List.length_nil, Nat.reduceAdd, Nat.reduceSub, Nat.zero_add, Int.toNat_natCast, bindT, bindTs, itemsD, wipeD, slo, frz, permD, true_and, and_true, Bool.not_true, Bool.not_false, oo_add_i, oo_add_str, oo_add_tup, oo_add_lst, oo_sub_i, oo_mul_i, oo_mul_s, oo_mul_t, oo_mul_l, oo_rep_l, oo_cat_l, oo_fdiv, oo_mod, oo_pow, oo_neg, oo_lt_i, oo_le_i, oo_gt_i, oo_ge_i, oo_lt_s, oo_gt_s, oo_le_s, oo_ge_s, oo_is, oo_isnt, oo_isn_non, oo_isn_bl, oo_isn_int, oo_isn_str, oo_isn_tup, oo_isn_lst, oo_isn_dic, oo_tru_non, oo_tru_bl, oo_tru_int, oo_tru_str, oo_tru_tup, oo_tru_lst, oo_len_str, oo_len_tup, oo_len_lst, oo_len_scr, oo_len_dic, oo_sum, oo_max_l, oo_max_2, oo_min_l, oo_min_2, oo_all, oo_any, oo_abs, oo_int_i, oo_int_b, oo_tup_t, oo_tup_l, oo_lstF_t, oo_lstF_l, oo_lstF2_t, oo_lstF2_l, oo_lstF2_s, oo_lstF2_r, oo_nJoin, oo_nIndex, oo_join_lst, oo_join_tup, oo_index, oo_it_tup, oo_it_lst, oo_it_str, oo_it_scr, oo_ix_tup, oo_ix_lst, oo_ix_str, oo_ix_whole, oo_put_whole, oo_ix_cells, oo_put_cells, oo_ix_count, oo_put_count, oo_put_l, oo_app, oo_slc_t, oo_slc_l, oo_slc_s, oo_isi_ty, oo_isi_ex, oo_isi_non_bool, oo_isi_non_int, oo_isi_non_str, oo_isi_non_tuple, oo_isi_non_list, oo_isi_non_dict, oo_isi_bl_bool, oo_isi_bl_int, oo_isi_bl_str, oo_isi_bl_tuple, oo_isi_bl_list, oo_isi_bl_dict, oo_isi_int_bool, oo_isi_int_int, oo_isi_int_str, oo_isi_int_tuple, oo_isi_int_list, oo_isi_int_dict, oo_isi_str_bool, oo_isi_str_int, oo_isi_str_str, oo_isi_str_tuple, oo_isi_str_list, oo_isi_str_dict, oo_isi_tup_bool, oo_isi_tup_int, oo_isi_tup_str, oo_isi_tup_tuple, oo_isi_tup_list, oo_isi_tup_dict, oo_isi_lst_bool, oo_isi_lst_int, oo_isi_lst_str, oo_isi_lst_tuple, oo_isi_lst_list, oo_isi_lst_dict, oo_isi_dic_bool, oo_isi_dic_int, oo_isi_dic_str, oo_isi_dic_tuple, oo_isi_dic_list, oo_isi_dic_dict, oo_in_c, oo_inD, oo_ninD]
      rw [Nat.zero_add, List.length_map] at hcl
      exact ⟨by decide, w, cells, rfl, hw0, hc, by omega⟩
  obtain ⟨a, S', e, rfl, w, cells, rfl, h1, h2, h3⟩ := key.ok_of
  exact ⟨w, cells, e, h1, h2, h3⟩
theorem p_nolot {m : Nat} {S : List D} (h : Dr m S) (hm : 1 ≤ m) : Run (f__law_no_lot [.cel 0] S) (DrR (fun x => ∀ S, f_need_lot [x] S = .exc "BadLot" none S) (m - 1)) E0 := by
  simp only [f__law_no_lot, b__law_no_lot, run_ok, run_exc, run_bad, run_ofO, run_ofB, run_var, run_peek, run_lit, run_op2, run_op1, run_idx, run_tru, run_not, run_and, run_or, run_ite, run_bl, run_asB, run_andV, run_orV, run_nil, run_cons, run_tup, run_lst, run_star, run_dict, run_noPart, run_part, run_slc, run_chain, run_call, run_meth, run_fn, run_fnK, run_fnL, run_caught, run_iter, run_enum, run_rng, run_rng2, run_zip, run_comp, run_yes, run_seq, run_skip, run_set, run_setO, run_setC, run_par, run_ret, run_retN, run_retO, run_ifS, run_drop, run_raise, run_break, run_cont, run_tgt, run_frz, run_for, run_subC, run_subO, run_own, run_mkF, kOpB, kOpA, kOp1, kIxB, kIxA, kTru, kNot, kAnd, kOr, kIte, kBl, kAsB, kAndV, kOrV, kConsB, kConsA, kTup, kLst, kStarB, kStarA, kDict, kPart, kSlC, kSlB, kSlA, kChC, kChB, kChA, kCall, kMeB, kMeA, kFn, kFnKB, kFnKA, kFnLA, kCaughtE, kCaughtQ, kIter, kEnum, kRng, kRng2B, kRng2A, kZipB, kZipA, kCmpB, kCmp, kSet, kSetO, kSetC, kParB, kParA, kRetE, kIf, kDrop, kTgt, kFor, kSubCC, kSubCB, kSubCA, kSubOB, kSubOA, kOwnB, kOwnA, kRet, kSeq_nx, kSeq_rt, kSeq_bk, kSeq_ct, opt_some, opt_none, opt_if, opt_map, opt_bind, slV_val, slO_own, slP_val, slP_own, cond_true, cond_false, List.getElem?_cons_zero, List.getElem?_cons_succ, List.set_cons_zero, List.set_cons_succ, List.replicate_succ, List.replicate_zero, List.map_cons, List.map_nil, List.cons_append, List.nil_append, List.length_cons, List.length_map, List.length_nil, Nat.reduceAdd, Nat.reduceSub, Nat.zero_add, Int.toNat_natCast, bindT, bindTs, itemsD, wipeD, slo, frz, permD, true_and, and_true, Bool.not_true, Bool.not_false, oo_add_i, oo_add_str, oo_add_tup, oo_add_lst, oo_sub_i, oo_mul_i, oo_mul_s, oo_mul_t, oo_mul_l, oo_rep_l, oo_cat_l, oo_fdiv, oo_mod, oo_pow, oo_neg, oo_lt_i, oo_le_i, oo_gt_i, oo_ge_i, oo_lt_s, oo_gt_s, oo_le_s, oo_ge_s, oo_is, oo_isnt, oo_isn_non, oo_isn_bl, oo_isn_int, oo_isn_str, oo_isn_tup, oo_isn_lst, oo_isn_dic, oo_tru_non, oo_tru_bl, oo_tru_int, oo_tru_str, oo_tru_tup, oo_tru_lst, oo_len_str, oo_len_tup, oo_len_lst, oo_len_scr, oo_len_dic, oo_sum, oo_max_l, oo_max_2, oo_min_l, oo_min_2, oo_all, oo_any, oo_abs, oo_int_i, oo_int_b, oo_tup_t, oo_tup_l, oo_lstF_t, oo_lstF_l, oo_lstF2_t, oo_lstF2_l, oo_lstF2_s, oo_lstF2_r, oo_nJoin, oo_nIndex, oo_join_lst, oo_join_tup, oo_index, oo_it_tup, oo_it_lst, oo_it_str, oo_it_scr, oo_ix_tup, oo_ix_lst, oo_ix_str, oo_ix_whole, oo_put_whole, oo_ix_cells, oo_put_cells, oo_ix_count, oo_put_count, oo_put_l, oo_app, oo_slc_t, oo_slc_l, oo_slc_s, oo_isi_ty, oo_isi_ex, oo_isi_non_bool, oo_isi_non_int, oo_isi_non_str, oo_isi_non_tuple, oo_isi_non_list, oo_isi_non_dict, oo_isi_bl_bool, oo_isi_bl_int, oo_isi_bl_str, oo_isi_bl_tuple, oo_isi_bl_list, oo_isi_bl_dict, oo_isi_int_bool, oo_isi_int_int, oo_isi_int_str, oo_isi_int_tuple, oo_isi_int_list, oo_isi_int_dict, oo_isi_str_bool, oo_isi_str_int, oo_isi_str_str, oo_isi_str_tuple, oo_isi_str_list, oo_isi_str_dict, oo_isi_tup_bool, oo_isi_tup_int, oo_isi_tup_str, oo_isi_tup_tuple, oo_isi_tup_list, oo_isi_tup_dict, oo_isi_lst_bool, oo_isi_lst_int, oo_isi_lst_str, oo_isi_lst_tuple, oo_isi_lst_list, oo_isi_lst_dict, oo_isi_dic_bool, oo_isi_dic_int, oo_isi_dic_str, oo_isi_dic_tuple, oo_isi_dic_list, oo_isi_dic_dict, oo_in_c, oo_inD, oo_ninD]
  refine ⟨by decide, by decide, by decide, by decide, by decide, by decide, by decide, by decide, by decide, by decide, by decide, ?_⟩
  refine Run.step (p_pick h hm (by simp) (by simp)) ?_
  rintro x S1 ⟨hx, hD⟩
  exact ⟨bad_lots x hx, hD⟩
theorem p_number {m : Nat} {S : List D} (h : Dr m S) (hm : 1 ≤ m) : Run (f__law_number [.cel 0, .int 0, .int 24] S) (DrR (fun x => ∀ S, f_need_most [x] S = .exc "BadMost" none S) (m - 1)) E0 := by
  simp only [f__law_number, b__law_number, run_ok, run_exc, run_bad, run_ofO, run_ofB, run_var, run_peek, run_lit, run_op2, run_op1, run_idx, run_tru, run_not, run_and, run_or, run_ite, run_bl, run_asB, run_andV, run_orV, run_nil, run_cons, run_tup, run_lst, run_star, run_dict, run_noPart, run_part, run_slc, run_chain, run_call, run_meth, run_fn, run_fnK, run_fnL, run_caught, run_iter, run_enum, run_rng, run_rng2, run_zip, run_comp, run_yes, run_seq, run_skip, run_set, run_setO, run_setC, run_par, run_ret, run_retN, run_retO, run_ifS, run_drop, run_raise, run_break, run_cont, run_tgt, run_frz, run_for, run_subC, run_subO, run_own, run_mkF, kOpB, kOpA, kOp1, kIxB, kIxA, kTru, kNot, kAnd, kOr, kIte, kBl, kAsB, kAndV, kOrV, kConsB, kConsA, kTup, kLst, kStarB, kStarA, kDict, kPart, kSlC, kSlB, kSlA, kChC, kChB, kChA, kCall, kMeB, kMeA, kFn, kFnKB, kFnKA, kFnLA, kCaughtE, kCaughtQ, kIter, kEnum, kRng, kRng2B, kRng2A, kZipB, kZipA, kCmpB, kCmp, kSet, kSetO, kSetC, kParB, kParA, kRetE, kIf, kDrop, kTgt, kFor, kSubCC, kSubCB, kSubCA, kSubOB, kSubOA, kOwnB, kOwnA, kRet, kSeq_nx, kSeq_rt, kSeq_bk, kSeq_ct, opt_some, opt_none, opt_if, opt_map, opt_bind, slV_val, slO_own, slP_val, slP_own, cond_true, cond_false, List.getElem?_cons_zero, List.getElem?_cons_succ, List.set_cons_zero, List.set_cons_succ, List.replicate_succ, List.replicate_zero, List.map_cons, List.map_nil, List.cons_append, List.nil_append, List.length_cons, List.length_map, List.length_nil, Nat.reduceAdd, Nat.reduceSub, Nat.zero_add, Int.toNat_natCast, bindT, bindTs, itemsD, wipeD, slo, frz, permD, true_and, and_true, Bool.not_true, Bool.not_false, oo_add_i, oo_add_str, oo_add_tup, oo_add_lst, oo_sub_i, oo_mul_i, oo_mul_s, oo_mul_t, oo_mul_l, oo_rep_l, oo_cat_l, oo_fdiv, oo_mod, oo_pow, oo_neg, oo_lt_i, oo_le_i, oo_gt_i, oo_ge_i, oo_lt_s, oo_gt_s, oo_le_s, oo_ge_s, oo_is, oo_isnt, oo_isn_non, oo_isn_bl, oo_isn_int, oo_isn_str, oo_isn_tup, oo_isn_lst, oo_isn_dic, oo_tru_non, oo_tru_bl, oo_tru_int, oo_tru_str, oo_tru_tup, oo_tru_lst, oo_len_str, oo_len_tup, oo_len_lst, oo_len_scr, oo_len_dic, oo_sum, oo_max_l, oo_max_2, oo_min_l, oo_min_2, oo_all, oo_any, oo_abs, oo_int_i, oo_int_b, oo_tup_t, oo_tup_l, oo_lstF_t, oo_lstF_l, oo_lstF2_t, oo_lstF2_l, oo_lstF2_s, oo_lstF2_r, oo_nJoin, oo_nIndex, oo_join_lst, oo_join_tup, oo_index, oo_it_tup, oo_it_lst, oo_it_str, oo_it_scr, oo_ix_tup, oo_ix_lst, oo_ix_str, oo_ix_whole, oo_put_whole, oo_ix_cells, oo_put_cells, oo_ix_count, oo_put_count, oo_put_l, oo_app, oo_slc_t, oo_slc_l, oo_slc_s, oo_isi_ty, oo_isi_ex, oo_isi_non_bool, oo_isi_non_int, oo_isi_non_str, oo_isi_non_tuple, oo_isi_non_list, oo_isi_non_dict, oo_isi_bl_bool, oo_isi_bl_int, oo_isi_bl_str, oo_isi_bl_tuple, oo_isi_bl_list, oo_isi_bl_dict, oo_isi_int_bool, oo_isi_int_int, oo_isi_int_str, oo_isi_int_tuple, oo_isi_int_list, oo_isi_int_dict, oo_isi_str_bool, oo_isi_str_int, oo_isi_str_str, oo_isi_str_tuple, oo_isi_str_list, oo_isi_str_dict, oo_isi_tup_bool, oo_isi_tup_int, oo_isi_tup_str, oo_isi_tup_tuple, oo_isi_tup_list, oo_isi_tup_dict, oo_isi_lst_bool, oo_isi_lst_int, oo_isi_lst_str, oo_isi_lst_tuple, oo_isi_lst_list, oo_isi_lst_dict, oo_isi_dic_bool, oo_isi_dic_int, oo_isi_dic_str, oo_isi_dic_tuple, oo_isi_dic_list, oo_isi_dic_dict, oo_in_c, oo_inD, oo_ninD]
  refine ⟨by decide, by decide, by decide, by decide, ?_⟩
  refine Run.step (p_pick h hm (by simp) (by simp)) ?_
  rintro x S1 ⟨hx, hD⟩
  exact ⟨bad_mosts x hx, hD⟩
theorem bad2 {f : FD} {x y : D} (hf : ∀ S, f_need_lot [x] S = .exc "BadLot" none S) (S : List D) : f_need_lot_and_word [x, y] S = .exc "BadLot" none S := by
  show mkFb true 2 2 b_need_lot_and_word [x, y] S = _
  unfold mkFb b_need_lot_and_word mSeq mDrop mFn mCons mVar mNil
  simp [hf, R.bind]
theorem exc_of {α : Type} {r : R α} {c : Str} {S : List D} (h : Run r (fun _ _ => False) (fun c' p S' => c' = c ∧ p = none ∧ S' = S)) : r = .exc c none S := by
  cases r with
  | ok a s => rw [run_ok] at h; exact h.elim
  | bad => rw [run_bad] at h; exact h.elim
  | exc c p s =>
    rw [run_exc] at h
    obtain ⟨rfl, rfl, rfl⟩ := h
    rfl
theorem four_lot {x y : D} (hf : ∀ S, f_need_lot [x] S = .exc "BadLot" none S) (S : List D) {f : FD} (h : f ∈ [f_far_row, f_farthest, f_farthest_word, f_sum_far]) : f [x, y] S = .exc "BadLot" none S := by
  apply exc_of
  simp only [List.mem_cons, List.not_mem_nil, or_false] at h
  rcases h with rfl | rfl | rfl | rfl
  · simp only [f_far_row, b_far_row, run_ok, run_exc, run_bad, run_ofO, run_ofB, run_var, run_peek, run_lit, run_op2, run_op1, run_idx, run_tru, run_not, run_and, run_or, run_ite, run_bl, run_asB, run_andV, run_orV, run_nil, run_cons, run_tup, run_lst, run_star, run_dict, run_noPart, run_part, run_slc, run_chain, run_call, run_meth, run_fn, run_fnK, run_fnL, run_caught, run_iter, run_enum, run_rng, run_rng2, run_zip, run_comp, run_yes, run_seq, run_skip, run_set, run_setO, run_setC, run_par, run_ret, run_retN, run_retO, run_ifS, run_drop, run_raise, run_break, run_cont, run_tgt, run_frz, run_for, run_subC, run_subO, run_own, run_mkF, kOpB, kOpA, kOp1, kIxB, kIxA, kTru, kNot, kAnd, kOr, kIte, kBl, kAsB, kAndV, kOrV, kConsB, kConsA, kTup, kLst, kStarB, kStarA, kDict, kPart, kSlC, kSlB, kSlA, kChC, kChB, kChA, kCall, kMeB, kMeA, kFn, kFnKB, kFnKA, kFnLA, kCaughtE, kCaughtQ, kIter, kEnum, kRng, kRng2B, kRng2A, kZipB, kZipA, kCmpB, kCmp, kSet, kSetO, kSetC, kParB, kParA, kRetE, kIf, kDrop, kTgt, kFor, kSubCC, kSubCB, kSubCA, kSubOB, kSubOA, kOwnB, kOwnA, kRet, kSeq_nx, kSeq_rt, kSeq_bk, kSeq_ct, opt_some, opt_none, opt_if, opt_map, opt_bind, slV_val, slO_own, slP_val, slP_own, cond_true, cond_false, List.getElem?_cons_zero, List.getElem?_cons_succ, List.set_cons_zero, List.set_cons_succ, List.replicate_succ, List.replicate_zero, List.map_cons, List.map_nil, List.cons_append, List.nil_append, List.length_cons, List.length_map, List.length_nil, Nat.reduceAdd, Nat.reduceSub, Nat.zero_add, Int.toNat_natCast, bindT, bindTs, itemsD, wipeD, slo, frz, permD, true_and, and_true, Bool.not_true, Bool.not_false, bad2 (f := f_far_row) hf, run_exc, and_self]
  · simp only [f_farthest, b_farthest, run_ok, run_exc, run_bad, run_ofO, run_ofB, run_var, run_peek, run_lit, run_op2, run_op1, run_idx, run_tru, run_not, run_and, run_or, run_ite, run_bl, run_asB, run_andV, run_orV, run_nil, run_cons, run_tup, run_lst, run_star, run_dict, run_noPart, run_part, run_slc, run_chain, run_call, run_meth, run_fn, run_fnK, run_fnL, run_caught, run_iter, run_enum, run_rng, run_rng2, run_zip, run_comp, run_yes, run_seq, run_skip, run_set, run_setO, run_setC, run_par, run_ret, run_retN, run_retO, run_ifS, run_drop, run_raise, run_break, run_cont, run_tgt, run_frz, run_for, run_subC, run_subO, run_own, run_mkF, kOpB, kOpA, kOp1, kIxB, kIxA, kTru, kNot, kAnd, kOr, kIte, kBl, kAsB, kAndV, kOrV, kConsB, kConsA, kTup, kLst, kStarB, kStarA, kDict, kPart, kSlC, kSlB, kSlA, kChC, kChB, kChA, kCall, kMeB, kMeA, kFn, kFnKB, kFnKA, kFnLA, kCaughtE, kCaughtQ, kIter, kEnum, kRng, kRng2B, kRng2A, kZipB, kZipA, kCmpB, kCmp, kSet, kSetO, kSetC, kParB, kParA, kRetE, kIf, kDrop, kTgt, kFor, kSubCC, kSubCB, kSubCA, kSubOB, kSubOA, kOwnB, kOwnA, kRet, kSeq_nx, kSeq_rt, kSeq_bk, kSeq_ct, opt_some, opt_none, opt_if, opt_map, opt_bind, slV_val, slO_own, slP_val, slP_own, cond_true, cond_false, List.getElem?_cons_zero, List.getElem?_cons_succ, List.set_cons_zero, List.set_cons_succ, List.replicate_succ, List.replicate_zero, List.map_cons, List.map_nil, List.cons_append, List.nil_append, List.length_cons, List.length_map, List.length_nil, Nat.reduceAdd, Nat.reduceSub, Nat.zero_add, Int.toNat_natCast, bindT, bindTs, itemsD, wipeD, slo, frz, permD, true_and, and_true, Bool.not_true, Bool.not_false, bad2 (f := f_far_row) hf, run_exc, and_self]
  · simp only [f_farthest_word, b_farthest_word, run_ok, run_exc, run_bad, run_ofO, run_ofB, run_var, run_peek, run_lit, run_op2, run_op1, run_idx, run_tru, run_not, run_and, run_or, run_ite, run_bl, run_asB, run_andV, run_orV, run_nil, run_cons, run_tup, run_lst, run_star, run_dict, run_noPart, run_part, run_slc, run_chain, run_call, run_meth, run_fn, run_fnK, run_fnL, run_caught, run_iter, run_enum, run_rng, run_rng2, run_zip, run_comp, run_yes, run_seq, run_skip, run_set, run_setO, run_setC, run_par, run_ret, run_retN, run_retO, run_ifS, run_drop, run_raise, run_break, run_cont, run_tgt, run_frz, run_for, run_subC, run_subO, run_own, run_mkF, kOpB, kOpA, kOp1, kIxB, kIxA, kTru, kNot, kAnd, kOr, kIte, kBl, kAsB, kAndV, kOrV, kConsB, kConsA, kTup, kLst, kStarB, kStarA, kDict, kPart, kSlC, kSlB, kSlA, kChC, kChB, kChA, kCall, kMeB, kMeA, kFn, kFnKB, kFnKA, kFnLA, kCaughtE, kCaughtQ, kIter, kEnum, kRng, kRng2B, kRng2A, kZipB, kZipA, kCmpB, kCmp, kSet, kSetO, kSetC, kParB, kParA, kRetE, kIf, kDrop, kTgt, kFor, kSubCC, kSubCB, kSubCA, kSubOB, kSubOA, kOwnB, kOwnA, kRet, kSeq_nx, kSeq_rt, kSeq_bk, kSeq_ct, opt_some, opt_none, opt_if, opt_map, opt_bind, slV_val, slO_own, slP_val, slP_own, cond_true, cond_false, List.getElem?_cons_zero, List.getElem?_cons_succ, List.set_cons_zero, List.set_cons_succ, List.replicate_succ, List.replicate_zero, List.map_cons, List.map_nil, List.cons_append, List.nil_append, List.length_cons, List.length_map, List.length_nil, Nat.reduceAdd, Nat.reduceSub, Nat.zero_add, Int.toNat_natCast, bindT, bindTs, itemsD, wipeD, slo, frz, permD, true_and, and_true, Bool.not_true, Bool.not_false, bad2 (f := f_far_row) hf, run_exc, and_self]
  · simp only [f_sum_far, b_sum_far, run_ok, run_exc, run_bad, run_ofO, run_ofB, run_var, run_peek, run_lit, run_op2, run_op1, run_idx, run_tru, run_not, run_and, run_or, run_ite, run_bl, run_asB, run_andV, run_orV, run_nil, run_cons, run_tup, run_lst, run_star, run_dict, run_noPart, run_part, run_slc, run_chain, run_call, run_meth, run_fn, run_fnK, run_fnL, run_caught, run_iter, run_enum, run_rng, run_rng2, run_zip, run_comp, run_yes, run_seq, run_skip, run_set, run_setO, run_setC, run_par, run_ret, run_retN, run_retO, run_ifS, run_drop, run_raise, run_break, run_cont, run_tgt, run_frz, run_for, run_subC, run_subO, run_own, run_mkF, kOpB, kOpA, kOp1, kIxB, kIxA, kTru, kNot, kAnd, kOr, kIte, kBl, kAsB, kAndV, kOrV, kConsB, kConsA, kTup, kLst, kStarB, kStarA, kDict, kPart, kSlC, kSlB, kSlA, kChC, kChB, kChA, kCall, kMeB, kMeA, kFn, kFnKB, kFnKA, kFnLA, kCaughtE, kCaughtQ, kIter, kEnum, kRng, kRng2B, kRng2A, kZipB, kZipA, kCmpB, kCmp, kSet, kSetO, kSetC, kParB, kParA, kRetE, kIf, kDrop, kTgt, kFor, kSubCC, kSubCB, kSubCA, kSubOB, kSubOA, kOwnB, kOwnA, kRet, kSeq_nx, kSeq_rt, kSeq_bk, kSeq_ct, opt_some, opt_none, opt_if, opt_map, opt_bind, slV_val, slO_own, slP_val, slP_own, cond_true, cond_false, List.getElem?_cons_zero, List.getElem?_cons_succ, List.set_cons_zero, List.set_cons_succ, List.replicate_succ, List.replicate_zero, List.map_cons, List.map_nil, List.cons_append, List.nil_append, List.length_cons, List.length_map, List.length_nil, Nat.reduceAdd, Nat.reduceSub, Nat.zero_add, Int.toNat_natCast, bindT, bindTs, itemsD, wipeD, slo, frz, permD, true_and, and_true, Bool.not_true, Bool.not_false, bad2 (f := f_far_row) hf, run_exc, and_self]
theorem four_word {ws : List (List Nat)} {n : Nat} {y : D} (h : Lot ws n) (hf : ∀ S, f_need_own_word [.tup (ws.map .str), y] S = .exc "BadWord" none S) (S : List D) {f : FD} (hm : f ∈ [f_far_row, f_farthest, f_farthest_word, f_sum_far]) : f [.tup (ws.map .str), y] S = .exc "BadWord" none S := by
  apply exc_of
  have e : ∀ S, f_need_lot_and_word [.tup (ws.map .str), y] S = .exc "BadWord" none S := fun S => by
    apply exc_of
    simp only [f_need_lot_and_word, b_need_lot_and_word, run_ok, run_exc, run_bad, run_ofO, run_ofB, run_var, run_peek, run_lit, run_op2, run_op1, run_idx, run_tru, run_not, run_and, run_or, run_ite, run_bl, run_asB, run_andV, run_orV, run_nil, run_cons, run_tup, run_lst, run_star, run_dict, run_noPart, run_part, run_slc, run_chain, run_call, run_meth, run_fn, run_fnK, run_fnL, run_caught, run_iter, run_enum, run_rng, run_rng2, run_zip, run_comp, run_yes, run_seq, run_skip, run_set, run_setO, run_setC, run_par, run_ret, run_retN, run_retO, run_ifS, run_drop, run_raise, run_break, run_cont, run_tgt, run_frz, run_for, run_subC, run_subO, run_own, run_mkF, kOpB, kOpA, kOp1, kIxB, kIxA, kTru, kNot, kAnd, kOr, kIte, kBl, kAsB, kAndV, kOrV, kConsB, kConsA, kTup, kLst, kStarB, kStarA, kDict, kPart, kSlC, kSlB, kSlA, kChC, kChB, kChA, kCall, kMeB, kMeA, kFn, kFnKB, kFnKA, kFnLA, kCaughtE, kCaughtQ, kIter, kEnum, kRng, kRng2B, kRng2A, kZipB, kZipA, kCmpB, kCmp, kSet, kSetO, kSetC, kParB, kParA, kRetE, kIf, kDrop, kTgt, kFor, kSubCC, kSubCB, kSubCA, kSubOB, kSubOA, kOwnB, kOwnA, kRet, kSeq_nx, kSeq_rt, kSeq_bk, kSeq_ct, opt_some, opt_none, opt_if, opt_map, opt_bind, slV_val, slO_own, slP_val, slP_own, cond_true, cond_false, List.getElem?_cons_zero, List.getElem?_cons_succ, List.set_cons_zero, List.set_cons_succ, List.replicate_succ, List.replicate_zero, List.map_cons, List.map_nil, List.cons_append, List.nil_append, List.length_cons, List.length_map, List.length_nil, Nat.reduceAdd, Nat.reduceSub, Nat.zero_add, Int.toNat_natCast, bindT, bindTs, itemsD, wipeD, slo, frz, permD, true_and, and_true, Bool.not_true, Bool.not_false, q_need_lot h, hf, run_exc, and_self]
  simp only [List.mem_cons, List.not_mem_nil, or_false] at hm
  rcases hm with rfl | rfl | rfl | rfl
  · simp only [f_far_row, b_far_row, run_ok, run_exc, run_bad, run_ofO, run_ofB, run_var, run_peek, run_lit, run_op2, run_op1, run_idx, run_tru, run_not, run_and, run_or, run_ite, run_bl, run_asB, run_andV, run_orV, run_nil, run_cons, run_tup, run_lst, run_star, run_dict, run_noPart, run_part, run_slc, run_chain, run_call, run_meth, run_fn, run_fnK, run_fnL, run_caught, run_iter, run_enum, run_rng, run_rng2, run_zip, run_comp, run_yes, run_seq, run_skip, run_set, run_setO, run_setC, run_par, run_ret, run_retN, run_retO, run_ifS, run_drop, run_raise, run_break, run_cont, run_tgt, run_frz, run_for, run_subC, run_subO, run_own, run_mkF, kOpB, kOpA, kOp1, kIxB, kIxA, kTru, kNot, kAnd, kOr, kIte, kBl, kAsB, kAndV, kOrV, kConsB, kConsA, kTup, kLst, kStarB, kStarA, kDict, kPart, kSlC, kSlB, kSlA, kChC, kChB, kChA, kCall, kMeB, kMeA, kFn, kFnKB, kFnKA, kFnLA, kCaughtE, kCaughtQ, kIter, kEnum, kRng, kRng2B, kRng2A, kZipB, kZipA, kCmpB, kCmp, kSet, kSetO, kSetC, kParB, kParA, kRetE, kIf, kDrop, kTgt, kFor, kSubCC, kSubCB, kSubCA, kSubOB, kSubOA, kOwnB, kOwnA, kRet, kSeq_nx, kSeq_rt, kSeq_bk, kSeq_ct, opt_some, opt_none, opt_if, opt_map, opt_bind, slV_val, slO_own, slP_val, slP_own, cond_true, cond_false, List.getElem?_cons_zero, List.getElem?_cons_succ, List.set_cons_zero, List.set_cons_succ, List.replicate_succ, List.replicate_zero, List.map_cons, List.map_nil, List.cons_append, List.nil_append, List.length_cons, List.length_map, List.length_nil, Nat.reduceAdd, Nat.reduceSub, Nat.zero_add, Int.toNat_natCast, bindT, bindTs, itemsD, wipeD, slo, frz, permD, true_and, and_true, Bool.not_true, Bool.not_false, e, run_exc, and_self]
  · simp only [f_farthest, b_farthest, run_ok, run_exc, run_bad, run_ofO, run_ofB, run_var, run_peek, run_lit, run_op2, run_op1, run_idx, run_tru, run_not, run_and, run_or, run_ite, run_bl, run_asB, run_andV, run_orV, run_nil, run_cons, run_tup, run_lst, run_star, run_dict, run_noPart, run_part, run_slc, run_chain, run_call, run_meth, run_fn, run_fnK, run_fnL, run_caught, run_iter, run_enum, run_rng, run_rng2, run_zip, run_comp, run_yes, run_seq, run_skip, run_set, run_setO, run_setC, run_par, run_ret, run_retN, run_retO, run_ifS, run_drop, run_raise, run_break, run_cont, run_tgt, run_frz, run_for, run_subC, run_subO, run_own, run_mkF, kOpB, kOpA, kOp1, kIxB, kIxA, kTru, kNot, kAnd, kOr, kIte, kBl, kAsB, kAndV, kOrV, kConsB, kConsA, kTup, kLst, kStarB, kStarA, kDict, kPart, kSlC, kSlB, kSlA, kChC, kChB, kChA, kCall, kMeB, kMeA, kFn, kFnKB, kFnKA, kFnLA, kCaughtE, kCaughtQ, kIter, kEnum, kRng, kRng2B, kRng2A, kZipB, kZipA, kCmpB, kCmp, kSet, kSetO, kSetC, kParB, kParA, kRetE, kIf, kDrop, kTgt, kFor, kSubCC, kSubCB, kSubCA, kSubOB, kSubOA, kOwnB, kOwnA, kRet, kSeq_nx, kSeq_rt, kSeq_bk, kSeq_ct, opt_some, opt_none, opt_if, opt_map, opt_bind, slV_val, slO_own, slP_val, slP_own, cond_true, cond_false, List.getElem?_cons_zero, List.getElem?_cons_succ, List.set_cons_zero, List.set_cons_succ, List.replicate_succ, List.replicate_zero, List.map_cons, List.map_nil, List.cons_append, List.nil_append, List.length_cons, List.length_map, List.length_nil, Nat.reduceAdd, Nat.reduceSub, Nat.zero_add, Int.toNat_natCast, bindT, bindTs, itemsD, wipeD, slo, frz, permD, true_and, and_true, Bool.not_true, Bool.not_false, e, run_exc, and_self]
  · simp only [f_farthest_word, b_farthest_word, run_ok, run_exc, run_bad, run_ofO, run_ofB, run_var, run_peek, run_lit, run_op2, run_op1, run_idx, run_tru, run_not, run_and, run_or, run_ite, run_bl, run_asB, run_andV, run_orV, run_nil, run_cons, run_tup, run_lst, run_star, run_dict, run_noPart, run_part, run_slc, run_chain, run_call, run_meth, run_fn, run_fnK, run_fnL, run_caught, run_iter, run_enum, run_rng, run_rng2, run_zip, run_comp, run_yes, run_seq, run_skip, run_set, run_setO, run_setC, run_par, run_ret, run_retN, run_retO, run_ifS, run_drop, run_raise, run_break, run_cont, run_tgt, run_frz, run_for, run_subC, run_subO, run_own, run_mkF, kOpB, kOpA, kOp1, kIxB, kIxA, kTru, kNot, kAnd, kOr, kIte, kBl, kAsB, kAndV, kOrV, kConsB, kConsA, kTup, kLst, kStarB, kStarA, kDict, kPart, kSlC, kSlB, kSlA, kChC, kChB, kChA, kCall, kMeB, kMeA, kFn, kFnKB, kFnKA, kFnLA, kCaughtE, kCaughtQ, kIter, kEnum, kRng, kRng2B, kRng2A, kZipB, kZipA, kCmpB, kCmp, kSet, kSetO, kSetC, kParB, kParA, kRetE, kIf, kDrop, kTgt, kFor, kSubCC, kSubCB, kSubCA, kSubOB, kSubOA, kOwnB, kOwnA, kRet, kSeq_nx, kSeq_rt, kSeq_bk, kSeq_ct, opt_some, opt_none, opt_if, opt_map, opt_bind, slV_val, slO_own, slP_val, slP_own, cond_true, cond_false, List.getElem?_cons_zero, List.getElem?_cons_succ, List.set_cons_zero, List.set_cons_succ, List.replicate_succ, List.replicate_zero, List.map_cons, List.map_nil, List.cons_append, List.nil_append, List.length_cons, List.length_map, List.length_nil, Nat.reduceAdd, Nat.reduceSub, Nat.zero_add, Int.toNat_natCast, bindT, bindTs, itemsD, wipeD, slo, frz, permD, true_and, and_true, Bool.not_true, Bool.not_false, e, run_exc, and_self]
  · simp only [f_sum_far, b_sum_far, run_ok, run_exc, run_bad, run_ofO, run_ofB, run_var, run_peek, run_lit, run_op2, run_op1, run_idx, run_tru, run_not, run_and, run_or, run_ite, run_bl, run_asB, run_andV, run_orV, run_nil, run_cons, run_tup, run_lst, run_star, run_dict, run_noPart, run_part, run_slc, run_chain, run_call, run_meth, run_fn, run_fnK, run_fnL, run_caught, run_iter, run_enum, run_rng, run_rng2, run_zip, run_comp, run_yes, run_seq, run_skip, run_set, run_setO, run_setC, run_par, run_ret, run_retN, run_retO, run_ifS, run_drop, run_raise, run_break, run_cont, run_tgt, run_frz, run_for, run_subC, run_subO, run_own, run_mkF, kOpB, kOpA, kOp1, kIxB, kIxA, kTru, kNot, kAnd, kOr, kIte, kBl, kAsB, kAndV, kOrV, kConsB, kConsA, kTup, kLst, kStarB, kStarA, kDict, kPart, kSlC, kSlB, kSlA, kChC, kChB, kChA, kCall, kMeB, kMeA, kFn, kFnKB, kFnKA, kFnLA, kCaughtE, kCaughtQ, kIter, kEnum, kRng, kRng2B, kRng2A, kZipB, kZipA, kCmpB, kCmp, kSet, kSetO, kSetC, kParB, kParA, kRetE, kIf, kDrop, kTgt, kFor, kSubCC, kSubCB, kSubCA, kSubOB, kSubOA, kOwnB, kOwnA, kRet, kSeq_nx, kSeq_rt, kSeq_bk, kSeq_ct, opt_some, opt_none, opt_if, opt_map, opt_bind, slV_val, slO_own, slP_val, slP_own, cond_true, cond_false, List.getElem?_cons_zero, List.getElem?_cons_succ, List.set_cons_zero, List.set_cons_succ, List.replicate_succ, List.replicate_zero, List.map_cons, List.map_nil, List.cons_append, List.nil_append, List.length_cons, List.length_map, List.length_nil, Nat.reduceAdd, Nat.reduceSub, Nat.zero_add, Int.toNat_natCast, bindT, bindTs, itemsD, wipeD, slo, frz, permD, true_and, and_true, Bool.not_true, Bool.not_false, e, run_exc, and_self]
theorem two_most {ws : List (List Nat)} {w : List Nat} {n : Nat} {y : D} (h : Lot ws n) (hw : Wd w) (hl : w.length = n) (hf : ∀ S, f_need_most [y] S = .exc "BadMost" none S) (S : List D) {f : FD} (hm : f ∈ [f_is_centre, f_near_words]) : f [.tup (ws.map .str), .str w, y] S = .exc "BadMost" none S := by
  apply exc_of
  simp only [List.mem_cons, List.not_mem_nil, or_false] at hm
  rcases hm with rfl | rfl
  · simp only [f_is_centre, b_is_centre, run_ok, run_exc, run_bad, run_ofO, run_ofB, run_var, run_peek, run_lit, run_op2, run_op1, run_idx, run_tru, run_not, run_and, run_or, run_ite, run_bl, run_asB, run_andV, run_orV, run_nil, run_cons, run_tup, run_lst, run_star, run_dict, run_noPart, run_part, run_slc, run_chain, run_call, run_meth, run_fn, run_fnK, run_fnL, run_caught, run_iter, run_enum, run_rng, run_rng2, run_zip, run_comp, run_yes, run_seq, run_skip, run_set, run_setO, run_setC, run_par, run_ret, run_retN, run_retO, run_ifS, run_drop, run_raise, run_break, run_cont, run_tgt, run_frz, run_for, run_subC, run_subO, run_own, run_mkF, kOpB, kOpA, kOp1, kIxB, kIxA, kTru, kNot, kAnd, kOr, kIte, kBl, kAsB, kAndV, kOrV, kConsB, kConsA, kTup, kLst, kStarB, kStarA, kDict, kPart, kSlC, kSlB, kSlA, kChC, kChB, kChA, kCall, kMeB, kMeA, kFn, kFnKB, kFnKA, kFnLA, kCaughtE, kCaughtQ, kIter, kEnum, kRng, kRng2B, kRng2A, kZipB, kZipA, kCmpB, kCmp, kSet, kSetO, kSetC, kParB, kParA, kRetE, kIf, kDrop, kTgt, kFor, kSubCC, kSubCB, kSubCA, kSubOB, kSubOA, kOwnB, kOwnA, kRet, kSeq_nx, kSeq_rt, kSeq_bk, kSeq_ct, opt_some, opt_none, opt_if, opt_map, opt_bind, slV_val, slO_own, slP_val, slP_own, cond_true, cond_false, List.getElem?_cons_zero, List.getElem?_cons_succ, List.set_cons_zero, List.set_cons_succ, List.replicate_succ, List.replicate_zero, List.map_cons, List.map_nil, List.cons_append, List.nil_append, List.length_cons, List.length_map, List.length_nil, Nat.reduceAdd, Nat.reduceSub, Nat.zero_add, Int.toNat_natCast, bindT, bindTs, itemsD, wipeD, slo, frz, permD, true_and, and_true, Bool.not_true, Bool.not_false, q_lw h hw hl, hf, run_exc, and_self]
  · simp only [f_near_words, b_near_words, run_ok, run_exc, run_bad, run_ofO, run_ofB, run_var, run_peek, run_lit, run_op2, run_op1, run_idx, run_tru, run_not, run_and, run_or, run_ite, run_bl, run_asB, run_andV, run_orV, run_nil, run_cons, run_tup, run_lst, run_star, run_dict, run_noPart, run_part, run_slc, run_chain, run_call, run_meth, run_fn, run_fnK, run_fnL, run_caught, run_iter, run_enum, run_rng, run_rng2, run_zip, run_comp, run_yes, run_seq, run_skip, run_set, run_setO, run_setC, run_par, run_ret, run_retN, run_retO, run_ifS, run_drop, run_raise, run_break, run_cont, run_tgt, run_frz, run_for, run_subC, run_subO, run_own, run_mkF, kOpB, kOpA, kOp1, kIxB, kIxA, kTru, kNot, kAnd, kOr, kIte, kBl, kAsB, kAndV, kOrV, kConsB, kConsA, kTup, kLst, kStarB, kStarA, kDict, kPart, kSlC, kSlB, kSlA, kChC, kChB, kChA, kCall, kMeB, kMeA, kFn, kFnKB, kFnKA, kFnLA, kCaughtE, kCaughtQ, kIter, kEnum, kRng, kRng2B, kRng2A, kZipB, kZipA, kCmpB, kCmp, kSet, kSetO, kSetC, kParB, kParA, kRetE, kIf, kDrop, kTgt, kFor, kSubCC, kSubCB, kSubCA, kSubOB, kSubOA, kOwnB, kOwnA, kRet, kSeq_nx, kSeq_rt, kSeq_bk, kSeq_ct, opt_some, opt_none, opt_if, opt_map, opt_bind, slV_val, slO_own, slP_val, slP_own, cond_true, cond_false, List.getElem?_cons_zero, List.getElem?_cons_succ, List.set_cons_zero, List.set_cons_succ, List.replicate_succ, List.replicate_zero, List.map_cons, List.map_nil, List.cons_append, List.nil_append, List.length_cons, List.length_map, List.length_nil, Nat.reduceAdd, Nat.reduceSub, Nat.zero_add, Int.toNat_natCast, bindT, bindTs, itemsD, wipeD, slo, frz, permD, true_and, and_true, Bool.not_true, Bool.not_false, q_lw h hw hl, hf, run_exc, and_self]
end Dm
end
section
namespace Dm
open PySem PySem.Spec L2 PyProof.Rows
abbrev EV (ns : List Int) (o2 o3 o4 o5 o6 o7 o8 o9 o10 o11 o12 o13 o14 : Option Slot) : DEnv := [some (.val (.scr ns)), some (.val (.cel 0)), o2, o3, o4, o5, o6, o7, o8, o9, o10, o11, o12, o13, o14]
theorem plain (ns : List Int) (hl : ns.length ≤ 63) (hb : ∀ z ∈ ns, Builtin.Int.intBits z ≤ 1048576) : ∃ S', f_law [.scr ns] [] = .ok (.bl true) S' := by
  obtain ⟨w0, cells, e0, hw0, hc, hcl⟩ := p_begun hl hb
  have key : Run (f_law [.scr ns] []) (fun d S' => d = .bl true) E0 := by
    simp only [f_law, b_law, run_ok, run_exc, run_bad, run_ofO, run_ofB, run_var, run_peek, run_lit, run_op2, run_op1, run_idx, run_tru, run_not, run_and, run_or, run_ite, run_bl, run_asB, run_andV, run_orV, run_nil, run_cons, run_tup, run_lst, run_star, run_dict, run_noPart, run_part, run_slc, run_chain, run_call, run_meth, run_fn, run_fnK, run_fnL, run_caught, run_iter, run_enum, run_rng, run_rng2, run_zip, run_comp, run_yes, run_seq, run_skip, run_set, run_setO, run_setC, run_par, run_ret, run_retN, run_retO, run_ifS, run_drop, run_raise, run_break, run_cont, run_tgt, run_frz, run_for, run_subC, run_subO, run_own, run_mkF, kOpB, kOpA, kOp1, kIxB, kIxA, kTru, kNot, kAnd, kOr, kIte, kBl, kAsB, kAndV, kOrV, kConsB, kConsA, kTup, kLst, kStarB, kStarA, kDict, kPart, kSlC, kSlB, kSlA, kChC, kChB, kChA, kCall, kMeB, kMeA, kFn, kFnKB, kFnKA, kFnLA, kCaughtE, kCaughtQ, kIter, kEnum, kRng, kRng2B, kRng2A, kZipB, kZipA, kCmpB, kCmp, kSet, kSetO, kSetC, kParB, kParA, kRetE, kIf, kDrop, kTgt, kFor, kSubCC, kSubCB, kSubCA, kSubOB, kSubOA, kOwnB, kOwnA, kRet, kSeq_nx, kSeq_rt, kSeq_bk, kSeq_ct, opt_some, opt_none, opt_if, opt_map, opt_bind, slV_val, slO_own, slP_val, slP_own, cond_true, cond_false, List.getElem?_cons_zero, List.getElem?_cons_succ, List.set_cons_zero, List.set_cons_succ, List.replicate_succ, List.replicate_zero, List.map_cons, List.map_nil, List.cons_append, List.nil_append, List.length_cons, List.length_map, List.length_nil, Nat.reduceAdd, Nat.reduceSub, Nat.zero_add, Int.toNat_natCast, bindT, bindTs, itemsD, wipeD, slo, frz, permD, true_and, and_true, Bool.not_true, Bool.not_false, oo_add_i, oo_add_str, oo_add_tup, oo_add_lst, oo_sub_i, oo_mul_i, oo_mul_s, oo_mul_t, oo_mul_l, oo_rep_l, oo_cat_l, oo_fdiv, oo_mod, oo_pow, oo_neg, oo_lt_i, oo_le_i, oo_gt_i, oo_ge_i, oo_lt_s, oo_gt_s, oo_le_s, oo_ge_s, oo_is, oo_isnt, oo_isn_non, oo_isn_bl, oo_isn_int, oo_isn_str, oo_isn_tup, oo_isn_lst, oo_isn_dic, oo_tru_non, oo_tru_bl, oo_tru_int, oo_tru_str, oo_tru_tup, oo_tru_lst, oo_len_str, oo_len_tup, oo_len_lst, oo_len_scr, oo_len_dic, oo_sum, oo_max_l, oo_max_2, oo_min_l, oo_min_2, oo_all, oo_any, oo_abs, oo_int_i, oo_int_b, oo_tup_t, oo_tup_l, oo_lstF_t, oo_lstF_l, oo_lstF2_t, oo_lstF2_l, oo_lstF2_s, oo_lstF2_r, oo_nJoin, oo_nIndex, oo_join_lst, oo_join_tup, oo_index, oo_it_tup, oo_it_lst, oo_it_str, oo_it_scr, oo_ix_tup, oo_ix_lst, oo_ix_str, oo_ix_whole, oo_put_whole, oo_ix_cells, oo_put_cells, oo_ix_count, oo_put_count, oo_put_l, oo_app, oo_slc_t, oo_slc_l, oo_slc_s, oo_isi_ty, oo_isi_ex, oo_isi_non_bool, oo_isi_non_int, oo_isi_non_str, oo_isi_non_tuple, oo_isi_non_list, oo_isi_non_dict, oo_isi_bl_bool, oo_isi_bl_int, oo_isi_bl_str, oo_isi_bl_tuple, oo_isi_bl_list, oo_isi_bl_dict, oo_isi_int_bool, oo_isi_int_int, oo_isi_int_str, oo_isi_int_tuple, oo_isi_int_list, oo_isi_int_dict, oo_isi_str_bool, oo_isi_str_int, oo_isi_str_str, oo_isi_str_tuple, oo_isi_str_list, oo_isi_str_dict, oo_isi_tup_bool, oo_isi_tup_int, oo_isi_tup_str, oo_isi_tup_tuple, oo_isi_tup_list, oo_isi_tup_dict, oo_isi_lst_bool, oo_isi_lst_int, oo_isi_lst_str, oo_isi_lst_tuple, oo_isi_lst_list, oo_isi_lst_dict, oo_isi_dic_bool, oo_isi_dic_int, oo_isi_dic_str, oo_isi_dic_tuple, oo_isi_dic_list, oo_isi_dic_dict, oo_in_c, oo_inD, oo_ninD, e0]
    refine ⟨rng_ok (by omega) (by omega), ?_⟩
    have hD : Dr 1000000 [.dic [.str [119, 104, 111, 108, 101], .str [99, 101, 108, 108, 115], .str [99, 111, 117, 110, 116]] [.int w0, .lst (cells.map .int), .int 0]] := ⟨w0, 0, cells, rfl, hw0, hc, hcl, by omega, by omega⟩
    refine run_forL_inv (i := 0) (I := fun i ρ T => Dr (1000000 - i * 5000) T ∧ ∃ o2 o3 o4 o5 o6 o7 o8 o9 o10 o11 o12 o13 o14, ρ = EV ns o2 o3 o4 o5 o6 o7 o8 o9 o10 o11 o12 o13 o14) ⟨hD, _, _, _, _, _, _, _, _, _, _, _, _, _, rfl⟩ ?_ ?_
    · rintro j d ρ T hj ⟨hT, o2, o3, o4, o5, o6, o7, o8, o9, o10, o11, o12, o13, o14, rfl⟩
      obtain ⟨hj, rfl⟩ := rangeD_at hj
      have hj20 : j < 20 := by omega
      refine ⟨_, rfl, ?_⟩
      have hm : 5000 ≤ 1000000 - (0 + j) * 5000 := by omega
      have em : 1000000 - (0 + j + 1) * 5000 = 1000000 - (0 + j) * 5000 - 5000 := by omega
      rw [em]
      generalize 1000000 - (0 + j) * 5000 = m at hT hm ⊢
      simp only [run_ok, run_exc, run_bad, run_ofO, run_ofB, run_var, run_peek, run_lit, run_op2, run_op1, run_idx, run_tru, run_not, run_and, run_or, run_ite, run_bl, run_asB, run_andV, run_orV, run_nil, run_cons, run_tup, run_lst, run_star, run_dict, run_noPart, run_part, run_slc, run_chain, run_call, run_meth, run_fn, run_fnK, run_fnL, run_caught, run_iter, run_enum, run_rng, run_rng2, run_zip, run_comp, run_yes, run_seq, run_skip, run_set, run_setO, run_setC, run_par, run_ret, run_retN, run_retO, run_ifS, run_drop, run_raise, run_break, run_cont, run_tgt, run_frz, run_for, run_subC, run_subO, run_own, run_mkF, kOpB, kOpA, kOp1, kIxB, kIxA, kTru, kNot, kAnd, kOr, kIte, kBl, kAsB, kAndV, kOrV, kConsB, kConsA, kTup, kLst, kStarB, kStarA, kDict, kPart, kSlC, kSlB, kSlA, kChC, kChB, kChA, kCall, kMeB, kMeA, kFn, kFnKB, kFnKA, kFnLA, kCaughtE, kCaughtQ, kIter, kEnum, kRng, kRng2B, kRng2A, kZipB, kZipA, kCmpB, kCmp, kSet, kSetO, kSetC, kParB, kParA, kRetE, kIf, kDrop, kTgt, kFor, kSubCC, kSubCB, kSubCA, kSubOB, kSubOA, kOwnB, kOwnA, kRet, kSeq_nx, kSeq_rt, kSeq_bk, kSeq_ct, opt_some, opt_none, opt_if, opt_map, opt_bind, slV_val, slO_own, slP_val, slP_own, cond_true, cond_false, List.getElem?_cons_zero, List.getElem?_cons_succ, List.set_cons_zero, List.set_cons_succ, List.replicate_succ, List.replicate_zero, List.map_cons, List.map_nil, List.cons_append, List.nil_append, List.length_cons, List.length_map, List.length_nil, Nat.reduceAdd, Nat.reduceSub, Nat.zero_add, Int.toNat_natCast, bindT, bindTs, itemsD, wipeD, slo, frz, permD, true_and, and_true, Bool.not_true, Bool.not_false, oo_add_i, oo_add_str, oo_add_tup, oo_add_lst, oo_sub_i, oo_mul_i, oo_mul_s, oo_mul_t, oo_mul_l, oo_rep_l, oo_cat_l, oo_fdiv, oo_mod, oo_pow, oo_neg, oo_lt_i, oo_le_i, oo_gt_i, oo_ge_i, oo_lt_s, oo_gt_s, oo_le_s, oo_ge_s, oo_is, oo_isnt, oo_isn_non, oo_isn_bl, oo_isn_int, oo_isn_str, oo_isn_tup, oo_isn_lst, oo_isn_dic, oo_tru_non, oo_tru_bl, oo_tru_int, oo_tru_str, oo_tru_tup, oo_tru_lst, oo_len_str, oo_len_tup, oo_len_lst, oo_len_scr, oo_len_dic, oo_sum, oo_max_l, oo_max_2, oo_min_l, oo_min_2, oo_all, oo_any, oo_abs, oo_int_i, oo_int_b, oo_tup_t, oo_tup_l, oo_lstF_t, oo_lstF_l, oo_lstF2_t, oo_lstF2_l, oo_lstF2_s, oo_lstF2_r, oo_nJoin, oo_nIndex, oo_join_lst, oo_join_tup, oo_index, oo_it_tup, oo_it_lst, oo_it_str, oo_it_scr, oo_ix_tup, oo_ix_lst, oo_ix_str, oo_ix_whole, oo_put_whole, oo_ix_cells, oo_put_cells, oo_ix_count, oo_put_count, oo_put_l, oo_app, oo_slc_t, oo_slc_l, oo_slc_s, oo_isi_ty, oo_isi_ex, oo_isi_non_bool, oo_isi_non_int, oo_isi_non_str, oo_isi_non_tuple, oo_isi_non_list, oo_isi_non_dict, oo_isi_bl_bool, oo_isi_bl_int, oo_isi_bl_str, oo_isi_bl_tuple, oo_isi_bl_list, oo_isi_bl_dict, oo_isi_int_bool, oo_isi_int_int, oo_isi_int_str, oo_isi_int_tuple, oo_isi_int_list, oo_isi_int_dict, oo_isi_str_bool, oo_isi_str_int, oo_isi_str_str, oo_isi_str_tuple, oo_isi_str_list, oo_isi_str_dict, oo_isi_tup_bool, oo_isi_tup_int, oo_isi_tup_str, oo_isi_tup_tuple, oo_isi_tup_list, oo_isi_tup_dict, oo_isi_lst_bool, oo_isi_lst_int, oo_isi_lst_str, oo_isi_lst_tuple, oo_isi_lst_list, oo_isi_lst_dict, oo_isi_dic_bool, oo_isi_dic_int, oo_isi_dic_str, oo_isi_dic_tuple, oo_isi_dic_list, oo_isi_dic_dict, oo_in_c, oo_inD, oo_ninD]
      refine Run.step (p_any hT (by omega)) ?_
      rintro _ T1 ⟨⟨k, ws, rfl, hws⟩, hT1⟩
      simp only [run_ok, run_exc, run_bad, run_ofO, run_ofB, run_var, run_peek, run_lit, run_op2, run_op1, run_idx, run_tru, run_not, run_and, run_or, run_ite, run_bl, run_asB, run_andV, run_orV, run_nil, run_cons, run_tup, run_lst, run_star, run_dict, run_noPart, run_part, run_slc, run_chain, run_call, run_meth, run_fn, run_fnK, run_fnL, run_caught, run_iter, run_enum, run_rng, run_rng2, run_zip, run_comp, run_yes, run_seq, run_skip, run_set, run_setO, run_setC, run_par, run_ret, run_retN, run_retO, run_ifS, run_drop, run_raise, run_break, run_cont, run_tgt, run_frz, run_for, run_subC, run_subO, run_own, run_mkF, kOpB, kOpA, kOp1, kIxB, kIxA, kTru, kNot, kAnd, kOr, kIte, kBl, kAsB, kAndV, kOrV, kConsB, kConsA, kTup, kLst, kStarB, kStarA, kDict, kPart, kSlC, kSlB, kSlA, kChC, kChB, kChA, kCall, kMeB, kMeA, kFn, kFnKB, kFnKA, kFnLA, kCaughtE, kCaughtQ, kIter, kEnum, kRng, kRng2B, kRng2A, kZipB, kZipA, kCmpB, kCmp, kSet, kSetO, kSetC, kParB, kParA, kRetE, kIf, kDrop, kTgt, kFor, kSubCC, kSubCB, kSubCA, kSubOB, kSubOA, kOwnB, kOwnA, kRet, kSeq_nx, kSeq_rt, kSeq_bk, kSeq_ct, opt_some, opt_none, opt_if, opt_map, opt_bind, slV_val, slO_own, slP_val, slP_own, cond_true, cond_false, List.getElem?_cons_zero, List.getElem?_cons_succ, List.set_cons_zero, List.set_cons_succ, List.replicate_succ, List.replicate_zero, List.map_cons, List.map_nil, List.cons_append, List.nil_append, List.length_cons, List.length_map, List.length_nil, Nat.reduceAdd, Nat.reduceSub, Nat.zero_add, Int.toNat_natCast, bindT, bindTs, itemsD, wipeD, slo, frz, permD, true_and, and_true, Bool.not_true, Bool.not_false, oo_add_i, oo_add_str, oo_add_tup, oo_add_lst, oo_sub_i, oo_mul_i, oo_mul_s, oo_mul_t, oo_mul_l, oo_rep_l, oo_cat_l, oo_fdiv, oo_mod, oo_pow, oo_neg, oo_lt_i, oo_le_i, oo_gt_i, oo_ge_i, oo_lt_s, oo_gt_s, oo_le_s, oo_ge_s, oo_is, oo_isnt, oo_isn_non, oo_isn_bl, oo_isn_int, oo_isn_str, oo_isn_tup, oo_isn_lst, oo_isn_dic, oo_tru_non, oo_tru_bl, oo_tru_int, oo_tru_str, oo_tru_tup, oo_tru_lst, oo_len_str, oo_len_tup, oo_len_lst, oo_len_scr, oo_len_dic, oo_sum, oo_max_l, oo_max_2, oo_min_l, oo_min_2, oo_all, oo_any, oo_abs, oo_int_i, oo_int_b, oo_tup_t, oo_tup_l, oo_lstF_t, oo_lstF_l, oo_lstF2_t, oo_lstF2_l, oo_lstF2_s, oo_lstF2_r, oo_nJoin, oo_nIndex, oo_join_lst, oo_join_tup, oo_index, oo_it_tup, oo_it_lst, oo_it_str, oo_it_scr, oo_ix_tup, oo_ix_lst, oo_ix_str, oo_ix_whole, oo_put_whole, oo_ix_cells, oo_put_cells, oo_ix_count, oo_put_count, oo_put_l, oo_app, oo_slc_t, oo_slc_l, oo_slc_s, oo_isi_ty, oo_isi_ex, oo_isi_non_bool, oo_isi_non_int, oo_isi_non_str, oo_isi_non_tuple, oo_isi_non_list, oo_isi_non_dict, oo_isi_bl_bool, oo_isi_bl_int, oo_isi_bl_str, oo_isi_bl_tuple, oo_isi_bl_list, oo_isi_bl_dict, oo_isi_int_bool, oo_isi_int_int, oo_isi_int_str, oo_isi_int_tuple, oo_isi_int_list, oo_isi_int_dict, oo_isi_str_bool, oo_isi_str_int, oo_isi_str_str, oo_isi_str_tuple, oo_isi_str_list, oo_isi_str_dict, oo_isi_tup_bool, oo_isi_tup_int, oo_isi_tup_str, oo_isi_tup_tuple, oo_isi_tup_list, oo_isi_tup_dict, oo_isi_lst_bool, oo_isi_lst_int, oo_isi_lst_str, oo_isi_lst_tuple, oo_isi_lst_list, oo_isi_lst_dict, oo_isi_dic_bool, oo_isi_dic_int, oo_isi_dic_str, oo_isi_dic_tuple, oo_isi_dic_list, oo_isi_dic_dict, oo_in_c, oo_inD, oo_ninD]
      refine Run.step (p_pick hT1 (by omega) (by rw [List.length_map]; exact hws.1) (by rw [List.length_map]; have := hws.2.1; omega)) ?_
      rintro x T2 ⟨hx, hT2⟩
      obtain ⟨w1, hw1, rfl⟩ := List.mem_map.mp hx
      obtain ⟨v0, ev, hv0⟩ := head_at hws
      simp only [run_ok, run_exc, run_bad, run_ofO, run_ofB, run_var, run_peek, run_lit, run_op2, run_op1, run_idx, run_tru, run_not, run_and, run_or, run_ite, run_bl, run_asB, run_andV, run_orV, run_nil, run_cons, run_tup, run_lst, run_star, run_dict, run_noPart, run_part, run_slc, run_chain, run_call, run_meth, run_fn, run_fnK, run_fnL, run_caught, run_iter, run_enum, run_rng, run_rng2, run_zip, run_comp, run_yes, run_seq, run_skip, run_set, run_setO, run_setC, run_par, run_ret, run_retN, run_retO, run_ifS, run_drop, run_raise, run_break, run_cont, run_tgt, run_frz, run_for, run_subC, run_subO, run_own, run_mkF, kOpB, kOpA, kOp1, kIxB, kIxA, kTru, kNot, kAnd, kOr, kIte, kBl, kAsB, kAndV, kOrV, kConsB, kConsA, kTup, kLst, kStarB, kStarA, kDict, kPart, kSlC, kSlB, kSlA, kChC, kChB, kChA, kCall, kMeB, kMeA, kFn, kFnKB, kFnKA, kFnLA, kCaughtE, kCaughtQ, kIter, kEnum, kRng, kRng2B, kRng2A, kZipB, kZipA, kCmpB, kCmp, kSet, kSetO, kSetC, kParB, kParA, kRetE, kIf, kDrop, kTgt, kFor, kSubCC, kSubCB, kSubCA, kSubOB, kSubOA, kOwnB, kOwnA, kRet, kSeq_nx, kSeq_rt, kSeq_bk, kSeq_ct, opt_some, opt_none, opt_if, opt_map, opt_bind, slV_val, slO_own, slP_val, slP_own, cond_true, cond_false, List.getElem?_cons_zero, List.getElem?_cons_succ, List.set_cons_zero, List.set_cons_succ, List.replicate_succ, List.replicate_zero, List.map_cons, List.map_nil, List.cons_append, List.nil_append, List.length_cons, List.length_map, List.length_nil, Nat.reduceAdd, Nat.reduceSub, Nat.zero_add, Int.toNat_natCast, bindT, bindTs, itemsD, wipeD, slo, frz, permD, true_and, and_true, Bool.not_true, Bool.not_false, oo_add_i, oo_add_str, oo_add_tup, oo_add_lst, oo_sub_i, oo_mul_i, oo_mul_s, oo_mul_t, oo_mul_l, oo_rep_l, oo_cat_l, oo_fdiv, oo_mod, oo_pow, oo_neg, oo_lt_i, oo_le_i, oo_gt_i, oo_ge_i, oo_lt_s, oo_gt_s, oo_le_s, oo_ge_s, oo_is, oo_isnt, oo_isn_non, oo_isn_bl, oo_isn_int, oo_isn_str, oo_isn_tup, oo_isn_lst, oo_isn_dic, oo_tru_non, oo_tru_bl, oo_tru_int, oo_tru_str, oo_tru_tup, oo_tru_lst, oo_len_str, oo_len_tup, oo_len_lst, oo_len_scr, oo_len_dic, oo_sum, oo_max_l, oo_max_2, oo_min_l, oo_min_2, oo_all, oo_any, oo_abs, oo_int_i, oo_int_b, oo_tup_t, oo_tup_l, oo_lstF_t, oo_lstF_l, oo_lstF2_t, oo_lstF2_l, oo_lstF2_s, oo_lstF2_r, oo_nJoin, oo_nIndex, oo_join_lst, oo_join_tup, oo_index, oo_it_tup, oo_it_lst, oo_it_str, oo_it_scr, oo_ix_tup, oo_ix_lst, oo_ix_str, oo_ix_whole, oo_put_whole, oo_ix_cells, oo_put_cells, oo_ix_count, oo_put_count, oo_put_l, oo_app, oo_slc_t, oo_slc_l, oo_slc_s, oo_isi_ty, oo_isi_ex, oo_isi_non_bool, oo_isi_non_int, oo_isi_non_str, oo_isi_non_tuple, oo_isi_non_list, oo_isi_non_dict, oo_isi_bl_bool, oo_isi_bl_int, oo_isi_bl_str, oo_isi_bl_tuple, oo_isi_bl_list, oo_isi_bl_dict, oo_isi_int_bool, oo_isi_int_int, oo_isi_int_str, oo_isi_int_tuple, oo_isi_int_list, oo_isi_int_dict, oo_isi_str_bool, oo_isi_str_int, oo_isi_str_str, oo_isi_str_tuple, oo_isi_str_list, oo_isi_str_dict, oo_isi_tup_bool, oo_isi_tup_int, oo_isi_tup_str, oo_isi_tup_tuple, oo_isi_tup_list, oo_isi_tup_dict, oo_isi_lst_bool, oo_isi_lst_int, oo_isi_lst_str, oo_isi_lst_tuple, oo_isi_lst_list, oo_isi_lst_dict, oo_isi_dic_bool, oo_isi_dic_int, oo_isi_dic_str, oo_isi_dic_tuple, oo_isi_dic_list, oo_isi_dic_dict, oo_in_c, oo_inD, oo_ninD, ev]
      have hn24 : k ≤ 24 := hws.2.2.1
      have hwl20 : ws.length ≤ 20 := hws.2.1
      refine ⟨le_big (by omega), le_big (by omega), ?_⟩
      rw [show ((v0.length : Int)) = ((k : Nat) : Int) by rw [hv0]]
      refine Run.step (p_word (n := 6) (k := k) hT2 (by omega) (by decide) (by omega)) ?_
      rintro _ T3 ⟨⟨w2, rfl, hw2l, hw2⟩, hT3⟩
      simp only [run_ok, run_exc, run_bad, run_ofO, run_ofB, run_var, run_peek, run_lit, run_op2, run_op1, run_idx, run_tru, run_not, run_and, run_or, run_ite, run_bl, run_asB, run_andV, run_orV, run_nil, run_cons, run_tup, run_lst, run_star, run_dict, run_noPart, run_part, run_slc, run_chain, run_call, run_meth, run_fn, run_fnK, run_fnL, run_caught, run_iter, run_enum, run_rng, run_rng2, run_zip, run_comp, run_yes, run_seq, run_skip, run_set, run_setO, run_setC, run_par, run_ret, run_retN, run_retO, run_ifS, run_drop, run_raise, run_break, run_cont, run_tgt, run_frz, run_for, run_subC, run_subO, run_own, run_mkF, kOpB, kOpA, kOp1, kIxB, kIxA, kTru, kNot, kAnd, kOr, kIte, kBl, kAsB, kAndV, kOrV, kConsB, kConsA, kTup, kLst, kStarB, kStarA, kDict, kPart, kSlC, kSlB, kSlA, kChC, kChB, kChA, kCall, kMeB, kMeA, kFn, kFnKB, kFnKA, kFnLA, kCaughtE, kCaughtQ, kIter, kEnum, kRng, kRng2B, kRng2A, kZipB, kZipA, kCmpB, kCmp, kSet, kSetO, kSetC, kParB, kParA, kRetE, kIf, kDrop, kTgt, kFor, kSubCC, kSubCB, kSubCA, kSubOB, kSubOA, kOwnB, kOwnA, kRet, kSeq_nx, kSeq_rt, kSeq_bk, kSeq_ct, opt_some, opt_none, opt_if, opt_map, opt_bind, slV_val, slO_own, slP_val, slP_own, cond_true, cond_false, List.getElem?_cons_zero, List.getElem?_cons_succ, List.set_cons_zero, List.set_cons_succ, List.replicate_succ, List.replicate_zero, List.map_cons, List.map_nil, List.cons_append, List.nil_append, List.length_cons, List.length_map, List.length_nil, Nat.reduceAdd, Nat.reduceSub, Nat.zero_add, Int.toNat_natCast, bindT, bindTs, itemsD, wipeD, slo, frz, permD, true_and, and_true, Bool.not_true, Bool.not_false, oo_add_i, oo_add_str, oo_add_tup, oo_add_lst, oo_sub_i, oo_mul_i, oo_mul_s, oo_mul_t, oo_mul_l, oo_rep_l, oo_cat_l, oo_fdiv, oo_mod, oo_pow, oo_neg, oo_lt_i, oo_le_i, oo_gt_i, oo_ge_i, oo_lt_s, oo_gt_s, oo_le_s, oo_ge_s, oo_is, oo_isnt, oo_isn_non, oo_isn_bl, oo_isn_int, oo_isn_str, oo_isn_tup, oo_isn_lst, oo_isn_dic, oo_tru_non, oo_tru_bl, oo_tru_int, oo_tru_str, oo_tru_tup, oo_tru_lst, oo_len_str, oo_len_tup, oo_len_lst, oo_len_scr, oo_len_dic, oo_sum, oo_max_l, oo_max_2, oo_min_l, oo_min_2, oo_all, oo_any, oo_abs, oo_int_i, oo_int_b, oo_tup_t, oo_tup_l, oo_lstF_t, oo_lstF_l, oo_lstF2_t, oo_lstF2_l, oo_lstF2_s, oo_lstF2_r, oo_nJoin, oo_nIndex, oo_join_lst, oo_join_tup, oo_index, oo_it_tup, oo_it_lst, oo_it_str, oo_it_scr, oo_ix_tup, oo_ix_lst, oo_ix_str, oo_ix_whole, oo_put_whole, oo_ix_cells, oo_put_cells, oo_ix_count, oo_put_count, oo_put_l, oo_app, oo_slc_t, oo_slc_l, oo_slc_s, oo_isi_ty, oo_isi_ex, oo_isi_non_bool, oo_isi_non_int, oo_isi_non_str, oo_isi_non_tuple, oo_isi_non_list, oo_isi_non_dict, oo_isi_bl_bool, oo_isi_bl_int, oo_isi_bl_str, oo_isi_bl_tuple, oo_isi_bl_list, oo_isi_bl_dict, oo_isi_int_bool, oo_isi_int_int, oo_isi_int_str, oo_isi_int_tuple, oo_isi_int_list, oo_isi_int_dict, oo_isi_str_bool, oo_isi_str_int, oo_isi_str_str, oo_isi_str_tuple, oo_isi_str_list, oo_isi_str_dict, oo_isi_tup_bool, oo_isi_tup_int, oo_isi_tup_str, oo_isi_tup_tuple, oo_isi_tup_list, oo_isi_tup_dict, oo_isi_lst_bool, oo_isi_lst_int, oo_isi_lst_str, oo_isi_lst_tuple, oo_isi_lst_list, oo_isi_lst_dict, oo_isi_dic_bool, oo_isi_dic_int, oo_isi_dic_str, oo_isi_dic_tuple, oo_isi_dic_list, oo_isi_dic_dict, oo_in_c, oo_inD, oo_ninD, ev]
      refine ⟨le_big (by omega), ?_⟩
      have hv0w : Wd v0 := by
        obtain ⟨v, r, er, hv1, hv2⟩ := hws.head
        rw [atI_nat (by omega) (by rw [List.length_map]; have := hws.1; omega), er] at ev
        cases ev
        exact hv2
      refine Run.step (p_near (n := 3) (k := 4) hT3 (by omega) (by decide) (by decide) hv0w (by omega)) ?_
      rintro _ T4 ⟨⟨w3, rfl, hw3l, hw3⟩, hT4⟩
      simp only [run_ok, run_exc, run_bad, run_ofO, run_ofB, run_var, run_peek, run_lit, run_op2, run_op1, run_idx, run_tru, run_not, run_and, run_or, run_ite, run_bl, run_asB, run_andV, run_orV, run_nil, run_cons, run_tup, run_lst, run_star, run_dict, run_noPart, run_part, run_slc, run_chain, run_call, run_meth, run_fn, run_fnK, run_fnL, run_caught, run_iter, run_enum, run_rng, run_rng2, run_zip, run_comp, run_yes, run_seq, run_skip, run_set, run_setO, run_setC, run_par, run_ret, run_retN, run_retO, run_ifS, run_drop, run_raise, run_break, run_cont, run_tgt, run_frz, run_for, run_subC, run_subO, run_own, run_mkF, kOpB, kOpA, kOp1, kIxB, kIxA, kTru, kNot, kAnd, kOr, kIte, kBl, kAsB, kAndV, kOrV, kConsB, kConsA, kTup, kLst, kStarB, kStarA, kDict, kPart, kSlC, kSlB, kSlA, kChC, kChB, kChA, kCall, kMeB, kMeA, kFn, kFnKB, kFnKA, kFnLA, kCaughtE, kCaughtQ, kIter, kEnum, kRng, kRng2B, kRng2A, kZipB, kZipA, kCmpB, kCmp, kSet, kSetO, kSetC, kParB, kParA, kRetE, kIf, kDrop, kTgt, kFor, kSubCC, kSubCB, kSubCA, kSubOB, kSubOA, kOwnB, kOwnA, kRet, kSeq_nx, kSeq_rt, kSeq_bk, kSeq_ct, opt_some, opt_none, opt_if, opt_map, opt_bind, slV_val, slO_own, slP_val, slP_own, cond_true, cond_false, List.getElem?_cons_zero, List.getElem?_cons_succ, List.set_cons_zero, List.set_cons_succ, List.replicate_succ, List.replicate_zero, List.map_cons, List.map_nil, List.cons_append, List.nil_append, List.length_cons, List.length_map, List.length_nil, Nat.reduceAdd, Nat.reduceSub, Nat.zero_add, Int.toNat_natCast, bindT, bindTs, itemsD, wipeD, slo, frz, permD, true_and, and_true, Bool.not_true, Bool.not_false, oo_add_i, oo_add_str, oo_add_tup, oo_add_lst, oo_sub_i, oo_mul_i, oo_mul_s, oo_mul_t, oo_mul_l, oo_rep_l, oo_cat_l, oo_fdiv, oo_mod, oo_pow, oo_neg, oo_lt_i, oo_le_i, oo_gt_i, oo_ge_i, oo_lt_s, oo_gt_s, oo_le_s, oo_ge_s, oo_is, oo_isnt, oo_isn_non, oo_isn_bl, oo_isn_int, oo_isn_str, oo_isn_tup, oo_isn_lst, oo_isn_dic, oo_tru_non, oo_tru_bl, oo_tru_int, oo_tru_str, oo_tru_tup, oo_tru_lst, oo_len_str, oo_len_tup, oo_len_lst, oo_len_scr, oo_len_dic, oo_sum, oo_max_l, oo_max_2, oo_min_l, oo_min_2, oo_all, oo_any, oo_abs, oo_int_i, oo_int_b, oo_tup_t, oo_tup_l, oo_lstF_t, oo_lstF_l, oo_lstF2_t, oo_lstF2_l, oo_lstF2_s, oo_lstF2_r, oo_nJoin, oo_nIndex, oo_join_lst, oo_join_tup, oo_index, oo_it_tup, oo_it_lst, oo_it_str, oo_it_scr, oo_ix_tup, oo_ix_lst, oo_ix_str, oo_ix_whole, oo_put_whole, oo_ix_cells, oo_put_cells, oo_ix_count, oo_put_count, oo_put_l, oo_app, oo_slc_t, oo_slc_l, oo_slc_s, oo_isi_ty, oo_isi_ex, oo_isi_non_bool, oo_isi_non_int, oo_isi_non_str, oo_isi_non_tuple, oo_isi_non_list, oo_isi_non_dict, oo_isi_bl_bool, oo_isi_bl_int, oo_isi_bl_str, oo_isi_bl_tuple, oo_isi_bl_list, oo_isi_bl_dict, oo_isi_int_bool, oo_isi_int_int, oo_isi_int_str, oo_isi_int_tuple, oo_isi_int_list, oo_isi_int_dict, oo_isi_str_bool, oo_isi_str_int, oo_isi_str_str, oo_isi_str_tuple, oo_isi_str_list, oo_isi_str_dict, oo_isi_tup_bool, oo_isi_tup_int, oo_isi_tup_str, oo_isi_tup_tuple, oo_isi_tup_list, oo_isi_tup_dict, oo_isi_lst_bool, oo_isi_lst_int, oo_isi_lst_str, oo_isi_lst_tuple, oo_isi_lst_list, oo_isi_lst_dict, oo_isi_dic_bool, oo_isi_dic_int, oo_isi_dic_str, oo_isi_dic_tuple, oo_isi_dic_list, oo_isi_dic_dict, oo_in_c, oo_inD, oo_ninD, ev]
      refine ⟨by decide, ?_⟩
      refine Run.step (p_pick hT4 (by omega) (by simp) (by simp)) ?_
      rintro y T5 ⟨hy, hT5⟩
      have hy2 : ∃ w, y = .str w ∧ w.length = k ∧ Wd w := by
        simp only [List.mem_cons, List.not_mem_nil, or_false] at hy
        rcases hy with rfl | rfl | rfl
        · exact ⟨_, rfl, hws.2.2.2 w1 hw1⟩
        · exact ⟨_, rfl, hw2l, hw2⟩
        · exact ⟨_, rfl, by omega, hw3⟩
      obtain ⟨w, rfl, hwl, hw⟩ := hy2
      simp only [run_ok, run_exc, run_bad, run_ofO, run_ofB, run_var, run_peek, run_lit, run_op2, run_op1, run_idx, run_tru, run_not, run_and, run_or, run_ite, run_bl, run_asB, run_andV, run_orV, run_nil, run_cons, run_tup, run_lst, run_star, run_dict, run_noPart, run_part, run_slc, run_chain, run_call, run_meth, run_fn, run_fnK, run_fnL, run_caught, run_iter, run_enum, run_rng, run_rng2, run_zip, run_comp, run_yes, run_seq, run_skip, run_set, run_setO, run_setC, run_par, run_ret, run_retN, run_retO, run_ifS, run_drop, run_raise, run_break, run_cont, run_tgt, run_frz, run_for, run_subC, run_subO, run_own, run_mkF, kOpB, kOpA, kOp1, kIxB, kIxA, kTru, kNot, kAnd, kOr, kIte, kBl, kAsB, kAndV, kOrV, kConsB, kConsA, kTup, kLst, kStarB, kStarA, kDict, kPart, kSlC, kSlB, kSlA, kChC, kChB, kChA, kCall, kMeB, kMeA, kFn, kFnKB, kFnKA, kFnLA, kCaughtE, kCaughtQ, kIter, kEnum, kRng, kRng2B, kRng2A, kZipB, kZipA, kCmpB, kCmp, kSet, kSetO, kSetC, kParB, kParA, kRetE, kIf, kDrop, kTgt, kFor, kSubCC, kSubCB, kSubCA, kSubOB, kSubOA, kOwnB, kOwnA, kRet, kSeq_nx, kSeq_rt, kSeq_bk, kSeq_ct, opt_some, opt_none, opt_if, opt_map, opt_bind, slV_val, slO_own, slP_val, slP_own, cond_true, cond_false, List.getElem?_cons_zero, List.getElem?_cons_succ, List.set_cons_zero, List.set_cons_succ, List.replicate_succ, List.replicate_zero, List.map_cons, List.map_nil, List.cons_append, List.nil_append, List.length_cons, List.length_map, List.length_nil, Nat.reduceAdd, Nat.reduceSub, Nat.zero_add, Int.toNat_natCast, bindT, bindTs, itemsD, wipeD, slo, frz, permD, true_and, and_true, Bool.not_true, Bool.not_false, oo_add_i, oo_add_str, oo_add_tup, oo_add_lst, oo_sub_i, oo_mul_i, oo_mul_s, oo_mul_t, oo_mul_l, oo_rep_l, oo_cat_l, oo_fdiv, oo_mod, oo_pow, oo_neg, oo_lt_i, oo_le_i, oo_gt_i, oo_ge_i, oo_lt_s, oo_gt_s, oo_le_s, oo_ge_s, oo_is, oo_isnt, oo_isn_non, oo_isn_bl, oo_isn_int, oo_isn_str, oo_isn_tup, oo_isn_lst, oo_isn_dic, oo_tru_non, oo_tru_bl, oo_tru_int, oo_tru_str, oo_tru_tup, oo_tru_lst, oo_len_str, oo_len_tup, oo_len_lst, oo_len_scr, oo_len_dic, oo_sum, oo_max_l, oo_max_2, oo_min_l, oo_min_2, oo_all, oo_any, oo_abs, oo_int_i, oo_int_b, oo_tup_t, oo_tup_l, oo_lstF_t, oo_lstF_l, oo_lstF2_t, oo_lstF2_l, oo_lstF2_s, oo_lstF2_r, oo_nJoin, oo_nIndex, oo_join_lst, oo_join_tup, oo_index, oo_it_tup, oo_it_lst, oo_it_str, oo_it_scr, oo_ix_tup, oo_ix_lst, oo_ix_str, oo_ix_whole, oo_put_whole, oo_ix_cells, oo_put_cells, oo_ix_count, oo_put_count, oo_put_l, oo_app, oo_slc_t, oo_slc_l, oo_slc_s, oo_isi_ty, oo_isi_ex, oo_isi_non_bool, oo_isi_non_int, oo_isi_non_str, oo_isi_non_tuple, oo_isi_non_list, oo_isi_non_dict, oo_isi_bl_bool, oo_isi_bl_int, oo_isi_bl_str, oo_isi_bl_tuple, oo_isi_bl_list, oo_isi_bl_dict, oo_isi_int_bool, oo_isi_int_int, oo_isi_int_str, oo_isi_int_tuple, oo_isi_int_list, oo_isi_int_dict, oo_isi_str_bool, oo_isi_str_int, oo_isi_str_str, oo_isi_str_tuple, oo_isi_str_list, oo_isi_str_dict, oo_isi_tup_bool, oo_isi_tup_int, oo_isi_tup_str, oo_isi_tup_tuple, oo_isi_tup_list, oo_isi_tup_dict, oo_isi_lst_bool, oo_isi_lst_int, oo_isi_lst_str, oo_isi_lst_tuple, oo_isi_lst_list, oo_isi_lst_dict, oo_isi_dic_bool, oo_isi_dic_int, oo_isi_dic_str, oo_isi_dic_tuple, oo_isi_dic_list, oo_isi_dic_dict, oo_in_c, oo_inD, oo_ninD, q_lrow hws hw hwl]
      have hne : row w ws ≠ [] := fun e => by
        have := congrArg List.length e
        rw [row_len] at this
        have h1 := hws.1
        simp at this
        subst this
        simp at h1
      obtain ⟨M, hM, hMm⟩ := max_ex hne
      obtain ⟨j2, hj2⟩ := index_ex hMm
      have hM0 : 0 ≤ M ∧ M ≤ 24 := by
        obtain ⟨v, hv, rfl⟩ := List.mem_map.mp hMm
        have h1 := dist_le w v
        omega
      simp only [intsOf_map, hM, run_ok, run_exc, run_bad, run_ofO, run_ofB, run_var, run_peek, run_lit, run_op2, run_op1, run_idx, run_tru, run_not, run_and, run_or, run_ite, run_bl, run_asB, run_andV, run_orV, run_nil, run_cons, run_tup, run_lst, run_star, run_dict, run_noPart, run_part, run_slc, run_chain, run_call, run_meth, run_fn, run_fnK, run_fnL, run_caught, run_iter, run_enum, run_rng, run_rng2, run_zip, run_comp, run_yes, run_seq, run_skip, run_set, run_setO, run_setC, run_par, run_ret, run_retN, run_retO, run_ifS, run_drop, run_raise, run_break, run_cont, run_tgt, run_frz, run_for, run_subC, run_subO, run_own, run_mkF, kOpB, kOpA, kOp1, kIxB, kIxA, kTru, kNot, kAnd, kOr, kIte, kBl, kAsB, kAndV, kOrV, kConsB, kConsA, kTup, kLst, kStarB, kStarA, kDict, kPart, kSlC, kSlB, kSlA, kChC, kChB, kChA, kCall, kMeB, kMeA, kFn, kFnKB, kFnKA, kFnLA, kCaughtE, kCaughtQ, kIter, kEnum, kRng, kRng2B, kRng2A, kZipB, kZipA, kCmpB, kCmp, kSet, kSetO, kSetC, kParB, kParA, kRetE, kIf, kDrop, kTgt, kFor, kSubCC, kSubCB, kSubCA, kSubOB, kSubOA, kOwnB, kOwnA, kRet, kSeq_nx, kSeq_rt, kSeq_bk, kSeq_ct, opt_some, opt_none, opt_if, opt_map, opt_bind, slV_val, slO_own, slP_val, slP_own, cond_true, cond_false, List.getElem?_cons_zero, List.getElem?_cons_succ, List.set_cons_zero, List.set_cons_succ, List.replicate_succ, List.replicate_zero, List.map_cons, List.map_nil, List.cons_append, List.nil_append, List.length_cons, List.length_map, List.length_nil, Nat.reduceAdd, Nat.reduceSub, Nat.zero_add, Int.toNat_natCast, bindT, bindTs, itemsD, wipeD, slo, frz, permD, true_and, and_true, Bool.not_true, Bool.not_false, oo_add_i, oo_add_str, oo_add_tup, oo_add_lst, oo_sub_i, oo_mul_i, oo_mul_s, oo_mul_t, oo_mul_l, oo_rep_l, oo_cat_l, oo_fdiv, oo_mod, oo_pow, oo_neg, oo_lt_i, oo_le_i, oo_gt_i, oo_ge_i, oo_lt_s, oo_gt_s, oo_le_s, oo_ge_s, oo_is, oo_isnt, oo_isn_non, oo_isn_bl, oo_isn_int, oo_isn_str, oo_isn_tup, oo_isn_lst, oo_isn_dic, oo_tru_non, oo_tru_bl, oo_tru_int, oo_tru_str, oo_tru_tup, oo_tru_lst, oo_len_str, oo_len_tup, oo_len_lst, oo_len_scr, oo_len_dic, oo_sum, oo_max_l, oo_max_2, oo_min_l, oo_min_2, oo_all, oo_any, oo_abs, oo_int_i, oo_int_b, oo_tup_t, oo_tup_l, oo_lstF_t, oo_lstF_l, oo_lstF2_t, oo_lstF2_l, oo_lstF2_s, oo_lstF2_r, oo_nJoin, oo_nIndex, oo_join_lst, oo_join_tup, oo_index, oo_it_tup, oo_it_lst, oo_it_str, oo_it_scr, oo_ix_tup, oo_ix_lst, oo_ix_str, oo_ix_whole, oo_put_whole, oo_ix_cells, oo_put_cells, oo_ix_count, oo_put_count, oo_put_l, oo_app, oo_slc_t, oo_slc_l, oo_slc_s, oo_isi_ty, oo_isi_ex, oo_isi_non_bool, oo_isi_non_int, oo_isi_non_str, oo_isi_non_tuple, oo_isi_non_list, oo_isi_non_dict, oo_isi_bl_bool, oo_isi_bl_int, oo_isi_bl_str, oo_isi_bl_tuple, oo_isi_bl_list, oo_isi_bl_dict, oo_isi_int_bool, oo_isi_int_int, oo_isi_int_str, oo_isi_int_tuple, oo_isi_int_list, oo_isi_int_dict, oo_isi_str_bool, oo_isi_str_int, oo_isi_str_str, oo_isi_str_tuple, oo_isi_str_list, oo_isi_str_dict, oo_isi_tup_bool, oo_isi_tup_int, oo_isi_tup_str, oo_isi_tup_tuple, oo_isi_tup_list, oo_isi_tup_dict, oo_isi_lst_bool, oo_isi_lst_int, oo_isi_lst_str, oo_isi_lst_tuple, oo_isi_lst_list, oo_isi_lst_dict, oo_isi_dic_bool, oo_isi_dic_int, oo_isi_dic_str, oo_isi_dic_tuple, oo_isi_dic_list, oo_isi_dic_dict, oo_in_c, oo_inD, oo_ninD]
      refine Run.step (p_take hT5 (by omega) (by omega) (by omega)) ?_
      rintro _ T6 ⟨⟨q, rfl, hq0, hq1⟩, hT6⟩
      simp only [run_ok, run_exc, run_bad, run_ofO, run_ofB, run_var, run_peek, run_lit, run_op2, run_op1, run_idx, run_tru, run_not, run_and, run_or, run_ite, run_bl, run_asB, run_andV, run_orV, run_nil, run_cons, run_tup, run_lst, run_star, run_dict, run_noPart, run_part, run_slc, run_chain, run_call, run_meth, run_fn, run_fnK, run_fnL, run_caught, run_iter, run_enum, run_rng, run_rng2, run_zip, run_comp, run_yes, run_seq, run_skip, run_set, run_setO, run_setC, run_par, run_ret, run_retN, run_retO, run_ifS, run_drop, run_raise, run_break, run_cont, run_tgt, run_frz, run_for, run_subC, run_subO, run_own, run_mkF, kOpB, kOpA, kOp1, kIxB, kIxA, kTru, kNot, kAnd, kOr, kIte, kBl, kAsB, kAndV, kOrV, kConsB, kConsA, kTup, kLst, kStarB, kStarA, kDict, kPart, kSlC, kSlB, kSlA, kChC, kChB, kChA, kCall, kMeB, kMeA, kFn, kFnKB, kFnKA, kFnLA, kCaughtE, kCaughtQ, kIter, kEnum, kRng, kRng2B, kRng2A, kZipB, kZipA, kCmpB, kCmp, kSet, kSetO, kSetC, kParB, kParA, kRetE, kIf, kDrop, kTgt, kFor, kSubCC, kSubCB, kSubCA, kSubOB, kSubOA, kOwnB, kOwnA, kRet, kSeq_nx, kSeq_rt, kSeq_bk, kSeq_ct, opt_some, opt_none, opt_if, opt_map, opt_bind, slV_val, slO_own, slP_val, slP_own, cond_true, cond_false, List.getElem?_cons_zero, List.getElem?_cons_succ, List.set_cons_zero, List.set_cons_succ, List.replicate_succ, List.replicate_zero, List.map_cons, List.map_nil, List.cons_append, List.nil_append, List.length_cons, List.length_map, List.length_nil, Nat.reduceAdd, Nat.reduceSub, Nat.zero_add, Int.toNat_natCast, bindT, bindTs, itemsD, wipeD, slo, frz, permD, true_and, and_true, Bool.not_true, Bool.not_false, oo_add_i, oo_add_str, oo_add_tup, oo_add_lst, oo_sub_i, oo_mul_i, oo_mul_s, oo_mul_t, oo_mul_l, oo_rep_l, oo_cat_l, oo_fdiv, oo_mod, oo_pow, oo_neg, oo_lt_i, oo_le_i, oo_gt_i, oo_ge_i, oo_lt_s, oo_gt_s, oo_le_s, oo_ge_s, oo_is, oo_isnt, oo_isn_non, oo_isn_bl, oo_isn_int, oo_isn_str, oo_isn_tup, oo_isn_lst, oo_isn_dic, oo_tru_non, oo_tru_bl, oo_tru_int, oo_tru_str, oo_tru_tup, oo_tru_lst, oo_len_str, oo_len_tup, oo_len_lst, oo_len_scr, oo_len_dic, oo_sum, oo_max_l, oo_max_2, oo_min_l, oo_min_2, oo_all, oo_any, oo_abs, oo_int_i, oo_int_b, oo_tup_t, oo_tup_l, oo_lstF_t, oo_lstF_l, oo_lstF2_t, oo_lstF2_l, oo_lstF2_s, oo_lstF2_r, oo_nJoin, oo_nIndex, oo_join_lst, oo_join_tup, oo_index, oo_it_tup, oo_it_lst, oo_it_str, oo_it_scr, oo_ix_tup, oo_ix_lst, oo_ix_str, oo_ix_whole, oo_put_whole, oo_ix_cells, oo_put_cells, oo_ix_count, oo_put_count, oo_put_l, oo_app, oo_slc_t, oo_slc_l, oo_slc_s, oo_isi_ty, oo_isi_ex, oo_isi_non_bool, oo_isi_non_int, oo_isi_non_str, oo_isi_non_tuple, oo_isi_non_list, oo_isi_non_dict, oo_isi_bl_bool, oo_isi_bl_int, oo_isi_bl_str, oo_isi_bl_tuple, oo_isi_bl_list, oo_isi_bl_dict, oo_isi_int_bool, oo_isi_int_int, oo_isi_int_str, oo_isi_int_tuple, oo_isi_int_list, oo_isi_int_dict, oo_isi_str_bool, oo_isi_str_int, oo_isi_str_str, oo_isi_str_tuple, oo_isi_str_list, oo_isi_str_dict, oo_isi_tup_bool, oo_isi_tup_int, oo_isi_tup_str, oo_isi_tup_tuple, oo_isi_tup_list, oo_isi_tup_dict, oo_isi_lst_bool, oo_isi_lst_int, oo_isi_lst_str, oo_isi_lst_tuple, oo_isi_lst_list, oo_isi_lst_dict, oo_isi_dic_bool, oo_isi_dic_int, oo_isi_dic_str, oo_isi_dic_tuple, oo_isi_dic_list, oo_isi_dic_dict, oo_in_c, oo_inD, oo_ninD]
      refine ⟨by decide, ?_⟩
      refine Run.step (p_pick hT6 (by omega) (by simp) (by simp)) ?_
      rintro z T7 ⟨hz, hT7⟩
      have hz2 : ∃ mo : Int, z = .int mo ∧ 0 ≤ mo ∧ mo ≤ 24 := by
        simp only [List.mem_cons, List.not_mem_nil, or_false] at hz
        rcases hz with rfl | rfl | rfl | rfl | rfl
        all_goals exact ⟨_, rfl, by omega, by omega⟩
      obtain ⟨mo, rfl, hmo0, hmo1⟩ := hz2
      have hlr : (row w ws).length ≤ 20 := by rw [row_len]; omega
      have hnear : (near mo 0 (row w ws)).length ≤ 20 := Nat.le_trans near_le hlr
      simp only [oo_max_l, oo_tup_l, oo_nIndex, oo_sum, oo_le_i, oo_it_lst, intsOf_map, hM, hj2, run_ok, run_exc, run_bad, run_ofO, run_ofB, run_var, run_peek, run_lit, run_op2, run_op1, run_idx, run_tru, run_not, run_and, run_or, run_ite, run_bl, run_asB, run_andV, run_orV, run_nil, run_cons, run_tup, run_lst, run_star, run_dict, run_noPart, run_part, run_slc, run_chain, run_call, run_meth, run_fn, run_fnK, run_fnL, run_caught, run_iter, run_enum, run_rng, run_rng2, run_zip, run_comp, run_yes, run_seq, run_skip, run_set, run_setO, run_setC, run_par, run_ret, run_retN, run_retO, run_ifS, run_drop, run_raise, run_break, run_cont, run_tgt, run_frz, run_for, run_subC, run_subO, run_own, run_mkF, kOpB, kOpA, kOp1, kIxB, kIxA, kTru, kNot, kAnd, kOr, kIte, kBl, kAsB, kAndV, kOrV, kConsB, kConsA, kTup, kLst, kStarB, kStarA, kDict, kPart, kSlC, kSlB, kSlA, kChC, kChB, kChA, kCall, kMeB, kMeA, kFn, kFnKB, kFnKA, kFnLA, kCaughtE, kCaughtQ, kIter, kEnum, kRng, kRng2B, kRng2A, kZipB, kZipA, kCmpB, kCmp, kSet, kSetO, kSetC, kParB, kParA, kRetE, kIf, kDrop, kTgt, kFor, kSubCC, kSubCB, kSubCA, kSubOB, kSubOA, kOwnB, kOwnA, kRet, kSeq_nx, kSeq_rt, kSeq_bk, kSeq_ct, opt_some, opt_none, opt_if, opt_map, opt_bind, slV_val, slO_own, slP_val, slP_own, cond_true, cond_false, List.getElem?_cons_zero, List.getElem?_cons_succ, List.set_cons_zero, List.set_cons_succ, List.replicate_succ, List.replicate_zero, List.map_cons, List.map_nil, List.cons_append, List.nil_append, List.length_cons, List.length_map, List.length_nil, Nat.reduceAdd, Nat.reduceSub, Nat.zero_add, Int.toNat_natCast, bindT, bindTs, itemsD, wipeD, slo, frz, permD, true_and, and_true, Bool.not_true, Bool.not_false]
      refine ⟨le_big (by rw [enum_len, List.length_map]; omega), ?_⟩
      rw [coll_near (m := mo) (fun i x => by
        apply Run.eq_of
        simp only [run_one, run_ok, run_exc, run_bad, run_ofO, run_ofB, run_var, run_peek, run_lit, run_op2, run_op1, run_idx, run_tru, run_not, run_and, run_or, run_ite, run_bl, run_asB, run_andV, run_orV, run_nil, run_cons, run_tup, run_lst, run_star, run_dict, run_noPart, run_part, run_slc, run_chain, run_call, run_meth, run_fn, run_fnK, run_fnL, run_caught, run_iter, run_enum, run_rng, run_rng2, run_zip, run_comp, run_yes, run_seq, run_skip, run_set, run_setO, run_setC, run_par, run_ret, run_retN, run_retO, run_ifS, run_drop, run_raise, run_break, run_cont, run_tgt, run_frz, run_for, run_subC, run_subO, run_own, run_mkF, kOpB, kOpA, kOp1, kIxB, kIxA, kTru, kNot, kAnd, kOr, kIte, kBl, kAsB, kAndV, kOrV, kConsB, kConsA, kTup, kLst, kStarB, kStarA, kDict, kPart, kSlC, kSlB, kSlA, kChC, kChB, kChA, kCall, kMeB, kMeA, kFn, kFnKB, kFnKA, kFnLA, kCaughtE, kCaughtQ, kIter, kEnum, kRng, kRng2B, kRng2A, kZipB, kZipA, kCmpB, kCmp, kSet, kSetO, kSetC, kParB, kParA, kRetE, kIf, kDrop, kTgt, kFor, kSubCC, kSubCB, kSubCA, kSubOB, kSubOA, kOwnB, kOwnA, kRet, kSeq_nx, kSeq_rt, kSeq_bk, kSeq_ct, opt_some, opt_none, opt_if, opt_map, opt_bind, slV_val, slO_own, slP_val, slP_own, cond_true, cond_false, List.getElem?_cons_zero, List.getElem?_cons_succ, List.set_cons_zero, List.set_cons_succ, List.replicate_succ, List.replicate_zero, List.map_cons, List.map_nil, List.cons_append, List.nil_append, List.length_cons, List.length_map, List.length_nil, Nat.reduceAdd, Nat.reduceSub, Nat.zero_add, Int.toNat_natCast, bindT, bindTs, itemsD, wipeD, slo, frz, permD, true_and, and_true, Bool.not_true, Bool.not_false, oo_le_i, oo_tru_bl, kOneA, kOneB]
        by_cases e : x ≤ mo
        · simp [e, run_var, kOneB, SlV]
        · simp [e])]
      simp only [run_ok, run_exc, run_bad, run_ofO, run_ofB, run_var, run_peek, run_lit, run_op2, run_op1, run_idx, run_tru, run_not, run_and, run_or, run_ite, run_bl, run_asB, run_andV, run_orV, run_nil, run_cons, run_tup, run_lst, run_star, run_dict, run_noPart, run_part, run_slc, run_chain, run_call, run_meth, run_fn, run_fnK, run_fnL, run_caught, run_iter, run_enum, run_rng, run_rng2, run_zip, run_comp, run_yes, run_seq, run_skip, run_set, run_setO, run_setC, run_par, run_ret, run_retN, run_retO, run_ifS, run_drop, run_raise, run_break, run_cont, run_tgt, run_frz, run_for, run_subC, run_subO, run_own, run_mkF, kOpB, kOpA, kOp1, kIxB, kIxA, kTru, kNot, kAnd, kOr, kIte, kBl, kAsB, kAndV, kOrV, kConsB, kConsA, kTup, kLst, kStarB, kStarA, kDict, kPart, kSlC, kSlB, kSlA, kChC, kChB, kChA, kCall, kMeB, kMeA, kFn, kFnKB, kFnKA, kFnLA, kCaughtE, kCaughtQ, kIter, kEnum, kRng, kRng2B, kRng2A, kZipB, kZipA, kCmpB, kCmp, kSet, kSetO, kSetC, kParB, kParA, kRetE, kIf, kDrop, kTgt, kFor, kSubCC, kSubCB, kSubCA, kSubOB, kSubOA, kOwnB, kOwnA, kRet, kSeq_nx, kSeq_rt, kSeq_bk, kSeq_ct, opt_some, opt_none, opt_if, opt_map, opt_bind, slV_val, slO_own, slP_val, slP_own, cond_true, cond_false, List.getElem?_cons_zero, List.getElem?_cons_succ, List.set_cons_zero, List.set_cons_succ, List.replicate_succ, List.replicate_zero, List.map_cons, List.map_nil, List.cons_append, List.nil_append, List.length_cons, List.length_map, List.length_nil, Nat.reduceAdd, Nat.reduceSub, Nat.zero_add, Int.toNat_natCast, bindT, bindTs, itemsD, wipeD, slo, frz, permD, true_and, and_true, Bool.not_true, Bool.not_false, oo_tup_l, q_far_row hws hw hwl, q_farthest hws hw hwl hM, q_farthest_word hws hw hwl hM hj2, q_sum_far hws hw hwl, q_is_centre hws hw hwl hM hmo0 hmo1, q_near_words hws hw hwl hmo0 hmo1]
      have hpl : pl 7 (.lst [.tup ((row w ws).map .int), .int M, .int j2, .int (row w ws).sum, .bl (decide (M ≤ mo)), .tup ((near mo 0 (row w ws)).map .int)]) := by
        rw [pl]
        refine ⟨le_big (by simp), fun x hx => ?_⟩
        simp only [List.mem_cons, List.not_mem_nil, or_false] at hx
        rcases hx with rfl | rfl | rfl | rfl | rfl | rfl
        · exact pl_ints (by omega)
        · rw [pl] <;> trivial
        · rw [pl] <;> trivial
        · rw [pl] <;> trivial
        · rw [pl] <;> trivial
        · exact pl_ints (by omega)
      refine ⟨by decide, by decide, ?_⟩
      rw [q_says hpl]
      simp only [run_ok, run_exc, run_bad, run_ofO, run_ofB, run_var, run_peek, run_lit, run_op2, run_op1, run_idx, run_tru, run_not, run_and, run_or, run_ite, run_bl, run_asB, run_andV, run_orV, run_nil, run_cons, run_tup, run_lst, run_star, run_dict, run_noPart, run_part, run_slc, run_chain, run_call, run_meth, run_fn, run_fnK, run_fnL, run_caught, run_iter, run_enum, run_rng, run_rng2, run_zip, run_comp, run_yes, run_seq, run_skip, run_set, run_setO, run_setC, run_par, run_ret, run_retN, run_retO, run_ifS, run_drop, run_raise, run_break, run_cont, run_tgt, run_frz, run_for, run_subC, run_subO, run_own, run_mkF, kOpB, kOpA, kOp1, kIxB, kIxA, kTru, kNot, kAnd, kOr, kIte, kBl, kAsB, kAndV, kOrV, kConsB, kConsA, kTup, kLst, kStarB, kStarA, kDict, kPart, kSlC, kSlB, kSlA, kChC, kChB, kChA, kCall, kMeB, kMeA, kFn, kFnKB, kFnKA, kFnLA, kCaughtE, kCaughtQ, kIter, kEnum, kRng, kRng2B, kRng2A, kZipB, kZipA, kCmpB, kCmp, kSet, kSetO, kSetC, kParB, kParA, kRetE, kIf, kDrop, kTgt, kFor, kSubCC, kSubCB, kSubCA, kSubOB, kSubOA, kOwnB, kOwnA, kRet, kSeq_nx, kSeq_rt, kSeq_bk, kSeq_ct, opt_some, opt_none, opt_if, opt_map, opt_bind, slV_val, slO_own, slP_val, slP_own, cond_true, cond_false, List.getElem?_cons_zero, List.getElem?_cons_succ, List.set_cons_zero, List.set_cons_succ, List.replicate_succ, List.replicate_zero, List.map_cons, List.map_nil, List.cons_append, List.nil_append, List.length_cons, List.length_map, List.length_nil, Nat.reduceAdd, Nat.reduceSub, Nat.zero_add, Int.toNat_natCast, bindT, bindTs, itemsD, wipeD, slo, frz, permD, true_and, and_true, Bool.not_true, Bool.not_false, oo_tru_bl, List.getD_cons_zero, List.getD_cons_succ, q_far_row hws hw hwl, q_farthest hws hw hwl hM, q_farthest_word hws hw hwl hM hj2, q_sum_far hws hw hwl]
      refine ⟨by decide, ?_⟩
      simp only [run_ok, run_exc, run_bad, run_ofO, run_ofB, run_var, run_peek, run_lit, run_op2, run_op1, run_idx, run_tru, run_not, run_and, run_or, run_ite, run_bl, run_asB, run_andV, run_orV, run_nil, run_cons, run_tup, run_lst, run_star, run_dict, run_noPart, run_part, run_slc, run_chain, run_call, run_meth, run_fn, run_fnK, run_fnL, run_caught, run_iter, run_enum, run_rng, run_rng2, run_zip, run_comp, run_yes, run_seq, run_skip, run_set, run_setO, run_setC, run_par, run_ret, run_retN, run_retO, run_ifS, run_drop, run_raise, run_break, run_cont, run_tgt, run_frz, run_for, run_subC, run_subO, run_own, run_mkF, kOpB, kOpA, kOp1, kIxB, kIxA, kTru, kNot, kAnd, kOr, kIte, kBl, kAsB, kAndV, kOrV, kConsB, kConsA, kTup, kLst, kStarB, kStarA, kDict, kPart, kSlC, kSlB, kSlA, kChC, kChB, kChA, kCall, kMeB, kMeA, kFn, kFnKB, kFnKA, kFnLA, kCaughtE, kCaughtQ, kIter, kEnum, kRng, kRng2B, kRng2A, kZipB, kZipA, kCmpB, kCmp, kSet, kSetO, kSetC, kParB, kParA, kRetE, kIf, kDrop, kTgt, kFor, kSubCC, kSubCB, kSubCA, kSubOB, kSubOA, kOwnB, kOwnA, kRet, kSeq_nx, kSeq_rt, kSeq_bk, kSeq_ct, opt_some, opt_none, opt_if, opt_map, opt_bind, slV_val, slO_own, slP_val, slP_own, cond_true, cond_false, List.getElem?_cons_zero, List.getElem?_cons_succ, List.set_cons_zero, List.set_cons_succ, List.replicate_succ, List.replicate_zero, List.map_cons, List.map_nil, List.cons_append, List.nil_append, List.length_cons, List.length_map, List.length_nil, Nat.reduceAdd, Nat.reduceSub, Nat.zero_add, Int.toNat_natCast, bindT, bindTs, itemsD, wipeD, slo, frz, permD, true_and, and_true, Bool.not_true, Bool.not_false, oo_add_lst, List.getD_cons_zero, List.getD_cons_succ, q_is_centre hws hw hwl hM hmo0 hmo1, q_near_words hws hw hwl hmo0 hmo1]
      refine ⟨by decide, by decide, ?_⟩
      rw [q_says hpl]
      simp only [run_ok, run_exc, run_bad, run_ofO, run_ofB, run_var, run_peek, run_lit, run_op2, run_op1, run_idx, run_tru, run_not, run_and, run_or, run_ite, run_bl, run_asB, run_andV, run_orV, run_nil, run_cons, run_tup, run_lst, run_star, run_dict, run_noPart, run_part, run_slc, run_chain, run_call, run_meth, run_fn, run_fnK, run_fnL, run_caught, run_iter, run_enum, run_rng, run_rng2, run_zip, run_comp, run_yes, run_seq, run_skip, run_set, run_setO, run_setC, run_par, run_ret, run_retN, run_retO, run_ifS, run_drop, run_raise, run_break, run_cont, run_tgt, run_frz, run_for, run_subC, run_subO, run_own, run_mkF, kOpB, kOpA, kOp1, kIxB, kIxA, kTru, kNot, kAnd, kOr, kIte, kBl, kAsB, kAndV, kOrV, kConsB, kConsA, kTup, kLst, kStarB, kStarA, kDict, kPart, kSlC, kSlB, kSlA, kChC, kChB, kChA, kCall, kMeB, kMeA, kFn, kFnKB, kFnKA, kFnLA, kCaughtE, kCaughtQ, kIter, kEnum, kRng, kRng2B, kRng2A, kZipB, kZipA, kCmpB, kCmp, kSet, kSetO, kSetC, kParB, kParA, kRetE, kIf, kDrop, kTgt, kFor, kSubCC, kSubCB, kSubCA, kSubOB, kSubOA, kOwnB, kOwnA, kRet, kSeq_nx, kSeq_rt, kSeq_bk, kSeq_ct, opt_some, opt_none, opt_if, opt_map, opt_bind, slV_val, slO_own, slP_val, slP_own, cond_true, cond_false, List.getElem?_cons_zero, List.getElem?_cons_succ, List.set_cons_zero, List.set_cons_succ, List.replicate_succ, List.replicate_zero, List.map_cons, List.map_nil, List.cons_append, List.nil_append, List.length_cons, List.length_map, List.length_nil, Nat.reduceAdd, Nat.reduceSub, Nat.zero_add, Int.toNat_natCast, bindT, bindTs, itemsD, wipeD, slo, frz, permD, true_and, and_true, Bool.not_true, Bool.not_false, oo_tru_bl, oo_it_lst]
      refine ⟨by decide, by decide, ?_⟩
      have b1 : ("BadLot" : Str) ∈ excs := by decide
      have b2 : ("BadWord" : Str) ∈ excs := by decide
      have b3 : ("BadMost" : Str) ∈ excs := by decide
      have four : ∀ d ∈ [D.fn "far_row", D.fn "farthest", D.fn "farthest_word", D.fn "sum_far"], ∃ (x : Str) (f : FD), d = .fn x ∧ tbl_law.lookup x = some f ∧ f ∈ [f_far_row, f_farthest, f_farthest_word, f_sum_far] := by
        intro d hd
        simp only [List.mem_cons, List.not_mem_nil, or_false] at hd
        rcases hd with rfl | rfl | rfl | rfl
        · exact ⟨_, _, rfl, rfl, by simp⟩
        · exact ⟨_, _, rfl, rfl, by simp⟩
        · exact ⟨_, _, rfl, rfl, by simp⟩
        · exact ⟨_, _, rfl, rfl, by simp⟩
      have two : ∀ d ∈ [D.fn "is_centre", D.fn "near_words"], ∃ (x : Str) (f : FD), d = .fn x ∧ tbl_law.lookup x = some f ∧ f ∈ [f_is_centre, f_near_words] := by
        intro d hd
        simp only [List.mem_cons, List.not_mem_nil, or_false] at hd
        rcases hd with rfl | rfl
        · exact ⟨_, _, rfl, rfl, by simp⟩
        · exact ⟨_, _, rfl, rfl, by simp⟩
      refine run_coll_inv (I := Dr) (c := 1) (P := fun x => x = .bl true) hT7 (by simp; omega) ?_ ?_
      · intro d hd n T' hT' hn
        obtain ⟨x, f, rfl, hf, hfm⟩ := four d hd
        simp only [run_one, run_ok, run_exc, run_bad, run_ofO, run_ofB, run_var, run_peek, run_lit, run_op2, run_op1, run_idx, run_tru, run_not, run_and, run_or, run_ite, run_bl, run_asB, run_andV, run_orV, run_nil, run_cons, run_tup, run_lst, run_star, run_dict, run_noPart, run_part, run_slc, run_chain, run_call, run_meth, run_fn, run_fnK, run_fnL, run_caught, run_iter, run_enum, run_rng, run_rng2, run_zip, run_comp, run_yes, run_seq, run_skip, run_set, run_setO, run_setC, run_par, run_ret, run_retN, run_retO, run_ifS, run_drop, run_raise, run_break, run_cont, run_tgt, run_frz, run_for, run_subC, run_subO, run_own, run_mkF, kOpB, kOpA, kOp1, kIxB, kIxA, kTru, kNot, kAnd, kOr, kIte, kBl, kAsB, kAndV, kOrV, kConsB, kConsA, kTup, kLst, kStarB, kStarA, kDict, kPart, kSlC, kSlB, kSlA, kChC, kChB, kChA, kCall, kMeB, kMeA, kFn, kFnKB, kFnKA, kFnLA, kCaughtE, kCaughtQ, kIter, kEnum, kRng, kRng2B, kRng2A, kZipB, kZipA, kCmpB, kCmp, kSet, kSetO, kSetC, kParB, kParA, kRetE, kIf, kDrop, kTgt, kFor, kSubCC, kSubCB, kSubCA, kSubOB, kSubOA, kOwnB, kOwnA, kRet, kSeq_nx, kSeq_rt, kSeq_bk, kSeq_ct, opt_some, opt_none, opt_if, opt_map, opt_bind, slV_val, slO_own, slP_val, slP_own, cond_true, cond_false, List.getElem?_cons_zero, List.getElem?_cons_succ, List.set_cons_zero, List.set_cons_succ, List.replicate_succ, List.replicate_zero, List.map_cons, List.map_nil, List.cons_append, List.nil_append, List.length_cons, List.length_map, List.length_nil, Nat.reduceAdd, Nat.reduceSub, Nat.zero_add, Int.toNat_natCast, bindT, bindTs, itemsD, wipeD, slo, frz, permD, true_and, and_true, Bool.not_true, Bool.not_false, kOneA, kOneB, hf]
        refine Run.step (p_nolot hT' hn) ?_
        rintro y T2 ⟨hy, hT2⟩
        simp only [run_ok, run_exc, run_bad, run_ofO, run_ofB, run_var, run_peek, run_lit, run_op2, run_op1, run_idx, run_tru, run_not, run_and, run_or, run_ite, run_bl, run_asB, run_andV, run_orV, run_nil, run_cons, run_tup, run_lst, run_star, run_dict, run_noPart, run_part, run_slc, run_chain, run_call, run_meth, run_fn, run_fnK, run_fnL, run_caught, run_iter, run_enum, run_rng, run_rng2, run_zip, run_comp, run_yes, run_seq, run_skip, run_set, run_setO, run_setC, run_par, run_ret, run_retN, run_retO, run_ifS, run_drop, run_raise, run_break, run_cont, run_tgt, run_frz, run_for, run_subC, run_subO, run_own, run_mkF, kOpB, kOpA, kOp1, kIxB, kIxA, kTru, kNot, kAnd, kOr, kIte, kBl, kAsB, kAndV, kOrV, kConsB, kConsA, kTup, kLst, kStarB, kStarA, kDict, kPart, kSlC, kSlB, kSlA, kChC, kChB, kChA, kCall, kMeB, kMeA, kFn, kFnKB, kFnKA, kFnLA, kCaughtE, kCaughtQ, kIter, kEnum, kRng, kRng2B, kRng2A, kZipB, kZipA, kCmpB, kCmp, kSet, kSetO, kSetC, kParB, kParA, kRetE, kIf, kDrop, kTgt, kFor, kSubCC, kSubCB, kSubCA, kSubOB, kSubOA, kOwnB, kOwnA, kRet, kSeq_nx, kSeq_rt, kSeq_bk, kSeq_ct, opt_some, opt_none, opt_if, opt_map, opt_bind, slV_val, slO_own, slP_val, slP_own, cond_true, cond_false, List.getElem?_cons_zero, List.getElem?_cons_succ, List.set_cons_zero, List.set_cons_succ, List.replicate_succ, List.replicate_zero, List.map_cons, List.map_nil, List.cons_append, List.nil_append, List.length_cons, List.length_map, List.length_nil, Nat.reduceAdd, Nat.reduceSub, Nat.zero_add, Int.toNat_natCast, bindT, bindTs, itemsD, wipeD, slo, frz, permD, true_and, and_true, Bool.not_true, Bool.not_false, four_lot hy T2 hfm, run_exc, oo_isi_ex, if_pos b1, b1]
        exact ⟨_, rfl, rfl, hT2⟩
      intro xs T8 hxl hxP hT8
      simp only [run_ok, run_exc, run_bad, run_ofO, run_ofB, run_var, run_peek, run_lit, run_op2, run_op1, run_idx, run_tru, run_not, run_and, run_or, run_ite, run_bl, run_asB, run_andV, run_orV, run_nil, run_cons, run_tup, run_lst, run_star, run_dict, run_noPart, run_part, run_slc, run_chain, run_call, run_meth, run_fn, run_fnK, run_fnL, run_caught, run_iter, run_enum, run_rng, run_rng2, run_zip, run_comp, run_yes, run_seq, run_skip, run_set, run_setO, run_setC, run_par, run_ret, run_retN, run_retO, run_ifS, run_drop, run_raise, run_break, run_cont, run_tgt, run_frz, run_for, run_subC, run_subO, run_own, run_mkF, kOpB, kOpA, kOp1, kIxB, kIxA, kTru, kNot, kAnd, kOr, kIte, kBl, kAsB, kAndV, kOrV, kConsB, kConsA, kTup, kLst, kStarB, kStarA, kDict, kPart, kSlC, kSlB, kSlA, kChC, kChB, kChA, kCall, kMeB, kMeA, kFn, kFnKB, kFnKA, kFnLA, kCaughtE, kCaughtQ, kIter, kEnum, kRng, kRng2B, kRng2A, kZipB, kZipA, kCmpB, kCmp, kSet, kSetO, kSetC, kParB, kParA, kRetE, kIf, kDrop, kTgt, kFor, kSubCC, kSubCB, kSubCA, kSubOB, kSubOA, kOwnB, kOwnA, kRet, kSeq_nx, kSeq_rt, kSeq_bk, kSeq_ct, opt_some, opt_none, opt_if, opt_map, opt_bind, slV_val, slO_own, slP_val, slP_own, cond_true, cond_false, List.getElem?_cons_zero, List.getElem?_cons_succ, List.set_cons_zero, List.set_cons_succ, List.replicate_succ, List.replicate_zero, List.map_cons, List.map_nil, List.cons_append, List.nil_append, List.length_cons, List.length_map, List.length_nil, Nat.reduceAdd, Nat.reduceSub, Nat.zero_add, Int.toNat_natCast, bindT, bindTs, itemsD, wipeD, slo, frz, permD, true_and, and_true, Bool.not_true, Bool.not_false] at hxl
      obtain rfl := List.eq_replicate_iff.mpr ⟨hxl, hxP⟩
      simp only [run_ok, run_exc, run_bad, run_ofO, run_ofB, run_var, run_peek, run_lit, run_op2, run_op1, run_idx, run_tru, run_not, run_and, run_or, run_ite, run_bl, run_asB, run_andV, run_orV, run_nil, run_cons, run_tup, run_lst, run_star, run_dict, run_noPart, run_part, run_slc, run_chain, run_call, run_meth, run_fn, run_fnK, run_fnL, run_caught, run_iter, run_enum, run_rng, run_rng2, run_zip, run_comp, run_yes, run_seq, run_skip, run_set, run_setO, run_setC, run_par, run_ret, run_retN, run_retO, run_ifS, run_drop, run_raise, run_break, run_cont, run_tgt, run_frz, run_for, run_subC, run_subO, run_own, run_mkF, kOpB, kOpA, kOp1, kIxB, kIxA, kTru, kNot, kAnd, kOr, kIte, kBl, kAsB, kAndV, kOrV, kConsB, kConsA, kTup, kLst, kStarB, kStarA, kDict, kPart, kSlC, kSlB, kSlA, kChC, kChB, kChA, kCall, kMeB, kMeA, kFn, kFnKB, kFnKA, kFnLA, kCaughtE, kCaughtQ, kIter, kEnum, kRng, kRng2B, kRng2A, kZipB, kZipA, kCmpB, kCmp, kSet, kSetO, kSetC, kParB, kParA, kRetE, kIf, kDrop, kTgt, kFor, kSubCC, kSubCB, kSubCA, kSubOB, kSubOA, kOwnB, kOwnA, kRet, kSeq_nx, kSeq_rt, kSeq_bk, kSeq_ct, opt_some, opt_none, opt_if, opt_map, opt_bind, slV_val, slO_own, slP_val, slP_own, cond_true, cond_false, List.getElem?_cons_zero, List.getElem?_cons_succ, List.set_cons_zero, List.set_cons_succ, List.replicate_succ, List.replicate_zero, List.map_cons, List.map_nil, List.cons_append, List.nil_append, List.length_cons, List.length_map, List.length_nil, Nat.reduceAdd, Nat.reduceSub, Nat.zero_add, Int.toNat_natCast, bindT, bindTs, itemsD, wipeD, slo, frz, permD, true_and, and_true, Bool.not_true, Bool.not_false, oo_it_lst]
      refine ⟨by decide, ?_⟩
      refine run_coll_inv (I := Dr) (c := 1) (P := fun x => x = .bl true) hT8 (by simp; omega) ?_ ?_
      · intro d hd n T' hT' hn
        obtain ⟨x, f, rfl, hf, hfm⟩ := four d hd
        simp only [run_one, run_ok, run_exc, run_bad, run_ofO, run_ofB, run_var, run_peek, run_lit, run_op2, run_op1, run_idx, run_tru, run_not, run_and, run_or, run_ite, run_bl, run_asB, run_andV, run_orV, run_nil, run_cons, run_tup, run_lst, run_star, run_dict, run_noPart, run_part, run_slc, run_chain, run_call, run_meth, run_fn, run_fnK, run_fnL, run_caught, run_iter, run_enum, run_rng, run_rng2, run_zip, run_comp, run_yes, run_seq, run_skip, run_set, run_setO, run_setC, run_par, run_ret, run_retN, run_retO, run_ifS, run_drop, run_raise, run_break, run_cont, run_tgt, run_frz, run_for, run_subC, run_subO, run_own, run_mkF, kOpB, kOpA, kOp1, kIxB, kIxA, kTru, kNot, kAnd, kOr, kIte, kBl, kAsB, kAndV, kOrV, kConsB, kConsA, kTup, kLst, kStarB, kStarA, kDict, kPart, kSlC, kSlB, kSlA, kChC, kChB, kChA, kCall, kMeB, kMeA, kFn, kFnKB, kFnKA, kFnLA, kCaughtE, kCaughtQ, kIter, kEnum, kRng, kRng2B, kRng2A, kZipB, kZipA, kCmpB, kCmp, kSet, kSetO, kSetC, kParB, kParA, kRetE, kIf, kDrop, kTgt, kFor, kSubCC, kSubCB, kSubCA, kSubOB, kSubOA, kOwnB, kOwnA, kRet, kSeq_nx, kSeq_rt, kSeq_bk, kSeq_ct, opt_some, opt_none, opt_if, opt_map, opt_bind, slV_val, slO_own, slP_val, slP_own, cond_true, cond_false, List.getElem?_cons_zero, List.getElem?_cons_succ, List.set_cons_zero, List.set_cons_succ, List.replicate_succ, List.replicate_zero, List.map_cons, List.map_nil, List.cons_append, List.nil_append, List.length_cons, List.length_map, List.length_nil, Nat.reduceAdd, Nat.reduceSub, Nat.zero_add, Int.toNat_natCast, bindT, bindTs, itemsD, wipeD, slo, frz, permD, true_and, and_true, Bool.not_true, Bool.not_false, kOneA, kOneB, hf, oo_add_str]
        refine ⟨le_big (by omega), by decide, by decide, ?_⟩
        refine Run.step (p_pick hT' hn (by simp) (by simp)) ?_
        rintro y T2 ⟨hy, hT2⟩
        have hy2 := bad_words hws hw hwl y hy
        simp only [run_ok, run_exc, run_bad, run_ofO, run_ofB, run_var, run_peek, run_lit, run_op2, run_op1, run_idx, run_tru, run_not, run_and, run_or, run_ite, run_bl, run_asB, run_andV, run_orV, run_nil, run_cons, run_tup, run_lst, run_star, run_dict, run_noPart, run_part, run_slc, run_chain, run_call, run_meth, run_fn, run_fnK, run_fnL, run_caught, run_iter, run_enum, run_rng, run_rng2, run_zip, run_comp, run_yes, run_seq, run_skip, run_set, run_setO, run_setC, run_par, run_ret, run_retN, run_retO, run_ifS, run_drop, run_raise, run_break, run_cont, run_tgt, run_frz, run_for, run_subC, run_subO, run_own, run_mkF, kOpB, kOpA, kOp1, kIxB, kIxA, kTru, kNot, kAnd, kOr, kIte, kBl, kAsB, kAndV, kOrV, kConsB, kConsA, kTup, kLst, kStarB, kStarA, kDict, kPart, kSlC, kSlB, kSlA, kChC, kChB, kChA, kCall, kMeB, kMeA, kFn, kFnKB, kFnKA, kFnLA, kCaughtE, kCaughtQ, kIter, kEnum, kRng, kRng2B, kRng2A, kZipB, kZipA, kCmpB, kCmp, kSet, kSetO, kSetC, kParB, kParA, kRetE, kIf, kDrop, kTgt, kFor, kSubCC, kSubCB, kSubCA, kSubOB, kSubOA, kOwnB, kOwnA, kRet, kSeq_nx, kSeq_rt, kSeq_bk, kSeq_ct, opt_some, opt_none, opt_if, opt_map, opt_bind, slV_val, slO_own, slP_val, slP_own, cond_true, cond_false, List.getElem?_cons_zero, List.getElem?_cons_succ, List.set_cons_zero, List.set_cons_succ, List.replicate_succ, List.replicate_zero, List.map_cons, List.map_nil, List.cons_append, List.nil_append, List.length_cons, List.length_map, List.length_nil, Nat.reduceAdd, Nat.reduceSub, Nat.zero_add, Int.toNat_natCast, bindT, bindTs, itemsD, wipeD, slo, frz, permD, true_and, and_true, Bool.not_true, Bool.not_false, four_word hws hy2 T2 hfm, run_exc, oo_isi_ex, if_pos b2, b2]
        exact ⟨_, rfl, rfl, hT2⟩
      intro xs T9 hxl hxP hT9
      simp only [run_ok, run_exc, run_bad, run_ofO, run_ofB, run_var, run_peek, run_lit, run_op2, run_op1, run_idx, run_tru, run_not, run_and, run_or, run_ite, run_bl, run_asB, run_andV, run_orV, run_nil, run_cons, run_tup, run_lst, run_star, run_dict, run_noPart, run_part, run_slc, run_chain, run_call, run_meth, run_fn, run_fnK, run_fnL, run_caught, run_iter, run_enum, run_rng, run_rng2, run_zip, run_comp, run_yes, run_seq, run_skip, run_set, run_setO, run_setC, run_par, run_ret, run_retN, run_retO, run_ifS, run_drop, run_raise, run_break, run_cont, run_tgt, run_frz, run_for, run_subC, run_subO, run_own, run_mkF, kOpB, kOpA, kOp1, kIxB, kIxA, kTru, kNot, kAnd, kOr, kIte, kBl, kAsB, kAndV, kOrV, kConsB, kConsA, kTup, kLst, kStarB, kStarA, kDict, kPart, kSlC, kSlB, kSlA, kChC, kChB, kChA, kCall, kMeB, kMeA, kFn, kFnKB, kFnKA, kFnLA, kCaughtE, kCaughtQ, kIter, kEnum, kRng, kRng2B, kRng2A, kZipB, kZipA, kCmpB, kCmp, kSet, kSetO, kSetC, kParB, kParA, kRetE, kIf, kDrop, kTgt, kFor, kSubCC, kSubCB, kSubCA, kSubOB, kSubOA, kOwnB, kOwnA, kRet, kSeq_nx, kSeq_rt, kSeq_bk, kSeq_ct, opt_some, opt_none, opt_if, opt_map, opt_bind, slV_val, slO_own, slP_val, slP_own, cond_true, cond_false, List.getElem?_cons_zero, List.getElem?_cons_succ, List.set_cons_zero, List.set_cons_succ, List.replicate_succ, List.replicate_zero, List.map_cons, List.map_nil, List.cons_append, List.nil_append, List.length_cons, List.length_map, List.length_nil, Nat.reduceAdd, Nat.reduceSub, Nat.zero_add, Int.toNat_natCast, bindT, bindTs, itemsD, wipeD, slo, frz, permD, true_and, and_true, Bool.not_true, Bool.not_false] at hxl
      obtain rfl := List.eq_replicate_iff.mpr ⟨hxl, hxP⟩
      simp only [run_ok, run_exc, run_bad, run_ofO, run_ofB, run_var, run_peek, run_lit, run_op2, run_op1, run_idx, run_tru, run_not, run_and, run_or, run_ite, run_bl, run_asB, run_andV, run_orV, run_nil, run_cons, run_tup, run_lst, run_star, run_dict, run_noPart, run_part, run_slc, run_chain, run_call, run_meth, run_fn, run_fnK, run_fnL, run_caught, run_iter, run_enum, run_rng, run_rng2, run_zip, run_comp, run_yes, run_seq, run_skip, run_set, run_setO, run_setC, run_par, run_ret, run_retN, run_retO, run_ifS, run_drop, run_raise, run_break, run_cont, run_tgt, run_frz, run_for, run_subC, run_subO, run_own, run_mkF, kOpB, kOpA, kOp1, kIxB, kIxA, kTru, kNot, kAnd, kOr, kIte, kBl, kAsB, kAndV, kOrV, kConsB, kConsA, kTup, kLst, kStarB, kStarA, kDict, kPart, kSlC, kSlB, kSlA, kChC, kChB, kChA, kCall, kMeB, kMeA, kFn, kFnKB, kFnKA, kFnLA, kCaughtE, kCaughtQ, kIter, kEnum, kRng, kRng2B, kRng2A, kZipB, kZipA, kCmpB, kCmp, kSet, kSetO, kSetC, kParB, kParA, kRetE, kIf, kDrop, kTgt, kFor, kSubCC, kSubCB, kSubCA, kSubOB, kSubOA, kOwnB, kOwnA, kRet, kSeq_nx, kSeq_rt, kSeq_bk, kSeq_ct, opt_some, opt_none, opt_if, opt_map, opt_bind, slV_val, slO_own, slP_val, slP_own, cond_true, cond_false, List.getElem?_cons_zero, List.getElem?_cons_succ, List.set_cons_zero, List.set_cons_succ, List.replicate_succ, List.replicate_zero, List.map_cons, List.map_nil, List.cons_append, List.nil_append, List.length_cons, List.length_map, List.length_nil, Nat.reduceAdd, Nat.reduceSub, Nat.zero_add, Int.toNat_natCast, bindT, bindTs, itemsD, wipeD, slo, frz, permD, true_and, and_true, Bool.not_true, Bool.not_false, oo_it_lst, oo_add_lst]
      refine ⟨by decide, by decide, by decide, ?_⟩
      refine run_coll_inv (I := Dr) (c := 1) (P := fun x => x = .bl true) hT9 (by simp; omega) ?_ ?_
      · intro d hd n T' hT' hn
        obtain ⟨x, f, rfl, hf, hfm⟩ := two d hd
        simp only [run_one, run_ok, run_exc, run_bad, run_ofO, run_ofB, run_var, run_peek, run_lit, run_op2, run_op1, run_idx, run_tru, run_not, run_and, run_or, run_ite, run_bl, run_asB, run_andV, run_orV, run_nil, run_cons, run_tup, run_lst, run_star, run_dict, run_noPart, run_part, run_slc, run_chain, run_call, run_meth, run_fn, run_fnK, run_fnL, run_caught, run_iter, run_enum, run_rng, run_rng2, run_zip, run_comp, run_yes, run_seq, run_skip, run_set, run_setO, run_setC, run_par, run_ret, run_retN, run_retO, run_ifS, run_drop, run_raise, run_break, run_cont, run_tgt, run_frz, run_for, run_subC, run_subO, run_own, run_mkF, kOpB, kOpA, kOp1, kIxB, kIxA, kTru, kNot, kAnd, kOr, kIte, kBl, kAsB, kAndV, kOrV, kConsB, kConsA, kTup, kLst, kStarB, kStarA, kDict, kPart, kSlC, kSlB, kSlA, kChC, kChB, kChA, kCall, kMeB, kMeA, kFn, kFnKB, kFnKA, kFnLA, kCaughtE, kCaughtQ, kIter, kEnum, kRng, kRng2B, kRng2A, kZipB, kZipA, kCmpB, kCmp, kSet, kSetO, kSetC, kParB, kParA, kRetE, kIf, kDrop, kTgt, kFor, kSubCC, kSubCB, kSubCA, kSubOB, kSubOA, kOwnB, kOwnA, kRet, kSeq_nx, kSeq_rt, kSeq_bk, kSeq_ct, opt_some, opt_none, opt_if, opt_map, opt_bind, slV_val, slO_own, slP_val, slP_own, cond_true, cond_false, List.getElem?_cons_zero, List.getElem?_cons_succ, List.set_cons_zero, List.set_cons_succ, List.replicate_succ, List.replicate_zero, List.map_cons, List.map_nil, List.cons_append, List.nil_append, List.length_cons, List.length_map, List.length_nil, Nat.reduceAdd, Nat.reduceSub, Nat.zero_add, Int.toNat_natCast, bindT, bindTs, itemsD, wipeD, slo, frz, permD, true_and, and_true, Bool.not_true, Bool.not_false, kOneA, kOneB, hf]
        refine Run.step (p_number hT' hn) ?_
        rintro y T2 ⟨hy, hT2⟩
        simp only [run_ok, run_exc, run_bad, run_ofO, run_ofB, run_var, run_peek, run_lit, run_op2, run_op1, run_idx, run_tru, run_not, run_and, run_or, run_ite, run_bl, run_asB, run_andV, run_orV, run_nil, run_cons, run_tup, run_lst, run_star, run_dict, run_noPart, run_part, run_slc, run_chain, run_call, run_meth, run_fn, run_fnK, run_fnL, run_caught, run_iter, run_enum, run_rng, run_rng2, run_zip, run_comp, run_yes, run_seq, run_skip, run_set, run_setO, run_setC, run_par, run_ret, run_retN, run_retO, run_ifS, run_drop, run_raise, run_break, run_cont, run_tgt, run_frz, run_for, run_subC, run_subO, run_own, run_mkF, kOpB, kOpA, kOp1, kIxB, kIxA, kTru, kNot, kAnd, kOr, kIte, kBl, kAsB, kAndV, kOrV, kConsB, kConsA, kTup, kLst, kStarB, kStarA, kDict, kPart, kSlC, kSlB, kSlA, kChC, kChB, kChA, kCall, kMeB, kMeA, kFn, kFnKB, kFnKA, kFnLA, kCaughtE, kCaughtQ, kIter, kEnum, kRng, kRng2B, kRng2A, kZipB, kZipA, kCmpB, kCmp, kSet, kSetO, kSetC, kParB, kParA, kRetE, kIf, kDrop, kTgt, kFor, kSubCC, kSubCB, kSubCA, kSubOB, kSubOA, kOwnB, kOwnA, kRet, kSeq_nx, kSeq_rt, kSeq_bk, kSeq_ct, opt_some, opt_none, opt_if, opt_map, opt_bind, slV_val, slO_own, slP_val, slP_own, cond_true, cond_false, List.getElem?_cons_zero, List.getElem?_cons_succ, List.set_cons_zero, List.set_cons_succ, List.replicate_succ, List.replicate_zero, List.map_cons, List.map_nil, List.cons_append, List.nil_append, List.length_cons, List.length_map, List.length_nil, Nat.reduceAdd, Nat.reduceSub, Nat.zero_add, Int.toNat_natCast, bindT, bindTs, itemsD, wipeD, slo, frz, permD, true_and, and_true, Bool.not_true, Bool.not_false, two_most hws hw hwl hy T2 hfm, run_exc, oo_isi_ex, if_pos b3, b3]
        exact ⟨_, rfl, rfl, hT2⟩
      intro xs T10 hxl hxP hT10
      simp only [run_ok, run_exc, run_bad, run_ofO, run_ofB, run_var, run_peek, run_lit, run_op2, run_op1, run_idx, run_tru, run_not, run_and, run_or, run_ite, run_bl, run_asB, run_andV, run_orV, run_nil, run_cons, run_tup, run_lst, run_star, run_dict, run_noPart, run_part, run_slc, run_chain, run_call, run_meth, run_fn, run_fnK, run_fnL, run_caught, run_iter, run_enum, run_rng, run_rng2, run_zip, run_comp, run_yes, run_seq, run_skip, run_set, run_setO, run_setC, run_par, run_ret, run_retN, run_retO, run_ifS, run_drop, run_raise, run_break, run_cont, run_tgt, run_frz, run_for, run_subC, run_subO, run_own, run_mkF, kOpB, kOpA, kOp1, kIxB, kIxA, kTru, kNot, kAnd, kOr, kIte, kBl, kAsB, kAndV, kOrV, kConsB, kConsA, kTup, kLst, kStarB, kStarA, kDict, kPart, kSlC, kSlB, kSlA, kChC, kChB, kChA, kCall, kMeB, kMeA, kFn, kFnKB, kFnKA, kFnLA, kCaughtE, kCaughtQ, kIter, kEnum, kRng, kRng2B, kRng2A, kZipB, kZipA, kCmpB, kCmp, kSet, kSetO, kSetC, kParB, kParA, kRetE, kIf, kDrop, kTgt, kFor, kSubCC, kSubCB, kSubCA, kSubOB, kSubOA, kOwnB, kOwnA, kRet, kSeq_nx, kSeq_rt, kSeq_bk, kSeq_ct, opt_some, opt_none, opt_if, opt_map, opt_bind, slV_val, slO_own, slP_val, slP_own, cond_true, cond_false, List.getElem?_cons_zero, List.getElem?_cons_succ, List.set_cons_zero, List.set_cons_succ, List.replicate_succ, List.replicate_zero, List.map_cons, List.map_nil, List.cons_append, List.nil_append, List.length_cons, List.length_map, List.length_nil, Nat.reduceAdd, Nat.reduceSub, Nat.zero_add, Int.toNat_natCast, bindT, bindTs, itemsD, wipeD, slo, frz, permD, true_and, and_true, Bool.not_true, Bool.not_false] at hxl
      obtain rfl := List.eq_replicate_iff.mpr ⟨hxl, hxP⟩
      simp only [run_ok, run_exc, run_bad, run_ofO, run_ofB, run_var, run_peek, run_lit, run_op2, run_op1, run_idx, run_tru, run_not, run_and, run_or, run_ite, run_bl, run_asB, run_andV, run_orV, run_nil, run_cons, run_tup, run_lst, run_star, run_dict, run_noPart, run_part, run_slc, run_chain, run_call, run_meth, run_fn, run_fnK, run_fnL, run_caught, run_iter, run_enum, run_rng, run_rng2, run_zip, run_comp, run_yes, run_seq, run_skip, run_set, run_setO, run_setC, run_par, run_ret, run_retN, run_retO, run_ifS, run_drop, run_raise, run_break, run_cont, run_tgt, run_frz, run_for, run_subC, run_subO, run_own, run_mkF, kOpB, kOpA, kOp1, kIxB, kIxA, kTru, kNot, kAnd, kOr, kIte, kBl, kAsB, kAndV, kOrV, kConsB, kConsA, kTup, kLst, kStarB, kStarA, kDict, kPart, kSlC, kSlB, kSlA, kChC, kChB, kChA, kCall, kMeB, kMeA, kFn, kFnKB, kFnKA, kFnLA, kCaughtE, kCaughtQ, kIter, kEnum, kRng, kRng2B, kRng2A, kZipB, kZipA, kCmpB, kCmp, kSet, kSetO, kSetC, kParB, kParA, kRetE, kIf, kDrop, kTgt, kFor, kSubCC, kSubCB, kSubCA, kSubOB, kSubOA, kOwnB, kOwnA, kRet, kSeq_nx, kSeq_rt, kSeq_bk, kSeq_ct, opt_some, opt_none, opt_if, opt_map, opt_bind, slV_val, slO_own, slP_val, slP_own, cond_true, cond_false, List.getElem?_cons_zero, List.getElem?_cons_succ, List.set_cons_zero, List.set_cons_succ, List.replicate_succ, List.replicate_zero, List.map_cons, List.map_nil, List.cons_append, List.nil_append, List.length_cons, List.length_map, List.length_nil, Nat.reduceAdd, Nat.reduceSub, Nat.zero_add, Int.toNat_natCast, bindT, bindTs, itemsD, wipeD, slo, frz, permD, true_and, and_true, Bool.not_true, Bool.not_false, oo_add_lst, oo_mul_l]
      have en : neD (.lst [.bl true, .bl true, .bl true, .bl true, .bl true, .bl true, .bl true, .bl true, .bl true, .bl true]) (.lst (List.replicate (Int.toNat 10) [D.bl true]).flatten) = some (.bl false) := rfl
      refine ⟨by decide, by decide, by decide, ?_⟩
      rw [en]
      simp only [run_ok, run_exc, run_bad, run_ofO, run_ofB, run_var, run_peek, run_lit, run_op2, run_op1, run_idx, run_tru, run_not, run_and, run_or, run_ite, run_bl, run_asB, run_andV, run_orV, run_nil, run_cons, run_tup, run_lst, run_star, run_dict, run_noPart, run_part, run_slc, run_chain, run_call, run_meth, run_fn, run_fnK, run_fnL, run_caught, run_iter, run_enum, run_rng, run_rng2, run_zip, run_comp, run_yes, run_seq, run_skip, run_set, run_setO, run_setC, run_par, run_ret, run_retN, run_retO, run_ifS, run_drop, run_raise, run_break, run_cont, run_tgt, run_frz, run_for, run_subC, run_subO, run_own, run_mkF, kOpB, kOpA, kOp1, kIxB, kIxA, kTru, kNot, kAnd, kOr, kIte, kBl, kAsB, kAndV, kOrV, kConsB, kConsA, kTup, kLst, kStarB, kStarA, kDict, kPart, kSlC, kSlB, kSlA, kChC, kChB, kChA, kCall, kMeB, kMeA, kFn, kFnKB, kFnKA, kFnLA, kCaughtE, kCaughtQ, kIter, kEnum, kRng, kRng2B, kRng2A, kZipB, kZipA, kCmpB, kCmp, kSet, kSetO, kSetC, kParB, kParA, kRetE, kIf, kDrop, kTgt, kFor, kSubCC, kSubCB, kSubCA, kSubOB, kSubOA, kOwnB, kOwnA, kRet, kSeq_nx, kSeq_rt, kSeq_bk, kSeq_ct, opt_some, opt_none, opt_if, opt_map, opt_bind, slV_val, slO_own, slP_val, slP_own, cond_true, cond_false, List.getElem?_cons_zero, List.getElem?_cons_succ, List.set_cons_zero, List.set_cons_succ, List.replicate_succ, List.replicate_zero, List.map_cons, List.map_nil, List.cons_append, List.nil_append, List.length_cons, List.length_map, List.length_nil, Nat.reduceAdd, Nat.reduceSub, Nat.zero_add, Int.toNat_natCast, bindT, bindTs, itemsD, wipeD, slo, frz, permD, true_and, and_true, Bool.not_true, Bool.not_false, oo_tru_bl]
      exact ⟨_, .inl rfl, hT10.mono (by simp only [List.length_cons, List.length_nil]; omega), _, _, _, _, _, _, _, _, _, _, _, _, _, rfl⟩
    · rintro ρ T ⟨hT, o2, o3, o4, o5, o6, o7, o8, o9, o10, o11, o12, o13, o14, rfl⟩
      have a1 : f_far_row [.tup [.str [97, 97, 98], .str [97, 98, 98], .str [98, 97, 98]], .str [97, 97, 98]] T = .ok (.tup [.int 0, .int 1, .int 1]) T := rfl
      have a2 : f_farthest_word [.tup [.str [97, 97, 98], .str [97, 98, 98], .str [98, 97, 98]], .str [97, 97, 98]] T = .ok (.int 1) T := rfl
      have a3 : f_is_centre [.tup [.str [97, 97, 98], .str [97, 98, 98], .str [98, 97, 98]], .str [97, 97, 98], .int 1] T = .ok (.bl true) T := rfl
      have a4 : f_is_centre [.tup [.str [97, 97, 98], .str [97, 98, 98], .str [98, 97, 98]], .str [97, 97, 98], .int 0] T = .ok (.bl false) T := rfl
      have a5 : f_near_words [.tup [.str [97, 97, 98], .str [97, 98, 98], .str [98, 97, 98]], .str [97, 98, 98], .int 1] T = .ok (.tup [.int 0, .int 1]) T := rfl
      simp only [run_ok, run_exc, run_bad, run_ofO, run_ofB, run_var, run_peek, run_lit, run_op2, run_op1, run_idx, run_tru, run_not, run_and, run_or, run_ite, run_bl, run_asB, run_andV, run_orV, run_nil, run_cons, run_tup, run_lst, run_star, run_dict, run_noPart, run_part, run_slc, run_chain, run_call, run_meth, run_fn, run_fnK, run_fnL, run_caught, run_iter, run_enum, run_rng, run_rng2, run_zip, run_comp, run_yes, run_seq, run_skip, run_set, run_setO, run_setC, run_par, run_ret, run_retN, run_retO, run_ifS, run_drop, run_raise, run_break, run_cont, run_tgt, run_frz, run_for, run_subC, run_subO, run_own, run_mkF, kOpB, kOpA, kOp1, kIxB, kIxA, kTru, kNot, kAnd, kOr, kIte, kBl, kAsB, kAndV, kOrV, kConsB, kConsA, kTup, kLst, kStarB, kStarA, kDict, kPart, kSlC, kSlB, kSlA, kChC, kChB, kChA, kCall, kMeB, kMeA, kFn, kFnKB, kFnKA, kFnLA, kCaughtE, kCaughtQ, kIter, kEnum, kRng, kRng2B, kRng2A, kZipB, kZipA, kCmpB, kCmp, kSet, kSetO, kSetC, kParB, kParA, kRetE, kIf, kDrop, kTgt, kFor, kSubCC, kSubCB, kSubCA, kSubOB, kSubOA, kOwnB, kOwnA, kRet, kSeq_nx, kSeq_rt, kSeq_bk, kSeq_ct, opt_some, opt_none, opt_if, opt_map, opt_bind, slV_val, slO_own, slP_val, slP_own, cond_true, cond_false, List.getElem?_cons_zero, List.getElem?_cons_succ, List.set_cons_zero, List.set_cons_succ, List.replicate_succ, List.replicate_zero, List.map_cons, List.map_nil, List.cons_append, List.nil_append, List.length_cons, List.length_map, List.length_nil, Nat.reduceAdd, Nat.reduceSub, Nat.zero_add, Int.toNat_natCast, bindT, bindTs, itemsD, wipeD, slo, frz, permD, true_and, and_true, Bool.not_true, Bool.not_false, oo_add_i, oo_add_str, oo_add_tup, oo_add_lst, oo_sub_i, oo_mul_i, oo_mul_s, oo_mul_t, oo_mul_l, oo_rep_l, oo_cat_l, oo_fdiv, oo_mod, oo_pow, oo_neg, oo_lt_i, oo_le_i, oo_gt_i, oo_ge_i, oo_lt_s, oo_gt_s, oo_le_s, oo_ge_s, oo_is, oo_isnt, oo_isn_non, oo_isn_bl, oo_isn_int, oo_isn_str, oo_isn_tup, oo_isn_lst, oo_isn_dic, oo_tru_non, oo_tru_bl, oo_tru_int, oo_tru_str, oo_tru_tup, oo_tru_lst, oo_len_str, oo_len_tup, oo_len_lst, oo_len_scr, oo_len_dic, oo_sum, oo_max_l, oo_max_2, oo_min_l, oo_min_2, oo_all, oo_any, oo_abs, oo_int_i, oo_int_b, oo_tup_t, oo_tup_l, oo_lstF_t, oo_lstF_l, oo_lstF2_t, oo_lstF2_l, oo_lstF2_s, oo_lstF2_r, oo_nJoin, oo_nIndex, oo_join_lst, oo_join_tup, oo_index, oo_it_tup, oo_it_lst, oo_it_str, oo_it_scr, oo_ix_tup, oo_ix_lst, oo_ix_str, oo_ix_whole, oo_put_whole, oo_ix_cells, oo_put_cells, oo_ix_count, oo_put_count, oo_put_l, oo_app, oo_slc_t, oo_slc_l, oo_slc_s, oo_isi_ty, oo_isi_ex, oo_isi_non_bool, oo_isi_non_int, oo_isi_non_str, oo_isi_non_tuple, oo_isi_non_list, oo_isi_non_dict, oo_isi_bl_bool, oo_isi_bl_int, oo_isi_bl_str, oo_isi_bl_tuple, oo_isi_bl_list, oo_isi_bl_dict, oo_isi_int_bool, oo_isi_int_int, oo_isi_int_str, oo_isi_int_tuple, oo_isi_int_list, oo_isi_int_dict, oo_isi_str_bool, oo_isi_str_int, oo_isi_str_str, oo_isi_str_tuple, oo_isi_str_list, oo_isi_str_dict, oo_isi_tup_bool, oo_isi_tup_int, oo_isi_tup_str, oo_isi_tup_tuple, oo_isi_tup_list, oo_isi_tup_dict, oo_isi_lst_bool, oo_isi_lst_int, oo_isi_lst_str, oo_isi_lst_tuple, oo_isi_lst_list, oo_isi_lst_dict, oo_isi_dic_bool, oo_isi_dic_int, oo_isi_dic_str, oo_isi_dic_tuple, oo_isi_dic_list, oo_isi_dic_dict, oo_in_c, oo_inD, oo_ninD, a1, a2, a3, a4, a5]
      refine ⟨by decide, by decide, by decide, by decide, by decide, ?_⟩
      rw [q_says (by simp [pl]; decide)]
      simp only [run_ok, run_exc, run_bad, run_ofO, run_ofB, run_var, run_peek, run_lit, run_op2, run_op1, run_idx, run_tru, run_not, run_and, run_or, run_ite, run_bl, run_asB, run_andV, run_orV, run_nil, run_cons, run_tup, run_lst, run_star, run_dict, run_noPart, run_part, run_slc, run_chain, run_call, run_meth, run_fn, run_fnK, run_fnL, run_caught, run_iter, run_enum, run_rng, run_rng2, run_zip, run_comp, run_yes, run_seq, run_skip, run_set, run_setO, run_setC, run_par, run_ret, run_retN, run_retO, run_ifS, run_drop, run_raise, run_break, run_cont, run_tgt, run_frz, run_for, run_subC, run_subO, run_own, run_mkF, kOpB, kOpA, kOp1, kIxB, kIxA, kTru, kNot, kAnd, kOr, kIte, kBl, kAsB, kAndV, kOrV, kConsB, kConsA, kTup, kLst, kStarB, kStarA, kDict, kPart, kSlC, kSlB, kSlA, kChC, kChB, kChA, kCall, kMeB, kMeA, kFn, kFnKB, kFnKA, kFnLA, kCaughtE, kCaughtQ, kIter, kEnum, kRng, kRng2B, kRng2A, kZipB, kZipA, kCmpB, kCmp, kSet, kSetO, kSetC, kParB, kParA, kRetE, kIf, kDrop, kTgt, kFor, kSubCC, kSubCB, kSubCA, kSubOB, kSubOA, kOwnB, kOwnA, kRet, kSeq_nx, kSeq_rt, kSeq_bk, kSeq_ct, opt_some, opt_none, opt_if, opt_map, opt_bind, slV_val, slO_own, slP_val, slP_own, cond_true, cond_false, List.getElem?_cons_zero, List.getElem?_cons_succ, List.set_cons_zero, List.set_cons_succ, List.replicate_succ, List.replicate_zero, List.map_cons, List.map_nil, List.cons_append, List.nil_append, List.length_cons, List.length_map, List.length_nil, Nat.reduceAdd, Nat.reduceSub, Nat.zero_add, Int.toNat_natCast, bindT, bindTs, itemsD, wipeD, slo, frz, permD, true_and, and_true, Bool.not_true, Bool.not_false]
  obtain ⟨a, S', e, rfl⟩ := key.ok_of
  exact ⟨S', e⟩
end Dm
end
theorem PySem.Challenge.cw_nearesttoall_k03_whole_spans_of_lots_holds : PySem.Challenge.rw_nearesttoall_k03_whole_spans_of_lots.Holds :=
  Dm.holds_of fun ns hl hb => Dm.plain ns hl hb
