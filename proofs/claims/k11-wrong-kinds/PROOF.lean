import PyProof.Rows.All
import Wide.All
import OpenK.AllK
import Wide.FinOn
import HandS.ForMost
import HandS.ForExc
import HandS.Walk
import HandS.Zip
import HandS.IsInst
import HandS.SortInts
import HandS.TupAny
import HandS.Deep
import HandS.CallSlots
import HandS.Flow
import HandS.More
import KE.GoesEnum
import HandS.ExcIs
import HandS.TryMany
import KE.KDictOf
import KE.KDictKeyed
import HandS.DictComp
import HandS.DictTup
import HandS.SetFor
import HandS.ClsMeth
import HandS.Strs
import PySem.Challenge.RW_spiraldue_k11_values_of_wrong_kinds
set_option Elab.async false
set_option autoImplicit false
set_option linter.all false
set_option maxRecDepth 100000
set_option maxHeartbeats 2000000
/-! Dl0: data without the heap, the store of what may change, results; what a state of the machine has to do with them. -/
namespace DL
open PySem PySem.Spec L2

/-- data: what can't change any more stands by its content, what may change by its number in the store -/
inductive D where
  | non | bl (b : Bool) | int (i : Int) | str (s : Str) | tup (l : List D) | lst (l : List D) | scr (l : List Int) | ref (n : Nat)

inductive Cell where
  | lst (l : List D)
  | obj (c : Str) (fs : List (Str × D))
  | dct (es : List (List Key × D))
  | dk (es : List (Key × D))

abbrev Sto := List Cell
abbrev Ev := List (Option D)
/-- an exception: its class by its name, its field -/
structure Exn where
  cls : Str
  fld : Option (Str × D)

/-- the class that a name of the module names -/
def cAd (K : PySem.W.Frag) (c : Str) : Addr := match PySem.W.nsIn K mainGlobals c with
  | some (some (.ref C)) => C
  | _ => 0
theorem cAd_of {K : PySem.W.Frag} {c : Str} {C : Addr} (h : PySem.W.nsIn K mainGlobals c = some (some (.ref C))) : cAd K c = C := by
  unfold cAd; rw [h]
/-! are two data the same? -/
mutual
def D.eqb : D → D → Bool
  | .non, .non => true
  | .bl a, .bl b => a == b
  | .int a, .int b => a == b
  | .str a, .str b => decide (a = b)
  | .tup l, .tup m => D.eqbs l m
  | .lst l, .lst m => D.eqbs l m
  | .scr l, .scr m => l == m
  | .ref a, .ref b => a == b
  | _, _ => false
def D.eqbs : List D → List D → Bool
  | [], [] => true
  | a :: l, b :: m => D.eqb a b && D.eqbs l m
  | _, _ => false
end
mutual
theorem D.eqb_eq : ∀ {a b : D}, D.eqb a b = true → a = b
  | .non, b, h => by cases b <;> first | rfl | simp [D.eqb] at h
  | .bl a, b, h => by cases b <;> simp [D.eqb] at h; rw [h]
  | .int a, b, h => by cases b <;> simp [D.eqb] at h; rw [h]
  | .str a, b, h => by cases b <;> simp [D.eqb] at h; rw [h]
  | .tup l, b, h => by cases b <;> simp [D.eqb] at h; rw [D.eqbs_eq h]
  | .lst l, b, h => by cases b <;> simp [D.eqb] at h; rw [D.eqbs_eq h]
  | .scr l, b, h => by cases b <;> simp [D.eqb] at h; rw [h]
  | .ref a, b, h => by cases b <;> simp [D.eqb] at h; rw [h]
theorem D.eqbs_eq : ∀ {l m : List D}, D.eqbs l m = true → l = m
  | [], [], _ => rfl
  | [], _ :: _, h => by simp [D.eqbs] at h
  | _ :: _, [], h => by simp [D.eqbs] at h
  | a :: l, b :: m, h => by
    simp only [D.eqbs, Bool.and_eq_true] at h
    rw [D.eqb_eq h.1, D.eqbs_eq h.2]
end
mutual
theorem D.eqb_refl : ∀ (a : D), D.eqb a a = true
  | .non => rfl
  | .bl a => by simp [D.eqb]
  | .int a => by simp [D.eqb]
  | .str a => by simp [D.eqb]
  | .tup l => by simp only [D.eqb]; exact D.eqbs_refl l
  | .lst l => by simp only [D.eqb]; exact D.eqbs_refl l
  | .scr l => by simp [D.eqb]
  | .ref a => by simp [D.eqb]
theorem D.eqbs_refl : ∀ (l : List D), D.eqbs l l = true
  | [] => rfl
  | a :: l => by simp only [D.eqbs, Bool.and_eq_true]; exact ⟨D.eqb_refl a, D.eqbs_refl l⟩
end
inductive Res (α : Type) where
  | ok (a : α) (S : Sto)
  | exc (x : Exn) (S : Sto)
  | bad
@[simp] def Res.bind {α β : Type} (r : Res α) (f : α → Sto → Res β) : Res β := match r with
  | .ok a S => f a S
  | .exc x S => .exc x S
  | .bad => .bad
theorem Res.bind_ok {α β : Type} (a : α) (S : Sto) (f : α → Sto → Res β) : (Res.ok a S).bind f = f a S := rfl
theorem Res.bind_exc {α β : Type} (x : Exn) (S : Sto) (f : α → Sto → Res β) : (Res.exc x S : Res α).bind f = .exc x S := rfl
theorem Res.bind_bad {α β : Type} (f : α → Sto → Res β) : (Res.bad : Res α).bind f = .bad := rfl

/-- the addresses of the store's cells; addresses of what is being made -/
structure Ga where
  c : List Addr
  hid : List Addr
instance : Membership Addr Ga := ⟨fun γ a => a ∈ γ.c ∨ a ∈ γ.hid⟩
abbrev Ga.length (γ : Ga) : Nat := γ.c.length
def Ga.snoc (γ : Ga) (p : Addr) : Ga := ⟨γ.c ++ [p], γ.hid⟩
theorem Ga.mem_def {γ : Ga} {a : Addr} : a ∈ γ ↔ (a ∈ γ.c ∨ a ∈ γ.hid) := Iff.rfl
theorem Ga.mem {γ : Ga} {n : Nat} {a : Addr} (g : γ.c[n]? = some a) : a ∈ γ := .inl (List.mem_of_getElem? g)

/-! ### data in an abstract heap -/
section
variable (K : PySem.W.Frag)
/-- the list at a, which can't be written by us: the script -/
def ScrAt (γ : Ga) (H : Hp) (a : Addr) (xs : List V) : Prop :=
  (a ∉ γ ∧ Rd H a (.lst xs)) ∨ (∃ (o : Obj) (its : Array Value) (n : Nat), K.lookup a = some o ∧ o.cls = .type "list" ∧ o.dict = none ∧ o.data = .seq its n ∧ its.size ≤ sizeLine ∧ Vals xs its.toList)
mutual
inductive Rep (γ : Ga) (H : Hp) : D → V → Prop
  | non : Rep γ H .non .non
  | bl (b : Bool) : Rep γ H (.bl b) (.bl b)
  | int (i : Int) : Rep γ H (.int i) (.int i)
  | str (s : Str) : Rep γ H (.str s) (.str s)
  | tup {ds : List D} {a : Addr} {vs : List V} : H a = some (.tup vs) → Reps γ H ds vs → Rep γ H (.tup ds) (.ref a)
  | lst {ds : List D} {a : Addr} {vs : List V} : a ∉ γ → H a = some (.lst vs) → Reps γ H ds vs → Rep γ H (.lst ds) (.ref a)
  | scr {ns : List Int} {a : Addr} : ScrAt K γ H a (ns.map V.int) → Rep γ H (.scr ns) (.ref a)
  | ref {n : Nat} {a : Addr} : γ.c[n]? = some a → Rep γ H (.ref n) (.ref a)
inductive Reps (γ : Ga) (H : Hp) : List D → List V → Prop
  | nil : Reps γ H [] []
  | cons {d : D} {v : V} {ds : List D} {vs : List V} : Rep γ H d v → Reps γ H ds vs → Reps γ H (d :: ds) (v :: vs)
end

/-- what has become of the heap: nothing that can't change has changed, the store has grown -/
structure Ext0 (γ : Ga) (H : Hp) (γ' : Ga) (H' : Hp) : Prop where
  pre : ∃ ns, γ'.c = γ.c ++ ns ∧ ∀ a ∈ ns, H a = none
  hid : ∃ hs, γ'.hid = γ.hid ++ hs ∧ ∀ a ∈ hs, H a = none
  tup : ∀ a xs, H a = some (.tup xs) → H' a = some (.tup xs)
  lst : ∀ a xs, a ∉ γ → H a = some (.lst xs) → H' a = some (.lst xs)
  rd : ∀ a u, a ∉ γ → Rd H a u → Rd H' a u
  stay : ∀ a, H' a = none → H a = none

/-- .. and what is being made by others is as it was -/
structure Ext (γ : Ga) (H : Hp) (γ' : Ga) (H' : Hp) : Prop extends Ext0 γ H γ' H' where
  hk : ∀ a ∈ γ.hid, H a ≠ none → H' a = H a

/-- by the same names -/
def RepN {N : Type} (γ : Ga) (H : Hp) (fs : List (N × D)) (vs : List (N × V)) : Prop := fs.map (·.1) = vs.map (·.1) ∧ Reps K γ H (fs.map (·.2)) (vs.map (·.2))
/-- a cell of the store at its address -/
def CellR (γ : Ga) (H : Hp) (a : Addr) : Cell → Prop
  | .lst ds => ∃ vs, H a = some (.lst vs) ∧ Reps K γ H ds vs
  | .obj c fs => ∃ dx vs, H a = some (.ins (cAd K c) dx vs) ∧ RepN K γ H fs vs
  | .dct es => ∃ kvs, H a = some (.dT kvs) ∧ RepN K γ H es kvs
  | .dk es => ∃ kvs, H a = some (.dK kvs) ∧ RepN K γ H es kvs
structure StoR (γ : Ga) (S : Sto) (H : Hp) : Prop where
  len : γ.length = S.length
  nd : γ.c.Nodup
  cell : ∀ (n : Nat) (c : Cell) (a : Addr), S[n]? = some c → γ.c[n]? = some a → CellR K γ H a c
  hidden : ∀ a ∈ γ.hid, H a ≠ none ∧ a ∉ γ.c
structure EvR (γ : Ga) (H : Hp) (ds : Ev) (σ : L2.St) : Prop where
  len : ds.length = σ.length
  at_ : ∀ (i : Nat) d, ds[i]? = some (some d) → ∃ v, σ[i]? = some (some v) ∧ Rep K γ H d v
def ExR (γ : Ga) (H : Hp) (x : Exn) (cls : Value) (dd : Option Addr) : Prop :=
  cls = .ref (cAd K x.cls) ∧ match x.fld with
    | none => dd = none
    | some (f, d) => ∃ a v, dd = some a ∧ a ∉ γ ∧ H a = some (.xd [(f, v)]) ∧ Rep K γ H d v
end

section
variable {K : PySem.W.Frag} {γ γ' γ1 γ2 : Ga} {H H' H1 H2 : Hp}
theorem Ext0.refl : Ext0 γ H γ H := ⟨⟨[], by simp, by simp⟩, ⟨[], by simp, by simp⟩, fun _ _ h => h, fun _ _ _ h => h, fun _ _ _ h => h, fun _ h => h⟩
theorem Ext.refl : Ext γ H γ H := ⟨.refl, fun _ _ _ => rfl⟩
theorem Ext0.sub (e : Ext0 γ H γ' H') {a : Addr} (h : a ∈ γ) : a ∈ γ' := by
  obtain ⟨ns, q, _⟩ := e.pre
  rcases h with h | h
  · exact .inl (by rw [q]; exact List.mem_append_left _ h)
  · obtain ⟨hs, q2, _⟩ := e.hid
    exact .inr (by rw [q2]; exact List.mem_append_left _ h)
theorem Ext0.out (e : Ext0 γ H γ' H') {a : Addr} (h : a ∉ γ) (n : H a ≠ none) : a ∉ γ' := by
  obtain ⟨ns, q, r⟩ := e.pre
  intro z
  rcases z with z | z
  · rw [q] at z
    rcases List.mem_append.mp z with z | z
    · exact h (.inl z)
    · exact n (r a z)
  · obtain ⟨hs, q2, r2⟩ := e.hid
    rw [q2] at z
    rcases List.mem_append.mp z with z | z
    · exact h (.inr z)
    · exact n (r2 a z)
theorem rd_ne {a : Addr} {u : HO} (r : Rd H a u) : H a ≠ none := by
  rcases r with r | ⟨o, r⟩ <;> rw [r] <;> intro z <;> cases z
theorem Ext0.trans (e : Ext0 γ H γ1 H1) (f : Ext0 γ1 H1 γ2 H2) : Ext0 γ H γ2 H2 := by
  refine ⟨?_, ?_, fun a xs h => f.tup a xs (e.tup a xs h), fun a xs h q => f.lst a xs (e.out h (by rw [q]; intro z; cases z)) (e.lst a xs h q), fun a u h q => f.rd a u (e.out h (rd_ne q)) (e.rd a u h q), fun a h => e.stay a (f.stay a h)⟩
  obtain ⟨ns, q0, q⟩ := e.pre
  obtain ⟨ms, r0, r⟩ := f.pre
  · refine ⟨ns ++ ms, by rw [r0, q0]; simp, fun a h => ?_⟩
    rcases List.mem_append.mp h with h | h
    · exact q a h
    · exact e.stay a (r a h)
  · obtain ⟨ns, q0, q⟩ := e.hid
    obtain ⟨ms, r0, r⟩ := f.hid
    refine ⟨ns ++ ms, by rw [r0, q0]; simp, fun a h => ?_⟩
    rcases List.mem_append.mp h with h | h
    · exact q a h
    · exact e.stay a (r a h)
theorem Ext.trans (e : Ext γ H γ1 H1) (f : Ext γ1 H1 γ2 H2) : Ext γ H γ2 H2 := ⟨e.toExt0.trans f.toExt0, fun a h n => by
  obtain ⟨hs, q, _⟩ := e.hid
  have h1 := e.hk a h n
  have h2 := f.hk a (by rw [q]; exact List.mem_append_left _ h) (by rw [h1]; exact n)
  exact h2.trans h1⟩
theorem Ext0.get (e : Ext0 γ H γ' H') {n : Nat} {a : Addr} (h : γ.c[n]? = some a) : γ'.c[n]? = some a := by
  obtain ⟨ns, q, _⟩ := e.pre
  rw [q, List.getElem?_append_left (List.getElem?_eq_some_iff.mp h).1]
  exact h
theorem ScrAt.mono0 {a : Addr} {xs : List V} (h : ScrAt K γ H a xs) (e : Ext0 γ H γ' H') : ScrAt K γ' H' a xs := by
  rcases h with ⟨h1, h2⟩ | h
  · exact .inl ⟨e.out h1 (rd_ne h2), e.rd _ _ h1 h2⟩
  · exact .inr h
mutual
theorem Rep.mono0 (e : Ext0 γ H γ' H') : ∀ {d : D} {v : V}, Rep K γ H d v → Rep K γ' H' d v
  | _, _, .non => .non
  | _, _, .bl b => .bl b
  | _, _, .int i => .int i
  | _, _, .str s => .str s
  | _, _, .tup h r => .tup (e.tup _ _ h) (Reps.mono0 e r)
  | _, _, .lst n h r => .lst (e.out n (by rw [h]; intro z; cases z)) (e.lst _ _ n h) (Reps.mono0 e r)
  | _, _, .scr h => .scr (h.mono0 e)
  | _, _, .ref h => .ref (e.get h)
theorem Reps.mono0 (e : Ext0 γ H γ' H') : ∀ {ds : List D} {vs : List V}, Reps K γ H ds vs → Reps K γ' H' ds vs
  | _, _, .nil => .nil
  | _, _, .cons r t => .cons (Rep.mono0 e r) (Reps.mono0 e t)
end
theorem EvR.mono0 {ds : Ev} {σ : L2.St} (h : EvR K γ H ds σ) (e : Ext0 γ H γ' H') : EvR K γ' H' ds σ :=
  ⟨h.len, fun i d q => let ⟨v, a, b⟩ := h.at_ i d q; ⟨v, a, Rep.mono0 e b⟩⟩
theorem Rep.mono {d : D} {v : V} (r : Rep K γ H d v) (e : Ext γ H γ' H') : Rep K γ' H' d v := Rep.mono0 e.toExt0 r
theorem Reps.mono {ds : List D} {vs : List V} (r : Reps K γ H ds vs) (e : Ext γ H γ' H') : Reps K γ' H' ds vs := Reps.mono0 e.toExt0 r
theorem EvR.mono {ds : Ev} {σ : L2.St} (h : EvR K γ H ds σ) (e : Ext γ H γ' H') : EvR K γ' H' ds σ := h.mono0 e.toExt0
theorem Reps.length : ∀ {ds : List D} {vs : List V}, Reps K γ H ds vs → ds.length = vs.length
  | _, _, .nil => rfl
  | _, _, .cons _ t => by simp [t.length]
theorem Reps.get : ∀ {ds : List D} {vs : List V} {i : Nat} {d : D}, Reps K γ H ds vs → ds[i]? = some d → ∃ v, vs[i]? = some v ∧ Rep K γ H d v
  | _, _, _, _, .nil, e => by simp at e
  | _, _, 0, _, .cons r _, e => by simp at e; subst e; exact ⟨_, rfl, r⟩
  | _, _, i + 1, _, .cons _ t, e => by
    obtain ⟨v, h1, h2⟩ := Reps.get (i := i) t (by simpa using e)
    exact ⟨v, by simpa using h1, h2⟩
theorem Reps.append : ∀ {ds es : List D} {vs us : List V}, Reps K γ H ds vs → Reps K γ H es us → Reps K γ H (ds ++ es) (vs ++ us)
  | _, _, _, _, .nil, s => s
  | _, _, _, _, .cons r t, s => .cons r (t.append s)
theorem Reps.one {d : D} {v : V} (r : Rep K γ H d v) : Reps K γ H [d] [v] := .cons r .nil
theorem Reps.take : ∀ {ds : List D} {vs : List V} (n : Nat), Reps K γ H ds vs → Reps K γ H (ds.take n) (vs.take n)
  | _, _, 0, _ => by simp; exact .nil
  | _, _, _ + 1, .nil => .nil
  | _, _, n + 1, .cons r t => .cons r (t.take n)
theorem Reps.drop : ∀ {ds : List D} {vs : List V} (n : Nat), Reps K γ H ds vs → Reps K γ H (ds.drop n) (vs.drop n)
  | _, _, 0, r => r
  | _, _, _ + 1, .nil => .nil
  | _, _, n + 1, .cons _ t => t.drop n
theorem Reps.set {d : D} {v : V} (r : Rep K γ H d v) : ∀ {ds : List D} {vs : List V} (i : Nat), Reps K γ H ds vs → Reps K γ H (ds.set i d) (vs.set i v)
  | _, _, _, .nil => .nil
  | _, _, 0, .cons _ t => .cons r t
  | _, _, i + 1, .cons q t => .cons q (t.set r i)
theorem Reps.ints : ∀ {ns : List Int} {vs : List V}, Reps K γ H (ns.map D.int) vs → vs = ns.map V.int
  | [], _, .nil => rfl
  | n :: ns, _, .cons r t => by cases r; rw [t.ints]; rfl
theorem Reps.of_ints : ∀ (ns : List Int), Reps K γ H (ns.map D.int) (ns.map V.int)
  | [] => .nil
  | n :: ns => .cons (.int n) (Reps.of_ints ns)

theorem rep_int {i : Int} {v : V} (r : Rep K γ H (.int i) v) : v = .int i := by cases r; rfl
theorem rep_bl {b : Bool} {v : V} (r : Rep K γ H (.bl b) v) : v = .bl b := by cases r; rfl
theorem rep_str {s : Str} {v : V} (r : Rep K γ H (.str s) v) : v = .str s := by cases r; rfl
theorem rep_non {v : V} (r : Rep K γ H .non v) : v = .non := by cases r; rfl
theorem rep_tup {ds : List D} {v : V} (r : Rep K γ H (.tup ds) v) : ∃ a vs, v = .ref a ∧ H a = some (.tup vs) ∧ Reps K γ H ds vs := by
  cases r with | tup h t => exact ⟨_, _, rfl, h, t⟩
theorem rep_lst {ds : List D} {v : V} (r : Rep K γ H (.lst ds) v) : ∃ a vs, v = .ref a ∧ a ∉ γ ∧ H a = some (.lst vs) ∧ Reps K γ H ds vs := by
  cases r with | lst n h t => exact ⟨_, _, rfl, n, h, t⟩
theorem rep_scr {ns : List Int} {v : V} (r : Rep K γ H (.scr ns) v) : ∃ a, v = .ref a ∧ SqL K H a (ns.map V.int) := by
  cases r with
  | scr h =>
    refine ⟨_, rfl, ?_⟩
    rcases h with ⟨_, h⟩ | h
    · exact .inl h
    · exact .inr h
theorem rep_ref {n : Nat} {v : V} (r : Rep K γ H (.ref n) v) : ∃ a, v = .ref a ∧ γ.c[n]? = some a := by
  cases r with | ref h => exact ⟨_, rfl, h⟩
/-- a mutable list, by its number -/
theorem StoR.lst {S : Sto} (st : StoR K γ S H) {n : Nat} {ds : List D} {v : V} (h : S[n]? = some (.lst ds)) (r : Rep K γ H (.ref n) v) : ∃ a vs, v = .ref a ∧ γ.c[n]? = some a ∧ H a = some (.lst vs) ∧ Reps K γ H ds vs := by
  obtain ⟨a, rfl, g⟩ := rep_ref r
  obtain ⟨vs, h1, h2⟩ := st.cell n _ a h g
  exact ⟨a, vs, rfl, g, h1, h2⟩

/-! ### a new object, a write -/
theorem Ext0.new {p : Addr} {o : HO} (hp : H p = none) : Ext0 γ H γ (upd H p o) := by
  have ne : ∀ {a : Addr}, H a ≠ none → a ≠ p := fun h e => h (e ▸ hp)
  refine ⟨⟨[], by simp, by simp⟩, ⟨[], by simp, by simp⟩, fun a xs h => ?_, fun a xs _ h => ?_, fun a u _ h => ?_, fun a h => ?_⟩
  · rw [upd_ne (ne (by rw [h]; intro z; cases z))]; exact h
  · rw [upd_ne (ne (by rw [h]; intro z; cases z))]; exact h
  · have q := ne (rd_ne h)
    rcases h with h | ⟨o, h⟩
    · exact .inl (by rw [upd_ne q]; exact h)
    · exact .inr ⟨o, by rw [upd_ne q]; exact h⟩
  · by_cases e : a = p
    · subst e; rw [upd_same] at h; cases h
    · rw [upd_ne e] at h; exact h
theorem Ext.new {p : Addr} {o : HO} (hp : H p = none) : Ext γ H γ (upd H p o) := ⟨.new hp, fun a _ n => upd_ne fun e => n (e ▸ hp)⟩
theorem Ext.newCell {p : Addr} {o : HO} (hp : H p = none) : Ext γ H (γ.snoc p) (upd H p o) := by
  have e : Ext γ H γ (upd H p o) := .new hp
  exact ⟨⟨⟨[p], rfl, by simpa using hp⟩, ⟨[], by simp [Ga.snoc], by simp⟩, e.tup, e.lst, e.rd, e.stay⟩, e.hk⟩
/-- a cell is written, or what is being made -/
theorem Ext0.write {p : Addr} {o u : HO} (hp : p ∈ γ) (hu : H p = some u) (nt : ∀ xs, u ≠ .tup xs) : Ext0 γ H γ (upd H p o) := by
  have nep : ∀ {a : Addr}, a ∉ γ → a ≠ p := fun h e => h (e ▸ hp)
  refine ⟨⟨[], by simp, by simp⟩, ⟨[], by simp, by simp⟩, fun a xs h => ?_, fun a xs n h => ?_, fun a w n h => ?_, fun a h => ?_⟩
  · have : a ≠ p := fun e => by subst e; rw [hu] at h; exact nt xs (Option.some.inj h)
    rw [upd_ne this]; exact h
  · rw [upd_ne (nep n)]; exact h
  · rcases h with h | ⟨o, h⟩
    · exact .inl (by rw [upd_ne (nep n)]; exact h)
    · exact .inr ⟨o, by rw [upd_ne (nep n)]; exact h⟩
  · by_cases e : a = p
    · subst e; rw [upd_same] at h; cases h
    · rw [upd_ne e] at h; exact h
theorem StoR.write {S : Sto} (st : StoR K γ S H) {n : Nat} {p : Addr} {o u : HO} (g : γ.c[n]? = some p) (hu : H p = some u) (nt : ∀ xs, u ≠ .tup xs) : Ext γ H γ (upd H p o) :=
  ⟨.write (Ga.mem g) hu nt, fun a h _ => upd_ne fun e => (st.hidden a h).2 (by rw [e]; exact List.mem_of_getElem? g)⟩
/-- what is being made since then is written -/
theorem Ext.made (e : Ext γ H γ' H') {p : Addr} {o : HO} (hp : H p = none) : Ext γ H γ' (upd H' p o) := by
  have ne : ∀ {a : Addr}, H a ≠ none → a ≠ p := fun h e => h (e ▸ hp)
  refine ⟨⟨e.pre, e.hid, fun a xs h => ?_, fun a xs n h => ?_, fun a u n h => ?_, fun a h => ?_⟩, fun a h n => ?_⟩
  · rw [upd_ne (ne (by rw [h]; intro z; cases z))]; exact e.tup a xs h
  · rw [upd_ne (ne (by rw [h]; intro z; cases z))]; exact e.lst a xs n h
  · have q := ne (rd_ne h)
    rcases e.rd a u n h with h | ⟨o, h⟩
    · exact .inl (by rw [upd_ne q]; exact h)
    · exact .inr ⟨o, by rw [upd_ne q]; exact h⟩
  · by_cases z : a = p
    · subst z; rw [upd_same] at h; cases h
    · rw [upd_ne z] at h; exact e.stay a h
  · rw [upd_ne (ne n)]; exact e.hk a h n
theorem CellR.mono0 {a : Addr} {c : Cell} (h : CellR K γ H a c) (e : Ext0 γ H γ' H') (k : H' a = H a) : CellR K γ' H' a c := by
  cases c with
  | lst ds => obtain ⟨vs, h1, h2⟩ := h; exact ⟨vs, k.trans h1, Reps.mono0 e h2⟩
  | obj C fs => obtain ⟨dx, vs, h1, h2⟩ := h; exact ⟨dx, vs, k.trans h1, h2.1, Reps.mono0 e h2.2⟩
  | dct es => obtain ⟨vs, h1, h2⟩ := h; exact ⟨vs, k.trans h1, h2.1, Reps.mono0 e h2.2⟩
  | dk es => obtain ⟨vs, h1, h2⟩ := h; exact ⟨vs, k.trans h1, h2.1, Reps.mono0 e h2.2⟩
theorem CellR.mono {a : Addr} {c : Cell} (h : CellR K γ H a c) (e : Ext γ H γ' H') (k : H' a = H a) : CellR K γ' H' a c := h.mono0 e.toExt0 k
theorem StoR.there {S : Sto} (st : StoR K γ S H) {a : Addr} (h : a ∈ γ) : H a ≠ none := by
  rcases h with h | h
  · obtain ⟨n, hn, e⟩ := List.getElem_of_mem h
    have g : γ.c[n]? = some a := by rw [List.getElem?_eq_getElem hn, e]
    have hs : n < S.length := by rw [← st.len]; exact hn
    have := st.cell n S[n] a (List.getElem?_eq_getElem hs) g
    cases q : S[n] with
    | lst ds => rw [q] at this; obtain ⟨vs, h1, _⟩ := this; rw [h1]; intro z; cases z
    | obj C fs => rw [q] at this; obtain ⟨dx, vs, h1, _⟩ := this; rw [h1]; intro z; cases z
    | dct es => rw [q] at this; obtain ⟨vs, h1, _⟩ := this; rw [h1]; intro z; cases z
    | dk es => rw [q] at this; obtain ⟨vs, h1, _⟩ := this; rw [h1]; intro z; cases z
  · exact (st.hidden a h).1
/-- where the heap of the cells is as it was -/
theorem StoR.keep {S : Sto} (st : StoR K γ S H) (e : Ext0 γ H γ H') (k : ∀ a ∈ γ.c, H' a = H a) : StoR K γ S H' :=
  ⟨st.len, st.nd, fun n c a h g => (st.cell n c a h g).mono0 e (k a (List.mem_of_getElem? g)), fun a h => ⟨fun z => (st.hidden a h).1 (e.stay a z), (st.hidden a h).2⟩⟩
/-- a new object that is no cell -/
theorem StoR.new {S : Sto} (st : StoR K γ S H) {p : Addr} {o : HO} (hp : H p = none) : StoR K γ S (upd H p o) :=
  st.keep (.new hp) fun a h => upd_ne fun e => st.there (.inl h) (e ▸ hp)
/-- what is being made is written -/
theorem StoR.hide {S : Sto} (st : StoR K γ S H) {p : Addr} {o u : HO} (hp : p ∈ γ.hid) (hu : H p = some u) (nt : ∀ xs, u ≠ .tup xs) : StoR K γ S (upd H p o) :=
  st.keep (.write (.inr hp) hu nt) fun a h => upd_ne fun e => (st.hidden p hp).2 (e ▸ h)
/-- a new cell -/
theorem StoR.newCell {S : Sto} (st : StoR K γ S H) {p : Addr} {ds : List D} {vs : List V} (hp : H p = none) (r : Reps K γ H ds vs) : StoR K (γ.snoc p) (S ++ [.lst ds]) (upd H p (.lst vs)) := by
  have hpγ : p ∉ γ := fun h => st.there h hp
  have e : Ext γ H (γ.snoc p) (upd H p (.lst vs)) := .newCell hp
  have hl : γ.c.length = S.length := st.len
  refine ⟨by show (γ.c ++ [p]).length = _; simp [hl], ?_, fun n c a h g => ?_, fun a h => ⟨fun z => (st.hidden a h).1 (e.stay a z), fun z => ?_⟩⟩
  · show (γ.c ++ [p]).Nodup
    rw [List.nodup_append]
    exact ⟨st.nd, by simp, fun a ha b hb => by simp at hb; subst hb; intro z; subst z; exact hpγ (.inl ha)⟩
  · have g : (γ.c ++ [p])[n]? = some a := g
    by_cases hn : n < S.length
    · rw [List.getElem?_append_left hn] at h
      rw [List.getElem?_append_left (by omega)] at g
      have hm : a ∈ γ.c := List.mem_of_getElem? g
      exact (st.cell n c a h g).mono e (upd_ne fun z => hpγ (.inl (z ▸ hm)))
    · have hn' : n = S.length := by
        have := (List.getElem?_eq_some_iff.mp h).1
        simp at this; omega
      subst hn'
      rw [List.getElem?_append_right (by omega)] at h
      rw [List.getElem?_append_right (by omega)] at g
      simp [hl] at h g
      subst h g
      exact ⟨vs, upd_same, r.mono e⟩
  · have z : a ∈ γ.c ++ [p] := z
    rcases List.mem_append.mp z with z | z
    · exact (st.hidden a h).2 z
    · have : a = p := by simpa using z
      subst this
      exact (st.hidden a h).1 hp
/-- a cell is written -/
theorem StoR.set {S : Sto} (st : StoR K γ S H) {n : Nat} {a : Addr} {es ds : List D} {us vs : List V} (g : γ.c[n]? = some a) (hu : H a = some (.lst us)) (r : Reps K γ H ds vs) : StoR K γ (S.set n (.lst ds)) (upd H a (.lst vs)) := by
  have e : Ext γ H γ (upd H a (.lst vs)) := st.write g hu (fun xs z => by cases z)
  refine ⟨by simp [st.len], st.nd, fun m c b h q => ?_, fun b h => ⟨fun z => (st.hidden b h).1 (e.stay b z), (st.hidden b h).2⟩⟩
  by_cases hm : m = n
  · subst hm
    rw [g] at q; cases q
    have hl : m < S.length := by
      have h1 := (List.getElem?_eq_some_iff.mp g).1
      have h2 : γ.c.length = S.length := st.len
      omega
    rw [List.getElem?_set_self hl] at h
    cases h
    exact ⟨vs, upd_same, r.mono e⟩
  · rw [List.getElem?_set_ne (Ne.symm hm)] at h
    refine (st.cell m c b h q).mono e (upd_ne fun z => ?_)
    subst z
    obtain ⟨h1, e1⟩ := List.getElem?_eq_some_iff.mp q
    obtain ⟨h2, e2⟩ := List.getElem?_eq_some_iff.mp g
    exact hm ((List.getElem_inj st.nd).mp (e1.trans e2.symm))
end

/-! ### what is being made -/
section
variable {K : PySem.W.Frag} {γ γ' γ1 γ2 : Ga} {H H' H1 H2 : Hp}
def Ga.hide (γ : Ga) (p : Addr) : Ga := ⟨γ.c, γ.hid ++ [p]⟩
/-- the hidden ones of γ alone -/
def Ga.show (Γ γ : Ga) : Ga := ⟨Γ.c, γ.hid⟩
theorem Ext.hide {p : Addr} {o : HO} (hp : H p = none) : Ext γ H (γ.hide p) (upd H p o) := by
  have e : Ext γ H γ (upd H p o) := .new hp
  exact ⟨⟨⟨[], by simp [Ga.hide], by simp⟩, ⟨[p], rfl, by simpa using hp⟩, e.tup, e.lst, e.rd, e.stay⟩, e.hk⟩
theorem StoR.hideNew {S : Sto} (st : StoR K γ S H) {p : Addr} {o : HO} (hp : H p = none) : StoR K (γ.hide p) S (upd H p o) := by
  have hpγ : p ∉ γ := fun h => st.there h hp
  have e : Ext γ H (γ.hide p) (upd H p o) := .hide hp
  refine ⟨st.len, st.nd, fun n c a h g => (st.cell n c a h g).mono e (upd_ne fun z => hpγ (.inl (z ▸ List.mem_of_getElem? g))), fun a h => ?_⟩
  rcases List.mem_append.mp h with h | h
  · exact ⟨fun z => (st.hidden a h).1 (e.stay a z), (st.hidden a h).2⟩
  · have : a = p := by simpa using h
    subst this
    exact ⟨fun z => (by rw [upd_same] at z; cases z), fun z => hpγ (.inl z)⟩
theorem Ext.shown (e : Ext γ H γ' H') : Ext γ H (γ'.show γ) H' := ⟨⟨e.pre, ⟨[], by simp [Ga.show], by simp⟩, e.tup, e.lst, e.rd, e.stay⟩, e.hk⟩
theorem Ext.show_sub (e : Ext γ H γ' H') {a : Addr} (h : a ∈ γ'.show γ) : a ∈ γ' := by
  rcases h with h | h
  · exact .inl h
  · obtain ⟨hs, q, _⟩ := e.hid
    exact .inr (by rw [q]; exact List.mem_append_left _ h)
mutual
theorem Rep.fewer (hc : γ1.c = γ2.c) (h : ∀ a, a ∈ γ2 → a ∈ γ1) : ∀ {d : D} {v : V}, Rep K γ1 H d v → Rep K γ2 H d v
  | _, _, .non => .non
  | _, _, .bl b => .bl b
  | _, _, .int i => .int i
  | _, _, .str s => .str s
  | _, _, .tup e r => .tup e (Reps.fewer hc h r)
  | _, _, .lst n e r => .lst (fun z => n (h _ z)) e (Reps.fewer hc h r)
  | _, _, .scr e => .scr (e.imp (fun q => ⟨fun z => q.1 (h _ z), q.2⟩) id)
  | _, _, .ref e => .ref (hc ▸ e)
theorem Reps.fewer (hc : γ1.c = γ2.c) (h : ∀ a, a ∈ γ2 → a ∈ γ1) : ∀ {ds : List D} {vs : List V}, Reps K γ1 H ds vs → Reps K γ2 H ds vs
  | _, _, .nil => .nil
  | _, _, .cons r t => .cons (Rep.fewer hc h r) (Reps.fewer hc h t)
end
theorem StoR.fewer {S : Sto} (st : StoR K γ1 S H) (hc : γ1.c = γ2.c) (h : ∀ a, a ∈ γ2 → a ∈ γ1) (hh : ∀ a, a ∈ γ2.hid → a ∈ γ1.hid) : StoR K γ2 S H := by
  refine ⟨?_, hc ▸ st.nd, fun n c a q g => ?_, fun a q => ?_⟩
  · rw [← st.len]; show γ2.c.length = γ1.c.length; rw [hc]
  · have := st.cell n c a q (hc ▸ g)
    cases c with
    | lst ds => obtain ⟨vs, h1, h2⟩ := this; exact ⟨vs, h1, Reps.fewer hc h h2⟩
    | obj C fs => obtain ⟨dx, vs, h1, h2⟩ := this; exact ⟨dx, vs, h1, h2.1, Reps.fewer hc h h2.2⟩
    | dct es => obtain ⟨vs, h1, h2⟩ := this; exact ⟨vs, h1, h2.1, Reps.fewer hc h h2.2⟩
    | dk es => obtain ⟨vs, h1, h2⟩ := this; exact ⟨vs, h1, h2.1, Reps.fewer hc h h2.2⟩
  · rw [← hc]; exact st.hidden a (hh a q)
theorem StoR.shown {S : Sto} (st : StoR K γ' S H') (e : Ext γ H γ' H') : StoR K (γ'.show γ) S H' :=
  st.fewer rfl (fun a h => e.show_sub h) fun a h => by
    obtain ⟨hs, q, _⟩ := e.hid
    rw [q]; exact List.mem_append_left _ h
theorem Reps.shown {ds : List D} {vs : List V} (r : Reps K γ' H' ds vs) (e : Ext γ H γ' H') : Reps K (γ'.show γ) H' ds vs := Reps.fewer (γ1 := γ') (γ2 := γ'.show γ) rfl (fun a h => e.show_sub h) r
end

/-! ### readings -/
section
variable {α β α2 β2 : Type}
/-- what is wanted behind a result -/
def Post (Rp : Ga → Hp → α → β → Prop) (K : PySem.W.Frag) (W : WX) (σ : L2.St) (Q : β → Hp → Prop) (γ : Ga) (H : Hp) : Res α → Prop
  | .ok a S' => ∀ γ' b H', Ext γ H γ' H' → StoR K γ' S' H' → Rp γ' H' a b → Q b H'
  | .exc x S' => ∀ γ' cls dd H', Ext γ H γ' H' → StoR K γ' S' H' → ExR K γ' H' x cls dd → W cls dd σ H'
  | .bad => False
def Rdg (Rp : Ga → Hp → α → β → Prop) (K : PySem.W.Frag) (W : WX) (F : Ev → Sto → Res α) (σ : L2.St) (H : Hp) (Q : β → Hp → Prop) : Prop :=
  ∃ γ ds S, StoR K γ S H ∧ EvR K γ H ds σ ∧ Post Rp K W σ Q γ H (F ds S)
variable {Rp : Ga → Hp → α → β → Prop} {Rp2 : Ga → Hp → α2 → β2 → Prop} {K : PySem.W.Frag} {W : WX} {σ : L2.St} {Q Q' : β → Hp → Prop} {Q2 : β2 → Hp → Prop} {γ γ1 : Ga} {H H1 : Hp} {S : Sto} {ds : Ev}
theorem Post.ext {r : Res α} (h : Post Rp K W σ Q γ H r) (e : Ext γ H γ1 H1) : Post Rp K W σ Q γ1 H1 r := by
  cases r with
  | ok a S' => exact fun γ' b H' f st q => h γ' b H' (e.trans f) st q
  | exc x S' => exact fun γ' c d H' f st q => h γ' c d H' (e.trans f) st q
  | bad => exact h
theorem Post.imp {r : Res α} (h : Post Rp K W σ Q γ H r) (k : ∀ b H', Q b H' → Q' b H') : Post Rp K W σ Q' γ H r := by
  cases r with
  | ok a S' => exact fun γ' b H' f st q => k _ _ (h γ' b H' f st q)
  | exc x S' => exact h
  | bad => exact h
/-- a value at once -/
theorem Post.now {a : α} {b : β} {S' : Sto} {H' : Hp} {γ' : Ga} (h : Post Rp K W σ Q γ H (.ok a S')) (e : Ext γ H γ' H') (st : StoR K γ' S' H') (r : Rp γ' H' a b) : Q b H' := h γ' b H' e st r
/-- the state that a further part meets -/
def Mid (Rp : Ga → Hp → α → β → Prop) (Rp2 : Ga → Hp → α2 → β2 → Prop) (K : PySem.W.Frag) (W : WX) (σ : L2.St) (Q2 : β2 → Hp → Prop) (γ : Ga) (H : Hp) (ds : Ev) (G : α → Sto → Res α2) (b : β) (H1 : Hp) : Prop :=
  ∃ γ1 a S1, Ext γ H γ1 H1 ∧ StoR K γ1 S1 H1 ∧ EvR K γ1 H1 ds σ ∧ Rp γ1 H1 a b ∧ Post Rp2 K W σ Q2 γ1 H1 (G a S1)
theorem Post.bind {F : Ev → Sto → Res α} {G : α → Sto → Res α2} (st : StoR K γ S H) (ev : EvR K γ H ds σ) (h : Post Rp2 K W σ Q2 γ H ((F ds S).bind G)) : Rdg Rp K W F σ H (Mid Rp Rp2 K W σ Q2 γ H ds G) := by
  refine ⟨γ, ds, S, st, ev, ?_⟩
  cases q : F ds S with
  | ok a S1 =>
    rw [q] at h
    exact fun γ1 b H1 e st1 r => ⟨γ1, a, S1, e, st1, ev.mono e, r, h.ext e⟩
  | exc x S1 => rw [q] at h; exact h
  | bad => rw [q] at h; exact h
theorem Rdg.imp {F : Ev → Sto → Res α} (h : Rdg Rp K W F σ H Q) (k : ∀ b H', Q b H' → Q' b H') : Rdg Rp K W F σ H Q' := by
  obtain ⟨γ, ds, S, st, ev, p⟩ := h
  exact ⟨γ, ds, S, st, ev, p.imp k⟩
end
abbrev RpB : Ga → Hp → Bool → Bool → Prop := fun _ _ a b => a = b
abbrev rdE (K : PySem.W.Frag) (W : WX) (F : Ev → Sto → Res D) : TE := Rdg (Rep K) K W F
abbrev rdT (K : PySem.W.Frag) (W : WX) (F : Ev → Sto → Res Bool) : TT := Rdg RpB K W F
abbrev rdA (K : PySem.W.Frag) (W : WX) (F : Ev → Sto → Res (List D)) : TA := Rdg (Reps K) K W F
abbrev DE (X : Cx) (W : WX) (e : Expr) (F : Ev → Sto → Res D) : Prop := PE X e (rdE X.K W F)
abbrev DT (X : Cx) (W : WX) (e : Expr) (F : Ev → Sto → Res Bool) : Prop := PT X e (rdT X.K W F)
abbrev DW (X : Cx) (W : WX) (e : Expr) (F : Ev → Sto → Res Bool) : Prop := PW X e (rdT X.K W F)
abbrev DA (X : Cx) (W : WX) (es : List Expr) (F : Ev → Sto → Res (List D)) : Prop := PA X es (rdA X.K W F)
theorem PEimp {X : Cx} {e : Expr} {t t' : TE} (h : PE X e t) (k : ∀ σ H Q, t' σ H Q → t σ H Q) : PE X e t' := ⟨fun pins s σ H Q I q => h.run pins s σ H Q I (k σ H Q q)⟩
theorem PTimp {X : Cx} {e : Expr} {t t' : TT} (h : PT X e t) (k : ∀ σ H Q, t' σ H Q → t σ H Q) : PT X e t' := ⟨fun pins s σ H Q I q => h.run pins s σ H Q I (k σ H Q q)⟩
theorem PWimp {X : Cx} {e : Expr} {t t' : TT} (h : PW X e t) (k : ∀ σ H Q, t' σ H Q → t σ H Q) : PW X e t' := ⟨fun wh pins s σ H Q I q => h.run wh pins s σ H Q I (k σ H Q q)⟩
theorem PAimp {X : Cx} {es : List Expr} {t t' : TA} (h : PA X es t) (k : ∀ σ H Q, t' σ H Q → t σ H Q) : PA X es t' := ⟨fun pos pins s σ H Q I q => h.run pos pins s σ H Q I (k σ H Q q)⟩
theorem PSimp {X : Cx} {st : Stmt} {t t' : TS} (h : PS X st t) (k : ∀ D σ H, t' D σ H → t D σ H) : PS X st t' := ⟨fun pins s σ H D I q => h.run pins s σ H D I (k D σ H q)⟩
theorem PSsimp {X : Cx} {st : List Stmt} {t t' : TS} (h : PSs X st t) (k : ∀ D σ H, t' D σ H → t D σ H) : PSs X st t' := ⟨fun pins s σ H D I q => h.run pins s σ H D I (k D σ H q)⟩

/-! ### names and constants, tests -/
section
variable {X : Cx} {W : WX} {pos : Pos}
@[simp] def fVar (i : Nat) : Ev → Sto → Res D := fun ds S => match ds[i]? with
  | some (some d) => .ok d S
  | _ => .bad
theorem de_var (i : Nat) {x : Str} (hN : X.N[i]? = some x := by rfl) (hv : Vis X.env.scope x := by first | exact Or.inl rfl | exact Or.inr (Or.inl rfl) | exact Or.inr (Or.inr rfl)) (hd : (x == ("__debug__" : Str)) = false := by decide)
    (hcd : (x == ("__classdict__" : Str)) = false := by decide) : DE X W (.Name x pos) (fVar i) := by
  refine PEimp (pe_var (i := i) hN hv hd hcd) ?_
  rintro σ H Q ⟨γ, ds, S, st, ev, p⟩
  unfold fVar at p
  cases q : ds[i]? with
  | none => rw [q] at p; exact p.elim
  | some o =>
    cases o with
    | none => rw [q] at p; exact p.elim
    | some d =>
      rw [q] at p
      obtain ⟨v, e, r⟩ := ev.at_ i d q
      exact ⟨v, e, p γ v H .refl st r⟩
@[simp] def fC (d : D) : Ev → Sto → Res D := fun _ S => .ok d S
theorem de_c {e : Expr} {v : V} {d : D} (h : PE X e (tC v)) (r : ∀ γ H, Rep X.K γ H d v) : DE X W e (fC d) := by
  refine PEimp h ?_
  rintro σ H Q ⟨γ, ds, S, st, ev, p⟩
  exact p γ v H .refl st (r γ H)
theorem de_int {i : Int} {j} : DE X W (.Constant (.int i) j pos) (fC (.int i)) := de_c pe_int fun _ _ => .int i
theorem de_bl {b : Bool} {j} : DE X W (.Constant (.bool b) j pos) (fC (.bl b)) := de_c pe_bl fun _ _ => .bl b
theorem de_non {j} : DE X W (.Constant .none j pos) (fC .non) := de_c pe_non fun _ _ => .non
theorem de_str {s : Str} {j} : DE X W (.Constant (.str s) j pos) (fC (.str s)) := de_c pe_str fun _ _ => .str s
end
end DL

set_option maxRecDepth 100000
set_option maxHeartbeats 2000000
/-! Dl1: expressions -/
namespace DL
open PySem PySem.Spec L2

def fits (n : Nat) : Bool := decide (n ≤ 1000000)
@[simp] theorem fits_0 : fits 0 = true := by decide
@[simp] theorem fits_1 : fits 1 = true := by decide
@[simp] theorem fits_2 : fits 2 = true := by decide
@[simp] theorem fits_3 : fits 3 = true := by decide
@[simp] theorem fits_4 : fits 4 = true := by decide
@[simp] theorem fits_5 : fits 5 = true := by decide
@[simp] theorem fits_6 : fits 6 = true := by decide
@[simp] theorem fits_7 : fits 7 = true := by decide
@[simp] theorem fits_8 : fits 8 = true := by decide
@[simp] theorem fits_9 : fits 9 = true := by decide
@[simp] theorem fits_10 : fits 10 = true := by decide
@[simp] theorem fits_11 : fits 11 = true := by decide
@[simp] theorem fits_12 : fits 12 = true := by decide
theorem fits_line {n : Nat} (h : fits n = true) : n ≤ sizeLine := by
  have h : n ≤ 1000000 := of_decide_eq_true h
  rw [sizeLine_eq]; omega
theorem fits_lt {n : Nat} (h : fits n = true) : n < sizeLine := by
  have h : n ≤ 1000000 := of_decide_eq_true h
  rw [sizeLine_eq]; omega

section
variable {K : PySem.W.Frag} {γ γ' γ1 γ2 : Ga} {H H' H1 H2 : Hp} {S : Sto}
theorem StoR.notin (st : StoR K γ S H) {p : Addr} (hp : H p = none) : p ∉ γ := fun h => st.there h hp
theorem StoR.newLst (st : StoR K γ S H) {p : Addr} {ds : List D} {vs : List V} (hp : H p = none) (r : Reps K γ H ds vs) : Rep K γ (upd H p (.lst vs)) (.lst ds) (.ref p) :=
  .lst (st.notin hp) upd_same (r.mono (.new hp))
theorem newTup {p : Addr} {ds : List D} {vs : List V} (hp : H p = none) (r : Reps K γ H ds vs) : Rep K γ (upd H p (.tup vs)) (.tup ds) (.ref p) :=
  .tup upd_same (r.mono (.new hp))
theorem StoR.newRef (st : StoR K γ S H) {p : Addr} {o : HO} : Rep K (γ.snoc p) (upd H p o) (.ref S.length) (.ref p) :=
  .ref (by rw [← st.len]; simp [Ga.snoc])
/-- a sequence that can be read: its items, and what it is -/
inductive IsSeq (S : Sto) : D → List D → Prop
  | tup (ds : List D) : IsSeq S (.tup ds) ds
  | lst (ds : List D) : IsSeq S (.lst ds) ds
  | ref {n : Nat} {ds : List D} : S[n]? = some (.lst ds) → IsSeq S (.ref n) ds
  | scr (ns : List Int) : IsSeq S (.scr ns) (ns.map D.int)
/-- its items -/
def seqOf (S : Sto) : D → Option (List D)
  | .tup ds => some ds
  | .lst ds => some ds
  | .ref n => match S[n]? with
    | some (.lst ds) => some ds
    | _ => none
  | .scr ns => some (ns.map D.int)
  | _ => none
theorem isSeq_of {d : D} {ds : List D} (h : seqOf S d = some ds) : IsSeq S d ds := by
  cases d with
  | tup l => cases (Option.some.inj h); exact IsSeq.tup _
  | lst l => cases (Option.some.inj h); exact IsSeq.lst _
  | scr l => cases (Option.some.inj h); exact IsSeq.scr _
  | ref n =>
    unfold seqOf at h
    simp only at h
    cases q : S[n]? with
    | none => rw [q] at h; cases h
    | some c =>
      rw [q] at h
      cases c with
      | lst l => cases h; exact .ref q
      | obj _ _ => cases h
      | dct _ => cases h
      | dk _ => cases h
  | non => cases h
  | bl b => cases h
  | int i => cases h
  | str s => cases h
theorem IsSeq.at {d : D} {ds : List D} {v : V} (h : IsSeq S d ds) (st : StoR K γ S H) (r : Rep K γ H d v) : ∃ a vs, v = .ref a ∧ (SqL K H a vs ∨ SqT K H a vs) ∧ Reps K γ H ds vs := by
  cases h with
  | tup ds => obtain ⟨a, vs, e, h, t⟩ := rep_tup r; exact ⟨a, vs, e, .inr (.of h), t⟩
  | lst ds => obtain ⟨a, vs, e, _, h, t⟩ := rep_lst r; exact ⟨a, vs, e, .inl (.of h), t⟩
  | ref q => obtain ⟨a, vs, e, _, h, t⟩ := st.lst q r; exact ⟨a, vs, e, .inl (.of h), t⟩
  | scr ns => obtain ⟨a, e, h⟩ := rep_scr r; exact ⟨a, _, e, .inl h, .of_ints ns⟩
/-- a list, not the script -/
def lstOf (S : Sto) : D → Option (List D)
  | .lst ds => some ds
  | .ref n => match S[n]? with
    | some (.lst ds) => some ds
    | _ => none
  | _ => none
theorem lstOf_at {d : D} {ds : List D} {v : V} (h : lstOf S d = some ds) (st : StoR K γ S H) (r : Rep K γ H d v) : ∃ a vs, v = .ref a ∧ H a = some (.lst vs) ∧ Reps K γ H ds vs := by
  cases d with
  | lst l => cases h; obtain ⟨a, vs, e, _, h, t⟩ := rep_lst r; exact ⟨a, vs, e, h, t⟩
  | ref n =>
    unfold lstOf at h
    simp only at h
    cases q : S[n]? with
    | none => rw [q] at h; cases h
    | some c =>
      rw [q] at h
      cases c with
      | lst l => cases h; obtain ⟨a, vs, e, _, h, t⟩ := st.lst q r; exact ⟨a, vs, e, h, t⟩
      | obj _ _ => cases h
      | dct _ => cases h
      | dk _ => cases h
  | non => cases h
  | bl b => cases h
  | int i => cases h
  | str s => cases h
  | tup s => cases h
  | scr s => cases h
end

/-! ### operators -/
section
variable {X : Cx} {W : WX} {pos : Pos} {a b c : Expr} {f g h : Ev → Sto → Res D}
abbrev Op2 := D → D → Sto → Res D
theorem Post.ite {α β : Type} {Rp : Ga → Hp → α → β → Prop} {K : PySem.W.Frag} {σ : L2.St} {Q : β → Hp → Prop} {γ : Ga} {H : Hp} {c : Bool} {r : Res α} (p : Post Rp K W σ Q γ H (if c = true then r else .bad)) : c = true ∧ Post Rp K W σ Q γ H r := by
  cases c with
  | true => exact ⟨rfl, p⟩
  | false => exact p.elim
/-- the rule of an operator does what o says -/
def Does2 (K : PySem.W.Frag) (W : WX) (r : R2) (o : Op2) : Prop := ∀ (γ : Ga) (S : Sto) (H : Hp) (x y : D) (v u : V) (σ : L2.St) (Q : VK), StoR K γ S H → Rep K γ H x v → Rep K γ H y u →
  Post (Rep K) K W σ Q γ H (o x y S) → r v u H Q
@[simp] def fBin (o : Op2) (f g : Ev → Sto → Res D) : Ev → Sto → Res D := fun ds S => (f ds S).bind fun x S1 => (g ds S1).bind fun y S2 => o x y S2
theorem rd_bin {r : R2} {o : Op2} (ho : Does2 X.K W r o) {σ : L2.St} {H : Hp} {Q : VK} (hw : rdE X.K W (fBin o f g) σ H Q) : tOp r (rdE X.K W f) (rdE X.K W g) σ H Q := by
  obtain ⟨γ, ds, S, st, ev, p⟩ := hw
  refine (Post.bind st ev p).imp fun x H1 ⟨γ1, d1, S1, e1, st1, ev1, r1, p1⟩ => ?_
  refine (Post.bind st1 ev1 p1).imp fun y H2 ⟨γ2, d2, S2, e2, st2, ev2, r2, p2⟩ => ?_
  exact ho γ2 S2 H2 d1 d2 x y σ Q st2 (r1.mono e2) r2 p2
theorem de_op {op : Operator} {r : R2} {o : Op2} (hr : OpR X (binaryOp op) r) (ho : Does2 X.K W r o) (ha : DE X W a f) (hb : DE X W b g) : DE X W (.BinOp a op b pos) (fBin o f g) :=
  PEimp (pe_op hr ha hb) fun _ _ _ => rd_bin ho
theorem de_cmpR {op : CmpOp} {r : R2} {o : Op2} (hr : OpR X (compareOp op) r) (ho : Does2 X.K W r o) (ha : DE X W a f) (hb : DE X W b g) (hm : behindInMarks op b = false := by rfl) : DE X W (.Compare a [op] [b] pos) (fBin o f g) :=
  PEimp (pe_cmpR hr ha hb hm) fun _ _ _ => rd_bin ho

/-! ints -/
@[simp] def oI (C : Int → Int → Bool) (k : Int → Int → D) : Op2 := fun x y S => match x, y with
  | .int i, .int j => if C i j = true then .ok (k i j) S else .bad
  | _, _ => .bad
theorem does_I {K : PySem.W.Frag} {C : Int → Int → Prop} {C' : Int → Int → Bool} {k : Int → Int → V} {k' : Int → Int → D} (hC : ∀ i j, C' i j = true → C i j) (hk : ∀ i j γ H, Rep K γ H (k' i j) (k i j)) : Does2 K W (rI C k) (oI C' k') := by
  intro γ S H x y v u σ Q st rx ry p
  cases x <;> cases y <;> try exact p.elim
  rename_i i j
  cases rep_int rx
  cases rep_int ry
  obtain ⟨hc, p⟩ := Post.ite (c := C' i j) (r := .ok (k' i j) S) p
  exact ⟨i, j, rfl, rfl, hC i j hc, p γ _ H .refl st (hk i j γ H)⟩
theorem does_I0 {K : PySem.W.Frag} {k : Int → Int → V} {k' : Int → Int → D} (hk : ∀ i j γ H, Rep K γ H (k' i j) (k i j)) : Does2 K W (rI0 k) (oI (fun _ _ => true) k') := by
  intro γ S H x y v u σ Q st rx ry p
  cases x <;> cases y <;> try exact p.elim
  rename_i i j
  cases rep_int rx
  cases rep_int ry
  exact ⟨i, j, rfl, rfl, p γ _ H .refl st (hk i j γ H)⟩
@[simp] def oSub : Op2 := oI (fun _ _ => true) fun i j => .int (i - j)
def oMod : Op2 := oI (fun _ j => decide (0 < j)) fun i j => .int (i % j)
def oDiv : Op2 := oI (fun _ j => decide (0 < j) && decide (j.natAbs < 1073741824)) fun i j => .int (i / j)
def oPow : Op2 := oI (fun i j => decide (0 ≤ j) && decide (j.natAbs ≤ 1000000) && decide (i.natAbs < 2 ^ 64)) fun i j => .int (i ^ j.toNat)
theorem de_sub (ha : DE X W a f) (hb : DE X W b g) : DE X W (.BinOp a .Sub b pos) (fBin oSub f g) := de_op op_sub (does_I0 fun i j _ _ => .int _) ha hb
theorem de_mod (ha : DE X W a f) (hb : DE X W b g) : DE X W (.BinOp a .Mod b pos) (fBin oMod f g) := de_op op_mod (does_I (fun i j h => of_decide_eq_true h) fun i j _ _ => .int _) ha hb
theorem de_div (ha : DE X W a f) (hb : DE X W b g) : DE X W (.BinOp a .FloorDiv b pos) (fBin oDiv f g) := de_op op_fdiv (does_I (fun i j h => by
  simp only [Bool.and_eq_true, decide_eq_true_eq] at h; exact ⟨h.1, by omega⟩) fun i j _ _ => .int _) ha hb
theorem de_pow (ha : DE X W a f) (hb : DE X W b g) : DE X W (.BinOp a .Pow b pos) (fBin oPow f g) := de_op op_pow (does_I (fun i j h => by
  simp only [Bool.and_eq_true, decide_eq_true_eq] at h; exact ⟨h.1.1, by omega, h.2⟩) fun i j _ _ => .int _) ha hb

/-! + : ints, lists (the new one can't be written), tuples -/
@[simp] def oCat : Op2 := fun x y S => match lstOf S x, lstOf S y with
  | some l, some m => if fits (l.length + m.length) = true then .ok (.lst (l ++ m)) S else .bad
  | _, _ => .bad
theorem does_cat {K : PySem.W.Frag} : Does2 K W rCat oCat := by
  intro γ S H x y v u σ Q st rx ry p
  unfold oCat at p
  cases hx : lstOf S x with
  | none => rw [hx] at p; exact p.elim
  | some l =>
    cases hy : lstOf S y with
    | none => rw [hx, hy] at p; exact p.elim
    | some m =>
      rw [hx, hy] at p
      obtain ⟨hf, p⟩ := Post.ite p
      obtain ⟨a, vs, rfl, ha, ra⟩ := lstOf_at hx st rx
      obtain ⟨b, us, rfl, hb, rb⟩ := lstOf_at hy st ry
      refine ⟨a, b, vs, us, rfl, rfl, ha, hb, ?_, fun q hq => ?_⟩
      · rw [← ra.length, ← rb.length]; exact fits_line hf
      · exact p γ _ _ (.new hq) (st.new hq) (st.newLst hq (ra.append rb))
@[simp] def oAdd : Op2 := fun x y S => match x, y with
  | .int i, .int j => .ok (.int (i + j)) S
  | .tup l, .tup m => if fits (l.length + m.length) = true then .ok (.tup (l ++ m)) S else .bad
  | x, y => oCat x y S
theorem does_add {K : PySem.W.Frag} : Does2 K W (fun x y H Q => rI0 (fun i j => .int (i + j)) x y H Q ∨ rCatA K x y H Q ∨ rCat x y H Q) oAdd := by
  intro γ S H x y v u σ Q st rx ry p
  cases x with
  | int i =>
    cases y with
    | int j =>
      cases rep_int rx
      cases rep_int ry
      exact .inl ⟨i, j, rfl, rfl, p γ _ H .refl st (.int _)⟩
    | _ => exact .inr (.inr (does_cat γ S H _ _ v u σ Q st rx ry p))
  | tup l =>
    cases y with
    | tup m =>
      obtain ⟨a, vs, rfl, ha, ra⟩ := rep_tup rx
      obtain ⟨b, us, rfl, hb, rb⟩ := rep_tup ry
      obtain ⟨hf, p⟩ := Post.ite (c := fits (l.length + m.length)) (r := .ok (D.tup (l ++ m)) S) p
      refine .inr (.inl ⟨a, b, vs, us, rfl, rfl, .of ha, .of hb, ?_, fun e => ?_, fun _ e => ?_, fun _ _ q hq => ?_⟩)
      · rw [← ra.length, ← rb.length]; exact fits_line hf
      · subst e
        have : l = [] := by have := ra.length; simpa using this
        subst this
        exact p γ _ H .refl st (.tup hb rb)
      · subst e
        have : m = [] := by have := rb.length; simpa using this
        subst this
        rw [List.append_nil] at p
        exact p γ _ H .refl st (.tup ha ra)
      · exact p γ _ _ (.new hq) (st.new hq) (newTup hq (ra.append rb))
    | _ => exact .inr (.inr (does_cat γ S H _ _ v u σ Q st rx ry p))
  | _ => cases y <;> exact .inr (.inr (does_cat γ S H _ _ v u σ Q st rx ry p))
theorem de_add (ha : DE X W a f) (hb : DE X W b g) : DE X W (.BinOp a .Add b pos) (fBin oAdd f g) := de_op (op_add.or (op_catA.or op_cat)) does_add ha hb

/-! * : ints (one of them below 2 ^ 64), a list times an int -/
def smallI (i : Int) : Bool := decide (i.natAbs < 2 ^ 64)
theorem smallI_of {i : Int} (h : smallI i = true) : -(2 ^ 64) < i ∧ i < 2 ^ 64 := by
  have h : i.natAbs < 2 ^ 64 := of_decide_eq_true h
  omega
def oMul : Op2 := fun x y S => match x, y with
  | .int i, .int j => if (smallI i || smallI j) = true then .ok (.int (i * j)) S else .bad
  | x, .int k => match lstOf S x with
    | some l => if (decide (0 ≤ k) && decide (k.natAbs < 1000000) && fits (l.length * k.toNat)) = true then .ok (.lst (List.replicate k.toNat l).flatten) S else .bad
    | _ => .bad
  | _, _ => .bad
theorem Reps.rep {K : PySem.W.Frag} {γ : Ga} {H : Hp} {ds : List D} {vs : List V} (r : Reps K γ H ds vs) : ∀ n : Nat, Reps K γ H (List.replicate n ds).flatten (List.replicate n vs).flatten
  | 0 => .nil
  | n + 1 => by rw [List.replicate_succ, List.replicate_succ, List.flatten_cons, List.flatten_cons]; exact r.append (r.rep n)
theorem does_mul {K : PySem.W.Frag} : Does2 K W (fun x y H Q => rI CMul (fun i j => .int (i * j)) x y H Q ∨ rRep x y H Q) oMul := by
  intro γ S H x y v u σ Q st rx ry p
  have lists : ∀ k : Int, y = .int k → (match lstOf S x with
    | some l => if (decide (0 ≤ k) && decide (k.natAbs < 1000000) && fits (l.length * k.toNat)) = true then Res.ok (D.lst (List.replicate k.toNat l).flatten) S else .bad
    | _ => .bad) = oMul x y S → rRep v u H Q := by
    intro k ey e
    subst ey
    rw [← e] at p
    cases rep_int ry
    cases hx : lstOf S x with
    | none => rw [hx] at p; exact p.elim
    | some l =>
      rw [hx] at p
      obtain ⟨hf, p⟩ := Post.ite p
      simp only [Bool.and_eq_true, decide_eq_true_eq] at hf
      obtain ⟨a, vs, rfl, ha, ra⟩ := lstOf_at hx st rx
      refine ⟨a, k, vs, rfl, rfl, ha, by omega, by omega, ?_, fun q hq => ?_⟩
      · rw [← ra.length]; exact fits_line hf.2
      · exact p γ _ _ (.new hq) (st.new hq) (st.newLst hq (ra.rep _))
  cases x with
  | int i =>
    cases y with
    | int j =>
      cases rep_int rx
      cases rep_int ry
      obtain ⟨hf, p⟩ := Post.ite (c := (smallI i || smallI j)) (r := .ok (D.int (i * j)) S) p
      refine .inl ⟨i, j, rfl, rfl, ?_, p γ _ H .refl st (.int _)⟩
      rcases Bool.or_eq_true_iff.mp hf with h | h
      · exact .inl (smallI_of h)
      · exact .inr (smallI_of h)
    | _ => exact p.elim
  | _ => cases y <;> first | exact p.elim | exact .inr (lists _ rfl rfl)
theorem de_mul (ha : DE X W a f) (hb : DE X W b g) : DE X W (.BinOp a .Mult b pos) (fBin oMul f g) := de_op (op_mul.or op_rep) does_mul ha hb
end
/-! ### what they are at ints -/
section
variable {i j : Int} {S : Sto} {l : List D}
@[simp] theorem oMod_i (h : 0 < j) : oMod (.int i) (.int j) S = .ok (.int (i % j)) S := by
  show (if decide (0 < j) = true then Res.ok (D.int (i % j)) S else .bad) = _
  rw [if_pos (decide_eq_true h)]
@[simp] theorem oDiv_i (h : 0 < j) (h2 : j < 1073741824) : oDiv (.int i) (.int j) S = .ok (.int (i / j)) S := by
  show (if (decide (0 < j) && decide (j.natAbs < 1073741824)) = true then Res.ok (D.int (i / j)) S else .bad) = _
  rw [if_pos (by rw [decide_eq_true h, decide_eq_true (by omega : j.natAbs < 1073741824)]; rfl)]
theorem smallI_mk (h1 : -(2 ^ 64) < i) (h2 : i < 2 ^ 64) : smallI i = true := by
  exact decide_eq_true (by omega)
theorem neg64 : (-(2 ^ 64) : Int) < 0 := by decide
theorem smallI_mod {a b : Int} (h : 0 < b) (h2 : b < 2 ^ 64) : smallI (a % b) = true := by
  have h3 := Int.emod_nonneg a (Int.ne_of_gt h)
  have h4 := Int.emod_lt_of_pos a h
  exact smallI_mk (Int.lt_of_lt_of_le neg64 h3) (Int.lt_trans h4 h2)
theorem oMul_l (h : smallI i = true) : oMul (.int i) (.int j) S = .ok (.int (i * j)) S := by
  show (if (smallI i || smallI j) = true then Res.ok (D.int (i * j)) S else .bad) = _
  rw [if_pos (by rw [h]; rfl)]
theorem oMul_r (h : smallI j = true) : oMul (.int i) (.int j) S = .ok (.int (i * j)) S := by
  show (if (smallI i || smallI j) = true then Res.ok (D.int (i * j)) S else .bad) = _
  rw [if_pos (by rw [h, Bool.or_true])]
theorem oMul_lst (h0 : 0 ≤ i) (h1 : i < 1000000) (h2 : fits (l.length * i.toNat) = true) : oMul (.lst l) (.int i) S = .ok (.lst (List.replicate i.toNat l).flatten) S := by
  show (if (decide (0 ≤ i) && decide (i.natAbs < 1000000) && fits (l.length * i.toNat)) = true then Res.ok (D.lst (List.replicate i.toNat l).flatten) S else .bad) = _
  rw [if_pos (by rw [decide_eq_true h0, decide_eq_true (by omega : i.natAbs < 1000000), h2]; rfl)]
@[simp] theorem oPow_18 : oPow (.int 10) (.int 18) S = .ok (.int 1000000000000000000) S := rfl
@[simp] theorem oPow_24 : oPow (.int 10) (.int 24) S = .ok (.int 1000000000000000000000000) S := rfl
@[simp] theorem oPow_9 : oPow (.int 10) (.int 9) S = .ok (.int 1000000000) S := rfl
end
end DL

set_option maxRecDepth 100000
set_option maxHeartbeats 2000000
/-! Dl2: comparisons, tests -/
namespace DL
open PySem PySem.Spec L2
mutual
def D.toP : D → PyData
  | .non => .none
  | .bl b => .bool b
  | .int i => .int i
  | .str s => .str s
  | .tup l => .tuple (D.toPs l)
  | .lst l => .list (D.toPs l)
  | .scr ns => .list (ns.map PyData.int)
  | .ref _ => .dict []
def D.toPs : List D → List PyData
  | [] => []
  | d :: ds => d.toP :: D.toPs ds
end
theorem toPs_map : ∀ l : List D, D.toPs l = l.map D.toP
  | [] => by simp [D.toPs]
  | d :: ds => by simp [D.toPs, toPs_map ds]
section
variable {K : PySem.W.Frag} {γ : Ga} {H : Hp} {S : Sto}
theorem dpAll_ints : ∀ ns : List Int, DpAll K H (ns.map V.int) (ns.map PyData.int)
  | [] => .nil
  | n :: ns => .cons (.int n) (dpAll_ints ns)
mutual
theorem Rep.dp : ∀ {d : D} {v : V}, Rep K γ H d v → d.toP.canLay0 = true → Dp K H v d.toP
  | _, _, .non, _ => by simp only [D.toP]; exact .non
  | _, _, .bl b, _ => by simp only [D.toP]; exact .bl b
  | _, _, .int i, _ => by simp only [D.toP]; exact .int i
  | _, _, .str s, _ => by simp only [D.toP]; exact .str s
  | _, _, .tup h r, c => by
    simp only [D.toP] at c ⊢
    exact .tup (.of h) (Reps.dp r (by simpa only [PyData.canLay0] using c))
  | _, _, .lst _ h r, c => by
    simp only [D.toP] at c ⊢
    exact .lst (.of h) (Reps.dp r (by simpa only [PyData.canLay0] using c))
  | _, _, .scr h, _ => by
    simp only [D.toP]
    refine .lst ?_ (dpAll_ints _)
    rcases h with ⟨_, h⟩ | h
    · exact .inl h
    · exact .inr h
  | _, _, .ref _, c => by simp [D.toP, PyData.canLay0] at c
theorem Reps.dp : ∀ {ds : List D} {vs : List V}, Reps K γ H ds vs → PyData.canLayAll0 (D.toPs ds) = true → DpAll K H vs (D.toPs ds)
  | _, _, .nil, _ => by simp only [D.toPs]; exact .nil
  | _, _, .cons r t, c => by
    simp only [D.toPs, PyData.canLayAll0, Bool.and_eq_true] at c ⊢
    exact .cons (Rep.dp r c.1) (Reps.dp t c.2)
end
/-- a mutable list by its content -/
def resD (S : Sto) (d : D) : D := match d with
  | .ref n => match S[n]? with
    | some (.lst l) => .lst l
    | _ => d
  | d => d
theorem dp_of {d : D} {v : V} (st : StoR K γ S H) (r : Rep K γ H d v) (c : SeqAt.shaped (resD S d).toP = true) : Dp K H v (resD S d).toP := by
  have c0 := SeqAt.canLay_of_shaped c
  cases d with
  | ref n =>
    unfold resD at c0 ⊢
    simp only at c0 ⊢
    cases q : S[n]? with
    | none => rw [q] at c0; exact r.dp c0
    | some k =>
      rw [q] at c0
      cases k with
      | lst l =>
        obtain ⟨a, vs, rfl, _, h, t⟩ := st.lst q r
        simp only [D.toP] at c0 ⊢
        exact .lst (.of h) (t.dp (by simpa only [PyData.canLay0] using c0))
      | obj _ _ => exact r.dp c0
      | dct _ => exact r.dp c0
      | dk _ => exact r.dp c0
  | _ => exact r.dp c0
end
def shp (S : Sto) (d : D) : Bool := SeqAt.shaped (resD S d).toP
def eqvD (S : Sto) (x y : D) : Bool := PyData.eqv (resD S x).toP (resD S y).toP
def flatD : D → Bool
  | .non => true | .bl _ => true | .int _ => true | .str _ => true | _ => false
def eqF : D → D → Bool
  | .non, .non => true
  | .bl a, .bl b => a == b
  | .bl a, .int b => (if a then 1 else 0) == b
  | .int a, .bl b => a == (if b then 1 else 0)
  | .int a, .int b => a == b
  | .str a, .str b => a == b
  | _, _ => false
section
variable {K : PySem.W.Frag} {γ : Ga} {H : Hp} {S : Sto}
theorem flat_of {d : D} {v : V} (r : Rep K γ H d v) (h : flatD d = true) : flatV v = true := by
  cases r <;> first | rfl | cases h
theorem eqF_of {d e : D} {v u : V} (r : Rep K γ H d v) (q : Rep K γ H e u) (h : flatD d = true) (k : flatD e = true) : eqV v u = eqF d e := by
  cases r <;> cases q <;> first | rfl | exact absurd h Bool.false_ne_true | exact absurd k Bool.false_ne_true
theorem flats_of : ∀ {ds : List D} {vs : List V}, Reps K γ H ds vs → ds.all flatD = true → vs.all flatV = true
  | _, _, .nil, _ => rfl
  | _, _, .cons r t, h => by
    simp only [List.all_cons, Bool.and_eq_true] at h ⊢
    exact ⟨flat_of r h.1, flats_of t h.2⟩
theorem anyF_of {e : D} {u : V} (q : Rep K γ H e u) (k : flatD e = true) : ∀ {ds : List D} {vs : List V}, Reps K γ H ds vs → ds.all flatD = true → inV u vs = ds.any fun d => eqF d e
  | _, _, .nil, _ => rfl
  | _, _, .cons r t, h => by
    simp only [List.all_cons, Bool.and_eq_true] at h
    have ih := anyF_of q k t h.2
    unfold inV at ih ⊢
    rw [List.any_cons, List.any_cons, ih, eqF_of r q h.1 k]
end
section
variable {X : Cx} {W : WX} {pos : Pos} {a b c : Expr} {f g h : Ev → Sto → Res D}
/-! == and != of data -/
@[simp] def oEq (neg : Bool) : Op2 := fun x y S => if (shp S x && shp S y) = true then .ok (.bl (neg != eqvD S x y)) S else .bad
theorem does_eq {K : PySem.W.Frag} : Does2 K W (rEqD K) (oEq false) := by
  intro γ S H x y v u σ Q st rx ry p
  obtain ⟨c, p⟩ := Post.ite p
  rw [Bool.and_eq_true] at c
  exact ⟨_, _, dp_of st rx c.1, dp_of st ry c.2, c.1, c.2, p γ _ H .refl st (by rw [Bool.false_bne]; exact .bl _)⟩
theorem does_ne {K : PySem.W.Frag} : Does2 K W (rNeD K) (oEq true) := by
  intro γ S H x y v u σ Q st rx ry p
  obtain ⟨c, p⟩ := Post.ite p
  rw [Bool.and_eq_true] at c
  exact ⟨_, _, dp_of st rx c.1, dp_of st ry c.2, c.1, c.2, p γ _ H .refl st (by rw [Bool.true_bne]; exact .bl _)⟩
/-! in, not in: flat data -/
@[simp] def oIn (neg : Bool) : Op2 := fun x y S => match seqOf S y with
  | some l => if (flatD x && l.all flatD) = true then .ok (.bl (neg != (l.any fun d => eqF d x))) S else .bad
  | none => .bad
theorem does_in {K : PySem.W.Frag} (neg : Bool) : Does2 K W (rIn K neg) (oIn neg) := by
  intro γ S H x y v u σ Q st rx ry p
  unfold oIn at p
  cases hy : seqOf S y with
  | none => rw [hy] at p; exact p.elim
  | some l =>
    rw [hy] at p
    obtain ⟨c, p⟩ := Post.ite p
    rw [Bool.and_eq_true] at c
    obtain ⟨a, vs, rfl, hs, r⟩ := (isSeq_of hy).at st ry
    refine ⟨a, vs, rfl, hs, flat_of rx c.1, flats_of r c.2, p γ _ H .refl st ?_⟩
    rw [anyF_of rx c.1 r c.2]
    cases neg with
    | false => rw [Bool.false_bne]; exact .bl _
    | true => rw [Bool.true_bne]; exact .bl _
/-! is None -/
@[simp] def oIs (neg : Bool) : Op2 := fun x y S => match y with
  | .non => match x with
    | .non => .ok (.bl (neg != true)) S
    | _ => .ok (.bl (neg != false)) S
  | _ => .bad
theorem isN_of {K : PySem.W.Frag} {γ : Ga} {H : Hp} {x : D} {v : V} (r : Rep K γ H x v) : (x = .non ∧ v = .non) ∨ (x ≠ .non ∧ decide (v = .non) = false) := by
  cases r <;> first | exact .inl ⟨rfl, rfl⟩ | exact .inr ⟨fun z => (nomatch z), decide_eq_false fun z => (nomatch z)⟩
theorem oIs_ne (neg : Bool) {x : D} (h : x ≠ .non) (S : Sto) : oIs neg x .non S = .ok (.bl (neg != false)) S := by
  cases x <;> first | exact absurd rfl h | rfl
theorem does_is {K : PySem.W.Frag} : Does2 K W (fun x y H Q => y = .non ∧ Q (.bl (decide (x = .non))) H) (oIs false) := by
  intro γ S H x y v u σ Q st rx ry p
  cases y <;> first | exact p.elim | skip
  cases rep_non ry
  rcases isN_of rx with ⟨rfl, rfl⟩ | ⟨h1, h2⟩
  · exact ⟨rfl, p γ _ H .refl st (.bl _)⟩
  · rw [oIs_ne false h1] at p
    exact ⟨rfl, by rw [h2]; exact p γ _ H .refl st (.bl _)⟩
theorem does_isnot {K : PySem.W.Frag} : Does2 K W (fun x y H Q => y = .non ∧ Q (.bl (!decide (x = .non))) H) (oIs true) := by
  intro γ S H x y v u σ Q st rx ry p
  cases y <;> first | exact p.elim | skip
  cases rep_non ry
  rcases isN_of rx with ⟨rfl, rfl⟩ | ⟨h1, h2⟩
  · exact ⟨rfl, p γ _ H .refl st (.bl _)⟩
  · rw [oIs_ne true h1] at p
    exact ⟨rfl, by rw [h2]; exact p γ _ H .refl st (.bl _)⟩
@[simp] def oLt : Op2 := oI (fun _ _ => true) fun i j => .bl (decide (i < j))
@[simp] def oLe : Op2 := oI (fun _ _ => true) fun i j => .bl (decide (i ≤ j))
@[simp] def oGt : Op2 := oI (fun _ _ => true) fun i j => .bl (decide (j < i))
@[simp] def oGe : Op2 := oI (fun _ _ => true) fun i j => .bl (decide (j ≤ i))
/-- a comparison's operator, its rule and what it does -/
structure Cmp (X : Cx) (W : WX) (op : CmpOp) (o : Op2) : Prop where
  ok : ∃ r, OpR X (compareOp op) r ∧ Does2 X.K W r o
theorem c_lt : Cmp X W .Lt oLt := ⟨_, op_lt, does_I0 fun _ _ _ _ => .bl _⟩
theorem c_le : Cmp X W .LtE oLe := ⟨_, op_le, does_I0 fun _ _ _ _ => .bl _⟩
theorem c_gt : Cmp X W .Gt oGt := ⟨_, op_gt, does_I0 fun _ _ _ _ => .bl _⟩
theorem c_ge : Cmp X W .GtE oGe := ⟨_, op_ge, does_I0 fun _ _ _ _ => .bl _⟩
theorem c_eq {j : Nat} (hr : Room j X.A) : Cmp X W .Eq (oEq false) := ⟨_, op_eqD hr.units, does_eq⟩
theorem c_ne {j : Nat} (hr : Room j X.A) : Cmp X W .NotEq (oEq true) := ⟨_, op_neD hr.units, does_ne⟩
theorem c_in : Cmp X W .In (oIn false) := ⟨_, op_in_seq, does_in false⟩
theorem c_notin : Cmp X W .NotIn (oIn true) := ⟨_, op_notIn_seq, does_in true⟩
theorem c_is : Cmp X W .Is (oIs false) := ⟨_, op_isN, does_is⟩
theorem c_isnot : Cmp X W .IsNot (oIs true) := ⟨_, op_notN, does_isnot⟩
theorem de_cmp {op : CmpOp} {o : Op2} (hc : Cmp X W op o) (ha : DE X W a f) (hb : DE X W b g) (hm : behindInMarks op b = false := by rfl) : DE X W (.Compare a [op] [b] pos) (fBin o f g) := by
  obtain ⟨r, h1, h2⟩ := hc.ok
  exact de_cmpR h1 h2 ha hb hm
/-- a truth value out of a datum -/
@[simp] def toB (r : Res D) : Res Bool := r.bind fun d S => match d with
  | .bl b => .ok b S
  | _ => .bad
@[simp] def fB (f : Ev → Sto → Res D) : Ev → Sto → Res Bool := fun ds S => toB (f ds S)
theorem post_toB {K : PySem.W.Frag} {σ : L2.St} {Q : Bool → Hp → Prop} {γ : Ga} {H : Hp} {r : Res D} (p : Post RpB K W σ Q γ H (toB r)) : Post (Rep K) K W σ (fun x H' => ∃ k, x = .bl k ∧ Q k H') γ H r := by
  cases r with
  | ok d S =>
    intro γ' v H' e st rv
    cases d <;> first | exact p.elim | skip
    cases rep_bl rv
    exact ⟨_, rfl, p γ' _ H' e st rfl⟩
  | exc x S => exact p
  | bad => exact p.elim
theorem rd_toB {K : PySem.W.Frag} {σ : L2.St} {Q : Bool → Hp → Prop} {H : Hp} (hw : rdT K W (fB f) σ H Q) : rdE K W f σ H (fun x H' => ∃ k, x = .bl k ∧ Q k H') := by
  obtain ⟨γ, ds, S, st, ev, p⟩ := hw
  exact ⟨γ, ds, S, st, ev, post_toB p⟩
theorem dt_cmp {op : CmpOp} {o : Op2} (hc : Cmp X W op o) (ha : DE X W a f) (hb : DE X W b g) (hm : behindInMarks op b = false := by rfl) : DT X W (.Compare a [op] [b] pos) (fB (fBin o f g)) := by
  obtain ⟨r, h1, h2⟩ := hc.ok
  exact PTimp (pt_cmpR h1 ha hb hm) fun σ H Q hw => rd_bin h2 (rd_toB hw)
/-! a op b op c -/
@[simp] def fChain (o o' : Op2) (f g h : Ev → Sto → Res D) : Ev → Sto → Res D := fun ds S => (f ds S).bind fun x S1 => (g ds S1).bind fun y S2 => (o x y S2).bind fun z S3 => match z with
  | .bl true => (h ds S3).bind fun w S4 => o' y w S4
  | .bl false => .ok (.bl false) S3
  | _ => .bad
theorem rd_chain {r r' : R2} {o o' : Op2} (ho : Does2 X.K W r o) (ho' : Does2 X.K W r' o') {σ : L2.St} {H : Hp} {Q : VK} (hw : rdE X.K W (fChain o o' f g h) σ H Q) : tChain r r' (rdE X.K W f) (rdE X.K W g) (rdE X.K W h) σ H Q := by
  obtain ⟨γ, ds, S, st, ev, p⟩ := hw
  refine (Post.bind st ev p).imp fun x H1 ⟨γ1, d1, S1, e1, st1, ev1, r1, p1⟩ => ?_
  refine (Post.bind st1 ev1 p1).imp fun y H2 ⟨γ2, d2, S2, e2, st2, ev2, r2, p2⟩ => ?_
  refine ho γ2 S2 H2 d1 d2 x y σ _ st2 (r1.mono e2) r2 ?_
  change Post (Rep X.K) X.K W σ Q γ2 H2 ((o d1 d2 S2).bind _) at p2
  cases q : o d1 d2 S2 with
  | exc x S => rw [q] at p2; exact p2
  | bad => rw [q] at p2; exact p2.elim
  | ok z S3 =>
    rw [q] at p2
    intro γ3 vz H3 e3 st3 r3
    have p3 := p2.ext e3
    cases z with
    | bl k =>
     cases rep_bl r3
     refine ⟨k, rfl, ?_⟩
     cases k with
     | false => rw [if_neg Bool.false_ne_true]; exact p3 γ3 _ H3 .refl st3 (.bl _)
     | true =>
      rw [if_pos rfl]
      refine (Post.bind st3 (ev2.mono e3) p3).imp fun w H4 ⟨γ4, d4, S4, e4, st4, ev4, r4, p4⟩ => ?_
      exact ho' γ4 S4 H4 d2 d4 y w σ Q st4 ((r2.mono e3).mono e4) r4 p4
    | _ => exact p3.elim
theorem de_chain {op op' : CmpOp} {o o' : Op2} (hc : Cmp X W op o) (hc' : Cmp X W op' o') (ha : DE X W a f) (hb : DE X W b g) (hd : DE X W c h) (hm : lastMarks [op, op'] [b, c] = false := by with_unfolding_all rfl) :
    DE X W (.Compare a [op, op'] [b, c] pos) (fChain o o' f g h) := by
  obtain ⟨r, h1, h2⟩ := hc.ok
  obtain ⟨r', h1', h2'⟩ := hc'.ok
  exact PEimp (pe_chain h1 h1' ha hb hd hm) fun σ H Q hw => rd_chain h2 h2' hw
theorem dt_chain {op op' : CmpOp} {o o' : Op2} (hc : Cmp X W op o) (hc' : Cmp X W op' o') (ha : DE X W a f) (hb : DE X W b g) (hd : DE X W c h) (hm : lastMarks [op, op'] [b, c] = false := by with_unfolding_all rfl) :
    DT X W (.Compare a [op, op'] [b, c] pos) (fB (fChain o o' f g h)) := by
  obtain ⟨r, h1, h2⟩ := hc.ok
  obtain ⟨r', h1', h2'⟩ := hc'.ok
  exact PTimp (pt_chain h1 h1' ha hb hd hm) fun σ H Q hw => rd_chain h2 h2' (rd_toB hw)

/-! ### truth -/
def truD (S : Sto) : D → Option Bool
  | .non => some false
  | .bl b => some b
  | .int i => some (i != 0)
  | d => (seqOf S d).map fun l => !l.isEmpty
theorem tru_of {K : PySem.W.Frag} {γ : Ga} {H : Hp} {S : Sto} {d : D} {v : V} {k : Bool} (st : StoR K γ S H) (r : Rep K γ H d v) (h : truD S d = some k) : TruV K v H k := by
  have seq : (seqOf S d).map (fun l => !l.isEmpty) = some k → TruV K v H k := by
    intro h
    cases q : seqOf S d with
    | none => rw [q] at h; cases h
    | some l =>
      rw [q] at h
      obtain ⟨a, vs, rfl, hs, t⟩ := (isSeq_of q).at st r
      have e : k = !vs.isEmpty := by
        have hl := t.length
        have h : (!l.isEmpty) = k := Option.some.inj h
        rw [← h]
        cases l <;> cases vs <;> first | rfl | (simp at hl)
      rcases hs with hs | hs
      · exact .inl ⟨vs, hs, e⟩
      · exact .inr (.inl ⟨vs, hs, e⟩)
  cases d with
  | non => cases rep_non r; exact (Option.some.inj h).symm
  | bl b => cases rep_bl r; exact (Option.some.inj h).symm
  | int i => cases rep_int r; exact (Option.some.inj h).symm
  | str s => exact seq h
  | tup s => exact seq h
  | lst s => exact seq h
  | scr s => exact seq h
  | ref s => exact seq h
@[simp] def fTru (f : Ev → Sto → Res D) : Ev → Sto → Res Bool := fun ds S => (f ds S).bind fun d S1 => match truD S1 d with
  | some k => .ok k S1
  | none => .bad
theorem rd_tru {K : PySem.W.Frag} {σ : L2.St} {Q : Bool → Hp → Prop} {H : Hp} (hw : rdT K W (fTru f) σ H Q) : rdE K W f σ H (fun x H' => ∃ k, TruV K x H' k ∧ Q k H') := by
  obtain ⟨γ, ds, S, st, ev, p⟩ := hw
  refine (Post.bind (Rp := Rep K) st ev p).imp fun x H1 ⟨γ1, d1, S1, e1, st1, ev1, r1, p1⟩ => ?_
  dsimp only at p1
  cases q : truD S1 d1 with
  | none => rw [q] at p1; exact p1.elim
  | some k =>
    rw [q] at p1
    exact ⟨k, tru_of st1 r1 q, p1 γ1 k H1 .refl st1 rfl⟩
/-- a test by the truth of a value: no comparison, no and, or, not -/
theorem dt_val (ha : DE X W a f) (he : ∀ whole, isTrue a X.env whole = (do let v ← whole; standAt a.pos; holding [v] (truthy v)) := by intro _; rfl) : DT X W a (fTru f) :=
  PTimp (pt_truth ha he) fun σ H Q hw => rd_tru hw
@[simp] def fNot (t : Ev → Sto → Res Bool) : Ev → Sto → Res Bool := fun ds S => (t ds S).bind fun k S1 => .ok (!k) S1
@[simp] def fAnd (t u : Ev → Sto → Res Bool) : Ev → Sto → Res Bool := fun ds S => (t ds S).bind fun k S1 => if k = true then u ds S1 else .ok false S1
@[simp] def fOr (t u : Ev → Sto → Res Bool) : Ev → Sto → Res Bool := fun ds S => (t ds S).bind fun k S1 => if k = true then .ok true S1 else u ds S1
variable {t u : Ev → Sto → Res Bool} {rest : List Expr}
theorem dt_not (ha : DT X W a t) : DT X W (.UnaryOp .Not a pos) (fNot t) := PTimp (pt_not ha) fun σ H Q hw => by
  obtain ⟨γ, ds, S, st, ev, p⟩ := hw
  refine (Post.bind (Rp := RpB) st ev p).imp fun x H1 ⟨γ1, d1, S1, e1, st1, ev1, r1, p1⟩ => ?_
  cases r1
  exact p1 γ1 _ H1 .refl st1 rfl
theorem dw_and1 (ha : DT X W a t) : DW X W (.BoolOp .And [a] pos) t := pw_and1 ha
theorem dw_or1 (ha : DT X W a t) : DW X W (.BoolOp .Or [a] pos) t := pw_or1 ha
theorem dw_and (ha : DT X W a t) (hb : DW X W (.BoolOp .And (b :: rest) pos) u) : DW X W (.BoolOp .And (a :: b :: rest) pos) (fAnd t u) := PWimp (pw_and ha hb) fun σ H Q hw => by
  obtain ⟨γ, ds, S, st, ev, p⟩ := hw
  refine (Post.bind (Rp := RpB) st ev p).imp fun x H1 ⟨γ1, d1, S1, e1, st1, ev1, r1, p1⟩ => ?_
  cases r1
  cases x with
  | true => exact ⟨γ1, ds, S1, st1, ev1, p1⟩
  | false => exact p1 γ1 _ H1 .refl st1 rfl
theorem dw_or (ha : DT X W a t) (hb : DW X W (.BoolOp .Or (b :: rest) pos) u) : DW X W (.BoolOp .Or (a :: b :: rest) pos) (fOr t u) := PWimp (pw_or ha hb) fun σ H Q hw => by
  obtain ⟨γ, ds, S, st, ev, p⟩ := hw
  refine (Post.bind (Rp := RpB) st ev p).imp fun x H1 ⟨γ1, d1, S1, e1, st1, ev1, r1, p1⟩ => ?_
  cases r1
  cases x with
  | true => exact p1 γ1 _ H1 .refl st1 rfl
  | false => exact ⟨γ1, ds, S1, st1, ev1, p1⟩
theorem dt_bool (h : DW X W a t) : DT X W a t := h.pt
/-! as values: truth values alone -/
@[simp] def fAndV (f g : Ev → Sto → Res D) : Ev → Sto → Res D := fun ds S => (f ds S).bind fun x S1 => match x with
  | .bl true => g ds S1
  | .bl false => .ok (.bl false) S1
  | _ => .bad
@[simp] def fOrV (f g : Ev → Sto → Res D) : Ev → Sto → Res D := fun ds S => (f ds S).bind fun x S1 => match x with
  | .bl true => .ok (.bl true) S1
  | .bl false => g ds S1
  | _ => .bad
theorem de_one {op} (h : DE X W a f) : DE X W (.BoolOp op [a] pos) f := pe_one h
theorem de_and (ha : DE X W a f) (hb : DE X W (.BoolOp .And (b :: rest) pos) g) : DE X W (.BoolOp .And (a :: b :: rest) pos) (fAndV f g) := PEimp (pe_and ha hb) fun σ H Q hw => by
  obtain ⟨γ, ds, S, st, ev, p⟩ := hw
  refine (Post.bind st ev p).imp fun x H1 ⟨γ1, d1, S1, e1, st1, ev1, r1, p1⟩ => ?_
  dsimp only at p1
  cases d1 <;> first | exact p1.elim | skip
  rename_i k
  cases rep_bl r1
  refine ⟨k, rfl, ?_⟩
  cases k with
  | true => rw [if_pos rfl]; exact ⟨γ1, ds, S1, st1, ev1, p1⟩
  | false => rw [if_neg Bool.false_ne_true]; exact p1 γ1 _ H1 .refl st1 (.bl _)
theorem de_or (ha : DE X W a f) (hb : DE X W (.BoolOp .Or (b :: rest) pos) g) : DE X W (.BoolOp .Or (a :: b :: rest) pos) (fOrV f g) := PEimp (pe_or ha hb) fun σ H Q hw => by
  obtain ⟨γ, ds, S, st, ev, p⟩ := hw
  refine (Post.bind st ev p).imp fun x H1 ⟨γ1, d1, S1, e1, st1, ev1, r1, p1⟩ => ?_
  dsimp only at p1
  cases d1 <;> first | exact p1.elim | skip
  rename_i k
  cases rep_bl r1
  refine ⟨k, rfl, ?_⟩
  cases k with
  | true => rw [if_pos rfl]; exact p1 γ1 _ H1 .refl st1 (.bl _)
  | false => rw [if_neg Bool.false_ne_true]; exact ⟨γ1, ds, S1, st1, ev1, p1⟩
@[simp] def fNotV (f : Ev → Sto → Res D) : Ev → Sto → Res D := fun ds S => (f ds S).bind fun d S1 => match truD S1 d with
  | some k => .ok (.bl (!k)) S1
  | none => .bad
theorem de_not (ha : DE X W a f) : DE X W (.UnaryOp .Not a pos) (fNotV f) := PEimp (pe_notT ha) fun σ H Q hw => by
  obtain ⟨γ, ds, S, st, ev, p⟩ := hw
  refine (Post.bind st ev p).imp fun x H1 ⟨γ1, d1, S1, e1, st1, ev1, r1, p1⟩ => ?_
  dsimp only at p1
  cases q : truD S1 d1 with
  | none => rw [q] at p1; exact p1.elim
  | some k =>
    rw [q] at p1
    exact ⟨k, tru_of st1 r1 q, p1 γ1 _ H1 .refl st1 (.bl _)⟩
@[simp] def fIf (t : Ev → Sto → Res Bool) (f g : Ev → Sto → Res D) : Ev → Sto → Res D := fun ds S => (t ds S).bind fun k S1 => if k = true then f ds S1 else g ds S1
theorem de_if (hc : DT X W c t) (ha : DE X W a f) (hb : DE X W b g) : DE X W (.IfExp c a b pos) (fIf t f g) := PEimp (pe_ifExp hc ha hb) fun σ H Q hw => by
  obtain ⟨γ, ds, S, st, ev, p⟩ := hw
  refine (Post.bind (Rp := RpB) st ev p).imp fun x H1 ⟨γ1, d1, S1, e1, st1, ev1, r1, p1⟩ => ?_
  cases r1
  cases x with
  | true => rw [if_pos rfl]; exact ⟨γ1, ds, S1, st1, ev1, p1⟩
  | false => rw [if_neg Bool.false_ne_true]; exact ⟨γ1, ds, S1, st1, ev1, p1⟩
end
end DL

set_option maxRecDepth 100000
set_option maxHeartbeats 2000000
/-! Dl3: displays, subscripts, calls of built-ins -/
namespace DL
open PySem PySem.Spec L2
section
variable {X : Cx} {W : WX} {pos p : Pos} {a b c e : Expr} {es : List Expr} {f g h : Ev → Sto → Res D} {fa : Ev → Sto → Res (List D)}
abbrev Fe := Ev → Sto → Res D
abbrev Fa := Ev → Sto → Res (List D)
@[simp] def fNil : Fa := fun _ S => .ok [] S
@[simp] def fCons (f : Fe) (fa : Fa) : Fa := fun ds S => (f ds S).bind fun d S1 => (fa ds S1).bind fun l S2 => .ok (d :: l) S2
theorem da_nil : DA X W [] fNil := PAimp pa_nil fun σ H Q hw => by
  obtain ⟨γ, ds, S, st, ev, p⟩ := hw
  exact p γ [] H .refl st .nil
theorem da_cons (ha : DE X W e f) (hr : DA X W es fa) (hs : starEach (e :: es) X.env = (false, eval e X.env) :: starEach es X.env := by rfl) : DA X W (e :: es) (fCons f fa) := PAimp (pa_cons ha hr hs) fun σ H Q hw => by
  obtain ⟨γ, ds, S, st, ev, p⟩ := hw
  refine (Post.bind st ev p).imp fun x H1 ⟨γ1, d1, S1, e1, st1, ev1, r1, p1⟩ => ?_
  refine (Post.bind (Rp := Reps X.K) st1 ev1 p1).imp fun xs H2 ⟨γ2, l2, S2, e2, st2, ev2, r2, p2⟩ => ?_
  exact p2 γ2 _ H2 .refl st2 (.cons (r1.mono e2) r2)
@[simp] def fTup (fa : Fa) : Fe := fun ds S => (fa ds S).bind fun l S1 => if fits l.length = true then .ok (.tup l) S1 else .bad
/-- a list that will be written -/
@[simp] def fLst (fa : Fa) : Fe := fun ds S => (fa ds S).bind fun l S1 => if fits l.length = true then .ok (.ref S1.length) (S1 ++ [.lst l]) else .bad
/-- a list that will not -/
@[simp] def fFls (fa : Fa) : Fe := fun ds S => (fa ds S).bind fun l S1 => if fits l.length = true then .ok (.lst l) S1 else .bad
theorem de_tup {x1} (h : DA X W es fa) : DE X W (.Tuple es x1 pos) (fTup fa) := PEimp (pe_tup h) fun σ H Q hw => by
  obtain ⟨γ, ds, S, st, ev, p⟩ := hw
  refine (Post.bind (Rp := Reps X.K) st ev p).imp fun xs H1 ⟨γ1, l, S1, e1, st1, ev1, r1, p1⟩ => ?_
  obtain ⟨hf, p1⟩ := Post.ite p1
  exact ⟨by rw [← r1.length]; exact fits_line hf, fun q hq => p1 γ1 _ _ (.new hq) (st1.new hq) (newTup hq r1)⟩
theorem de_lst (h : DA X W es fa) : DE X W (.List es pos) (fLst fa) := PEimp (pe_lst h) fun σ H Q hw => by
  obtain ⟨γ, ds, S, st, ev, p⟩ := hw
  refine (Post.bind (Rp := Reps X.K) st ev p).imp fun xs H1 ⟨γ1, l, S1, e1, st1, ev1, r1, p1⟩ => ?_
  obtain ⟨hf, p1⟩ := Post.ite p1
  exact ⟨by rw [← r1.length]; exact fits_line hf, fun q hq => p1 _ _ _ (.newCell hq) (st1.newCell hq r1) st1.newRef⟩
theorem de_fls (h : DA X W es fa) : DE X W (.List es pos) (fFls fa) := PEimp (pe_lst h) fun σ H Q hw => by
  obtain ⟨γ, ds, S, st, ev, p⟩ := hw
  refine (Post.bind (Rp := Reps X.K) st ev p).imp fun xs H1 ⟨γ1, l, S1, e1, st1, ev1, r1, p1⟩ => ?_
  obtain ⟨hf, p1⟩ := Post.ite p1
  exact ⟨by rw [← r1.length]; exact fits_line hf, fun q hq => p1 γ1 _ _ (.new hq) (st1.new hq) (st1.newLst hq r1)⟩

/-! ### an item -/
theorem atI_rep {K : PySem.W.Frag} {γ : Ga} {H : Hp} {ds : List D} {vs : List V} {i : Int} {d : D} (r : Reps K γ H ds vs) (h : atI ds i = some d) : ∃ v, atI vs i = some v ∧ Rep K γ H d v := by
  unfold atI at h ⊢
  rw [← r.length]
  cases q : ixN ds.length i with
  | none => rw [q] at h; cases h
  | some j => rw [q] at h; exact r.get (i := j) h
@[simp] def oIx : Op2 := fun x y S => match seqOf S x, y with
  | some l, .int i => match atI l i with
    | some d => .ok d S
    | none => .bad
  | _, _ => .bad
theorem does_ix {K : PySem.W.Frag} : Does2 K W (rIx K) oIx := by
  intro γ S H x y v u σ Q st rx ry p
  unfold oIx at p
  cases hx : seqOf S x with
  | none => rw [hx] at p; exact p.elim
  | some l =>
    rw [hx] at p
    cases y with
    | int i =>
      dsimp only at p
      cases ha : atI l i with
      | none => rw [ha] at p; exact p.elim
      | some d =>
        rw [ha] at p
        cases rep_int ry
        obtain ⟨a, vs, rfl, hs, r⟩ := (isSeq_of hx).at st rx
        obtain ⟨w, h1, h2⟩ := atI_rep r ha
        rcases hs with hs | hs
        · exact .inl ⟨a, vs, i, w, rfl, rfl, hs, h1, p γ w H .refl st h2⟩
        · exact .inr (.inl ⟨a, vs, i, w, rfl, rfl, hs, h1, p γ w H .refl st h2⟩)
    | _ => exact p.elim
theorem de_ix (ha : DE X W a f) (hb : DE X W b g) (hs : PlainIx b := by exact fun _ _ => rfl) : DE X W (.Subscript a b pos) (fBin oIx f g) := PEimp (pe_ix ix_seq ha hb hs) fun _ _ _ => rd_bin does_ix
/-! ### slices: of a tuple, of a list (the new one can't be written) -/
def cutD (xs : List D) (lo hi : Option Int) : List D := (xs.drop (HT.sIx xs.length 0 lo)).take (HT.sIx xs.length xs.length hi - HT.sIx xs.length 0 lo)
theorem cut_rep {K : PySem.W.Frag} {γ : Ga} {H : Hp} {ds : List D} {vs : List V} {lo hi : Option Int} (r : Reps K γ H ds vs) : Reps K γ H (cutD ds lo hi) (cutV vs lo hi) := by
  unfold cutD cutV
  rw [← r.length]
  exact (r.drop _).take _
abbrev Fo := Ev → Sto → Res (Option Int)
abbrev RpO : Ga → Hp → Option Int → Option Int → Prop := fun _ _ a b => a = b
abbrev DO (X : Cx) (W : WX) (e : Option Expr) (F : Fo) : Prop := PO X e (Rdg RpO X.K W F)
@[simp] def fNo : Fo := fun _ S => .ok none S
@[simp] def fPart (f : Fe) : Fo := fun ds S => (f ds S).bind fun d S1 => match d with
  | .int i => .ok (some i) S1
  | _ => .bad
theorem POimp {e : Option Expr} {t t' : TO} (h : PO X e t) (k : ∀ σ H Q, t' σ H Q → t σ H Q) : PO X e t' := ⟨fun pins s σ H Q I q => h.run pins s σ H Q I (k σ H Q q)⟩
theorem do_no : DO X W none fNo := POimp po_none fun σ H Q hw => by
  obtain ⟨γ, ds, S, st, ev, p⟩ := hw
  exact p γ _ H .refl st rfl
theorem do_some (ha : DE X W a f) : DO X W (some a) (fPart f) := POimp (po_some ha) fun σ H Q hw => by
  obtain ⟨γ, ds, S, st, ev, p⟩ := hw
  refine (Post.bind st ev p).imp fun x H1 ⟨γ1, d1, S1, e1, st1, ev1, r1, p1⟩ => ?_
  cases d1 <;> first | exact p1.elim | skip
  cases rep_int r1
  exact ⟨_, rfl, p1 γ1 _ H1 .refl st1 rfl⟩
@[simp] def oSl (x : D) (lo hi : Option Int) (S : Sto) : Res D := match x with
  | .tup l => .ok (.tup (cutD l lo hi)) S
  | x => match lstOf S x with
    | some l => .ok (.lst (cutD l lo hi)) S
    | none => .bad
@[simp] def fSl (f : Fe) (lo hi : Fo) : Fe := fun ds S => (f ds S).bind fun x S1 => (lo ds S1).bind fun l S2 => (hi ds S2).bind fun u S3 => oSl x l u S3
theorem cutV_all {vs : List V} {lo hi : Option Int} (h : HT.sIx vs.length 0 lo = 0 ∧ HT.sIx vs.length vs.length hi = vs.length) : cutV vs lo hi = vs := by
  unfold cutV
  rw [h.1, h.2]; simp
theorem de_sl {lo hi : Option Expr} {fl fh : Fo} {p2 : Pos} (ha : DE X W a f) (hl : DO X W lo fl) (hu : DO X W hi fh) : DE X W (.Subscript a (.Slice lo hi none p2) pos) (fSl f fl fh) :=
  PEimp (pe_slice (sl_list.or sl_tupA) ha hl hu) fun σ H Q hw => by
    obtain ⟨γ, ds, S, st, ev, p⟩ := hw
    refine (Post.bind st ev p).imp fun x H1 ⟨γ1, d1, S1, e1, st1, ev1, r1, p1⟩ => ?_
    refine (Post.bind (Rp := RpO) st1 ev1 p1).imp fun l H2 ⟨γ2, d2, S2, e2, st2, ev2, r2, p2⟩ => ?_
    cases r2
    refine (Post.bind (Rp := RpO) st2 ev2 p2).imp fun u H3 ⟨γ3, d3, S3, e3, st3, ev3, r3, p3⟩ => ?_
    cases r3
    have rx := (r1.mono e2).mono e3
    dsimp only at p3
    have lists : (match lstOf S3 d1 with
      | some k => Res.ok (.lst (cutD k l u)) S3
      | none => .bad) = oSl d1 l u S3 → rSlL X.K x l u H3 Q := by
      intro e
      rw [← e] at p3
      cases hx : lstOf S3 d1 with
      | none => rw [hx] at p3; exact p3.elim
      | some k =>
        rw [hx] at p3
        obtain ⟨a, vs, rfl, ha, ra⟩ := lstOf_at hx st3 rx
        exact ⟨a, vs, rfl, .of ha, fun q hq => p3 γ3 _ _ (.new hq) (st3.new hq) (st3.newLst hq (cut_rep ra))⟩
    cases d1 with
    | tup k =>
      obtain ⟨a, vs, rfl, ha, ra⟩ := rep_tup rx
      refine .inr ⟨a, vs, rfl, .of ha, fun hw => ?_, fun _ q hq => ?_⟩
      · refine p3 γ3 _ H3 .refl st3 (.tup ha ?_)
        have := cut_rep (lo := l) (hi := u) ra
        rw [cutV_all hw] at this
        exact this
      · exact p3 γ3 _ _ (.new hq) (st3.new hq) (newTup hq (cut_rep ra))
    | _ => exact .inl (lists rfl)

/-! ### calls of built-ins -/
abbrev OpA := List D → Sto → Res D
def DoesA (K : PySem.W.Frag) (W : WX) (r : List V → Hp → VK → Prop) (o : OpA) : Prop := ∀ (γ : Ga) (S : Sto) (H : Hp) (xs : List D) (vs : List V) (σ : L2.St) (Q : VK), StoR K γ S H → Reps K γ H xs vs →
  Post (Rep K) K W σ Q γ H (o xs S) → r vs H Q
@[simp] def fCall (o : OpA) (fa : Fa) : Fe := fun ds S => (fa ds S).bind fun l S1 => o l S1
theorem rd_call {r : List V → Hp → VK → Prop} {o : OpA} (ho : DoesA X.K W r o) {σ : L2.St} {H : Hp} {Q : VK} (hw : rdE X.K W (fCall o fa) σ H Q) : tCB r (rdA X.K W fa) σ H Q := by
  obtain ⟨γ, ds, S, st, ev, p⟩ := hw
  refine (Post.bind (Rp := Reps X.K) st ev p).imp fun xs H1 ⟨γ1, l, S1, e1, st1, ev1, r1, p1⟩ => ?_
  exact ho γ1 S1 H1 l xs σ Q st1 r1 p1
/-- a built-in by its name: function or type -/
structure Blt (X : Cx) (W : WX) (x : Str) (o : OpA) : Prop where
  ok : ∃ r, DoesA X.K W r o ∧ X.mg x = none ∧ (x ≠ "__name__") ∧ ((x == ("__debug__" : Str)) = false) ∧ ((∃ id, CallR X (.builtin id) r ∧ bootBuiltins x = some (.builtin id)) ∨ ∃ T, CallR X (.type T) r ∧ bootBuiltins x = some (.type T))
theorem de_blt {x : Str} {o : OpA} (hb : Blt X W x o) (hg : Gl X x) (ha : DA X W (e :: es) fa)
    (he : starEach (e :: es) X.env = (false, eval e X.env) :: starEach es X.env := by rfl) (hpl : (backTo pos (starEach es X.env)).any (·.1) = false := by rfl) : DE X W (.Call (.Name x p) (e :: es) [] pos) (fCall o fa) := by
  obtain ⟨r, ho, hm, hn, hd, h | h⟩ := hb.ok
  · obtain ⟨id, hc, hv⟩ := h
    exact PEimp (pe_callB hc hg hm hv ha hn hd he hpl) fun _ _ _ => rd_call ho
  · obtain ⟨T, hc, hv⟩ := h
    exact PEimp (pe_callTy hc hg hm hv ha hn hd he hpl) fun _ _ _ => rd_call ho
theorem reps1 {K : PySem.W.Frag} {γ : Ga} {H : Hp} {d : D} {vs : List V} (r : Reps K γ H [d] vs) : ∃ v, vs = [v] ∧ Rep K γ H d v := by
  cases r with | cons r t => cases t; exact ⟨_, rfl, r⟩
theorem reps2 {K : PySem.W.Frag} {γ : Ga} {H : Hp} {d e : D} {vs : List V} (r : Reps K γ H [d, e] vs) : ∃ v u, vs = [v, u] ∧ Rep K γ H d v ∧ Rep K γ H e u := by
  cases r with | cons r t => cases t with | cons r2 t => cases t; exact ⟨_, _, rfl, r, r2⟩
/-- len -/
@[simp] def oLen : OpA := fun xs S => match xs with
  | [.str z] => if fits z.length = true then .ok (.int z.length) S else .bad
  | [d] => match seqOf S d with
    | some l => .ok (.int l.length) S
    | none => .bad
  | _ => .bad
theorem does_len {K : PySem.W.Frag} : DoesA K W (fun xs H Q => ∃ x n, xs = [x] ∧ LenV K x H n ∧ Q (.int n) H) oLen := by
  intro γ S H xs vs σ Q st r p
  cases xs with
  | nil => exact p.elim
  | cons d t =>
    cases t with
    | cons d2 t2 => cases d <;> exact p.elim
    | nil =>
      obtain ⟨v, rfl, rd⟩ := reps1 r
      have seq : (match seqOf S d with
        | some l => Res.ok (D.int l.length) S
        | none => .bad) = oLen [d] S → ∃ x n, [v] = [x] ∧ LenV K x H n ∧ Q (.int n) H := by
        intro e
        rw [← e] at p
        cases hx : seqOf S d with
        | none => rw [hx] at p; exact p.elim
        | some l =>
          rw [hx] at p
          obtain ⟨a, us, rfl, hs, t⟩ := (isSeq_of hx).at st rd
          refine ⟨_, l.length, rfl, ?_, p γ _ H .refl st (.int _)⟩
          rw [t.length]
          rcases hs with hs | hs
          · exact .inl ⟨us, hs, rfl⟩
          · exact .inr ⟨us, hs, rfl⟩
      cases d with
      | str z =>
        obtain ⟨hf, p⟩ := Post.ite (c := fits z.length) (r := .ok (D.int z.length) S) p
        cases rep_str rd
        exact ⟨_, z.length, rfl, ⟨fits_line hf, rfl⟩, p γ _ H .refl st (.int _)⟩
      | _ => exact seq rfl
theorem b_len (hm : X.mg "len" = none) : Blt X W "len" oLen := ⟨_, does_len, hm, by decide, by decide, .inl ⟨_, call_len, PySem.boot_len⟩⟩
/-- int(n), int(flag) -/
@[simp] def oInt : OpA := fun xs S => match xs with
  | [.int i] => .ok (.int i) S
  | [.bl k] => .ok (.int (if k then 1 else 0)) S
  | _ => .bad
theorem does_int {K : PySem.W.Frag} : DoesA K W (fun xs H Q => (∃ i, xs = [.int i] ∧ Q (.int i) H) ∨ ∃ k, xs = [.bl k] ∧ Q (.int (if k then 1 else 0)) H) oInt := by
  intro γ S H xs vs σ Q st r p
  cases xs with
  | nil => exact p.elim
  | cons d t =>
    cases t with
    | cons d2 t2 => cases d <;> exact p.elim
    | nil =>
      obtain ⟨v, rfl, rd⟩ := reps1 r
      cases d <;> first | exact p.elim | skip
      · cases rep_bl rd; exact .inr ⟨_, rfl, p γ _ H .refl st (.int _)⟩
      · cases rep_int rd; exact .inl ⟨_, rfl, p γ _ H .refl st (.int _)⟩
theorem b_int (hm : X.mg "int" = none) (hv : bootBuiltins "int" = some (.type "int")) : Blt X W "int" oInt := ⟨_, does_int, hm, by decide, by decide, .inr ⟨_, call_int1, hv⟩⟩
/-- abs -/
@[simp] def oAbs : OpA := fun xs S => match xs with
  | [.int i] => .ok (.int (if i < 0 then -i else i)) S
  | _ => .bad
theorem does_abs {K : PySem.W.Frag} : DoesA K W (fun xs H Q => ∃ i, xs = [.int i] ∧ Q (.int (if i < 0 then -i else i)) H) oAbs := by
  intro γ S H xs vs σ Q st r p
  cases xs with
  | nil => exact p.elim
  | cons d t =>
    cases t with
    | cons d2 t2 => cases d <;> exact p.elim
    | nil =>
      obtain ⟨v, rfl, rd⟩ := reps1 r
      cases d <;> first | exact p.elim | skip
      cases rep_int rd; exact ⟨_, rfl, p γ _ H .refl st (.int _)⟩
theorem b_abs (hm : X.mg "abs" = none) (hv : bootBuiltins "abs" = some (.builtin "abs")) : Blt X W "abs" oAbs := ⟨_, does_abs, hm, by decide, by decide, .inl ⟨_, call_abs, hv⟩⟩
/-- min, max of two -/
@[simp] def oII (k : Int → Int → Int) : OpA := fun xs S => match xs with
  | [.int i, .int j] => .ok (.int (k i j)) S
  | _ => .bad
theorem does_II {K : PySem.W.Frag} (k : Int → Int → Int) : DoesA K W (fun xs H Q => ∃ i j, xs = [.int i, .int j] ∧ Q (.int (k i j)) H) (oII k) := by
  intro γ S H xs vs σ Q st r p
  cases xs with
  | nil => exact p.elim
  | cons d t =>
    cases t with
    | nil => cases d <;> exact p.elim
    | cons d2 t2 =>
      cases t2 with
      | cons d3 t3 => cases d <;> cases d2 <;> exact p.elim
      | nil =>
        obtain ⟨v, u, rfl, rd, re⟩ := reps2 r
        cases d <;> first | exact p.elim | skip
        cases d2 <;> first | exact p.elim | skip
        cases rep_int rd; cases rep_int re; exact ⟨_, _, rfl, p γ _ H .refl st (.int _)⟩
@[simp] def oMin : OpA := oII fun i j => if j < i then j else i
@[simp] def oMax : OpA := oII fun i j => if j > i then j else i
theorem b_min (hc : X.calm = true) (hm : X.mg "min" = none) (hv : bootBuiltins "min" = some (.builtin "min")) : Blt X W "min" oMin := ⟨_, does_II _, hm, by decide, by decide, .inl ⟨_, call_min2 hc, hv⟩⟩
theorem b_max (hc : X.calm = true) (hm : X.mg "max" = none) (hv : bootBuiltins "max" = some (.builtin "max")) : Blt X W "max" oMax := ⟨_, does_II _, hm, by decide, by decide, .inl ⟨_, call_max2 hc, hv⟩⟩
/-- tuple(..) -/
@[simp] def oTuple : OpA := fun xs S => match xs with
  | [d] => match seqOf S d with
    | some l => .ok (.tup l) S
    | none => .bad
  | _ => .bad
theorem does_tuple {K : PySem.W.Frag} : DoesA K W (fun xs H Q => ∃ p ys, xs = [.ref p] ∧ ((SqL K H p ys ∧ ∀ l, H l = none → Q (.ref l) (upd H l (.tup ys))) ∨ (SqT K H p ys ∧ Q (.ref p) H))) oTuple := by
  intro γ S H xs vs σ Q st r p
  cases xs with
  | nil => exact p.elim
  | cons d t =>
    cases t with
    | cons d2 t2 => exact p.elim
    | nil =>
      obtain ⟨v, rfl, rd⟩ := reps1 r
      change Post (Rep K) K W σ Q γ H (match seqOf S d with
        | some l => .ok (.tup l) S
        | none => .bad) at p
      have go : ∀ {l : List D} {a : Addr} {us : List V}, seqOf S d = some l → SqL K H a us → Reps K γ H l us → ∀ q, H q = none → Q (.ref q) (upd H q (.tup us)) := by
        intro l a us hx hs t q hq
        rw [hx] at p
        exact p γ _ _ (.new hq) (st.new hq) (newTup hq t)
      cases d with
      | tup l =>
        obtain ⟨a, us, rfl, ha, t⟩ := rep_tup rd
        exact ⟨a, us, rfl, .inr ⟨.of ha, p γ _ H .refl st (.tup ha t)⟩⟩
      | lst l =>
        obtain ⟨a, us, rfl, _, ha, t⟩ := rep_lst rd
        exact ⟨a, us, rfl, .inl ⟨.of ha, go rfl (.of ha) t⟩⟩
      | scr l =>
        obtain ⟨a, rfl, ha⟩ := rep_scr rd
        exact ⟨a, _, rfl, .inl ⟨ha, go rfl ha (.of_ints l)⟩⟩
      | ref n =>
        cases hx : seqOf S (.ref n) with
        | none => rw [hx] at p; exact p.elim
        | some l =>
          have : lstOf S (.ref n) = some l := hx
          obtain ⟨a, us, rfl, ha, t⟩ := lstOf_at this st rd
          exact ⟨a, us, rfl, .inl ⟨.of ha, go hx (.of ha) t⟩⟩
      | _ => exact p.elim
theorem b_tuple (hm : X.mg "tuple" = none) (hv : bootBuiltins "tuple" = some (.type "tuple")) : Blt X W "tuple" oTuple := ⟨_, does_tuple, hm, by decide, by decide, .inr ⟨_, call_tuple_of, hv⟩⟩
/-- list(..): one that will be written, one that will not -/
@[simp] def oListM : OpA := fun xs S => match xs with
  | [d] => match seqOf S d with
    | some l => .ok (.ref S.length) (S ++ [.lst l])
    | none => .bad
  | _ => .bad
@[simp] def oListF : OpA := fun xs S => match xs with
  | [d] => match seqOf S d with
    | some l => .ok (.lst l) S
    | none => .bad
  | _ => .bad
theorem does_listM {K : PySem.W.Frag} : DoesA K W (fun xs H Q => ∃ p ys, xs = [.ref p] ∧ (SqL K H p ys ∨ SqT K H p ys) ∧ ∀ l, H l = none → Q (.ref l) (upd H l (.lst ys))) oListM := by
  intro γ S H xs vs σ Q st r p
  cases xs with
  | nil => exact p.elim
  | cons d t =>
    cases t with
    | cons d2 t2 => exact p.elim
    | nil =>
      obtain ⟨v, rfl, rd⟩ := reps1 r
      unfold oListM at p
      dsimp only at p
      cases hx : seqOf S d with
      | none => rw [hx] at p; exact p.elim
      | some l =>
        rw [hx] at p
        obtain ⟨a, us, rfl, hs, t⟩ := (isSeq_of hx).at st rd
        exact ⟨a, us, rfl, hs, fun q hq => p _ _ _ (.newCell hq) (st.newCell hq t) st.newRef⟩
theorem does_listF {K : PySem.W.Frag} : DoesA K W (fun xs H Q => ∃ p ys, xs = [.ref p] ∧ (SqL K H p ys ∨ SqT K H p ys) ∧ ∀ l, H l = none → Q (.ref l) (upd H l (.lst ys))) oListF := by
  intro γ S H xs vs σ Q st r p
  cases xs with
  | nil => exact p.elim
  | cons d t =>
    cases t with
    | cons d2 t2 => exact p.elim
    | nil =>
      obtain ⟨v, rfl, rd⟩ := reps1 r
      unfold oListF at p
      dsimp only at p
      cases hx : seqOf S d with
      | none => rw [hx] at p; exact p.elim
      | some l =>
        rw [hx] at p
        obtain ⟨a, us, rfl, hs, t⟩ := (isSeq_of hx).at st rd
        exact ⟨a, us, rfl, hs, fun q hq => p _ _ _ (.new hq) (st.new hq) (st.newLst hq t)⟩
theorem b_listM (hm : X.mg "list" = none) (hv : bootBuiltins "list" = some (.type "list")) : Blt X W "list" oListM := ⟨_, does_listM, hm, by decide, by decide, .inr ⟨_, call_list_of, hv⟩⟩
theorem b_listF (hm : X.mg "list" = none) (hv : bootBuiltins "list" = some (.type "list")) : Blt X W "list" oListF := ⟨_, does_listF, hm, by decide, by decide, .inr ⟨_, call_list_of, hv⟩⟩
/-- the ints of a row -/
def intsOf : List D → Option (List Int)
  | [] => some []
  | .int i :: r => (intsOf r).map (i :: ·)
  | _ :: _ => none
theorem intsOf_eq : ∀ {l : List D} {ns : List Int}, intsOf l = some ns → l = ns.map D.int
  | [], ns, h => by cases h; rfl
  | .int i :: r, ns, h => by
    unfold intsOf at h
    cases q : intsOf r with
    | none => rw [q] at h; cases h
    | some ms =>
      rw [q] at h
      cases h
      rw [intsOf_eq q]; rfl
  | .non :: _, _, h => by cases h
  | .bl _ :: _, _, h => by cases h
  | .str _ :: _, _, h => by cases h
  | .tup _ :: _, _, h => by cases h
  | .lst _ :: _, _, h => by cases h
  | .scr _ :: _, _, h => by cases h
  | .ref _ :: _, _, h => by cases h
theorem intsOf_map : ∀ ns : List Int, intsOf (ns.map D.int) = some ns
  | [] => rfl
  | n :: ns => by simp [intsOf, intsOf_map ns]
end
end DL

set_option maxRecDepth 100000
set_option maxHeartbeats 2000000
/-! Dl4: statements -/
namespace DL
open PySem PySem.Spec L2
inductive RS where
  | nx (ds : Ev) (S : Sto) | rt (d : D) (S : Sto) | bk (ds : Ev) (S : Sto) | ct (ds : Ev) (S : Sto) | exc (x : Exn) (ds : Ev) (S : Sto) | bad
abbrev Fs := Nat → Ev → Sto → RS
def PostS (K : PySem.W.Frag) (W : WX) (Dn : Ends) (γ0 : Ga) (H0 : Hp) : RS → Prop
  | .nx ds S => ∀ γ' σ' H', Ext γ0 H0 γ' H' → StoR K γ' S H' → EvR K γ' H' ds σ' → Dn.nx σ' H'
  | .rt d S => ∀ γ' v H', Ext γ0 H0 γ' H' → StoR K γ' S H' → Rep K γ' H' d v → Dn.rt v H'
  | .bk ds S => ∀ γ' σ' H', Ext γ0 H0 γ' H' → StoR K γ' S H' → EvR K γ' H' ds σ' → Dn.bk σ' H'
  | .ct ds S => ∀ γ' σ' H', Ext γ0 H0 γ' H' → StoR K γ' S H' → EvR K γ' H' ds σ' → Dn.ct σ' H'
  | .exc x ds S => ∀ γ' σ' H' cls dd, Ext γ0 H0 γ' H' → StoR K γ' S H' → EvR K γ' H' ds σ' → ExR K γ' H' x cls dd → W cls dd σ' H'
  | .bad => False
def rdS (K : PySem.W.Frag) (W : WX) (γ0 : Ga) (H0 : Hp) (F : Fs) : TS := fun Dn σ H => ∃ γ ds S, Ext γ0 H0 γ H ∧ StoR K γ S H ∧ EvR K γ H ds σ ∧ PostS K W Dn γ0 H0 (F γ0.length ds S)
abbrev DS (X : Cx) (W : WX) (st : Stmt) (F : Fs) : Prop := ∀ γ0 H0, PS X st (rdS X.K W γ0 H0 F)
abbrev DSs (X : Cx) (W : WX) (sts : List Stmt) (F : Fs) : Prop := ∀ γ0 H0, PSs X sts (rdS X.K W γ0 H0 F)
/-- a part's result within a statement -/
@[simp] def Res.go {α : Type} (r : Res α) (ds : Ev) (k : α → Sto → RS) : RS := match r with
  | .ok a S => k a S
  | .exc x S => .exc x ds S
  | .bad => .bad
theorem Res.go_ok {α : Type} (a : α) (S : Sto) (ds : Ev) (k : α → Sto → RS) : (Res.ok a S).go ds k = k a S := rfl
theorem Res.go_exc {α : Type} (x : Exn) (S : Sto) (ds : Ev) (k : α → Sto → RS) : (Res.exc x S : Res α).go ds k = .exc x ds S := rfl
section
variable {α β : Type} {Rp : Ga → Hp → α → β → Prop} {K : PySem.W.Frag} {W : WX} {σ : L2.St} {γ γ0 : Ga} {H H0 : Hp} {S : Sto} {ds : Ev} {Dn : Ends}
/-- the state that what follows a part meets -/
def MidS (Rp : Ga → Hp → α → β → Prop) (K : PySem.W.Frag) (W : WX) (Dn : Ends) (σ : L2.St) (γ0 : Ga) (H0 : Hp) (ds : Ev) (k : α → Sto → RS) (b : β) (H1 : Hp) : Prop :=
  ∃ γ1 a S1, Ext γ0 H0 γ1 H1 ∧ StoR K γ1 S1 H1 ∧ EvR K γ1 H1 ds σ ∧ Rp γ1 H1 a b ∧ PostS K W Dn γ0 H0 (k a S1)
theorem PostS.go {F : Ev → Sto → Res α} {k : α → Sto → RS} (e : Ext γ0 H0 γ H) (st : StoR K γ S H) (ev : EvR K γ H ds σ) (h : PostS K W Dn γ0 H0 ((F ds S).go ds k)) : Rdg Rp K W F σ H (MidS Rp K W Dn σ γ0 H0 ds k) := by
  refine ⟨γ, ds, S, st, ev, ?_⟩
  cases q : F ds S with
  | ok a S1 => rw [q] at h; exact fun γ1 b H1 e1 st1 r => ⟨γ1, a, S1, e.trans e1, st1, ev.mono e1, r, h⟩
  | exc x S1 => rw [q] at h; exact fun γ1 c d H1 e1 st1 r => h γ1 σ H1 c d (e.trans e1) st1 (ev.mono e1) r
  | bad => rw [q] at h; exact h
end
section
variable {X : Cx} {W : WX} {pos : Pos} {st : Stmt} {rest sts : List Stmt} {F G : Fs} {e : Expr} {f g h : Fe} {t : Ev → Sto → Res Bool}
@[simp] def sNil : Fs := fun _ ds S => .nx ds S
@[simp] def sSeq (F G : Fs) : Fs := fun b ds S => match F b ds S with
  | .nx ds' S' => G b ds' S'
  | r => r
theorem ds_nil : DSs X W [] sNil := fun γ0 H0 => PSsimp pss_nil fun Dn σ H hw => by
  obtain ⟨γ, ds, S, e, st, ev, p⟩ := hw
  exact p γ σ H e st ev
theorem ds_one (h1 : DS X W st F) : DSs X W [st] F := fun γ0 H0 => pss_one (h1 γ0 H0)
theorem ds_cons (h1 : DS X W st F) (h2 : DSs X W rest G) : DSs X W (st :: rest) (sSeq F G) := fun γ0 H0 => PSsimp (pss_cons (h1 γ0 H0) (h2 γ0 H0)) fun Dn σ H hw => by
  obtain ⟨γ, ds, S, e, st, ev, p⟩ := hw
  refine ⟨γ, ds, S, e, st, ev, ?_⟩
  unfold sSeq at p
  cases q : F γ0.length ds S with
  | nx ds' S' => rw [q] at p; exact fun γ' σ' H' e' st' ev' => ⟨γ', ds', S', e', st', ev', p⟩
  | rt d S' => rw [q] at p; exact p
  | bk ds' S' => rw [q] at p; exact p
  | ct ds' S' => rw [q] at p; exact p
  | exc x ds' S' => rw [q] at p; exact p
  | bad => rw [q] at p; exact p
/-! small ones -/
@[simp] def sExpr (f : Fe) : Fs := fun _ ds S => (f ds S).go ds fun _ S1 => .nx ds S1
theorem ds_expr (he : DE X W e f) (hs : swapsWith e none pos.line X.env = pure false := by rfl) : DS X W (.Expr e pos) (sExpr f) := fun γ0 H0 => PSimp (ps_expr he hs) fun Dn σ H hw => by
  obtain ⟨γ, ds, S, e, st, ev, p⟩ := hw
  exact (PostS.go (Rp := Rep X.K) e st ev p).imp fun v H1 ⟨γ1, d, S1, e1, st1, ev1, r1, p1⟩ => p1 γ1 σ H1 e1 st1 ev1
@[simp] def sRet (f : Fe) : Fs := fun _ ds S => (f ds S).go ds fun d S1 => .rt d S1
theorem ds_ret (he : DE X W e f) : DS X W (.Return (some e) pos) (sRet f) := fun γ0 H0 => PSimp (ps_ret he) fun Dn σ H hw => by
  obtain ⟨γ, ds, S, e, st, ev, p⟩ := hw
  exact (PostS.go (Rp := Rep X.K) e st ev p).imp fun v H1 ⟨γ1, d, S1, e1, st1, ev1, r1, p1⟩ => p1 γ1 v H1 e1 st1 r1
@[simp] def sRetN : Fs := fun _ _ S => .rt .non S
theorem ds_retN : DS X W (.Return none pos) sRetN := fun γ0 H0 => PSimp ps_retN fun Dn σ H hw => by
  obtain ⟨γ, ds, S, e, st, ev, p⟩ := hw
  exact p γ _ H e st .non
theorem ds_pass : DS X W (.Pass pos) sNil := fun γ0 H0 => PSimp ps_pass fun Dn σ H hw => by
  obtain ⟨γ, ds, S, e, st, ev, p⟩ := hw
  exact p γ σ H e st ev
@[simp] def sBrk : Fs := fun _ ds S => .bk ds S
@[simp] def sCont : Fs := fun _ ds S => .ct ds S
theorem ds_break : DS X W (.Break pos) sBrk := fun γ0 H0 => PSimp ps_break fun Dn σ H hw => by
  obtain ⟨γ, ds, S, e, st, ev, p⟩ := hw
  exact p γ σ H e st ev
theorem ds_continue : DS X W (.Continue pos) sCont := fun γ0 H0 => PSimp ps_continue fun Dn σ H hw => by
  obtain ⟨γ, ds, S, e, st, ev, p⟩ := hw
  exact p γ σ H e st ev
@[simp] def sIf (t : Ev → Sto → Res Bool) (F G : Fs) : Fs := fun b ds S => (t ds S).go ds fun k S1 => if k = true then F b ds S1 else G b ds S1
theorem ds_if {a b : List Stmt} (hc : DT X W e t) (ha : DSs X W a F) (hb : DSs X W b G) : DS X W (.If e a b pos) (sIf t F G) := fun γ0 H0 => PSimp (ps_if hc (ha γ0 H0) (hb γ0 H0)) fun Dn σ H hw => by
  obtain ⟨γ, ds, S, e, st, ev, p⟩ := hw
  refine (PostS.go (Rp := RpB) e st ev p).imp fun v H1 ⟨γ1, d, S1, e1, st1, ev1, r1, p1⟩ => ?_
  cases r1
  cases v with
  | true => rw [if_pos rfl]; exact ⟨γ1, ds, S1, e1, st1, ev1, p1⟩
  | false => rw [if_neg Bool.false_ne_true]; exact ⟨γ1, ds, S1, e1, st1, ev1, p1⟩

/-! ### targets -/
abbrev Ft := D → Ev → Option Ev
/-- nothing but the slots at ws has changed -/
def Only (ws : List Nat) (σ σ' : L2.St) : Prop := ∀ us : List Nat, (∀ i ∈ ws, i ∈ us) → wipe σ' us = wipe σ us
theorem wipe_set {σ : L2.St} {x : Option V} {i : Nat} : ∀ {us : List Nat}, i ∈ us → wipe (σ.set i x) us = wipe σ us
  | [], h => by simp at h
  | u :: us, h => by
    show (wipe (σ.set i x) us).set u none = (wipe σ us).set u none
    by_cases hm : i ∈ us
    · rw [wipe_set hm]
    · have hu : i = u := by
        rcases List.mem_cons.mp h with h | h
        · exact h
        · exact absurd h hm
      subst hu
      have : ∀ us : List Nat, i ∉ us → wipe (σ.set i x) us = (wipe σ us).set i x := by
        intro us
        induction us with
        | nil => intro _; rfl
        | cons w ws ih =>
          intro hw
          show (wipe (σ.set i x) ws).set w none = ((wipe σ ws).set w none).set i x
          rw [ih fun z => hw (List.mem_cons_of_mem _ z), List.set_comm _ _ (fun z : w = i => hw (by rw [z]; exact List.mem_cons_self))]
      rw [this us hm, List.set_set]
theorem Only.refl {ws : List Nat} {σ : L2.St} : Only ws σ σ := fun _ _ => rfl
theorem Only.set {i : Nat} {σ : L2.St} {x : Option V} : Only [i] σ (σ.set i x) := fun us h => wipe_set (h i (by simp))
theorem Only.trans {ws us : List Nat} {σ σ1 σ2 : L2.St} (a : Only ws σ σ1) (b : Only us σ1 σ2) : Only (ws ++ us) σ σ2 := fun vs h => (b vs fun i hi => h i (List.mem_append_right _ hi)).trans (a vs fun i hi => h i (List.mem_append_left _ hi))
/-- a target: what it does to the names, which ones -/
def rdG (K : PySem.W.Frag) (T : Ft) (ws : List Nat) : TG := fun v σ H Q => ∃ γ d ds ds', Rep K γ H d v ∧ EvR K γ H ds σ ∧ T d ds = some ds' ∧ ∀ σ', EvR K γ H ds' σ' → Only ws σ σ' → Q σ' H
abbrev DG (X : Cx) (tg : Expr) (T : Ft) (ws : List Nat) : Prop := PG X tg (rdG X.K T ws)
abbrev Fts := List D → Ev → Option Ev
def rdGs (K : PySem.W.Frag) (T : Fts) (ws : List Nat) : List V → L2.St → Hp → (L2.St → Hp → Prop) → Prop := fun vs σ H Q => ∃ γ l ds ds', Reps K γ H l vs ∧ EvR K γ H ds σ ∧ T l ds = some ds' ∧ ∀ σ', EvR K γ H ds' σ' → Only ws σ σ' → Q σ' H
abbrev DGs (X : Cx) (tgs : List Expr) (T : Fts) (ws : List Nat) : Prop := PGs X tgs (rdGs X.K T ws)
theorem PGimp {X : Cx} {tg : Expr} {g g' : TG} (h : PG X tg g) (k : ∀ v σ H Q, g' v σ H Q → g v σ H Q) : PG X tg g' := ⟨fun pins s σ H v u Q I r q => h.run pins s σ H v u Q I r (k v σ H Q q)⟩
theorem PGsimp {X : Cx} {tgs : List Expr} {g g' : List V → L2.St → Hp → (L2.St → Hp → Prop) → Prop} (h : PGs X tgs g) (k : ∀ v σ H Q, g' v σ H Q → g v σ H Q) : PGs X tgs g' := ⟨fun pins s σ H v u Q I r q => h.run pins s σ H v u Q I r (k v σ H Q q)⟩
theorem EvR.set {K : PySem.W.Frag} {γ : Ga} {H : Hp} {ds : Ev} {σ : L2.St} {d : D} {v : V} (ev : EvR K γ H ds σ) (i : Nat) (r : Rep K γ H d v) : EvR K γ H (ds.set i (some d)) (σ.set i (some v)) := by
  refine ⟨by simp [ev.len], fun j d' h => ?_⟩
  by_cases hj : i = j
  · subst hj
    have hi : i < ds.length := by
      have := (List.getElem?_eq_some_iff.mp h).1
      simpa using this
    rw [List.getElem?_set_self hi] at h
    cases h
    exact ⟨v, by rw [List.getElem?_set_self (by rw [← ev.len]; exact hi)], r⟩
  · rw [List.getElem?_set_ne hj] at h
    obtain ⟨w, h1, h2⟩ := ev.at_ j d' h
    exact ⟨w, by rw [List.getElem?_set_ne hj]; exact h1, h2⟩
@[simp] def gN (i : Nat) : Ft := fun d ds => some (ds.set i (some d))
theorem dg_name (i : Nat) {x : Str} (hN : X.N.Nodup) (hi : X.N[i]? = some x := by rfl) (hx : Loc X.env.scope x := by first | exact .inl rfl | exact .inr rfl)
    (hf : X.fn x = true ∨ X.env.scope.names.lookup x = some .local := by first | exact .inl rfl | exact .inr rfl | assumption) : DG X (.Name x pos) (gN i) [i] :=
  PGimp (pg_name hN hi hx hf) fun v σ H Q ⟨γ, d, ds, ds', r, ev, e, k⟩ => by cases e; exact k _ (ev.set i r) .set
@[simp] def gE : Fts := fun l ds => match l with
  | [] => some ds
  | _ => none
@[simp] def gC (T : Ft) (U : Fts) : Fts := fun l ds => match l with
  | d :: r => (T d ds).bind fun ds1 => U r ds1
  | [] => none
theorem dg_nil : DGs X [] gE [] := PGsimp pgs_nil fun vs σ H Q ⟨γ, l, ds, ds', r, ev, e, k⟩ => by
  cases r with
  | nil => cases e; exact ⟨rfl, k _ ev .refl⟩
  | cons _ _ => cases e
theorem dg_cons {e : Expr} {es : List Expr} {T : Ft} {U : Fts} {ws us : List Nat} (h1 : DG X e T ws) (h2 : DGs X es U us) (hs : (assignEach (e :: es) X.env).map (·.2) = assign e X.env :: (assignEach es X.env).map (·.2) := by rfl) : DGs X (e :: es) (gC T U) (ws ++ us) := by
  refine PGsimp (pgs_cons h1 h2 hs) fun vs σ H Q ⟨γ, l, ds, ds', r, ev, e, k⟩ => ?_
  cases r with
  | nil => cases e
  | @cons d v l' vs' r t =>
    unfold gC at e
    dsimp only at e
    cases q : T d ds with
    | none => rw [q] at e; cases e
    | some ds1 =>
      rw [q] at e
      exact ⟨v, vs', rfl, γ, d, ds, ds1, r, ev, q, fun σ' ev' o1 => ⟨γ, l', ds1, ds', t, ev', e, fun σ2 ev2 o2 => k σ2 ev2 (o1.trans o2)⟩⟩
@[simp] def gT (n : Nat) (U : Fts) : Ft := fun d ds => match d with
  | .tup l => if l.length = n then U l ds else none
  | _ => none
theorem dg_tup {es : List Expr} {kk n : Nat} {U : Fts} {ws : List Nat} (hc : X.calm = true) (h : DGs X es U ws) (hn : (assignEach es X.env).length = n := by rfl) (hst : (assignEach es X.env).findIdx? (·.1) = none := by rfl) : DG X (.Tuple es kk pos) (gT n U) ws := by
  refine PGimp (pg_tup hc h hn hst) fun v σ H Q ⟨γ, d, ds, ds', r, ev, e, q⟩ => ?_
  cases d <;> first | cases e | skip
  obtain ⟨a, vs, rfl, ha, t⟩ := rep_tup r
  unfold gT at e
  dsimp only at e
  split at e
  · rename_i hl
    exact ⟨a, vs, rfl, .of ha, by rw [← t.length]; exact hl, γ, _, ds, ds', t, ev, e, q⟩
  · cases e
/-- name = e -/
@[simp] def sSet (i : Nat) (f : Fe) : Fs := fun _ ds S => (f ds S).go ds fun d S1 => .nx (ds.set i (some d)) S1
theorem ds_set (i : Nat) {x : Str} {pos' : Pos} (hN : X.N.Nodup) (he : DE X W e f) (hi : X.N[i]? = some x := by rfl) (hx : Loc X.env.scope x := by first | exact .inl rfl | exact .inr rfl) (hs : swapsWith e (some (.Name x pos')) pos.line X.env = pure false := by rfl)
    (hf : X.fn x = true ∨ X.env.scope.names.lookup x = some .local := by first | exact .inl rfl | exact .inr rfl | assumption) : DS X W (.Assign [.Name x pos'] e pos) (sSet i f) := fun γ0 H0 => PSimp (ps_set hN hi hx he hs hf) fun Dn σ H hw => by
  obtain ⟨γ, ds, S, e, st, ev, p⟩ := hw
  exact (PostS.go (Rp := Rep X.K) e st ev p).imp fun v H1 ⟨γ1, d, S1, e1, st1, ev1, r1, p1⟩ => p1 γ1 _ H1 e1 st1 (ev1.set i r1)
/-- a, b, .. = e -/
@[simp] def sAsg (T : Ft) (f : Fe) : Fs := fun _ ds S => (f ds S).go ds fun d S1 => match T d ds with
  | some ds' => .nx ds' S1
  | none => .bad
theorem ds_asg {tg : Expr} {T : Ft} {ws : List Nat} (he : DE X W e f) (hg : DG X tg T ws) (hs : swapsWithSole [tg] e pos.line X.env = pure false := by rfl) (hw : swappedStores [tg] e X.env = pure none := by rfl)
    (h1 : (assignEach [tg] X.env).map (·.2) = [assign tg X.env] := by rfl) : DS X W (.Assign [tg] e pos) (sAsg T f) := fun γ0 H0 => by
  refine PSimp (ps_asg he hg hs hw h1) fun Dn σ H hw => ?_
  obtain ⟨γ, ds, S, e, st, ev, p⟩ := hw
  refine (PostS.go (Rp := Rep X.K) e st ev p).imp fun v H1 ⟨γ1, d, S1, e1, st1, ev1, r1, p1⟩ => ?_
  dsimp only at p1
  cases q : T d ds with
  | none => rw [q] at p1; exact p1.elim
  | some ds' =>
    rw [q] at p1
    exact ⟨γ1, d, ds, ds', r1, ev1, q, fun σ' ev' _ => p1 γ1 σ' H1 e1 st1 ev'⟩
/-- name += e (ints) -/
def sAug (i : Nat) (o : Op2) (f : Fe) : Fs := fun _ ds S => match ds[i]? with
  | some (some x) => (f ds S).go ds fun y S1 => (o x y S1).go ds fun z S2 => .nx (ds.set i (some z)) S2
  | _ => .bad
theorem ds_augAdd (i : Nat) {x : Str} {pos' : Pos} (hN : X.N.Nodup) (he : DE X W e f) (hi : X.N[i]? = some x := by rfl) (hx : Loc X.env.scope x := by first | exact .inl rfl | exact .inr rfl)
    (hf : X.fn x = true ∨ X.env.scope.names.lookup x = some .local := by first | exact .inl rfl | exact .inr rfl | assumption) : DS X W (.AugAssign (.Name x pos') .Add e pos) (sAug i (oI (fun _ _ => true) fun a b => .int (a + b)) f) := fun γ0 H0 => PSimp (ps_aug hN hi hx he ip_add hf) fun Dn σ H hw => by
  obtain ⟨γ, ds, S, e, st, ev, p⟩ := hw
  unfold sAug at p
  cases q : ds[i]? with
  | none => rw [q] at p; exact p.elim
  | some od =>
    cases od with
    | none => rw [q] at p; exact p.elim
    | some d =>
      rw [q] at p
      obtain ⟨v, hv, r⟩ := ev.at_ i d q
      refine ⟨v, hv, (PostS.go (Rp := Rep X.K) (F := f) e st ev p).imp fun y H1 ⟨γ1, d1, S1, e1, st1, ev1, r1, p1⟩ => ?_⟩
      cases d with
      | int k =>
        cases rep_int r
        cases d1 with
        | int m =>
          cases rep_int r1
          exact ⟨k, m, rfl, rfl, p1 γ1 _ H1 e1 st1 (ev1.set i (.int _))⟩
        | _ => exact p1.elim
      | _ => cases d1 <;> exact p1.elim
/-- o[i] = e, o a list that is written -/
@[simp] def sSetIx (fo fi f : Fe) : Fs := fun _ ds S => (f ds S).go ds fun v S1 => (fo ds S1).go ds fun o S2 => (fi ds S2).go ds fun i S3 => match o, i with
  | .ref n, .int k => match S3[n]? with
    | some (.lst l) => match ixN l.length k with
      | some j => .nx ds (S3.set n (.lst (l.set j v)))
      | none => .bad
    | _ => .bad
  | _, _ => .bad
theorem Ext.of_mid {γ0 γ γ1 : Ga} {H0 H H1 : Hp} (a : Ext γ0 H0 γ H) (b : Ext γ H γ1 H1) : Ext γ0 H0 γ1 H1 := a.trans b
/-- as PostS.go, with what has become of the heap meanwhile -/
def MidX {α β : Type} (Rp : Ga → Hp → α → β → Prop) (K : PySem.W.Frag) (W : WX) (Dn : Ends) (σ : L2.St) (γ0 : Ga) (H0 : Hp) (γ : Ga) (H : Hp) (ds : Ev) (k : α → Sto → RS) (b : β) (H1 : Hp) : Prop :=
  ∃ γ1 a S1, Ext γ H γ1 H1 ∧ StoR K γ1 S1 H1 ∧ EvR K γ1 H1 ds σ ∧ Rp γ1 H1 a b ∧ PostS K W Dn γ0 H0 (k a S1)
theorem PostS.goX {α β : Type} {Rp : Ga → Hp → α → β → Prop} {K : PySem.W.Frag} {W : WX} {σ : L2.St} {γ γ0 : Ga} {H H0 : Hp} {S : Sto} {ds : Ev} {Dn : Ends} {F : Ev → Sto → Res α} {k : α → Sto → RS} (e : Ext γ0 H0 γ H) (st : StoR K γ S H) (ev : EvR K γ H ds σ) (h : PostS K W Dn γ0 H0 ((F ds S).go ds k)) : Rdg Rp K W F σ H (MidX Rp K W Dn σ γ0 H0 γ H ds k) := by
  refine ⟨γ, ds, S, st, ev, ?_⟩
  cases q : F ds S with
  | ok a S1 => rw [q] at h; exact fun γ1 b H1 e1 st1 r => ⟨γ1, a, S1, e1, st1, ev.mono e1, r, h⟩
  | exc x S1 => rw [q] at h; exact fun γ1 c d H1 e1 st1 r => h γ1 σ H1 c d (e.trans e1) st1 (ev.mono e1) r
  | bad => rw [q] at h; exact h
theorem ds_setIx {o i : Expr} {fo fi : Fe} {pos' : Pos} (he : DE X W e f) (ho : DE X W o fo) (hi : DE X W i fi)
    (ha : ∀ v, assign (.Subscript o i pos') X.env v = (do
      let ov ← holding [v] (eval o X.env)
      let iv ← holding [v, ov] (eval i X.env)
      standAt pos'
      holding [v, ov, iv] (setItem ov iv v)
      release [v, ov, iv] []) := by intro _; rfl)
    (hs : swapsWithSole [.Subscript o i pos'] e pos.line X.env = pure false := by rfl) (hw : swappedStores [.Subscript o i pos'] e X.env = pure none := by rfl)
    (h1 : (assignEach [.Subscript o i pos'] X.env).map (·.2) = [assign (.Subscript o i pos') X.env] := by rfl) : DS X W (.Assign [.Subscript o i pos'] e pos) (sSetIx fo fi f) := fun γ0 H0 => by
  refine PSimp (ps_asg he (pg_sub ho hi set_list ha) hs hw h1) fun Dn σ H hw => ?_
  obtain ⟨γ, ds, S, e, st, ev, p⟩ := hw
  refine (PostS.goX (Rp := Rep X.K) e st ev p).imp fun v H1 ⟨γ1, d1, S1, e1, st1, ev1, r1, p1⟩ => ?_
  refine (PostS.goX (Rp := Rep X.K) (e.trans e1) st1 ev1 p1).imp fun o H2 ⟨γ2, d2, S2, e2, st2, ev2, r2, p2⟩ => ?_
  refine (PostS.goX (Rp := Rep X.K) ((e.trans e1).trans e2) st2 ev2 p2).imp fun i H3 ⟨γ3, d3, S3, e3, st3, ev3, r3, p3⟩ => ?_
  dsimp only at p3
  cases d2 with
  | ref n =>
    cases d3 with
    | int k =>
      dsimp only at p3
      cases hn : S3[n]? with
      | none => rw [hn] at p3; exact p3.elim
      | some c =>
        rw [hn] at p3
        cases c with
        | obj _ _ => first | exact p.elim | exact p1.elim | exact p3.elim | (cases h; done) | (exact absurd h Bool.false_ne_true) | exact False.elim (by assumption)
        | dct _ => first | exact p.elim | exact p1.elim | exact p3.elim | (cases h; done) | (exact absurd h Bool.false_ne_true) | exact False.elim (by assumption)
        | dk _ => first | exact p.elim | exact p1.elim | exact p3.elim | (cases h; done) | (exact absurd h Bool.false_ne_true) | exact False.elim (by assumption)
        | lst l =>
          dsimp only at p3
          cases hj : ixN l.length k with
          | none => rw [hj] at p3; exact p3.elim
          | some j =>
            rw [hj] at p3
            cases rep_int r3
            obtain ⟨a, vs, rfl, g, ha, t⟩ := st3.lst hn (r2.mono e3)
            refine ⟨a, vs, k, j, rfl, rfl, ha, by rw [← t.length]; exact hj, ?_⟩
            have rv := (r1.mono e2).mono e3
            have ew : Ext γ3 H3 γ3 (upd H3 a (.lst (vs.set j v))) := st3.write g ha (fun xs z => by cases z)
            exact p3 γ3 _ _ ((((e.trans e1).trans e2).trans e3).trans ew) (st3.set (es := l) g ha (t.set rv j)) (ev3.mono ew)
    | _ => exact p3.elim
  | _ => cases d3 <;> exact p3.elim

/-! ### methods of lists -/
def isL (S : Sto) : D → Bool
  | .lst _ => true
  | .ref n => match S[n]? with
    | some (.lst _) => true
    | _ => false
  | _ => false
theorem isL_at {K : PySem.W.Frag} {γ : Ga} {H : Hp} {S : Sto} {d : D} {v : V} (st : StoR K γ S H) (r : Rep K γ H d v) (h : isL S d = true) : tyV K "list" v H := by
  have go : ∀ l, lstOf S d = some l → tyV K "list" v H := by
    intro l q
    obtain ⟨a, vs, rfl, ha, _⟩ := lstOf_at q st r
    exact .inl ⟨rfl, _, SqL.of ha⟩
  cases d <;> first | exact absurd h Bool.false_ne_true | skip
  · exact go _ rfl
  · rename_i n
    unfold isL at h
    dsimp only at h
    cases q : S[n]? with
    | none => rw [q] at h; cases h
    | some c =>
      cases c with
      | obj _ _ => (rw [q] at h; cases h)
      | dct _ => (rw [q] at h; cases h)
      | dk _ => (rw [q] at h; cases h)
      | lst l => exact go l (by unfold lstOf; dsimp only; rw [q])
abbrev OpM := D → List D → Sto → Res D
def DoesM (K : PySem.W.Frag) (W : WX) (r : V → List V → Hp → VK → Prop) (o : OpM) : Prop := ∀ (γ : Ga) (S : Sto) (H : Hp) (x : D) (v : V) (xs : List D) (vs : List V) (σ : L2.St) (Q : VK), StoR K γ S H → Rep K γ H x v → Reps K γ H xs vs →
  Post (Rep K) K W σ Q γ H (o x xs S) → r v vs H Q
@[simp] def fMt (op : OpM) (fo : Fe) (fa : Fa) : Fe := fun ds S => (fo ds S).bind fun o S1 => if isL S1 o = true then (fa ds S1).bind fun xs S2 => op o xs S2 else .bad
theorem rd_mt {r : V → List V → Hp → VK → Prop} {op : OpM} {fo : Fe} {fa : Fa} (ho : DoesM X.K W r op) {σ : L2.St} {H : Hp} {Q : VK} (hw : rdE X.K W (fMt op fo fa) σ H Q) : tBM X.K "list" r (rdE X.K W fo) (rdA X.K W fa) σ H Q := by
  obtain ⟨γ, ds, S, st, ev, p⟩ := hw
  refine (Post.bind (Rp := Rep X.K) st ev p).imp fun v H1 ⟨γ1, d1, S1, e1, st1, ev1, r1, p1⟩ => ?_
  obtain ⟨hl, p1⟩ := Post.ite p1
  refine ⟨isL_at st1 r1 hl, ?_⟩
  refine (Post.bind (Rp := Reps X.K) st1 ev1 p1).imp fun vs H2 ⟨γ2, xs, S2, e2, st2, ev2, r2, p2⟩ => ?_
  exact ho γ2 S2 H2 d1 v xs vs σ Q st2 (r1.mono e2) r2 p2
/-- a method of list by its name -/
structure LMeth (X : Cx) (W : WX) (m : Str) (op : OpM) : Prop where
  ok : ∃ id r, Slot "list" m id ∧ typeOf (.builtin id) = pure (.type "method_descriptor") ∧ MtR X id r ∧ DoesM X.K W r op
theorem de_mt {o : Expr} {es : List Expr} {m : Str} {op : OpM} {fo : Fe} {fa : Fa} {apos : Pos} (hm : LMeth X W m op) (ho : DE X W o fo) (ha : DA X W (e :: es) fa)
    (hbase : attributeBase o m X.env (eval o X.env) = eval o X.env := by rfl)
    (hfew : ((backTo pos (starEach (e :: es) X.env)).all (fun x => !x.1) && (backToKw pos (keywordEach [] X.env)).all (fun x => x.1.isSome)
      && decide ((e :: es).length + ([] : List Keyword).length + (if ([] : List Keyword).isEmpty then 0 else 1) < 30)) = true := by rfl)
    (hline : (apos.endLine == pos.line) = true := by rfl) (hs : starEach (e :: es) X.env = (false, eval e X.env) :: starEach es X.env := by rfl) (hplain : (backTo pos (starEach es X.env)).any (·.1) = false := by rfl) :
    DE X W (.Call (.Attribute o m apos) (e :: es) [] pos) (fMt op fo fa) := by
  obtain ⟨id, r, hsl, hty, hmt, hd⟩ := hm.ok
  exact PEimp (pe_bm PySem.F.plainAttrs_list hsl hty hmt ho ha hbase hfew hline hs hplain) fun _ _ _ => rd_mt hd
@[simp] def oAppend : OpM := fun o xs S => match o, xs with
  | .ref n, [x] => match S[n]? with
    | some (.lst l) => if fits l.length = true then .ok .non (S.set n (.lst (l ++ [x]))) else .bad
    | _ => .bad
  | _, _ => .bad
theorem does_append {K : PySem.W.Frag} : DoesM K W rAppend oAppend := by
  intro γ S H o v xs vs σ Q st r rs p
  cases o <;> first | (cases xs <;> exact p.elim) | skip
  rename_i n
  cases rs with
  | nil => exact p.elim
  | cons rx rt =>
    cases rt with
    | cons _ _ => exact p.elim
    | nil =>
      rename_i x y
      change Post (Rep K) K W σ Q γ H (match S[n]? with
        | some (.lst l) => if fits l.length = true then .ok .non (S.set n (.lst (l ++ [x]))) else .bad
        | _ => .bad) at p
      cases hn : S[n]? with
      | none => rw [hn] at p; exact p.elim
      | some c =>
        rw [hn] at p
        cases c with
        | obj _ _ => first | exact p.elim | exact p1.elim | exact p3.elim | (cases h; done) | (exact absurd h Bool.false_ne_true) | exact False.elim (by assumption)
        | dct _ => first | exact p.elim | exact p1.elim | exact p3.elim | (cases h; done) | (exact absurd h Bool.false_ne_true) | exact False.elim (by assumption)
        | dk _ => first | exact p.elim | exact p1.elim | exact p3.elim | (cases h; done) | (exact absurd h Bool.false_ne_true) | exact False.elim (by assumption)
        | lst l =>
          obtain ⟨hf, p⟩ := Post.ite p
          obtain ⟨a, us, rfl, g, ha, t⟩ := st.lst hn r
          have ew : Ext γ H γ (upd H a (.lst (us ++ [y]))) := st.write g ha (fun xs z => by cases z)
          exact ⟨a, us, y, rfl, rfl, ha, by rw [← t.length]; exact fits_lt hf, p γ _ _ ew (st.set (es := l) g ha (t.append (.one rx))) .non⟩
theorem m_append : LMeth X W "append" oAppend := ⟨_, _, PySem.F.slot_list_append, PySem.F.type_list_append, mt_append, does_append⟩
@[simp] def oExtend : OpM := fun o xs S => match o, xs with
  | .ref n, [x] => match S[n]?, lstOf S x with
    | some (.lst l), some m => if fits (l.length + m.length) = true then .ok .non (S.set n (.lst (l ++ m))) else .bad
    | _, _ => .bad
  | _, _ => .bad
theorem does_extend {K : PySem.W.Frag} : DoesM K W rExtend oExtend := by
  intro γ S H o v xs vs σ Q st r rs p
  cases o <;> first | (cases xs <;> exact p.elim) | skip
  rename_i n
  cases rs with
  | nil => exact p.elim
  | cons rx rt =>
    cases rt with
    | cons _ _ => exact p.elim
    | nil =>
      rename_i x y
      change Post (Rep K) K W σ Q γ H (match S[n]?, lstOf S x with
        | some (.lst l), some m => if fits (l.length + m.length) = true then .ok .non (S.set n (.lst (l ++ m))) else .bad
        | _, _ => .bad) at p
      cases hn : S[n]? with
      | none => rw [hn] at p; exact p.elim
      | some c =>
        cases c with
        | obj _ _ => (rw [hn] at p; cases lstOf S x <;> exact p.elim)
        | dct _ => (rw [hn] at p; cases lstOf S x <;> exact p.elim)
        | dk _ => (rw [hn] at p; cases lstOf S x <;> exact p.elim)
        | lst l =>
          cases hx : lstOf S x with
          | none => rw [hn, hx] at p; exact p.elim
          | some m =>
            rw [hn, hx] at p
            obtain ⟨hf, p⟩ := Post.ite p
            obtain ⟨a, us, rfl, g, ha, t⟩ := st.lst hn r
            obtain ⟨b, ws, rfl, hb, t2⟩ := lstOf_at hx st rx
            have ew : Ext γ H γ (upd H a (.lst (us ++ ws))) := st.write g ha (fun xs z => by cases z)
            exact ⟨a, b, us, ws, rfl, rfl, ha, hb, by rw [← t.length, ← t2.length]; exact fits_line hf, p γ _ _ ew (st.set (es := l) g ha (t.append t2)) .non⟩
theorem m_extend : LMeth X W "extend" oExtend := ⟨_, _, PySem.F.slot_list_extend, PySem.F.type_list_extend, mt_extend, does_extend⟩
end
end DL

set_option maxRecDepth 100000
set_option maxHeartbeats 4000000
/-! Dl5e: enumerate(a tuple), sum(a tuple) -/
namespace PySem
open Sem (wp)
theorem dl_meets_enumB {v : Value} {o : Obj} {H : Heap → Prop} (B : Begins v o H) :
    Meets (Builtin.«enumerate.__new__» ⟨[.type "enumerate", v], []⟩) (fun _ R s => H s.heap ∧
      R (.ok (.ret (.ref (s.heap.push o).objs.size))) { s with heap := (s.heap.push o).push { cls := .type "enumerate", data := .fields #[.none, .bool false, .ref s.heap.objs.size, rawInt 0, .none, .none] } }) :=
  .of_wp fun prog w A R s h => by
    obtain ⟨hp, g, d, tk, os⟩ := s; obtain ⟨h1, h⟩ := h
    have hsub := sub_enumerate
    have q1 : ∀ {A' : Around} {E : Value → Shared → Prop} {Q : Value → Shared → Prop}, Q (.ref hp.objs.size) ⟨hp.push o, g, d, tk, os⟩ → wpAny (model prog w) A' (pyIter v) Q E ⟨hp, g, d, tk, os⟩ :=
      fun q => B.iter prog w _ _ ⟨hp, g, d, tk, os⟩ _ h1 q
    wp_walk using q1
    refine wpAny_stack_any fun st => wpAny_pure ?_
    split
    · rename_i c _ _ _ _ _
      cases (c == Value.type "enumerate")
      · wp_walk using q1
        exact ⟨_, rfl, h⟩
      · wp_walk using q1
        exact ⟨_, rfl, h⟩
    · wp_walk using q1
      exact ⟨_, rfl, h⟩
section
variable {prog : Program} {w : World} {A : Around} {E : Value → Shared → Prop} {s : Shared}
theorem dl_enum_begins {v : Value} {o : Obj} {H : Heap → Prop} {Q : Value → Shared → Prop} (B : Begins v o H) (h1 : H s.heap)
    (h : ∀ h', IsEnum h' (s.heap.objs.size + 1) s.heap.objs.size 0 .none → h'.get? s.heap.objs.size = some o → h'.objs.size = s.heap.objs.size + 2 →
      (∀ b o, s.heap.get? b = some o → h'.get? b = some o) → Q (.ref (s.heap.objs.size + 1)) { s with heap := h' }) :
    wpAny (model prog w) A (call (.type "enumerate") [v]) Q E s := by
  refine callType_new F.called_enumerate (by decide) (F.typeCall_enumerate_1 _) (F.newCall_enumerate_1 _) (fun obj => F.args_object_init_2 obj _) F.entry_enumerate_new
    (dl_meets_enumB B) ⟨h1, ?_⟩
  have hz : (s.heap.push o).objs.size = s.heap.objs.size + 1 := Heap.size_push ..
  show _ ∧ _
  rw [hz]
  have he : IsEnum ((s.heap.push o).push { cls := .type "enumerate", data := .fields #[.none, .bool false, .ref s.heap.objs.size, rawInt 0, .none, .none] }) (s.heap.objs.size + 1) s.heap.objs.size 0 .none := by
    have := Heap.get?_push_size (s.heap.push o) (o := { cls := .type "enumerate", data := .fields #[.none, .bool false, .ref s.heap.objs.size, rawInt 0, .none, .none] }) rfl
    rw [hz] at this; exact this
  refine ⟨⟨_, he, rfl⟩, h _ he (Heap.get?_push_of_some _ (Heap.get?_push_size _ B.free)) (by rw [Heap.size_push, hz]) fun b o x => Heap.get?_push_of_some _ (Heap.get?_push_of_some _ x)⟩
/-- sum of a tuple of ints -/
theorem dl_sum_tup {l : Addr} {its : List Value} {ns : List Int} {Q : Value → Shared → Prop} (hh : A.handled = none) (hl : s.heap.IsTuple l its.toArray) (hi : PyProof.Rows.IntsAre its ns)
    (h : ∀ h' tk t', (∀ b o, s.heap.get? b = some o → h'.get? b = some o) → Q (.int ns.sum t') { s with heap := h', toks := tk }) : wpAny (model prog w) A (call (.builtin "sum") [.ref l]) Q E s := by
  obtain ⟨xs, e⟩ := hi.allInts.items
  have hn : numsOf (intItems xs).toList = ns := by rw [← e]; exact hi.numsOf
  rw [nums_intItems] at hn
  rw [e] at hl
  have hlt : l < s.heap.objs.size := by obtain ⟨o, ho, _⟩ := hl; exact Heap.lt_size ho
  refine call_sum_walkG (wpAny_pyIter_tuple hl ?_)
  refine ⟨_, _, _, _, _, _, numAt xs, rfl, Walks.tuple (A := A.in1) hh s.heap.objs.size l (Nat.ne_of_lt hlt) (intItems xs), ⟨⟨_, Heap.get?_push_size _ rfl, rfl, rfl⟩, hl.push _⟩, fun b hb => ?_, (fun _ _ => intItems_at), fun h' tk t' hk => ?_⟩
  · show b < (s.heap.push _).objs.size
    rw [Heap.size_push]
    have e2 : b = s.heap.objs.size ∨ b = l := by simpa using hb
    rcases e2 with z | z
    · rw [z]; exact Nat.lt_succ_self _
    · rw [z]; exact Nat.lt_succ_of_lt hlt
  · have hk2 : ∀ b o, s.heap.get? b = some o → h'.get? b = some o := fun b o q => hk b o (fun z => by
      have z2 : b = s.heap.objs.size := by simpa using z
      exact absurd (Heap.lt_size q) (by rw [z2]; exact Nat.lt_irrefl _)) (Heap.get?_push_of_some _ q)
    have q := h h' tk t' hk2
    rw [preSum_eq, List.take_of_length_le (by simp [intItems])]
    rw [hn]
    exact q
end
end PySem
namespace DL
open PySem PySem.Spec L2
open PyProof.Rows (IntsAre Call_)
def rSumT (K : PySem.W.Frag) : List V → Hp → VK → Prop := fun vs H Q => ∃ (a : Addr) (ns : List Int), vs = [V.ref a] ∧ SqT K H a (ns.map V.int) ∧ Q (.int ns.sum) H
theorem cr_sumT {X : Cx} (hc : X.calm = true) : CallR X (.builtin "sum") (rSumT X.K) := by
  intro pins s σ H vs us Q I r h
  obtain ⟨a, ns, rfl, hs, q⟩ := h
  obtain ⟨u, rfl, ru⟩ := vals1 r
  cases ru
  obtain ⟨its, rv, p, hz⟩ := I.tuple hs
  exact PySem.dl_sum_tup (I.ok.hd hc) p (intsAre_of rv) fun h' tk t' hk => ⟨.int ns.sum, H, I.kept hk, ⟨t', rfl⟩, q⟩
/-! ### enumerate(tuple) -/
def IteT (K : PySem.W.Frag) (a : Addr) : It :=
  ⟨fun i H => ∃ (xs : List V) (x : V), SqT K H a xs ∧ xs[i]? = some x, fun i H v H' => ∃ T x, v = .ref T ∧ H T = none ∧ H' = upd H T (.tup [.int (i : Nat), x]) ∧ ∀ xs, SqT K H a xs → xs[i]? = some x, fun i H => ∃ xs : List V, SqT K H a xs ∧ xs.length = i⟩
theorem turn_enumT {P : Program} {w : World} {K : PySem.W.Frag} {elts : List Expr} {kk : Nat} {tpos : Pos} (a e it : Addr) (hae : a ≠ it) (hae2 : a ≠ e) :
    Turn P w K (.Tuple elts kk tpos) (IteT K a) [e, it] e (fun i h => (∃ old, IsEnum h e it ((i : Nat) : Int) old) ∧ h.IsTupleIter it a i ∧ e ≠ it) where
  mem := by simp
  obj := fun i h st b hb => by
    obtain ⟨⟨old, he⟩, ⟨o, ho, hc, hd⟩, _⟩ := st
    have e' : b = e ∨ b = it := by simpa using hb
    rcases e' with z | z
    · rw [z]; exact ⟨_, he, fun v q => nomatch q⟩
    · rw [z]; exact ⟨o, ho, fun v q => by rw [hd] at q; cases q⟩
  keep := fun i h h' st k => let ⟨⟨old, he⟩, hi, hne⟩ := st; ⟨⟨old, k e (by simp) _ he⟩, hi.at fun o q => k it (by simp) o q, hne⟩
  item := by
    intro X hP hw hK hc i pins s σ H E I hf st hg
    subst hP hw hK
    obtain ⟨⟨old, he⟩, hit, hne⟩ := st
    obtain ⟨xs, x, hq, hx⟩ := hg
    obtain ⟨its, rv, p, hz⟩ := I.tuple hq
    obtain ⟨u, hu, ru⟩ := rv.get hx
    have hel : e < s.heap.objs.size := Heap.lt_size he
    have hil : it < s.heap.objs.size := by obtain ⟨_, q, _⟩ := hit; exact Heap.lt_size q
    have D := Draws.tuple (prog := X.prog) (w := X.w) (A := X.A.in1) (I.ok.hd hc) it a hae its.toArray
    have hlen : i < its.toArray.size := by
      have := (List.getElem?_eq_some_iff.mp hu).1
      simpa using this
    refine wpAny_pyNext_enum_itemC D he ⟨hit, p⟩ hlen hne (by simp [Ne.symm hae2, hne]) fun x' h' tk hP ho hst' hT hsz hk => ?_
    have ex : x' = u := by
      have hP : its.toArray[i]? = some x' := hP
      have hu' : its.toArray[i]? = some u := by simpa using hu
      rw [hu'] at hP; exact (Option.some.inj hP).symm
    subst ex
    obtain ⟨hit', _⟩ := hst'
    refine ⟨_, rfl, wpAny_letOwnedTupleGo_enum (s := { s with heap := h', toks := tk + 1 }) ho fun h'' he' sb => ?_⟩
    have hT2 : h''.get? s.heap.objs.size = some { cls := .type "tuple", data := .seq #[.int i tk, x'] } := (sb.2 _ (Nat.ne_of_gt hel)).trans hT
    have new : ObjOk X.prog X.w (upd H s.heap.objs.size (.tup [.int (i : Nat), x])) h'' s.heap.objs.size (.tup [.int (i : Nat), x]) :=
      ⟨by show 2 ≤ sizeLine; decide, [.int i tk, x'], .cons ⟨_, rfl⟩ (.cons ru .nil), ⟨_, hT2, rfl, _, rfl⟩⟩
    have I1 : Inv X pins σ (upd H s.heap.objs.size (.tup [.int (i : Nat), x])) { s with heap := h'', toks := tk + 1 } :=
      I.turnedNew (ch := [e, it]) (fun b ob hb q => (sb.2 b (fun z => hb (by simp [z]))).trans (hk b ob (fun z => hb (by simp [z])) (fun z => hb (by simp [z])) q)) hf (Nat.le_refl _) new
    refine ⟨.ref s.heap.objs.size, _, I1, rfl, ⟨_, x, rfl, I.hok.fresh (Nat.le_refl _), rfl, fun ys hy => by rw [I.tuple_inj hy hq]; exact hx⟩, ⟨⟨x', ?_⟩, hit'.at fun o q => (sb.2 it (Ne.symm hne)).trans q, hne⟩, fun b hb => ?_⟩
    · have e1 : ((i + 1 : Nat) : Int) = (i : Int) + 1 := by omega
      rw [e1]; exact he'
    · have hb' : b < s.heap.objs.size := by
        have e' : b = e ∨ b = it := by simpa using hb
        rcases e' with z | z
        · rw [z]; exact hel
        · rw [z]; exact hil
      rw [upd_ne (Nat.ne_of_lt hb')]
      exact (hf b hb).1
  done := by
    intro X hP hw hK hc i pins s σ H E I hf st hg
    subst hP hw hK
    obtain ⟨⟨old, he⟩, hit, hne⟩ := st
    obtain ⟨xs, hq, hx⟩ := hg
    obtain ⟨its, rv, p, hz⟩ := I.tuple hq
    have hl := rv.length
    have D := Draws.tuple (prog := X.prog) (w := X.w) (A := X.A.in1) (I.ok.hd hc) it a hae its.toArray
    obtain ⟨f0, f1, f2, f3, f4, f5⟩ := hf it (by simp)
    have es : its.toArray.size = i := by simp; omega
    exact wpAny_pyNext_enum_endD D he (by rw [es]; exact ⟨hit, p⟩) fun h' eb => ⟨rfl, I.turned (t' := s.toks) (fun b o hb q => eb b o hb q) f0 f1 f3 f4 f5⟩
  self := fun A i s Q E st h => let ⟨⟨_, he⟩, _⟩ := st; wpAny_pyIter_enum he h
def iEnumT (K : PySem.W.Frag) (ta : TA) : TI := fun σ H R => ta σ H fun vs H1 => ∃ a xs, vs = [.ref a] ∧ SqT K H1 a xs ∧ R (IteT K a) H1
theorem pi_enumT {X : Cx} {e : Expr} {ta : TA} {p pos tpos : Pos} {elts : List Expr} {kk : Nat} (hg : Gl X "enumerate") (hm : X.mg "enumerate" = none) (ha : PA X [e] ta) (hs : starEach [e] X.env = [(false, eval e X.env)] := by rfl) :
    PI X (.Tuple elts kk tpos) (.Call (.Name "enumerate" p) [e] [] pos) (iEnumT X.K ta) := by
  refine ⟨fun pins s σ H R I h => ?_⟩
  refine Call_ (ld_blt I hg hm PyProof.Rows.boot_enumerate (PyProof.Rows.callWith_type1 (thn (ha.run pos pins s σ H _ I h) fun us s1 ⟨vs, H1, I1, r1, q1⟩ => ?_) hs rfl))
  obtain ⟨a, xs, ex, hq, q⟩ := q1
  subst ex
  cases r1 with
  | cons r rr =>
    cases rr
    cases r
    obtain ⟨its, rv, p', hz⟩ := I1.tuple hq
    have hal : a < s1.heap.objs.size := by obtain ⟨o, ho, _⟩ := p'; exact Heap.lt_size ho
    refine PySem.dl_enum_begins (begins_tuple a its.toArray) p' fun h' he hit hsz hk => wpAny_pyIter_enum he ?_
    have I2 : Inv X pins σ H1 { s1 with heap := h' } := I1.kept (t' := s1.toks) hk
    refine ⟨s1.heap.objs.size + 1, [s1.heap.objs.size + 1, s1.heap.objs.size], _, _, H1, rfl, I2, turn_enumT a (s1.heap.objs.size + 1) s1.heap.objs.size (Nat.ne_of_lt hal) (Nat.ne_of_lt (Nat.lt_succ_of_lt hal)), ⟨⟨.none, he⟩, ⟨_, hit, rfl, rfl⟩, Nat.succ_ne_self _⟩, fun b hb => ?_, q⟩
    have e' : b = s1.heap.objs.size + 1 ∨ b = s1.heap.objs.size := by simpa using hb
    have hle : s1.heap.objs.size ≤ b := by
      rcases e' with z | z
      · rw [z]; exact Nat.le_add_right _ _
      · rw [z]; exact Nat.le_refl _
    exact I1.fpOk hle (I1.hok.fresh hle)
end DL

set_option maxRecDepth 100000
set_option maxHeartbeats 2000000
/-! Dl5: what is walked; for; comprehensions -/
namespace DL
open PySem PySem.Spec L2
/-- an iterator that gives these items -/
structure ItOk (K : PySem.W.Frag) (J : It) (items : List D) (γL : Ga) (HL : Hp) : Prop where
  goes : ∀ i γ' H', i < items.length → Ext γL HL γ' H' → J.go i H'
  stops : ∀ γ' H', Ext γL HL γ' H' → J.stop items.length H'
  yields : ∀ i x H' H'' γ' S', i < items.length → Ext γL HL γ' H' → StoR K γ' S' H' → J.yld i H' x H'' → Ext γ' H' γ' H'' ∧ StoR K γ' S' H'' ∧ ∃ d, items[i]? = some d ∧ Rep K γ' H'' d x
def PostI (K : PySem.W.Frag) (W : WX) (σ : L2.St) (ds : Ev) (R : It → Hp → Prop) (γ : Ga) (H : Hp) : Res (List D) → Prop
  | .ok items S1 => ∀ γ1 H1 J, Ext γ H γ1 H1 → StoR K γ1 S1 H1 → EvR K γ1 H1 ds σ → ItOk K J items γ1 H1 → R J H1
  | .exc x S1 => ∀ γ' cls dd H', Ext γ H γ' H' → StoR K γ' S1 H' → ExR K γ' H' x cls dd → W cls dd σ H'
  | .bad => False
def rdI (K : PySem.W.Frag) (W : WX) (F : Fa) : TI := fun σ H R => ∃ γ ds S, StoR K γ S H ∧ EvR K γ H ds σ ∧ PostI K W σ ds R γ H (F ds S)
abbrev DI (X : Cx) (W : WX) (tg iter : Expr) (F : Fa) : Prop := PI X tg iter (rdI X.K W F)
theorem PIimp {X : Cx} {tg iter : Expr} {t t' : TI} (h : PI X tg iter t) (k : ∀ σ H R, t' σ H R → t σ H R) : PI X tg iter t' := ⟨fun pins s σ H R I q => h.run pins s σ H R I (k σ H R q)⟩
/-- what a walk makes of a value -/
@[simp] def iOf {α : Type} (k : α → Option (List D)) (F : Ev → Sto → Res α) : Fa := fun ds S => (F ds S).bind fun a S1 => match k a with
  | some l => .ok l S1
  | none => .bad
section
variable {X : Cx} {W : WX} {pos p : Pos} {e tg iter l : Expr} {f g : Fe} {it : Fa}
/-- from the reading of the parts -/
theorem rdI_of {α β : Type} {Rp : Ga → Hp → α → β → Prop} {K : PySem.W.Frag} {F : Ev → Sto → Res α} {k : α → Option (List D)} {σ : L2.St} {H : Hp} {R : It → Hp → Prop}
    (hw : rdI K W (iOf k F) σ H R) : Rdg Rp K W F σ H (fun b H1 => ∃ γ1 a S1 l, StoR K γ1 S1 H1 ∧ Rp γ1 H1 a b ∧ k a = some l ∧ ∀ J, ItOk K J l γ1 H1 → R J H1) := by
  obtain ⟨γ, ds, S, st, ev, p⟩ := hw
  refine ⟨γ, ds, S, st, ev, ?_⟩
  unfold iOf at p
  cases q : F ds S with
  | exc x S1 => rw [q] at p; exact p
  | bad => rw [q] at p; exact p
  | ok a S1 =>
    rw [q, Res.bind_ok] at p
    cases q2 : k a with
    | none => rw [q2] at p; exact p.elim
    | some l =>
      rw [q2] at p
      exact fun γ1 b H1 e st1 r => ⟨γ1, a, S1, l, st1, r, q2, fun J ok => p γ1 H1 J e st1 (ev.mono e) ok⟩
/-! ### over a tuple, a list that isn't written -/
@[simp] def kSeq : D → Option (List D)
  | .tup l => some l
  | .lst l => some l
  | _ => none
theorem itOk_tup {K : PySem.W.Frag} {γ : Ga} {H : Hp} {a : Addr} {ds : List D} {vs : List V} (h : H a = some (.tup vs)) (t : Reps K γ H ds vs) : ItOk K (Itt K a) ds γ H where
  goes := fun i γ' H' hi e => ⟨vs, vs[i]'(by rw [← t.length]; exact hi), .of (e.tup _ _ h), by simp⟩
  stops := fun γ' H' e => ⟨vs, .of (e.tup _ _ h), by rw [t.length]; exact Nat.le_refl _⟩
  yields := fun i x H' H'' γ' S' hi e st y => by
    obtain ⟨rfl, y⟩ := y
    refine ⟨.refl, st, ds[i], by simp, ?_⟩
    obtain ⟨v, h1, h2⟩ := t.get (i := i) (d := ds[i]) (by simp)
    have q := y vs (.of (e.tup _ _ h))
    rw [h1] at q; cases q
    exact h2.mono e
theorem itOk_lst {K : PySem.W.Frag} {γ : Ga} {H : Hp} {a : Addr} {ds : List D} {vs : List V} (n : a ∉ γ) (h : H a = some (.lst vs)) (t : Reps K γ H ds vs) : ItOk K (Itl K a) ds γ H where
  goes := fun i γ' H' hi e => ⟨vs, vs[i]'(by rw [← t.length]; exact hi), .of (e.lst _ _ n h), by simp⟩
  stops := fun γ' H' e => ⟨vs, .of (e.lst _ _ n h), by rw [t.length]; exact Nat.le_refl _⟩
  yields := fun i x H' H'' γ' S' hi e st y => by
    obtain ⟨rfl, y⟩ := y
    refine ⟨.refl, st, ds[i], by simp, ?_⟩
    obtain ⟨v, h1, h2⟩ := t.get (i := i) (d := ds[i]) (by simp)
    have q := y vs (.of (e.lst _ _ n h))
    rw [h1] at q; cases q
    exact h2.mono e
theorem di_seq (h : DE X W l f) : DI X W tg l (iOf kSeq f) := by
  have h2 := pi_list (tg := tg) h
  have h3 := pi_tup (tg := tg) h
  refine ⟨fun pins s σ H R I hw => ?_⟩
  obtain ⟨γ, ds, S, st, ev, p⟩ := hw
  unfold iOf at p
  cases q : f ds S with
  | exc x S1 => rw [q] at p; exact h2.run pins s σ H R I ⟨γ, ds, S, st, ev, by rw [q]; exact p⟩
  | bad => rw [q] at p; exact p.elim
  | ok d S1 =>
    rw [q, Res.bind_ok] at p
    cases d with
    | tup k =>
      refine h3.run pins s σ H R I ⟨γ, ds, S, st, ev, ?_⟩
      rw [q]
      intro γ1 v H1 e st1 r
      obtain ⟨a, vs, rfl, ha, t⟩ := rep_tup r
      exact ⟨a, rfl, ⟨vs, .of ha⟩, p γ1 H1 _ e st1 (ev.mono e) (itOk_tup ha t)⟩
    | lst k =>
      refine h2.run pins s σ H R I ⟨γ, ds, S, st, ev, ?_⟩
      rw [q]
      intro γ1 v H1 e st1 r
      obtain ⟨a, vs, rfl, hn, ha, t⟩ := rep_lst r
      exact ⟨a, rfl, ⟨vs, .of ha⟩, p γ1 H1 _ e st1 (ev.mono e) (itOk_lst hn ha t)⟩
    | _ => exact p.elim
/-! ### over a range -/
def ranD (lo : Int) (n : Nat) : List D := (List.range n).map fun i => D.int (lo + (i : Nat))
theorem itOk_range {K : PySem.W.Frag} {γ : Ga} {H : Hp} (lo : Int) (n : Nat) : ItOk K (Itr lo n) (ranD lo n) γ H where
  goes := fun i γ' H' hi _ => (by simpa [ranD] using hi : i < n)
  stops := fun γ' H' _ => (by simp [ranD] : n ≤ (ranD lo n).length)
  yields := fun i x H' H'' γ' S' hi e st y => by
    obtain ⟨rfl, rfl⟩ := y
    exact ⟨.refl, st, D.int (lo + (i : Nat)), by
      have : i < n := by simpa [ranD] using hi
      simp [ranD, this], .int _⟩
def small62 (i : Int) : Bool := decide (i.natAbs < 2 ^ 62)
theorem small62_of {i : Int} (h : small62 i = true) : -(2 ^ 62) ≤ i ∧ i < 2 ^ 62 := by
  have h : i.natAbs < 2 ^ 62 := of_decide_eq_true h
  omega
def kRan1 : List D → Option (List D)
  | [.int j] => if small62 j = true then some (ranD 0 j.toNat) else none
  | _ => none
def kRan2 : List D → Option (List D)
  | [.int i, .int j] => if (small62 i && small62 j) = true then some (ranD i (j - i).toNat) else none
  | _ => none
theorem di_range1 {a : Expr} (hg : Gl X "range") (hm : X.mg "range" = none) (ha : DA X W [a] it) (hs : starEach [a] X.env = [(false, eval a X.env)] := by rfl) : DI X W tg (.Call (.Name "range" p) [a] [] pos) (iOf kRan1 it) := by
  have h1 := pi_range1 (tg := tg) (pos := pos) (p := p) hg hm ha hs
  refine PIimp h1 fun σ H R hw => ?_
  refine (rdI_of (Rp := Reps X.K) hw).imp fun vs H1 ⟨γ1, l, S1, items, st, r, hk, ok⟩ => ?_
  unfold kRan1 at hk
  split at hk <;> first | (cases hk; done) | skip
  rename_i j
  obtain ⟨v, rfl, rv⟩ := reps1 r
  cases rep_int rv
  split at hk <;> first | (cases hk; done) | skip
  rename_i c
  cases hk
  exact ⟨j, rfl, (small62_of c).1, (small62_of c).2, ok _ (itOk_range 0 _)⟩
theorem di_range2 {a b : Expr} (hg : Gl X "range") (hm : X.mg "range" = none) (ha : DA X W [a, b] it) (hs : starEach [a, b] X.env = [(false, eval a X.env), (false, eval b X.env)] := by rfl) (hs2 : starEach [b] X.env = [(false, eval b X.env)] := by rfl) :
    DI X W tg (.Call (.Name "range" p) [a, b] [] pos) (iOf kRan2 it) := by
  have h1 := pi_range2 (tg := tg) (pos := pos) (p := p) hg hm ha hs hs2
  refine PIimp h1 fun σ H R hw => ?_
  refine (rdI_of (Rp := Reps X.K) hw).imp fun vs H1 ⟨γ1, l, S1, items, st, r, hk, ok⟩ => ?_
  unfold kRan2 at hk
  split at hk <;> first | (cases hk; done) | skip
  rename_i i j
  obtain ⟨v, u, rfl, rv, ru⟩ := reps2 r
  cases rep_int rv
  cases rep_int ru
  split at hk <;> first | (cases hk; done) | skip
  rename_i c
  cases hk
  rw [Bool.and_eq_true] at c
  exact ⟨i, j, rfl, ⟨(small62_of c.1).1, (small62_of c.1).2, (small62_of c.2).1, (small62_of c.2).2⟩, ok _ (itOk_range i _)⟩
/-! ### enumerate -/
def enuD (k : Nat) : List D → List D
  | [] => []
  | d :: r => .tup [.int (k : Nat), d] :: enuD (k + 1) r
theorem enuD_len : ∀ (l : List D) (k : Nat), (enuD k l).length = l.length
  | [], _ => rfl
  | _ :: r, k => by simp [enuD, enuD_len r]
theorem enuD_get : ∀ (l : List D) (k i : Nat), (enuD k l)[i]? = (l[i]?).map fun d => D.tup [.int ((k + i : Nat) : Int), d]
  | [], k, i => by simp [enuD]
  | d :: r, k, 0 => by simp [enuD]
  | d :: r, k, i + 1 => by
    have := enuD_get r (k + 1) i
    simp only [enuD, List.getElem?_cons_succ, this]
    have e : k + 1 + i = k + (i + 1) := by omega
    rw [e]
theorem pair_new {K : PySem.W.Frag} {γ : Ga} {H : Hp} {S : Sto} (st : StoR K γ S H) {T : Addr} {x y : V} {d e : D} (hT : H T = none) (rx : Rep K γ H d x) (ry : Rep K γ H e y) :
    Ext γ H γ (upd H T (.tup [x, y])) ∧ StoR K γ S (upd H T (.tup [x, y])) ∧ Rep K γ (upd H T (.tup [x, y])) (.tup [d, e]) (.ref T) :=
  ⟨.new hT, st.new hT, newTup hT (.cons rx (.cons ry .nil))⟩
theorem itOk_enumT {K : PySem.W.Frag} {γ : Ga} {H : Hp} {a : Addr} {ds : List D} {vs : List V} (h : H a = some (.tup vs)) (t : Reps K γ H ds vs) : ItOk K (IteT K a) (enuD 0 ds) γ H where
  goes := fun i γ' H' hi e => by
    rw [enuD_len] at hi
    exact ⟨vs, vs[i]'(by rw [← t.length]; exact hi), .of (e.tup _ _ h), by simp⟩
  stops := fun γ' H' e => by
    rw [enuD_len]
    exact ⟨vs, .of (e.tup _ _ h), t.length.symm⟩
  yields := fun i x H' H'' γ' S' hi e st y => by
    rw [enuD_len] at hi
    obtain ⟨T, u, rfl, hT, rfl, hu⟩ := y
    obtain ⟨v, h1, h2⟩ := t.get (i := i) (d := ds[i]) (by simp)
    have q := hu vs (.of (e.tup _ _ h))
    rw [h1] at q; cases q
    obtain ⟨a1, a2, a3⟩ := pair_new st hT (.int (i : Nat)) (h2.mono e)
    exact ⟨a1, a2, _, by rw [enuD_get]; simp [hi], a3⟩
theorem itOk_enumL {K : PySem.W.Frag} {γ : Ga} {H : Hp} {a : Addr} {ds : List D} {vs : List V} (n : a ∉ γ) (h : H a = some (.lst vs)) (t : Reps K γ H ds vs) : ItOk K (Ite K a) (enuD 0 ds) γ H where
  goes := fun i γ' H' hi e => by
    rw [enuD_len] at hi
    exact ⟨vs, vs[i]'(by rw [← t.length]; exact hi), .of (e.lst _ _ n h), by simp⟩
  stops := fun γ' H' e => by
    rw [enuD_len]
    exact ⟨vs, .of (e.lst _ _ n h), Nat.le_of_eq t.length.symm⟩
  yields := fun i x H' H'' γ' S' hi e st y => by
    rw [enuD_len] at hi
    obtain ⟨T, u, rfl, hT, rfl, hu⟩ := y
    obtain ⟨v, h1, h2⟩ := t.get (i := i) (d := ds[i]) (by simp)
    have q := hu vs (.of (e.lst _ _ n h))
    rw [h1] at q; cases q
    obtain ⟨a1, a2, a3⟩ := pair_new st hT (.int (i : Nat)) (h2.mono e)
    exact ⟨a1, a2, _, by rw [enuD_get]; simp [hi], a3⟩
@[simp] def kEnu : List D → Option (List D)
  | [.tup l] => some (enuD 0 l)
  | [.lst l] => some (enuD 0 l)
  | _ => none
theorem di_enum {a : Expr} {elts : List Expr} {kk : Nat} {tpos : Pos} (hg : Gl X "enumerate") (hm : X.mg "enumerate" = none) (ha : DA X W [a] it) (hs : starEach [a] X.env = [(false, eval a X.env)] := by rfl) :
    DI X W (.Tuple elts kk tpos) (.Call (.Name "enumerate" p) [a] [] pos) (iOf kEnu it) := by
  have h2 := pi_enum (pos := pos) (p := p) (tpos := tpos) (elts := elts) (kk := kk) hg hm ha hs
  have h3 := pi_enumT (pos := pos) (p := p) (tpos := tpos) (elts := elts) (kk := kk) hg hm ha hs
  refine ⟨fun pins s σ H R I hw => ?_⟩
  obtain ⟨γ, ds, S, st, ev, p⟩ := hw
  unfold iOf at p
  cases q : it ds S with
  | exc x S1 => rw [q] at p; exact h2.run pins s σ H R I ⟨γ, ds, S, st, ev, by rw [q]; exact p⟩
  | bad => rw [q] at p; exact p.elim
  | ok l S1 =>
    rw [q, Res.bind_ok] at p
    cases l with
    | nil => exact p.elim
    | cons d r =>
      cases r with
      | cons _ _ => cases d <;> exact p.elim
      | nil =>
        cases d with
        | tup k =>
          refine h3.run pins s σ H R I ⟨γ, ds, S, st, ev, ?_⟩
          rw [q]
          intro γ1 vs0 H1 e st1 r0
          obtain ⟨v, rfl, r⟩ := reps1 r0
          obtain ⟨a, vs, rfl, ha, t⟩ := rep_tup r
          exact ⟨a, vs, rfl, .of ha, p γ1 H1 _ e st1 (ev.mono e) (itOk_enumT ha t)⟩
        | lst k =>
          refine h2.run pins s σ H R I ⟨γ, ds, S, st, ev, ?_⟩
          rw [q]
          intro γ1 vs0 H1 e st1 r0
          obtain ⟨v, rfl, r⟩ := reps1 r0
          obtain ⟨a, vs, rfl, hn, ha, t⟩ := rep_lst r
          exact ⟨a, vs, rfl, .of ha, p γ1 H1 _ e st1 (ev.mono e) (itOk_enumL hn ha t)⟩
        | _ => exact p.elim
end

/-! ### for -/
def forL (T : Ft) (F : Fs) (b : Nat) : List D → Ev → Sto → RS
  | [], ds, S => .nx ds S
  | d :: r, ds, S => match T d ds with
    | none => .bad
    | some ds1 => match F b ds1 S with
      | .nx ds' S' => forL T F b r ds' S'
      | .ct ds' S' => forL T F b r ds' S'
      | .bk ds' S' => .nx ds' S'
      | .rt d S' => .rt d S'
      | .exc x ds' S' => .exc x ds' S'
      | .bad => .bad
@[simp] def sFor (T : Ft) (it : Fa) (F : Fs) : Fs := fun _ ds S => (it ds S).go ds fun items S1 => forL T F S1.length items ds S1
section
variable {X : Cx} {W : WX} {pos : Pos} {tg iter : Expr} {body : List Stmt} {it : Fa} {T : Ft} {F : Fs} {ws : List Nat}
/-- whatever the base -/
def rdSE (K : PySem.W.Frag) (W : WX) (F : Fs) : TS := fun Dn σ H => ∃ γL HL, rdS K W γL HL F Dn σ H
theorem pss_E (hb : DSs X W body F) : PSs X body (rdSE X.K W F) := ⟨fun pins s σ H Dn I ⟨γL, HL, h⟩ => (hb γL HL).run pins s σ H Dn I h⟩
/-- what holds between two turns -/
def Turns (K : PySem.W.Frag) (W : WX) (T : Ft) (F : Fs) (Dn : Ends) (γ0 : Ga) (H0 : Hp) (γ1 : Ga) (H1 : Hp) (items : List D) (i : Nat) (σ : L2.St) (H : Hp) : Prop :=
  ∃ γ ds S, Ext γ1 H1 γ H ∧ StoR K γ S H ∧ EvR K γ H ds σ ∧ PostS K W Dn γ0 H0 (forL T F γ1.length (items.drop i) ds S)
theorem body_turn {K : PySem.W.Frag} {Dn : Ends} {γ0 γ1 γ : Ga} {H0 H1 H : Hp} {items : List D} {i : Nat} {σ : L2.St} {ds : Ev} {S : Sto} {r : List D} (e01 : Ext γ0 H0 γ1 H1) (e : Ext γ1 H1 γ H) (st : StoR K γ S H) (ev : EvR K γ H ds σ)
    (hr : items.drop (i + 1) = r) (p : PostS K W Dn γ0 H0 (match F γ1.length ds S with
      | .nx ds' S' => forL T F γ1.length r ds' S'
      | .ct ds' S' => forL T F γ1.length r ds' S'
      | .bk ds' S' => .nx ds' S'
      | .rt d S' => .rt d S'
      | .exc x ds' S' => .exc x ds' S'
      | .bad => .bad)) :
    rdSE K W F { Dn with nx := Turns K W T F Dn γ0 H0 γ1 H1 items (i + 1), ct := Turns K W T F Dn γ0 H0 γ1 H1 items (i + 1), bk := Dn.nx } σ H := by
  refine ⟨γ1, H1, γ, ds, S, e, st, ev, ?_⟩
  cases q : F γ1.length ds S with
  | nx ds' S' => rw [q] at p; exact fun γ' σ' H' e' st' ev' => ⟨γ', ds', S', e', st', ev', by rw [hr]; exact p⟩
  | ct ds' S' => rw [q] at p; exact fun γ' σ' H' e' st' ev' => ⟨γ', ds', S', e', st', ev', by rw [hr]; exact p⟩
  | bk ds' S' => rw [q] at p; exact fun γ' σ' H' e' st' ev' => p γ' σ' H' (e01.trans e') st' ev'
  | rt d S' => rw [q] at p; exact fun γ' v H' e' st' r' => p γ' v H' (e01.trans e') st' r'
  | exc x ds' S' => rw [q] at p; exact fun γ' σ' H' c dd e' st' ev' x' => p γ' σ' H' c dd (e01.trans e') st' ev' x'
  | bad => rw [q] at p; exact p
theorem ds_for (hp : PassesOwn (model X.prog X.w) X.A X.env X.xe) (hc : X.calm = true) (hi : DI X W tg iter it) (hg : DG X tg T ws) (hb : DSs X W body F) (hs : ∀ x, foldedSetIterable iter X.env x = pure x := by intro _; rfl) :
    DS X W (.For tg iter body [] pos) (sFor T it F) := by
  intro γ0 H0
  refine PSimp (ps_for hp hc hi hg (pss_E hb) hs) fun Dn σ H hw => ?_
  obtain ⟨γ, ds, S, e, st, ev, p⟩ := hw
  refine ⟨γ, ds, S, st, ev, ?_⟩
  change PostS X.K W Dn γ0 H0 ((it ds S).go ds fun items S1 => forL T F S1.length items ds S1) at p
  cases q : it ds S with
  | exc x S1 => rw [q] at p; exact fun γ1 c d H1 e1 st1 r => p γ1 σ H1 c d (e.trans e1) st1 (ev.mono e1) r
  | bad => rw [q] at p; exact p
  | ok items S1 =>
    rw [q] at p
    intro γ1 H1 J e1 st1 ev1 ok
    have p : PostS X.K W Dn γ0 H0 (forL T F γ1.length items ds S1) := by
      have hl : γ1.length = S1.length := st1.len
      rw [hl]; exact p
    have e01 := e.trans e1
    have w : Walk J items.length (fun H => ∃ γ' S', Ext γ1 H1 γ' H ∧ StoR X.K γ' S' H) J.yld :=
      ⟨fun i H hi ⟨γ', S', a, b⟩ => ok.goes i γ' H hi a, fun H ⟨γ', S', a, b⟩ => ok.stops γ' H a, fun i H x H' hi _ y => y⟩
    refine for_it w (Turns X.K W T F Dn γ0 H0 γ1 H1 items) ⟨γ1, ds, S1, .refl, st1, ev1, p⟩ (fun i σ H hi ⟨γ', ds', S', a, b, c, d⟩ => ⟨γ', S', a, b⟩) ?_ ?_
    · rintro i x σ2 H2 H3 hi ⟨γ2, ds2, S2, e2, st2, ev2, p2⟩ y
      obtain ⟨e3, st3, d, hd, rd⟩ := ok.yields i x H2 H3 γ2 S2 hi e2 st2 y
      have hdrop : items.drop i = d :: items.drop (i + 1) := by
        rw [List.drop_eq_getElem_cons hi]
        have : items[i] = d := by
          have h := List.getElem?_eq_getElem hi
          rw [hd] at h; exact (Option.some.inj h).symm
        rw [this]
      rw [hdrop] at p2
      unfold forL at p2
      cases ht : T d ds2 with
      | none => rw [ht] at p2; exact p2.elim
      | some ds3 =>
        rw [ht] at p2
        exact ⟨γ2, d, ds2, ds3, rd, ev2.mono e3, ht, fun σ3 ev3 _ => body_turn e01 (e2.trans e3) st3 ev3 rfl p2⟩
    · rintro σ2 H2 ⟨γ2, ds2, S2, e2, st2, ev2, p2⟩
      rw [List.drop_length] at p2
      exact p2 γ2 σ2 H2 (e01.trans e2) st2 ev2
end
end DL

set_option maxRecDepth 100000
set_option maxHeartbeats 2000000
/-! Dl6: comprehensions -/
namespace DL
open PySem PySem.Spec L2
def wipeE (ds : Ev) : List Nat → Ev
  | [] => ds
  | v :: vs => (wipeE ds vs).set v none
theorem EvR.setNone {K : PySem.W.Frag} {γ : Ga} {H : Hp} {ds : Ev} {σ : L2.St} (ev : EvR K γ H ds σ) (i : Nat) : EvR K γ H (ds.set i none) (σ.set i none) := by
  refine ⟨by simp [ev.len], fun j d' h => ?_⟩
  by_cases hj : i = j
  · subst hj
    have hi : i < ds.length := by
      have := (List.getElem?_eq_some_iff.mp h).1
      simpa using this
    rw [List.getElem?_set_self hi] at h
    cases h
  · rw [List.getElem?_set_ne hj] at h
    obtain ⟨w, h1, h2⟩ := ev.at_ j d' h
    exact ⟨w, by rw [List.getElem?_set_ne hj]; exact h1, h2⟩
theorem EvR.wipe {K : PySem.W.Frag} {γ : Ga} {H : Hp} {ds : Ev} {σ : L2.St} (ev : EvR K γ H ds σ) : ∀ ws : List Nat, EvR K γ H (wipeE ds ws) (L2.wipe σ ws)
  | [] => ev
  | v :: vs => (ev.wipe vs).setNone v
theorem wipe_at {σ : L2.St} {i : Nat} : ∀ {vs : List Nat}, i ∈ vs → i < σ.length → (wipe σ vs)[i]? = some none
  | [], h, _ => by simp at h
  | v :: vs, h, hl => by
    show ((wipe σ vs).set v none)[i]? = some none
    by_cases e : v = i
    · subst e
      rw [List.getElem?_set_self (by rw [wipe_length]; exact hl)]
    · rw [List.getElem?_set_ne e]
      refine wipe_at ?_ hl
      rcases List.mem_cons.mp h with h | h
      · exact absurd h.symm e
      · exact h
theorem wipe_idem {σ : L2.St} : ∀ (us vs : List Nat), (∀ i ∈ us, i ∈ vs) → wipe (wipe σ vs) us = wipe σ vs
  | [], _, _ => rfl
  | u :: us, vs, h => by
    show (wipe (wipe σ vs) us).set u none = wipe σ vs
    rw [wipe_idem us vs fun i hi => h i (List.mem_cons_of_mem _ hi)]
    by_cases hl : u < σ.length
    · have := wipe_at (σ := σ) (h u List.mem_cons_self) hl
      refine List.ext_getElem? fun j => ?_
      by_cases e : u = j
      · subst e
        rw [List.getElem?_set_self (by rw [wipe_length]; exact hl), this]
      · rw [List.getElem?_set_ne e]
    · exact List.set_eq_of_length_le (by rw [wipe_length]; omega)
def lcL (T : Ft) (t : Ev → Sto → Res Bool) (f : Fe) : List D → Ev → Sto → List D → Res (List D)
  | [], _, S, acc => .ok acc S
  | d :: r, ds, S, acc => match T d ds with
    | none => .bad
    | some ds1 => match t ds1 S with
      | .ok true S1 => match f ds1 S1 with
        | .ok y S2 => if fits acc.length = true then lcL T t f r ds S2 (acc ++ [y]) else .bad
        | _ => .bad
      | .ok false S1 => lcL T t f r ds S1 acc
      | _ => .bad
@[simp] def fLcB (ws : List Nat) (T : Ft) (it : Fa) (t : Ev → Sto → Res Bool) (f : Fe) : Fa := fun ds S => (it ds S).bind fun items S1 => lcL T t f items (wipeE ds ws) S1 []
/-- one that will not be written -/
@[simp] def fLc (ws : List Nat) (T : Ft) (it : Fa) (t : Ev → Sto → Res Bool) (f : Fe) : Fe := fun ds S => (fLcB ws T it t f ds S).bind fun l S1 => .ok (.lst l) S1
/-- one that will -/
@[simp] def fLcM (ws : List Nat) (T : Ft) (it : Fa) (t : Ev → Sto → Res Bool) (f : Fe) : Fe := fun ds S => (fLcB ws T it t f ds S).bind fun l S1 => .ok (.ref S1.length) (S1 ++ [.lst l])
abbrev WF : WX := fun _ _ _ _ => False
@[simp] def tYesB : Ev → Sto → Res Bool := fun _ S => .ok true S
section
variable {X : Cx} {W : WX} {pos : Pos} {tg iter elt : Expr} {it : Fa} {T : Ft} {t : Ev → Sto → Res Bool} {f : Fe} {ws : List Nat}
/-- the tests of a comprehension -/
abbrev DTs (X : Cx) (W : WX) (ifs : List Expr) (F : Ev → Sto → Res Bool) : Prop := PTs X ifs (rdT X.K W F)
theorem PTsimp {ifs : List Expr} {u u' : TT} (h : PTs X ifs u) (k : ∀ σ H Q, u' σ H Q → u σ H Q) : PTs X ifs u' := ⟨fun pins s σ H Q I q => h.run pins s σ H Q I (k σ H Q q)⟩
theorem dts_nil : DTs X W [] tYesB := PTsimp pts_nil fun σ H Q hw => by
  obtain ⟨γ, ds, S, st, ev, p⟩ := hw
  exact p γ _ H .refl st rfl
theorem dts_one {c : Expr} (h : DT X W c t) : DTs X W [c] t := pts_one h
/-- what holds between two turns: the list made so far stands at Dd, hidden -/
def LcTurn (K : PySem.W.Frag) (T : Ft) (t : Ev → Sto → Res Bool) (f : Fe) (σ : L2.St) (us : List Nat) (fin : List D → Sto → Prop) (γ1 : Ga) (H1 : Hp) (Dd : Addr) (items : List D) (ds : Ev) (i : Nat) (H : Hp) : Prop :=
  ∃ γ S acc vs, Ext γ1 H1 γ H ∧ StoR K γ S H ∧ EvR K γ H ds (wipe σ us) ∧ Dd ∈ γ.hid ∧ H Dd = some (.lst vs) ∧ Reps K γ H acc vs ∧ (match lcL T t f (items.drop i) ds S acc with
    | .ok l S' => fin l S'
    | _ => False)
theorem Ext.hidSub {γ γ' : Ga} {H H' : Hp} (e : Ext γ H γ' H') {a : Addr} (h : a ∈ γ.hid) : a ∈ γ'.hid := by
  obtain ⟨hs, q, _⟩ := e.hid
  rw [q]; exact List.mem_append_left _ h
/-- a turn's part whose result is known -/
theorem Rdg.known {α β : Type} {Rp : Ga → Hp → α → β → Prop} {K : PySem.W.Frag} {W : WX} {F : Ev → Sto → Res α} {σ : L2.St} {γ : Ga} {H : Hp} {ds : Ev} {S S' : Sto} {a : α} {Q : β → Hp → Prop} (st : StoR K γ S H) (ev : EvR K γ H ds σ) (q : F ds S = .ok a S')
    (k : ∀ γ' b H', Ext γ H γ' H' → StoR K γ' S' H' → Rp γ' H' a b → Q b H') : Rdg Rp K W F σ H Q := ⟨γ, ds, S, st, ev, by rw [q]; exact k⟩
theorem lc_read {K : PySem.W.Frag} {us : List Nat} (hsub : ∀ i ∈ ws, i ∈ us)
    {J : It} {items : List D} {γ1 : Ga} {H1 : Hp} {S1 : Sto} {σ : L2.St} {ds : Ev} (ok : ItOk K J items γ1 H1) (st1 : StoR K γ1 S1 H1) (ev1 : EvR K γ1 H1 ds σ) (Q : VK) (fin : List D → Sto → Prop) (Dd : Addr) (hD : H1 Dd = none)
    (run : match lcL T t f items (wipeE ds us) S1 [] with
      | .ok l S' => fin l S'
      | _ => False)
    (hfin : ∀ γ S l vs H, fin l S → Ext γ1 H1 γ H → StoR K γ S H → Dd ∈ γ.hid → H Dd = some (.lst vs) → Reps K γ H l vs → Q (.ref Dd) H) :
    ∃ W' : Nat → Nat → Hp → Prop, (∃ m, W' 0 m (upd H1 Dd (.lst []))) ∧ ∀ i m H, W' i m H →
      (J.stop i H ∧ Q (.ref Dd) H) ∨ (J.go i H ∧ ∃ Nx : Hp → Prop, (∀ H', Nx H' → ∃ m', m' < m ∧ W' (i + 1) m' H') ∧ ∀ x H', J.yld i H x H' → rdG K T ws x (wipe σ us) H' fun σ2 H2 => wipe σ2 us = wipe σ us ∧ rdT K WF t σ2 H2 fun b H3 =>
        if b = true then rdE K WF f σ2 H3 fun y H4 => ∃ acc, H4 Dd = some (.lst acc) ∧ acc.length < sizeLine ∧ Nx (upd H4 Dd (.lst (acc ++ [y]))) else Nx H3) := by
  have w : Walk J items.length (fun H => ∃ γ' S', Ext γ1 H1 γ' H ∧ StoR K γ' S' H) J.yld :=
    ⟨fun i H hi ⟨γ', S', a, b⟩ => ok.goes i γ' H hi a, fun H ⟨γ', S', a, b⟩ => ok.stops γ' H a, fun i H x H' hi _ y => y⟩
  have e0 : Ext γ1 H1 (γ1.hide Dd) (upd H1 Dd (.lst [])) := .hide hD
  refine lc_it w (LcTurn K T t f σ us fin γ1 H1 Dd items (wipeE ds us)) ?_ (fun i H hi ⟨γ', S', _, _, a, b, _⟩ => ⟨γ', S', a, b⟩) ?_ ?_
  · exact ⟨γ1.hide Dd, S1, [], [], e0, st1.hideNew hD, (ev1.mono e0).wipe us, by simp [Ga.hide], upd_same, .nil, run⟩
  · rintro i x H2 H3 hi ⟨γ2, S2, acc, vs, e2, st2, ev2, hD2, hl2, ra, p2⟩ y
    obtain ⟨e3, st3, d, hd, rd⟩ := ok.yields i x H2 H3 γ2 S2 hi e2 st2 y
    have hdrop : items.drop i = d :: items.drop (i + 1) := by
      rw [List.drop_eq_getElem_cons hi]
      have : items[i] = d := by
        have h := List.getElem?_eq_getElem hi
        rw [hd] at h; exact (Option.some.inj h).symm
      rw [this]
    rw [hdrop] at p2
    unfold lcL at p2
    have keep : ∀ {γ γ' : Ga} {H H' : Hp}, Ext γ H γ' H' → Dd ∈ γ.hid → H Dd = some (.lst vs) → H' Dd = some (.lst vs) := fun e h q => (e.hk Dd h (by rw [q]; intro z; cases z)).trans q
    have hl3 := keep e3 hD2 hl2
    cases ht : T d (wipeE ds us) with
    | none => rw [ht] at p2; exact p2.elim
    | some ds3 =>
      rw [ht] at p2
      dsimp only at p2
      refine ⟨γ2, d, _, ds3, rd, ev2.mono e3, ht, fun σ3 ev3 only => ⟨?_, ?_⟩⟩
      · rw [only us hsub, wipe_idem us us fun _ h => h]
      · cases hq : t ds3 S2 with
        | exc x S3 => rw [hq] at p2; exact p2.elim
        | bad => rw [hq] at p2; exact p2.elim
        | ok b S3 =>
          rw [hq] at p2
          refine Rdg.known st3 ev3 hq fun γ4 b' H4 e4 st4 r4 => ?_
          cases r4
          have e24 := e3.trans e4
          have hl4 := keep e24 hD2 hl2
          have hD4 := e24.hidSub hD2
          cases b with
          | false =>
            rw [if_neg Bool.false_ne_true]
            exact ⟨γ4, S3, acc, vs, e2.trans e24, st4, ev2.mono e24, hD4, hl4, ra.mono e24, p2⟩
          | true =>
            rw [if_pos rfl]
            dsimp only at p2
            cases hq2 : f ds3 S3 with
            | exc x S4 => rw [hq2] at p2; exact p2.elim
            | bad => rw [hq2] at p2; exact p2.elim
            | ok yd S4 =>
              rw [hq2] at p2
              dsimp only at p2
              refine Rdg.known st4 (ev3.mono e4) hq2 fun γ5 yv H5 e5 st5 r5 => ?_
              have e25 := e24.trans e5
              have hl5 := keep e25 hD2 hl2
              have hD5 := e25.hidSub hD2
              by_cases hf : fits acc.length = true
              rotate_left
              · rw [if_neg hf] at p2; exact p2.elim
              rw [if_pos hf] at p2
              have ew : Ext0 γ5 H5 γ5 (upd H5 Dd (.lst (vs ++ [yv]))) := .write (.inr hD5) hl5 (fun xs z => by cases z)
              have hn1 : H1 Dd = none := hD
              refine ⟨vs, hl5, by rw [← (ra.length)]; exact fits_lt hf, γ5, S4, acc ++ [yd], vs ++ [yv], (e2.trans e25).made hn1, st5.hide hD5 hl5 (fun xs z => by cases z), (ev2.mono e25).mono0 ew, hD5, upd_same, Reps.mono0 ew ((ra.mono e25).append (.one r5)), p2⟩
  · rintro H2 ⟨γ2, S2, acc, vs, e2, st2, ev2, hD2, hl2, ra, p2⟩
    rw [List.drop_length] at p2
    exact hfin γ2 S2 acc vs H2 p2 e2 st2 hD2 hl2 ra
/-- the items' walk first -/
theorem rdI_bindLc {K : PySem.W.Frag} {us : List Nat} (hsub : ∀ i ∈ ws, i ∈ us) {σ : L2.St} {H : Hp} {Q : VK} {fin : List D → Sto → Res D}
    (hfin : ∀ (ds : Ev) γ S l vs Dd γ1 S1 H1 H2, H1 Dd = none → StoR K γ1 S1 H1 → Post (Rep K) K W σ Q γ1 H1 (fin l S) → Ext γ1 H1 γ H2 → StoR K γ S H2 → Dd ∈ γ.hid → H2 Dd = some (.lst vs) → Reps K γ H2 l vs → Q (.ref Dd) H2)
    (hw : rdE K W (fun ds S => (fLcB us T it t f ds S).bind fin) σ H Q) :
    tLc (rdI K W it) (rdG K T ws) (rdT K WF t) (rdE K WF f) us σ H Q := by
  obtain ⟨γ, ds, S, st, ev, p⟩ := hw
  refine ⟨γ, ds, S, st, ev, ?_⟩
  change Post (Rep K) K W σ Q γ H (((it ds S).bind fun items S1 => lcL T t f items (wipeE ds us) S1 []).bind fin) at p
  cases q : it ds S with
  | exc x S1 => rw [q] at p; exact p
  | bad => rw [q] at p; exact p
  | ok items S1 =>
    rw [q, Res.bind_ok] at p
    intro γ1 H1 J e1 st1 ev1 ok Dd hD
    have p1 : Post (Rep K) K W σ Q γ1 H1 ((lcL T t f items (wipeE ds us) S1 []).bind fin) := p.ext e1
    refine lc_read (T := T) (t := t) (f := f) hsub ok st1 ev1 Q (fun l S' => Post (Rep K) K W σ Q γ1 H1 (fin l S')) Dd hD ?_ (fun γ S l vs H2 p2 e st h1 h2 r => hfin ds γ S l vs Dd γ1 S1 H1 H2 hD st1 p2 e st h1 h2 r)
    have nox : ∀ (items : List D) ds S acc x S', lcL T t f items ds S acc ≠ .exc x S' := by
      intro items
      induction items with
      | nil => intro _ _ _ _ _ h; cases h
      | cons d r ih =>
        intro ds S acc x S' h
        unfold lcL at h
        split at h <;> first | (cases h; done) | skip
        split at h <;> first | (cases h; done) | skip
        · split at h <;> first | (cases h; done) | skip
          split at h <;> first | (cases h; done) | skip
          exact ih _ _ _ _ _ h
        · exact ih _ _ _ _ _ h
    cases q2 : lcL T t f items (wipeE ds us) S1 [] with
    | ok l S' => rw [q2] at p1; exact p1
    | exc x S' => exact absurd q2 (nox _ _ _ _ _ _)
    | bad => rw [q2] at p1; exact p1.elim
theorem not_in_show {γ γ1 : Ga} {H H1 : Hp} {Dd : Addr} {S : Sto} {K : PySem.W.Frag} (hD : H1 Dd = none) (e : Ext γ1 H1 γ H) (st : StoR K γ S H) (h : Dd ∈ γ.hid) (st1 : ∀ a ∈ γ1.hid, H1 a ≠ none) : Dd ∉ γ.show γ1 := by
  intro z
  rcases z with z | z
  · exact (st.hidden Dd h).2 z
  · exact st1 Dd z hD
theorem rd_lc {K : PySem.W.Frag} {us : List Nat} (hsub : ∀ i ∈ ws, i ∈ us) {σ : L2.St} {H : Hp} {Q : VK} (hw : rdE K W (fLc us T it t f) σ H Q) : tLc (rdI K W it) (rdG K T ws) (rdT K WF t) (rdE K WF f) us σ H Q :=
  rdI_bindLc (fin := fun l S1 => .ok (.lst l) S1) hsub (fun ds γ S l vs Dd γ1 S1 H1 H2 hD st1 p e st h1 h2 r => p _ _ _ e.shown (st.shown e) (.lst (not_in_show hD e st h1 fun a h => (st1.hidden a h).1) h2 (r.shown e))) hw
theorem Ga.show_snoc_mem {γ γ1 : Ga} {p a : Addr} (h : a ∈ (γ.show γ1).snoc p) : a ∈ γ.show γ1 ∨ a = p := by
  rcases h with h | h
  · rcases List.mem_append.mp h with h | h
    · exact .inl (.inl h)
    · exact .inr (by simpa using h)
  · exact .inl (.inr h)
mutual
theorem Rep.to {K : PySem.W.Frag} {γ1 γ2 : Ga} {H : Hp} (hc : ∀ (n : Nat) (a : Addr), γ1.c[n]? = some a → γ2.c[n]? = some a) (h : ∀ a, a ∈ γ2 → a ∈ γ1) : ∀ {d : D} {v : V}, Rep K γ1 H d v → Rep K γ2 H d v
  | _, _, .non => .non
  | _, _, .bl b => .bl b
  | _, _, .int i => .int i
  | _, _, .str s => .str s
  | _, _, .tup e r => .tup e (Reps.to hc h r)
  | _, _, .lst n e r => .lst (fun z => n (h _ z)) e (Reps.to hc h r)
  | _, _, .scr e => .scr (e.imp (fun q => ⟨fun z => q.1 (h _ z), q.2⟩) id)
  | _, _, .ref e => .ref (hc _ _ e)
theorem Reps.to {K : PySem.W.Frag} {γ1 γ2 : Ga} {H : Hp} (hc : ∀ (n : Nat) (a : Addr), γ1.c[n]? = some a → γ2.c[n]? = some a) (h : ∀ a, a ∈ γ2 → a ∈ γ1) : ∀ {ds : List D} {vs : List V}, Reps K γ1 H ds vs → Reps K γ2 H ds vs
  | _, _, .nil => .nil
  | _, _, .cons r t => .cons (Rep.to hc h r) (Reps.to hc h t)
end
theorem rd_lcM {K : PySem.W.Frag} {us : List Nat} (hsub : ∀ i ∈ ws, i ∈ us) {σ : L2.St} {H : Hp} {Q : VK} (hw : rdE K W (fLcM us T it t f) σ H Q) : tLc (rdI K W it) (rdG K T ws) (rdT K WF t) (rdE K WF f) us σ H Q := by
  refine rdI_bindLc (fin := fun (l : List D) (S1 : Sto) => Res.ok (D.ref S1.length) (S1 ++ [Cell.lst l])) hsub (fun ds γ S l vs Dd γ1 S1 H1 H2 hD st1 p e st h1 h2 r => ?_) hw
  have hns : Dd ∉ γ.show γ1 := not_in_show hD e st h1 fun a h => (st1.hidden a h).1
  have e' := e.shown
  have hlen : γ.c.length = S.length := st.len
  have hcc : ∀ (n : Nat) (a : Addr), γ.c[n]? = some a → ((γ.show γ1).snoc Dd).c[n]? = some a := fun n a g => by
    show (γ.c ++ [Dd])[n]? = some a
    rw [List.getElem?_append_left (List.getElem?_eq_some_iff.mp g).1]; exact g
  have hmm : ∀ a, a ∈ (γ.show γ1).snoc Dd → a ∈ γ := fun a z => by
    rcases Ga.show_snoc_mem z with z | z
    · exact e.show_sub z
    · exact .inr (z ▸ h1)
  refine p ((γ.show γ1).snoc Dd) (.ref Dd) H2 ?_ ?_ (.ref (by show (γ.c ++ [Dd])[S.length]? = _; rw [← hlen]; simp))
  · obtain ⟨ns, q, qn⟩ := e.pre
    refine ⟨⟨⟨ns ++ [Dd], by show γ.c ++ [Dd] = _; rw [q]; simp, fun a h => ?_⟩, ⟨[], by simp [Ga.show, Ga.snoc], by simp⟩, e.tup, e.lst, e.rd, e.stay⟩, e.hk⟩
    rcases List.mem_append.mp h with h | h
    · exact qn a h
    · have : a = Dd := by simpa using h
      rw [this]; exact hD
  · refine ⟨by show (γ.c ++ [Dd]).length = _; simp [hlen], ?_, fun n c a h g => ?_, fun a h => ?_⟩
    · show (γ.c ++ [Dd]).Nodup
      rw [List.nodup_append]
      exact ⟨st.nd, by simp, fun a ha b hb => by simp at hb; subst hb; intro z; subst z; exact (st.hidden _ h1).2 ha⟩
    · have g : (γ.c ++ [Dd])[n]? = some a := g
      by_cases hn : n < S.length
      · rw [List.getElem?_append_left hn] at h
        rw [List.getElem?_append_left (by omega)] at g
        have := st.cell n c a h g
        cases c with
        | lst ds => obtain ⟨vs, q1, q2⟩ := this; exact ⟨vs, q1, q2.to hcc hmm⟩
        | obj C fs => obtain ⟨dx, vs, q1, q2⟩ := this; exact ⟨dx, vs, q1, q2.1, q2.2.to hcc hmm⟩
        | dct es => obtain ⟨vs, q1, q2⟩ := this; exact ⟨vs, q1, q2.1, q2.2.to hcc hmm⟩
        | dk es => obtain ⟨vs, q1, q2⟩ := this; exact ⟨vs, q1, q2.1, q2.2.to hcc hmm⟩
      · have hn' : n = S.length := by
          have := (List.getElem?_eq_some_iff.mp h).1
          simp at this; omega
        subst hn'
        rw [List.getElem?_append_right (by omega)] at h
        rw [List.getElem?_append_right (by omega)] at g
        simp [hlen] at h g
        subst h g
        exact ⟨vs, h2, r.to hcc hmm⟩
    · have := (st1.shown (.refl) : StoR K (γ1.show γ1) S1 H1)
      have hh : a ∈ γ.hid := e.hidSub h
      refine ⟨(st.hidden a hh).1, fun z => ?_⟩
      have z : a ∈ γ.c ++ [Dd] := z
      rcases List.mem_append.mp z with z | z
      · exact (st.hidden a hh).2 z
      · have z : a = Dd := by simpa using z
        exact (st1.hidden a h).1 (z ▸ hD)
end
section
variable {X : Cx} {W : WX} {pos spos : Pos} {tg iter elt : Expr} {ifs : List Expr} {scope : Scope} {own : List (Str × Nat)} {it : Fa} {T : Ft} {t : Ev → Sto → Res Bool} {f : Fe} {ws : List Nat}
/-- the block's parts, wherever it stands -/
abbrev inBlk (X : Cx) (scope : Scope) (P : Cx → Prop) : Prop := ∀ (s : Shared) (H : Hp) (C : Addr) (cl : List (Str × Addr)) (fp : List Addr), P (X.blk s H scope (compEnvC scope cl C X.env) fp)
theorem de_lc (hc : X.calm = true) (hN : X.N.Nodup) (hi : DI X W tg iter it) (ok : blkC X.N X.env.scope scope own = true) (hg : inBlk X scope fun Y => DG Y tg T ws) (ht : inBlk X scope fun Y => DTs Y WF ifs t) (he : inBlk X scope fun Y => DE Y WF elt f)
    (hsub : ∀ i ∈ ws, i ∈ own.map (·.2)) (hs : ∀ x, foldedSetIterable iter X.env x = pure x := by intro _; rfl) : DE X W (.ListComp elt [⟨tg, iter, ifs, 0⟩] scope pos) (fLc (own.map (·.2)) T it t f) :=
  PEimp (pe_lc hc hN hi (blkOk_by ok) hg ht he hs) fun _ _ _ => rd_lc hsub
theorem de_lcM (hc : X.calm = true) (hN : X.N.Nodup) (hi : DI X W tg iter it) (ok : blkC X.N X.env.scope scope own = true) (hg : inBlk X scope fun Y => DG Y tg T ws) (ht : inBlk X scope fun Y => DTs Y WF ifs t) (he : inBlk X scope fun Y => DE Y WF elt f)
    (hsub : ∀ i ∈ ws, i ∈ own.map (·.2)) (hs : ∀ x, foldedSetIterable iter X.env x = pure x := by intro _; rfl) : DE X W (.ListComp elt [⟨tg, iter, ifs, 0⟩] scope pos) (fLcM (own.map (·.2)) T it t f) :=
  PEimp (pe_lc hc hN hi (blkOk_by ok) hg ht he hs) fun _ _ _ => rd_lcM hsub
end
end DL

set_option maxRecDepth 100000
set_option maxHeartbeats 2000000
/-! Dl7: isinstance, sum; calls of own functions; defs -/
namespace DL
open PySem PySem.Spec L2
section
variable {X : Cx} {W : WX} {pos p p2 : Pos} {e : Expr} {f : Fe} {fa : Fa}
/-! ### isinstance(e, T), T built-in -/
def tyD (S : Sto) : D → Option String
  | .non => some "NoneType"
  | .bl _ => some "bool"
  | .int _ => some "int"
  | .str _ => some "str"
  | .tup _ => some "tuple"
  | .lst _ => some "list"
  | .scr _ => none
  | .ref n => match S[n]? with
    | some (.lst _) => some "list"
    | _ => none
theorem tyD_at {K : PySem.W.Frag} {γ : Ga} {H : Hp} {S : Sto} {d : D} {v : V} {t : String} (h : tyD S d = some t) (st : StoR K γ S H) (r : Rep K γ H d v) : TyOf K H v (.type t) := by
  cases d with
  | non => cases h; cases rep_non r; exact .non
  | bl b => cases h; cases rep_bl r; exact .bl b
  | int i => cases h; cases rep_int r; exact .int i
  | str z => cases h; cases rep_str r; exact .str z
  | tup l => cases h; obtain ⟨a, vs, rfl, ha, _⟩ := rep_tup r; exact .tup ha
  | lst l => cases h; obtain ⟨a, vs, rfl, _, ha, _⟩ := rep_lst r; exact .lst ha
  | scr l => cases h
  | ref n =>
    unfold tyD at h
    dsimp only at h
    cases q : S[n]? with
    | none => rw [q] at h; cases h
    | some c =>
      rw [q] at h
      cases c with
      | lst l => cases h; obtain ⟨a, vs, rfl, _, ha, _⟩ := st.lst q r; exact .lst ha
      | obj _ _ => cases h
      | dct _ => cases h
      | dk _ => cases h
/-- the answer for a type's name -/
@[simp] def isiT (n t : String) : Bool := (t == n) || (t == "bool" && n == "int")
@[simp] def fIsi (n : String) (f : Fe) : Fe := fun ds S => (f ds S).bind fun d S1 => match tyD S1 d with
  | some t => .ok (.bl (isiT n t)) S1
  | none => .bad
/-- what kitOne says of the six types -/
def Ans (n : String) : Prop := ∀ t ∈ (["NoneType", "bool", "int", "str", "tuple", "list"] : List String), kitB t n = some (isiT n t)
theorem tyD_in {S : Sto} {d : D} {t : String} (h : tyD S d = some t) : t ∈ (["NoneType", "bool", "int", "str", "tuple", "list"] : List String) := by
  cases d with
  | ref n =>
    unfold tyD at h
    dsimp only at h
    cases q : S[n]? with
    | none => rw [q] at h; cases h
    | some c =>
      rw [q] at h
      cases c with
      | lst l => cases h; simp
      | obj _ _ => cases h
      | dct _ => cases h
      | dk _ => cases h
  | _ => cases h <;> simp
theorem ans_int : Ans "int" := by unfold Ans; decide +kernel
theorem ans_bool : Ans "bool" := by unfold Ans; decide +kernel
theorem ans_str : Ans "str" := by unfold Ans; decide +kernel
theorem ans_tuple : Ans "tuple" := by unfold Ans; decide +kernel
theorem ans_list : Ans "list" := by unfold Ans; decide +kernel
theorem de_isi {x : Str} {n : String} (hn : Ans n) (he : DE X W e f) (hm : X.mg "isinstance" = none) (hmx : X.mg x = none) (hv : bootBuiltins x = some (.type n)) (hg : Gl X "isinstance" := by rfl) (hgx : Gl X x := by rfl) (hx1 : x ≠ "__name__" := by decide) (hx2 : (x == ("__debug__" : Str)) = false := by decide)
    (hs : starEach [e, .Name x p2] X.env = (false, eval e X.env) :: starEach [.Name x p2] X.env := by rfl) (hpl : (backTo pos (starEach [.Name x p2] X.env)).any (·.1) = false := by rfl)
    (hs2 : starEach [.Name x p2] X.env = (false, eval (.Name x p2) X.env) :: starEach [] X.env := by rfl) : DE X W (.Call (.Name "isinstance" p) [e, .Name x p2] [] pos) (fIsi n f) := by
  refine PEimp (pe_callB call_isi hg hm PyProof.Rows.boot_isinstance (pa_cons he (pa_cons (pe_bltn (v := .ty n) hgx hmx hv rfl hx1 hx2) pa_nil hs2) hs) (he := hs) (hpl := hpl)) ?_
  rintro σ H Q ⟨γ, ds, S, st, ev, p⟩
  refine (Post.bind (Rp := Rep X.K) st ev p).imp fun v H1 ⟨γ1, d, S1, e1, st1, ev1, r1, p1⟩ => ?_
  dsimp only at p1
  cases q : tyD S1 d with
  | none => rw [q] at p1; exact p1.elim
  | some t =>
    rw [q] at p1
    exact ⟨v, .ty n, .type t, .type n, isiT n t, rfl, .ty n, .base (tyD_at q st1 r1), kit_ty (hn t (tyD_in q)), p1 γ1 _ H1 .refl st1 (.bl _)⟩
/-! ### sum of ints -/
@[simp] def oSum : OpA := fun xs S => match xs with
  | [d] => match (seqOf S d).bind intsOf with
    | some ns => .ok (.int ns.sum) S
    | none => .bad
  | _ => .bad
theorem does_sum {K : PySem.W.Frag} : DoesA K W (fun vs H Q => rSum K vs H Q ∨ rSumT K vs H Q) oSum := by
  intro γ S H xs vs σ Q st r p
  cases xs with
  | nil => exact p.elim
  | cons d t =>
    cases t with
    | cons d2 t2 => exact p.elim
    | nil =>
      obtain ⟨v, rfl, rd⟩ := reps1 r
      unfold oSum at p
      dsimp only at p
      cases hx : seqOf S d with
      | none => rw [hx] at p; exact p.elim
      | some l =>
        rw [hx] at p
        change Post (Rep K) K W σ Q γ H (match intsOf l with
          | some ns => .ok (.int ns.sum) S
          | none => .bad) at p
        cases hi : intsOf l with
        | none => rw [hi] at p; exact p.elim
        | some ns =>
          rw [hi] at p
          obtain ⟨a, us, rfl, hs, t⟩ := (isSeq_of hx).at st rd
          rw [intsOf_eq hi] at t
          rw [t.ints] at hs
          have q : Q (.int ns.sum) H := p γ _ H .refl st (.int _)
          rcases hs with hs | hs
          · exact .inl ⟨a, ns, rfl, hs, q⟩
          · exact .inr ⟨a, ns, rfl, hs, q⟩
theorem b_sum (hc : X.calm = true) (hm : X.mg "sum" = none) : Blt X W "sum" oSum := by
  refine ⟨_, does_sum, hm, by decide, by decide, .inl ⟨_, ?_, PyProof.Rows.boot_sum⟩⟩
  intro pins s σ H vs us Q I r h
  rcases h with h | h
  · exact cr_sum hc pins s σ H vs us Q I r h
  · exact cr_sumT hc pins s σ H vs us Q I r h
end

/-! ### what a def leaves of the store: nothing of its own; what it returns can't be written any more -/
mutual
def cloD (b : Nat) : D → Bool
  | .tup l => cloL b l
  | .lst l => cloL b l
  | .ref n => decide (n < b)
  | _ => true
def cloL (b : Nat) : List D → Bool
  | [] => true
  | d :: r => cloD b d && cloL b r
end
def cloC (b : Nat) : Cell → Bool
  | .lst l => cloL b l
  | .obj _ fs => cloL b (fs.map (·.2))
  | .dct es => cloL b (es.map (·.2))
  | .dk es => cloL b (es.map (·.2))
mutual
inductive Frz (S : Sto) (b : Nat) : D → D → Prop
  | same {d : D} : cloD b d = true → Frz S b d d
  | ref {n : Nat} {l l' : List D} : b ≤ n → S[n]? = some (.lst l) → Frzs S b l l' → Frz S b (.ref n) (.lst l')
  | tup {l l' : List D} : Frzs S b l l' → Frz S b (.tup l) (.tup l')
  | lst {l l' : List D} : Frzs S b l l' → Frz S b (.lst l) (.lst l')
inductive Frzs (S : Sto) (b : Nat) : List D → List D → Prop
  | nil : Frzs S b [] []
  | cons {d d' : D} {l l' : List D} : Frz S b d d' → Frzs S b l l' → Frzs S b (d :: l) (d' :: l')
end
theorem Frzs.same {S : Sto} {b : Nat} : ∀ {l : List D}, cloL b l = true → Frzs S b l l
  | [], _ => .nil
  | d :: r, h => by
    unfold cloL at h
    rw [Bool.and_eq_true] at h
    exact .cons (.same h.1) (Frzs.same h.2)
theorem cloL_ints {b : Nat} : ∀ ns : List Int, cloL b (ns.map D.int) = true
  | [] => rfl
  | n :: ns => by show (cloD b (.int n) && cloL b (ns.map D.int)) = true; rw [cloL_ints ns]; rfl
section
variable {K : PySem.W.Frag} {γ : Ga} {H : Hp} {S : Sto} {b : Nat}
def Ga.cut (γ : Ga) (b : Nat) : Ga := ⟨γ.c.take b, γ.hid⟩
theorem Ga.cut_sub {a : Addr} (h : a ∈ γ.cut b) : a ∈ γ := by
  rcases h with h | h
  · exact .inl (List.mem_of_mem_take h)
  · exact .inr h
theorem Ga.cut_get {n : Nat} {a : Addr} (h : γ.c[n]? = some a) (hn : n < b) : (γ.cut b).c[n]? = some a := by
  show (γ.c.take b)[n]? = some a
  rw [List.getElem?_take_of_lt hn]; exact h
mutual
theorem Rep.clo : ∀ {d : D} {v : V}, Rep K γ H d v → cloD b d = true → Rep K (γ.cut b) H d v
  | _, _, .non, _ => .non
  | _, _, .bl b, _ => .bl b
  | _, _, .int i, _ => .int i
  | _, _, .str s, _ => .str s
  | _, _, .tup e r, h => .tup e (Reps.clo r (by unfold cloD at h; exact h))
  | _, _, .lst n e r, h => .lst (fun z => n (Ga.cut_sub z)) e (Reps.clo r (by unfold cloD at h; exact h))
  | _, _, .scr e, _ => .scr (e.imp (fun q => ⟨fun z => q.1 (Ga.cut_sub z), q.2⟩) id)
  | _, _, .ref e, h => .ref (Ga.cut_get e (by unfold cloD at h; exact of_decide_eq_true h))
theorem Reps.clo : ∀ {ds : List D} {vs : List V}, Reps K γ H ds vs → cloL b ds = true → Reps K (γ.cut b) H ds vs
  | _, _, .nil, _ => .nil
  | _, _, .cons r t, h => by
    unfold cloL at h
    rw [Bool.and_eq_true] at h
    exact .cons (Rep.clo r h.1) (Reps.clo t h.2)
end
theorem Ga.cut_out (st : StoR K γ S H) {n : Nat} {a : Addr} (h : γ.c[n]? = some a) (hn : b ≤ n) : a ∉ γ.cut b := by
  intro z
  rcases z with z | z
  · obtain ⟨m, e⟩ := List.mem_iff_getElem?.mp z
    have e : (γ.c.take b)[m]? = some a := e
    have hm : m < b := by
      have := (List.getElem?_eq_some_iff.mp e).1
      rw [List.length_take] at this; omega
    rw [List.getElem?_take_of_lt hm] at e
    obtain ⟨h1, e1⟩ := List.getElem?_eq_some_iff.mp h
    obtain ⟨h2, e2⟩ := List.getElem?_eq_some_iff.mp e
    have := (List.getElem_inj st.nd).mp (e2.trans e1.symm)
    omega
  · exact (st.hidden a z).2 (List.mem_of_getElem? h)
mutual
theorem Frz.rep (st : StoR K γ S H) : ∀ {d d' : D} {v : V}, Frz S b d d' → Rep K γ H d v → Rep K (γ.cut b) H d' v
  | _, _, _, .same h, r => r.clo h
  | _, _, _, .ref hn e t, r => by
    obtain ⟨a, vs, rfl, g, ha, u⟩ := st.lst e r
    exact .lst (Ga.cut_out st g hn) ha (Frzs.rep st t u)
  | _, _, _, .tup t, r => by
    obtain ⟨a, vs, rfl, ha, u⟩ := rep_tup r
    exact .tup ha (Frzs.rep st t u)
  | _, _, _, .lst t, r => by
    obtain ⟨a, vs, rfl, hn, ha, u⟩ := rep_lst r
    exact .lst (fun z => hn (Ga.cut_sub z)) ha (Frzs.rep st t u)
theorem Frzs.rep (st : StoR K γ S H) : ∀ {l l' : List D} {vs : List V}, Frzs S b l l' → Reps K γ H l vs → Reps K (γ.cut b) H l' vs
  | _, _, _, .nil, .nil => .nil
  | _, _, _, .cons h t, .cons r u => .cons (Frz.rep st h r) (Frzs.rep st t u)
end
end
mutual
theorem clo_of_rep1 {K : PySem.W.Frag} {γ : Ga} {H : Hp} {b : Nat} (hl : γ.c.length = b) : ∀ {d : D} {v : V}, Rep K γ H d v → cloD b d = true
  | _, _, .non => rfl
  | _, _, .bl b => rfl
  | _, _, .int i => rfl
  | _, _, .str s => rfl
  | _, _, .tup e r => by unfold cloD; exact clo_of_rep hl r
  | _, _, .lst n e r => by unfold cloD; exact clo_of_rep hl r
  | _, _, .scr e => rfl
  | _, _, .ref e => by unfold cloD; exact decide_eq_true (hl ▸ (List.getElem?_eq_some_iff.mp e).1)
theorem clo_of_rep {K : PySem.W.Frag} {γ : Ga} {H : Hp} {b : Nat} (hl : γ.c.length = b) : ∀ {ds : List D} {vs : List V}, Reps K γ H ds vs → cloL b ds = true
  | _, _, .nil => rfl
  | _, _, .cons r t => by unfold cloL; rw [clo_of_rep1 hl r, clo_of_rep hl t]; rfl
end
/-- the old cells hold nothing new -/
def Safe (S S' : Sto) : Prop := S.length ≤ S'.length ∧ ∀ (n : Nat) (c : Cell), n < S.length → S'[n]? = some c → S[n]? = some c ∨ cloC S.length c = true
theorem Safe.refl {S : Sto} : Safe S S := ⟨Nat.le_refl _, fun n c _ h => .inl h⟩
theorem Safe.app {S S' Z : Sto} (h : Safe S S') : Safe S (S' ++ Z) := ⟨by rw [List.length_append]; have := h.1; omega, fun n c hn q => h.2 n c hn (by rw [List.getElem?_append_left (by have := h.1; omega)] at q; exact q)⟩
theorem Safe.set {S S' : Sto} {m : Nat} {c : Cell} (h : Safe S S') (hc : cloC S.length c = true) : Safe S (S'.set m c) := ⟨by rw [List.length_set]; exact h.1, fun n c' hn q => by
  by_cases e : m = n
  · subst e
    rw [List.getElem?_set_self (by have := h.1; omega)] at q
    cases q; exact .inr hc
  · rw [List.getElem?_set_ne e] at q; exact h.2 n c' hn q⟩
/-- what a def's run of the body is, seen from the caller -/
inductive Cls (S : Sto) (d0 : D) (S0 : Sto) : D → Sto → Prop
  | same : Cls S d0 S0 d0 S0
  | frz {d : D} : Safe S S0 → Frz S0 S.length d0 d → Cls S d0 S0 d (S0.take S.length)
def Agr (S : Sto) (r : RS) : Res D → Prop
  | .ok d S' => ∃ d0 S0, (r = .rt d0 S0 ∨ (d0 = .non ∧ ∃ ds, r = .nx ds S0)) ∧ Cls S d0 S0 d S'
  | .exc x S' => ∃ ds, r = .exc x ds S'
  | .bad => True
theorem Agr.ret {S : Sto} {d : D} {S' : Sto} : Agr S (.rt d S') (.ok d S') := ⟨d, S', .inl rfl, .same⟩
theorem cut_sto {K : PySem.W.Frag} {γ γ' : Ga} {H H' : Hp} {S S' : Sto} (st : StoR K γ S H) (e : Ext γ H γ' H') (st' : StoR K γ' S' H') (sf : Safe S S') : StoR K (γ'.cut S.length) (S'.take S.length) H' ∧ Ext γ H (γ'.cut S.length) H' := by
  have hl : γ.c.length = S.length := st.len
  have hl' : γ'.c.length = S'.length := st'.len
  obtain ⟨ns, q, qn⟩ := e.pre
  have hcut : γ'.c.take S.length = γ.c := by rw [q, ← hl]; simp
  refine ⟨⟨?_, ?_, fun n c a h g => ?_, fun a h => ?_⟩, ⟨⟨⟨[], by show γ'.c.take S.length = _; rw [hcut]; simp, by simp⟩, e.hid, e.tup, e.lst, e.rd, e.stay⟩, e.hk⟩⟩
  · show (γ'.c.take S.length).length = (S'.take S.length).length
    rw [List.length_take, List.length_take, hl']
  · show (γ'.c.take S.length).Nodup
    rw [hcut]; exact st.nd
  · have hn : n < S.length := by
      have := (List.getElem?_eq_some_iff.mp h).1
      rw [List.length_take] at this; omega
    rw [List.getElem?_take_of_lt hn] at h
    have g : (γ'.c.take S.length)[n]? = some a := g
    rw [List.getElem?_take_of_lt hn] at g
    have hc := st'.cell n c a h g
    have clo : cloC S.length c = true := by
      rcases sf.2 n c hn h with h0 | h0
      · -- it was there: closed, for it lay in the old store
        have ga : γ.c[n]? = some a := by rw [← hcut, List.getElem?_take_of_lt hn]; exact g
        have := st.cell n c a h0 ga
        cases c with
        | lst l =>
          obtain ⟨vs, _, r⟩ := this
          exact clo_of_rep hl r
        | obj C fs =>
          obtain ⟨dx, vs, _, r⟩ := this
          exact clo_of_rep hl r.2
        | dct es =>
          obtain ⟨vs, _, r⟩ := this
          exact clo_of_rep hl r.2
        | dk es =>
          obtain ⟨vs, _, r⟩ := this
          exact clo_of_rep hl r.2
      · exact h0
    cases c with
    | lst l =>
      obtain ⟨vs, h1, h2⟩ := hc
      exact ⟨vs, h1, h2.clo clo⟩
    | obj C fs =>
      obtain ⟨dx, vs, h1, h2⟩ := hc
      exact ⟨dx, vs, h1, h2.1, h2.2.clo clo⟩
    | dct es =>
      obtain ⟨vs, h1, h2⟩ := hc
      exact ⟨vs, h1, h2.1, h2.2.clo clo⟩
    | dk es =>
      obtain ⟨vs, h1, h2⟩ := hc
      exact ⟨vs, h1, h2.1, h2.2.clo clo⟩
  · exact ⟨(st'.hidden a h).1, fun z => (st'.hidden a h).2 (List.mem_of_mem_take z)⟩
end DL

set_option maxRecDepth 100000
set_option maxHeartbeats 2000000
/-! Dl8: calls of own functions; defs -/
namespace DL
open PySem PySem.Spec L2 PyProof.Rows
/-- what a function makes of data -/
abbrev Fm := List D → Sto → Res D
/-- its promise -/
def spD (K : PySem.W.Frag) (n : Nat) (m : Fm) : Sp := fun vs H Q E => vs.length = n ∧ ∃ γ S ds, StoR K γ S H ∧ Reps K γ H ds vs ∧ Post (Rep K) K (fun c d _ H' => E c d H') [] Q γ H (m ds S)
/-- a def of the text -/
structure Dfn (K : PySem.W.Frag) (mg : Str → Option Value) (x : Str) (st : Stmt) (ps : List Str) : Prop where
  ex : ∃ f fd, Fun K x x st f fd ∧ mg x = some (.ref f) ∧ Binds K fd ps []
section
variable {X : Cx} {W : WX} {pos p : Pos} {e : Expr} {es : List Expr} {fa : Fa} {k : Nat} {x : Str} {m : Fm}
theorem Post.st {α β : Type} {Rp : Ga → Hp → α → β → Prop} {K : PySem.W.Frag} {W : WX} {σ : L2.St} {Q : β → Hp → Prop} {γ : Ga} {H : Hp} {r : Res α} (p : Post Rp K W σ Q γ H r) : Post Rp K (fun c d _ H' => W c d σ H') [] Q γ H r := by
  cases r with
  | ok a S' => exact p
  | exc x S' => exact p
  | bad => exact p
/-- f(e, ..) -/
@[simp] def fFn (n : Nat) (m : Fm) (fa : Fa) : Fe := fun ds S => (fa ds S).bind fun xs S1 => if xs.length = n then m xs S1 else .bad
structure CalN (P : Program) (w : World) (K : PySem.W.Frag) (mg : Str → Option Value) (base : Heap) (k : Nat) (x : Str) (n : Nat) (m : Fm) : Prop where
  ex : ∃ f fd ps, ps.length = n ∧ FnOk P w K mg base (L2.CX P w) k f fd ps (spD K n m) ∧ mg x = some (.ref f) ∧ PySem.W.keepIn K (.ref f) = true ∧ Binds K fd ps []
theorem CalN.mono {P : Program} {w : World} {K : PySem.W.Frag} {mg : Str → Option Value} {base : Heap} {j k n : Nat} {x : Str} {m : Fm} (h : CalN P w K mg base j x n m) (l : j ≤ k) : CalN P w K mg base k x n m := by
  obtain ⟨f, fd, ps, hn, F, h1, h2, h3⟩ := h.ex
  exact ⟨f, fd, ps, hn, F.mono l, h1, h2, h3⟩
theorem de_fn {n : Nat} (G : CalN X.prog X.w X.K X.mg X.base k x n m) (hr : Room k X.A) (tk : Takes X W) (ha : DA X W (e :: es) fa) (hg : Gl X x := by rfl) (hdb : (x == ("__debug__" : Str)) = false := by decide)
    (he : starEach (e :: es) X.env = (false, eval e X.env) :: starEach es X.env := by rfl) (hpl : (backTo pos (starEach es X.env)).any (·.1) = false := by rfl) : DE X W (.Call (.Name x p) (e :: es) [] pos) (fFn n m fa) := by
  obtain ⟨f, fd, ps, hn, F, h1, h2, h3⟩ := G.ex
  refine PEimp (pe_callS F hr hg h1 h2 h3 (passAt tk) ha hdb he hpl) ?_
  rintro σ H Q ⟨γ, ds, S, st, ev, p⟩
  refine (Post.bind (Rp := Reps X.K) st ev p).imp fun vs H1 ⟨γ1, d, S1, e1, st1, ev1, r1, p1⟩ => ?_
  dsimp only at p1
  by_cases hl : d.length = n
  · rw [if_pos hl] at p1
    exact ⟨by rw [← r1.length]; exact hl, γ1, S1, d, st1, r1, p1.st⟩
  · rw [if_neg hl] at p1; exact p1.elim
end
/-- around a body where nothing is let out -/
theorem takesF {X : Cx} : Takes X WF := L2.takes0
/-! ### a def -/
@[simp] def startD (N : List Str) (ds : List D) : Ev := ds.map some ++ List.replicate (N.length - ds.length) none
theorem startD_rep {K : PySem.W.Frag} {γ : Ga} {H : Hp} {N : List Str} {ds : List D} {vs : List V} (r : Reps K γ H ds vs) : EvR K γ H (startD N ds) (L2.start N vs) := by
  have hl := r.length
  refine ⟨by unfold startD L2.start; simp [hl], fun i d h => ?_⟩
  unfold startD at h
  by_cases hi : i < ds.length
  · rw [List.getElem?_append_left (by simpa using hi), List.getElem?_map] at h
    have h : ds[i]? = some d := by
      cases q : ds[i]? with
      | none => rw [q] at h; cases h
      | some d' => rw [q] at h; cases h; rfl
    obtain ⟨v, h1, h2⟩ := r.get h
    refine ⟨v, ?_, h2⟩
    unfold L2.start
    rw [List.getElem?_append_left (by rw [List.length_map, ← hl]; exact hi), List.getElem?_map, h1]; rfl
  · rw [List.getElem?_append_right (by simpa using Nat.le_of_not_lt hi)] at h
    rw [List.getElem?_replicate] at h
    split at h <;> cases h
section
variable {P : Program} {w : World} {K : PySem.W.Frag} {mg : Str → Option Value} {base : Heap}
abbrev WE1 (E : XK) : WX := fun c d _ H => E c d H
/-- where a def's body runs -/
structure Ctx (X : Cx) (W : WX) (k : Nat) (N : List Str) (P : Program) (w : World) (K : PySem.W.Frag) (mg : Str → Option Value) (base : Heap) : Prop where
  room : Room k X.A
  tk : Takes X W
theorem fn_ok {x qual : Str} {st : Stmt} {f : Addr} {fd : FuncData} {N ps : List Str} {k : Nat} {m : Fm} {F : Fs} (Fn : Fun K x qual st f fd) (Sc : FnScope N ps (defScope st))
    (hb : ∀ (cdv : Value) (A : Around) (outer : List Env) (s : Shared) (H : Hp) (E : XK), Room k (A.deeper (envOfC qual (defScope st) s.heap.objs.size f cdv)) → Takes (cxOf (L2.CX P w) P w K mg base N qual (defScope st) f cdv A outer s H E) (WE1 E) →
      DSs (cxOf (L2.CX P w) P w K mg base N qual (defScope st) f cdv A outer s H E) (WE1 E) (defBody st) F)
    (hm : ∀ ds S, ds.length = ps.length → Agr S (F S.length (startD N ds) S) (m ds S)) : FnOk P w K mg base (L2.CX P w) (k + 1) f fd ps (spD K ps.length m) := by
  refine Fn.okX Sc (fun vs H Q E h => h.1) (fun cdv A outer s H vs Q E hr h => ?_)
  obtain ⟨hl, γ, S, ds, sto, r, p⟩ := h
  refine ⟨_, hb cdv A outer s H E hr (L2.takes_of rfl rfl rfl rfl) γ H, γ, startD N ds, S, .refl, sto, startD_rep r, ?_⟩
  have hlen : γ.length = S.length := sto.len
  rw [hlen]
  have ag := hm ds S (by rw [r.length]; exact hl)
  have fin : ∀ {d0 d : D} {S0 S' : Sto} {γ' : Ga} {v : V} {H' : Hp}, Cls S d0 S0 d S' → m ds S = .ok d S' → Ext γ H γ' H' → StoR K γ' S0 H' → Rep K γ' H' d0 v → Q v H' := by
    intro d0 d S0 S' γ' v H' c q e st' r'
    rw [q] at p
    cases c with
    | same => exact p γ' v H' e st' r'
    | frz sf fz =>
      obtain ⟨s1, e1⟩ := cut_sto sto e st' sf
      exact p _ v H' e1 s1 (fz.rep st' r')
  cases q : m ds S with
  | bad => rw [q] at p; exact p.elim
  | exc x S' =>
    rw [q] at ag p
    obtain ⟨ds', hq⟩ := ag
    rw [hq]
    exact fun γ' σ' H' cls dd e st' ev' x' => p γ' cls dd H' e st' x'
  | ok d S' =>
    rw [q] at ag
    obtain ⟨d0, S0, h, c⟩ := ag
    rcases h with h | ⟨rfl, ds', h⟩
    · rw [h]
      exact fun γ' v H' e st' r' => fin c q e st' r'
    · rw [h]
      exact fun γ' σ' H' e st' ev' => fin c q e st' .non
theorem caln_of {x : Str} {st : Stmt} {ps : List Str} {n k : Nat} {m : Fm} (Df : Dfn K mg x st ps) (hn : ps.length = n) (h : ∀ f fd, Fun K x x st f fd → FnOk P w K mg base (L2.CX P w) k f fd ps (spD K ps.length m)) : CalN P w K mg base k x n m := by
  obtain ⟨f, fd, Fn, h1, h2⟩ := Df.ex
  subst hn
  exact ⟨f, fd, ps, rfl, h f fd Fn, h1, Fn.kp, h2⟩
end
end DL

set_option maxRecDepth 100000
set_option maxHeartbeats 2000000
/-! Dl9: name = [..]; facts of the built-ins; small words for what a program prints -/
namespace DL
open PySem PySem.Spec L2 PyProof.Rows
section
variable {X : Cx} {W : WX} {pos spos py : Pos} {y : Str} {tg iter elt : Expr} {ifs : List Expr} {scope : Scope} {own : List (Str × Nat)} {it : Fa} {T : Ft} {t : Ev → Sto → Res Bool} {f : Fe} {ws : List Nat}
theorem ds_setLc (i : Nat) (hc : X.calm = true) (hN : X.N.Nodup) (hi : DI X W tg iter it) (ok : blkC X.N X.env.scope scope own = true) (hg : inBlk X scope fun Y => DG Y tg T ws) (ht : inBlk X scope fun Y => DTs Y WF ifs t) (he : inBlk X scope fun Y => DE Y WF elt f)
    (hsub : ∀ i ∈ ws, i ∈ own.map (·.2)) (hsw : swapsWith (.ListComp elt [⟨tg, iter, ifs, 0⟩] scope pos) (some (.Name y py)) spos.line X.env = pure true) (hy : X.N[i]? = some y := by rfl) (hyl : X.env.scope.names.lookup y = some .local := by rfl)
    (hs : ∀ x, foldedSetIterable iter X.env x = pure x := by intro _; rfl) : DS X W (.Assign [.Name y py] (.ListComp elt [⟨tg, iter, ifs, 0⟩] scope pos) spos) (sSet i (fLc (own.map (·.2)) T it t f)) := fun γ0 H0 => PSimp (ps_setLc hc hN hy hyl hsw hi (blkOk_by ok) hg ht he hs) fun Dn σ H hw => by
  obtain ⟨γ, ds, S, e, st, ev, p⟩ := hw
  exact rd_lc hsub ((PostS.go (Rp := Rep X.K) e st ev p).imp fun v H1 ⟨γ1, d, S1, e1, st1, ev1, r1, p1⟩ => p1 γ1 _ H1 e1 st1 (ev1.set i r1))
theorem ds_setLcM (i : Nat) (hc : X.calm = true) (hN : X.N.Nodup) (hi : DI X W tg iter it) (ok : blkC X.N X.env.scope scope own = true) (hg : inBlk X scope fun Y => DG Y tg T ws) (ht : inBlk X scope fun Y => DTs Y WF ifs t) (he : inBlk X scope fun Y => DE Y WF elt f)
    (hsub : ∀ i ∈ ws, i ∈ own.map (·.2)) (hsw : swapsWith (.ListComp elt [⟨tg, iter, ifs, 0⟩] scope pos) (some (.Name y py)) spos.line X.env = pure true) (hy : X.N[i]? = some y := by rfl) (hyl : X.env.scope.names.lookup y = some .local := by rfl)
    (hs : ∀ x, foldedSetIterable iter X.env x = pure x := by intro _; rfl) : DS X W (.Assign [.Name y py] (.ListComp elt [⟨tg, iter, ifs, 0⟩] scope pos) spos) (sSet i (fLcM (own.map (·.2)) T it t f)) := fun γ0 H0 => PSimp (ps_setLc hc hN hy hyl hsw hi (blkOk_by ok) hg ht he hs) fun Dn σ H hw => by
  obtain ⟨γ, ds, S, e, st, ev, p⟩ := hw
  exact rd_lcM hsub ((PostS.go (Rp := Rep X.K) e st ev p).imp fun v H1 ⟨γ1, d, S1, e1, st1, ev1, r1, p1⟩ => p1 γ1 _ H1 e1 st1 (ev1.set i r1))
end
theorem bt_int : bootBuiltins "int" = some (.type "int") := by decide +kernel
theorem bt_bool : bootBuiltins "bool" = some (.type "bool") := by decide +kernel
theorem bt_str : bootBuiltins "str" = some (.type "str") := by decide +kernel
theorem bt_tuple : bootBuiltins "tuple" = some (.type "tuple") := by decide +kernel
theorem bt_list : bootBuiltins "list" = some (.type "list") := by decide +kernel
theorem bt_abs : bootBuiltins "abs" = some (.builtin "abs") := by decide +kernel
theorem bt_min : bootBuiltins "min" = some (.builtin "min") := by decide +kernel
theorem bt_max : bootBuiltins "max" = some (.builtin "max") := by decide +kernel
section
variable {S : Sto} {n : Nat} {l : List D} {ns : List Int} {i : Int} {b : Bool} {s : Str}
@[simp] theorem seqOf_tup : seqOf S (.tup l) = some l := rfl
@[simp] theorem seqOf_lst : seqOf S (.lst l) = some l := rfl
@[simp] theorem seqOf_scr : seqOf S (.scr ns) = some (ns.map D.int) := rfl
@[simp] theorem seqOf_int : seqOf S (.int i) = none := rfl
@[simp] theorem seqOf_non : seqOf S .non = none := rfl
@[simp] theorem seqOf_bl : seqOf S (.bl b) = none := rfl
@[simp] theorem seqOf_str : seqOf S (.str s) = none := rfl
@[simp] theorem seqOf_ref (h : S[n]? = some (.lst l)) : seqOf S (.ref n) = some l := by unfold seqOf; simp only [h]
@[simp] theorem lstOf_lst : lstOf S (.lst l) = some l := rfl
@[simp] theorem lstOf_tup : lstOf S (.tup l) = none := rfl
@[simp] theorem lstOf_int : lstOf S (.int i) = none := rfl
@[simp] theorem lstOf_ref (h : S[n]? = some (.lst l)) : lstOf S (.ref n) = some l := by unfold lstOf; simp only [h]
@[simp] theorem isL_lst : isL S (.lst l) = true := rfl
@[simp] theorem isL_ref (h : S[n]? = some (.lst l)) : isL S (.ref n) = true := by unfold isL; simp only [h]
@[simp] theorem truD_bl : truD S (.bl b) = some b := rfl
@[simp] theorem truD_int : truD S (.int i) = some (i != 0) := rfl
@[simp] theorem truD_non : truD S .non = some false := rfl
@[simp] theorem truD_tup : truD S (.tup l) = some (!l.isEmpty) := rfl
@[simp] theorem truD_lst : truD S (.lst l) = some (!l.isEmpty) := rfl
@[simp] theorem tyD_non : tyD S .non = some "NoneType" := rfl
@[simp] theorem tyD_bl : tyD S (.bl b) = some "bool" := rfl
@[simp] theorem tyD_int : tyD S (.int i) = some "int" := rfl
@[simp] theorem tyD_str : tyD S (.str s) = some "str" := rfl
@[simp] theorem tyD_tup : tyD S (.tup l) = some "tuple" := rfl
@[simp] theorem tyD_lst : tyD S (.lst l) = some "list" := rfl
@[simp] theorem tyD_ref (h : S[n]? = some (.lst l)) : tyD S (.ref n) = some "list" := by unfold tyD; simp only [h]
end
section
variable {S : Sto} {i j : Int} {a b : Bool} {s t : Str} {neg : Bool}
@[simp] theorem shp_int : shp S (.int i) = true := rfl
@[simp] theorem shp_bl : shp S (.bl a) = true := rfl
@[simp] theorem shp_non : shp S .non = true := rfl
theorem shp_str (h : PyData.canLay0 (.str s) = true) : shp S (.str s) = true := by
  show (PyData.canLay0 (.str s) && decide (PyData.depth (.str s) ≤ 64)) = true
  rw [h]; rfl
@[simp] theorem eqvD_int : eqvD S (.int i) (.int j) = decide (i = j) := rfl
@[simp] theorem eqvD_bl : eqvD S (.bl a) (.bl b) = (a == b) := rfl
@[simp] theorem eqvD_str : eqvD S (.str s) (.str t) = decide (s = t) := rfl
end
/-! ### ranges -/
theorem small62_mk {i : Int} (h1 : -(2 ^ 62) < i) (h2 : i < 2 ^ 62) : small62 i = true := decide_eq_true (by omega)
theorem small62_nat {n : Nat} (h : n ≤ 1000000) : small62 (n : Int) = true := small62_mk (by omega) (by omega)
theorem kRan1_i {j : Int} (h : small62 j = true) : kRan1 [.int j] = some (ranD 0 j.toNat) := by
  show (if small62 j = true then some (ranD 0 j.toNat) else none) = _
  rw [if_pos h]
theorem kRan1_n {n : Nat} (h : n ≤ 1000000) : kRan1 [.int (n : Int)] = some (ranD 0 n) := kRan1_i (small62_nat h)
theorem kRan2_i {i j : Int} (h : small62 i = true) (h2 : small62 j = true) : kRan2 [.int i, .int j] = some (ranD i (j - i).toNat) := by
  show (if (small62 i && small62 j) = true then some (ranD i (j - i).toNat) else none) = _
  rw [if_pos (by rw [h, h2]; rfl)]
@[simp] theorem kRan1_60 : kRan1 [.int 60] = some (ranD 0 60) := kRan1_n (n := 60) (by decide)
@[simp] theorem kRan1_201 : kRan1 [.int 201] = some (ranD 0 201) := kRan1_n (n := 201) (by decide)
section
variable {α : Type} {a b c d e : α}
@[simp] theorem at1_0 : atI [a] 0 = some a := rfl
@[simp] theorem at2_0 : atI [a, b] 0 = some a := rfl
@[simp] theorem at2_1 : atI [a, b] 1 = some b := rfl
@[simp] theorem at3_0 : atI [a, b, c] 0 = some a := rfl
@[simp] theorem at3_1 : atI [a, b, c] 1 = some b := rfl
@[simp] theorem at3_2 : atI [a, b, c] 2 = some c := rfl
@[simp] theorem at4_0 : atI [a, b, c, d] 0 = some a := rfl
@[simp] theorem at4_1 : atI [a, b, c, d] 1 = some b := rfl
@[simp] theorem at4_2 : atI [a, b, c, d] 2 = some c := rfl
@[simp] theorem at4_3 : atI [a, b, c, d] 3 = some d := rfl
@[simp] theorem at5_0 : atI [a, b, c, d, e] 0 = some a := rfl
@[simp] theorem at5_1 : atI [a, b, c, d, e] 1 = some b := rfl
@[simp] theorem at5_2 : atI [a, b, c, d, e] 2 = some c := rfl
@[simp] theorem at5_3 : atI [a, b, c, d, e] 3 = some d := rfl
@[simp] theorem at5_4 : atI [a, b, c, d, e] 4 = some e := rfl
end
/-! ### the ends of recursion and of the law -/
theorem caln_bad {P : Program} {w : World} {K : PySem.W.Frag} {mg : Str → Option Value} {base : Heap} {x : Str} {st : Stmt} {ps : List Str} {n k : Nat} {m : Fm} (Df : Dfn K mg x st ps) (hn : ps.length = n) (hm : ∀ ds S, m ds S = .bad) : CalN P w K mg base k x n m := by
  obtain ⟨f, fd, Fn, h1, h2⟩ := Df.ex
  refine ⟨f, fd, ps, hn, ⟨fun vs H Q E h => by rw [hn]; exact h.1, fun A outer s H args us vs Q E hr he hb hv hs => ?_⟩, h1, Fn.kp, h2⟩
  obtain ⟨_, γ, S, ds, _, _, p⟩ := hs
  rw [hm] at p
  exact p.elim
/-- a law: asked a script it answers True -/
def spLaw (K : PySem.W.Frag) : Sp := fun vs H Q _ => ∃ (a : Addr) (ns : List Int), vs = [.ref a] ∧ SqL K H a (ns.map V.int) ∧ ns.length ≤ 63 ∧ ∀ H', Q (.bl true) H'
theorem law_imp {P : Program} {w : World} {K : PySem.W.Frag} {mg : Str → Option Value} {base : Heap} {CX : CXT} {k : Nat} {f : Addr} {fd : FuncData} {ps : List Str} {m : Fm} (F : FnOk P w K mg base CX k f fd ps (spD K 1 m)) (hm : ∀ ns : List Int, ns.length ≤ 63 → ∃ S, m [.scr ns] [] = .ok (.bl true) S) : FnOk P w K mg base CX k f fd ps (spLaw K) :=
  F.imp fun vs H Q E ⟨a, ns, e, hs, hl, k⟩ => by
    subst e
    refine ⟨rfl, ⟨[], []⟩, [], [.scr ns], ⟨rfl, List.nodup_nil, fun n c a h => by simp at h, fun a h => by simp at h⟩, .cons (.scr ?_) .nil, ?_⟩
    · rcases hs with h | h
      · exact .inl ⟨fun z => by rcases z with z | z <;> simp at z, h⟩
      · exact .inr h
    · obtain ⟨S, e⟩ := hm ns hl
      rw [e]
      intro γ' b H' _ _ r
      cases rep_bl r
      exact k H'
theorem law_out {P : Program} {w : World} {H : Hp} {s : Shared} {e : Value} {s' : Shared} (h : L2.CX P w [] H s (fun _ _ _ => False) e s') : False := by
  obtain ⟨_, _, _, _, _, _, _, _, _, _, _, _, z⟩ := h
  exact z.elim
theorem walk {l : PySem.W.OpenLaw} {k : Nat} {q : Program} {loose : List PySem.Str} {XP : (PySem.Str → Option Value) → Heap → Prop} {YP : World → Heap → Prop} {d : DefRec} {K : Params → PySem.W.Frag} {x : PySem.Str} (hn : l.most = some 63) (hdf : d.params.defaults = []) (hr : Room k callerA)
    (hY : ∀ (w : World) (h : Heap), YP w h → (K w.params).In h)
    (F : ∀ (w : World) (mg : PySem.Str → Option Value) (fa : Addr) (h : Heap), (K w.params).In h → h.Ns mainGlobals mg → mg d.name = some (.ref fa) →
      ∃ fd : FuncData, (∀ (s : Shared) (u : Value), BindsTo s fd ⟨[u], []⟩ [(x, u)]) ∧ ∀ base : Heap, (K w.params).In base → base.Ns mainGlobals mg → FnOk l.prog w (K w.params) mg base (L2.CX l.prog w) k fa fd [x] (spLaw (K w.params))) :
    PySem.W.WalkO q loose XP YP l.row.toRowW d [] (fun f vs => PySem.call f vs) :=
  L2.walk_of (n := 63) (k := k) (x := x) (CX := fun w => L2.CX l.prog w) (sp := fun w => spLaw (K w.params)) hn (by decide) hdf hr hY F (fun _ _ a ns hl _ hS => ⟨a, ns, rfl, hS, hl, fun _ => rfl⟩) fun _ _ _ _ _ z => law_out z
end DL

set_option maxRecDepth 100000
set_option maxHeartbeats 2000000
/-! Lw: what the defs that all laws share do: mirrors, and that they agree -/
namespace DL
open PySem PySem.Spec L2 PyProof.Rows
noncomputable section
def m_cell : Fm := fun ds S => match ds with
  | [.scr ns, .int k] => if 0 ≤ k then .ok (.int (ns.getD k.toNat 0)) S else .bad
  | _ => .bad
def F_cell : Fs :=
  sSeq (sIf (fB (fBin oLt (fVar 1) (fCall oLen (fCons (fVar 0) (fNil))))) (sRet (fCall oInt (fCons (fBin oIx (fVar 0) (fVar 1)) (fNil)))) (sNil)) (sRet (fC (.int 0)))
theorem atI_get {α : Type} {l : List α} {i : Nat} (h : i < l.length) : atI l (i : Int) = some l[i] := by
  unfold atI ixN
  simp [h]
theorem agr_cell : ∀ ds S, ds.length = 2 → Agr S (F_cell S.length (startD ["_law_script", "_law_k"] ds) S) (m_cell ds S) := by
  intro ds S h
  unfold m_cell
  split
  · rename_i ns k
    split
    · rename_i hk
      obtain ⟨k, rfl⟩ := Int.eq_ofNat_of_zero_le hk
      by_cases hl : k < ns.length
      · have := atI_get (l := ns.map D.int) (i := k) (by simpa using hl)
        simp [F_cell, hl, this]
        exact .ret
      · simp [F_cell, hl]
        exact .ret
    · trivial
  · trivial
@[simp] theorem get_last {S : Sto} {c : Cell} : (S ++ [c])[S.length]? = some c := by simp
@[simp] theorem set_last {S : Sto} {c d : Cell} : (S ++ [c]).set S.length d = S ++ [d] := by
  rw [List.set_append_right _ _ (Nat.le_refl _)]; simp
theorem forL_inv {T : Ft} {F : Fs} {b : Nat} {items : List D} {ds : Ev} {S : Sto} (I : Nat → Ev → Sto → Prop) (h0 : I 0 ds S)
    (hs : ∀ i ds S (hi : i < items.length), I i ds S → ∃ ds1 ds' S', T items[i] ds = some ds1 ∧ F b ds1 S = .nx ds' S' ∧ I (i + 1) ds' S') : ∃ ds' S', forL T F b items ds S = .nx ds' S' ∧ I items.length ds' S' := by
  suffices h : ∀ (r : List D) (i : Nat) (ds : Ev) (S : Sto), items.drop i = r → i ≤ items.length → I i ds S → ∃ ds' S', forL T F b r ds S = .nx ds' S' ∧ I items.length ds' S' from h items 0 ds S rfl (Nat.zero_le _) h0
  intro r
  induction r with
  | nil =>
    intro i ds S hr hi h
    have : items.length ≤ i := by
      have := congrArg List.length hr
      rw [List.length_drop] at this
      simp at this; omega
    have e : i = items.length := by omega
    subst e
    exact ⟨ds, S, rfl, h⟩
  | cons d r ih =>
    intro i ds S hr hi h
    have hlt : i < items.length := by
      have := congrArg List.length hr
      rw [List.length_drop] at this
      simp at this; omega
    rw [List.drop_eq_getElem_cons hlt] at hr
    injection hr with e1 e2
    obtain ⟨ds1, ds', S', a, b', c⟩ := hs i ds S hlt h
    rw [e1] at a
    obtain ⟨ds2, S2, e, z⟩ := ih (i + 1) ds' S' e2 hlt c
    refine ⟨ds2, S2, ?_, z⟩
    unfold forL
    rw [a]
    dsimp only
    rw [b']
    exact e
theorem ranD_get {lo : Int} {n i : Nat} (h : i < (ranD lo n).length) : (ranD lo n)[i] = D.int (lo + (i : Nat)) := by simp [ranD]
@[simp] theorem ranD_len {lo : Int} {n : Nat} : (ranD lo n).length = n := by simp [ranD]
/-! ### draws -/
def mixI (num i : Int) : Int :=
  let m := (num * 48271 + i * 69621 + 11) % 2147483647
  (m * m + i * 7919 + 5) % 998244353
def drawStep (great : Bool) (n : Int) (i : Nat) (p : List Int × Int) : List Int × Int :=
  if (i : Int) < n then
    if great = true then (p.1 ++ [p.2 % 60], p.2 / 60)
    else (p.1 ++ [mixI p.2 i % 60], p.2)
  else p
def drawSt (great : Bool) (n num : Int) : Nat → List Int × Int
  | 0 => ([], num)
  | i + 1 => drawStep great n i (drawSt great n num i)
def absI (c : Int) : Int := if c < 0 then -c else c
def draws (c n : Int) : List Int := (drawSt (decide (1000000000000000000 ≤ absI c)) n (absI c) 60).1
theorem drawSt_len {great : Bool} {n num : Int} : ∀ i : Nat, (drawSt great n num i).1.length = min i n.toNat
  | 0 => by simp [drawSt]
  | i + 1 => by
    have ih := drawSt_len (great := great) (n := n) (num := num) i
    unfold drawSt drawStep
    split
    · split
      · simp [ih]; omega
      · simp [ih]; omega
    · rw [ih]; omega
def m_draws : Fm := fun ds S => match ds with
  | [.int c, .int n] => .ok (.lst ((draws c n).map D.int)) S
  | _ => .bad
def B_draws_1 : Fs :=
  sIf (fAnd (fB (fBin oLt (fVar 5) (fVar 1))) (fTru (fVar 3))) (sSeq (sExpr (fMt oAppend (fVar 4) (fCons (fBin oMod (fVar 2) (fC (.int 60))) (fNil)))) (sSet 2 (fBin oDiv (fVar 2) (fC (.int 60))))) (sIf (fB (fBin oLt (fVar 5) (fVar 1))) (sSeq (sSet 6 (fBin oMod (fBin oAdd (fBin oAdd (fBin oMul (fCall oInt (fCons (fVar 2) (fNil))) (fC (.int 48271))) (fBin oMul (fVar 5) (fC (.int 69621)))) (fC (.int 11))) (fC (.int 2147483647)))) (sSeq (sSet 6 (fBin oMod (fBin oAdd (fBin oAdd (fBin oMul (fCall oInt (fCons (fVar 6) (fNil))) (fCall oInt (fCons (fVar 6) (fNil)))) (fBin oMul (fVar 5) (fC (.int 7919)))) (fC (.int 5))) (fC (.int 998244353)))) (sExpr (fMt oAppend (fVar 4) (fCons (fBin oMod (fCall oInt (fCons (fVar 6) (fNil))) (fC (.int 60))) (fNil)))))) (sNil))
def F_draws : Fs :=
  sSeq (sSet 2 (fCall oAbs (fCons (fCall oInt (fCons (fVar 0) (fNil))) (fNil)))) (sSeq (sSet 3 (fBin oGe (fVar 2) (fBin oPow (fC (.int 10)) (fC (.int 18))))) (sSeq (sSet 4 (fLst (fNil))) (sSeq (sFor (gN 5) (iOf kRan1 (fCons (fC (.int 60)) (fNil))) (B_draws_1)) (sRet (fVar 4)))))

theorem fits_small {n : Nat} (h : n ≤ 1000) : fits n = true := by
  unfold fits; exact decide_eq_true (by omega)
theorem step_draws_t {S : Sto} {c n num : Int} {i : Int} {k m : Option D} {acc : List Int} (h1 : i < n) (hf : fits acc.length = true) : B_draws_1 (S.length + 1) [some (.int c), some (.int n), some (.int num), some (.bl true), some (.ref S.length), some (.int i), m] (S ++ [.lst (acc.map D.int)]) =
    .nx [some (.int c), some (.int n), some (.int (num / 60)), some (.bl true), some (.ref S.length), some (.int i), m] (S ++ [.lst ((acc ++ [num % 60]).map D.int)]) := by
  simp [B_draws_1, h1, hf]
theorem step_draws_f {S : Sto} {c n num : Int} {i : Int} {k m : Option D} {acc : List Int} (h1 : i < n) (hf : fits acc.length = true) : B_draws_1 (S.length + 1) [some (.int c), some (.int n), some (.int num), some (.bl false), some (.ref S.length), some (.int i), m] (S ++ [.lst (acc.map D.int)]) =
    .nx [some (.int c), some (.int n), some (.int num), some (.bl false), some (.ref S.length), some (.int i), some (.int (mixI num i))] (S ++ [.lst ((acc ++ [mixI num i % 60]).map D.int)]) := by
  have s1 : smallI 48271 = true := by decide
  have s2 : smallI 69621 = true := by decide
  have s3 : smallI 7919 = true := by decide
  have s4 : smallI ((num * 48271 + i * 69621 + 11) % 2147483647) = true := smallI_mod (by decide) (by decide)
  simp [B_draws_1, h1, hf, oMul_r s1, oMul_r s2, oMul_r s3, oMul_r s4, mixI]
theorem step_draws_n {S : Sto} {c n num : Int} {great : Bool} {i : Int} {m r : Option D} {b : Nat} (h1 : ¬ i < n) : B_draws_1 b [some (.int c), some (.int n), some (.int num), some (.bl great), r, some (.int i), m] S =
    .nx [some (.int c), some (.int n), some (.int num), some (.bl great), r, some (.int i), m] S := by
  simp [B_draws_1, h1]
theorem loop_draws {S : Sto} {c n num : Int} {great : Bool} : ∃ num' k m, forL (gN 5) B_draws_1 (S.length + 1) (ranD 0 60) [some (.int c), some (.int n), some (.int num), some (.bl great), some (.ref S.length), none, none] (S ++ [.lst []]) =
    .nx [some (.int c), some (.int n), some (.int num'), some (.bl great), some (.ref S.length), k, m] (S ++ [.lst ((drawSt great n num 60).1.map D.int)]) := by
  obtain ⟨ds', S', e, num', k, m, rfl, rfl, hn⟩ := forL_inv (T := gN 5) (F := B_draws_1) (b := S.length + 1) (items := ranD 0 60) (ds := [some (.int c), some (.int n), some (.int num), some (.bl great), some (.ref S.length), none, none]) (S := S ++ [.lst []])
      (fun i ds' S' => ∃ num' k m, ds' = [some (.int c), some (.int n), some (.int num'), some (.bl great), some (.ref S.length), k, m] ∧ S' = S ++ [.lst ((drawSt great n num i).1.map D.int)] ∧ num' = (drawSt great n num i).2)
      ⟨_, _, _, rfl, rfl, rfl⟩ (by
        rintro i ds' S' hi ⟨num', k, m, rfl, rfl, hn⟩
        have hi : i < 60 := by simpa using hi
        have hl : (drawSt great n num i).1.length ≤ 60 := by rw [drawSt_len]; omega
        have hf : fits (drawSt great n num i).1.length = true := fits_small (by omega)
        rw [ranD_get]
        simp only [Int.zero_add]
        by_cases h1 : (i : Int) < n
        · cases great with
          | true => exact ⟨_, _, _, rfl, step_draws_t (k := k) h1 hf, _, _, _, by rw [hn], by simp [drawSt, drawStep, h1, hn], by simp [drawSt, drawStep, h1]⟩
          | false => exact ⟨_, _, _, rfl, step_draws_f (k := k) h1 hf, _, _, _, rfl, by simp [drawSt, drawStep, h1, hn], by simp [drawSt, drawStep, h1, hn]⟩
        · exact ⟨_, _, _, rfl, step_draws_n h1, num', some (.int i), m, rfl, by simp [drawSt, drawStep, h1], by simp [drawSt, drawStep, h1, hn]⟩)
  exact ⟨num', k, m, by simpa using e⟩
theorem agr_draws : ∀ ds S, ds.length = 2 → Agr S (F_draws S.length (startD ["_law_cell_here", "_law_count", "_law_number", "_law_great", "_law_found", "_law_k", "_law_mixed"] ds) S) (m_draws ds S) := by
  intro ds S h
  unfold m_draws
  split
  · rename_i c n
    simp [F_draws]
    obtain ⟨num', k, m, e⟩ := loop_draws (S := S) (c := c) (n := n) (num := if c < 0 then -c else c) (great := decide (1000000000000000000 ≤ if c < 0 then -c else c))
    rw [e]
    simp
    refine ⟨_, _, .inl rfl, ?_⟩
    have sf : Safe S (S ++ [Cell.lst ((drawSt (decide (1000000000000000000 ≤ if c < 0 then -c else c)) n (if c < 0 then -c else c) 60).1.map D.int)]) := Safe.refl.app
    have := Cls.frz sf (.ref (Nat.le_refl _) get_last (Frzs.same (cloL_ints _)))
    rw [List.take_left] at this
    exact this
  · trivial
/-! ### next -/
def m_next : Fm := fun ds S => match ds with
  | [.lst [.ref p, .ref q], .int m] => match S[p]?, S[q]? with
    | some (.lst dl), some (.lst [.int k]) => match atI dl (k % dl.length) with
      | some (.int v) => if 0 < m ∧ (0 : Int) < dl.length then .ok (.int (v % m)) (S.set q (.lst [.int (k + 1)])) else .bad
      | _ => .bad
    | _, _ => .bad
  | _ => .bad
def F_next : Fs :=
  sSeq (sSet 2 (fBin oIx (fVar 0) (fC (.int 0)))) (sSeq (sSet 3 (fBin oIx (fVar 0) (fC (.int 1)))) (sSeq (sSet 4 (fBin oMod (fCall oInt (fCons (fBin oIx (fVar 2) (fBin oMod (fCall oInt (fCons (fBin oIx (fVar 3) (fC (.int 0))) (fNil))) (fCall oLen (fCons (fVar 2) (fNil))))) (fNil))) (fVar 1))) (sSeq (sSetIx (fVar 3) (fC (.int 0)) (fBin oAdd (fBin oIx (fVar 3) (fC (.int 0))) (fC (.int 1)))) (sRet (fVar 4)))))

theorem agr_next : ∀ ds S, ds.length = 2 → Agr S (F_next S.length (startD ["_law_stream_here", "_law_many", "_law_digits", "_law_place", "_law_value"] ds) S) (m_next ds S) := by
  intro ds S h
  unfold m_next
  split
  · rename_i p q m
    split
    · rename_i dl k hp hq
      split
      · rename_i v hv
        split
        · rename_i c
          have i0 : atI [D.int k] 0 = some (.int k) := rfl
          have j0 : ixN 1 0 = some 0 := rfl
          have i1 : atI [D.ref p, D.ref q] 0 = some (.ref p) := rfl
          have i2 : atI [D.ref p, D.ref q] 1 = some (.ref q) := rfl
          have e1 : oMod (.int k) (.int dl.length) S = .ok (.int (k % dl.length)) S := oMod_i c.2
          simp [F_next, hp, hq, hv, c.1, e1, i0, i1, i2, j0]
          exact .ret
        · trivial
      · trivial
    · trivial
  · trivial
/-! ### integers -/
def m_is_integer : Fm := fun ds S => match ds with
  | [d] => match tyD S d with
    | some t => .ok (.bl (t == "int")) S
    | none => .bad
  | _ => .bad
def F_is_integer : Fs :=
  sRet (fAndV (fIsi "int" (fVar 0)) (fNotV (fIsi "bool" (fVar 0))))

theorem agr_is_integer : ∀ ds S, ds.length = 1 → Agr S (F_is_integer S.length (startD ["_law_actual"] ds) S) (m_is_integer ds S) := by
  intro ds S h
  unfold m_is_integer
  split
  · rename_i d
    split
    · rename_i t ht
      have := tyD_in ht
      simp at this
      rcases this with h | h | h | h | h | h <;> subst h <;> simp [F_is_integer, ht] <;> exact .ret
    · trivial
  · trivial
/-! ### the stream -/
def streamDs (ns : List Int) (a : Int) : Nat → List Int
  | 0 => []
  | i + 1 => streamDs ns a i ++ draws (ns.getD (a + (i : Nat)).toNat 0) 12
theorem draws_len {c : Int} : (draws c 12).length = 12 := by
  unfold draws; rw [drawSt_len]; rfl
theorem streamDs_len {ns : List Int} {a : Int} : ∀ i : Nat, (streamDs ns a i).length = 12 * i
  | 0 => rfl
  | i + 1 => by unfold streamDs; rw [List.length_append, streamDs_len i, draws_len]; omega
def m_stream : Fm := fun ds S => match ds with
  | [.scr ns, .int a, .int c] => if 0 ≤ a ∧ 0 ≤ c ∧ c ≤ 60 then .ok (.lst [.ref S.length, .ref (S.length + 1)]) (S ++ [.lst ((streamDs ns a c.toNat).map D.int), .lst [.int 0]]) else .bad
  | _ => .bad
def B_stream_1 : Fs :=
  sExpr (fMt oExtend (fVar 3) (fCons (fFn 2 m_draws (fCons (fFn 2 m_cell (fCons (fVar 0) (fCons (fBin oAdd (fVar 1) (fVar 4)) (fNil)))) (fCons (fC (.int 12)) (fNil)))) (fNil)))
def F_stream : Fs :=
  sSeq (sSet 3 (fLst (fNil))) (sSeq (sFor (gN 4) (iOf kRan1 (fCons (fVar 2) (fNil))) (B_stream_1)) (sRet (fFls (fCons (fVar 3) (fCons (fLst (fCons (fC (.int 0)) (fNil))) (fNil))))))

theorem loop_stream {S : Sto} {ns : List Int} {a : Int} {c : Nat} (ha : 0 ≤ a) (hc : c ≤ 60) : ∃ k, forL (gN 4) B_stream_1 (S.length + 1) (ranD 0 c) [some (.scr ns), some (.int a), some (.int c), some (.ref S.length), none] (S ++ [.lst []]) =
    .nx [some (.scr ns), some (.int a), some (.int c), some (.ref S.length), k] (S ++ [.lst ((streamDs ns a c).map D.int)]) := by
  obtain ⟨ds', S', e, k, rfl, rfl⟩ := forL_inv (T := gN 4) (F := B_stream_1) (b := S.length + 1) (items := ranD 0 c) (ds := [some (.scr ns), some (.int a), some (.int c), some (.ref S.length), none]) (S := S ++ [.lst []])
      (fun i ds' S' => ∃ k, ds' = [some (.scr ns), some (.int a), some (.int c), some (.ref S.length), k] ∧ S' = S ++ [.lst ((streamDs ns a i).map D.int)])
      ⟨_, rfl, rfl⟩ (by
        rintro i ds' S' hi ⟨k, rfl, rfl⟩
        have hi : i < c := by simpa using hi
        rw [ranD_get]
        simp only [Int.zero_add]
        have h0 : 0 ≤ a + (i : Int) := by omega
        have hf : fits ((streamDs ns a i).length + (draws (ns.getD (a + (i : Nat)).toNat 0) 12).length) = true := fits_small (by rw [streamDs_len, draws_len]; omega)
        refine ⟨_, _, _, rfl, ?_, some (.int i), rfl, rfl⟩
        simp [B_stream_1, m_cell, m_draws, h0, streamDs]
        simp [List.getD] at hf
        simp [hf])
  exact ⟨k, by simpa using e⟩
theorem agr_stream : ∀ ds S, ds.length = 3 → Agr S (F_stream S.length (startD ["_law_script", "_law_first", "_law_count", "_law_found", "_law_k"] ds) S) (m_stream ds S) := by
  intro ds S h
  unfold m_stream
  split
  · rename_i ns a c
    split
    · rename_i hc
      obtain ⟨c, rfl⟩ := Int.eq_ofNat_of_zero_le hc.2.1
      obtain ⟨k, e⟩ := loop_stream (S := S) (ns := ns) (c := c) hc.1 (by omega)
      have hs : kRan1 [.int (c : Int)] = some (ranD 0 c) := kRan1_n (by omega)
      simp [F_stream, hs]
      rw [e]
      simp
      exact .ret
    · trivial
  · trivial
/-! ### the same -/
def pl : Nat → D → Bool
  | 0, _ => false
  | j + 1, d => match d with
    | .non => true
    | .bl _ => true
    | .int _ => true
    | .str s => PyData.canLay0 (.str s)
    | .tup l => fits l.length && l.all (pl j)
    | .lst l => fits l.length && l.all (pl j)
    | _ => false
def m_same : Nat → Fm := fun j ds S => match ds with
  | [a, e] => if (D.eqb a e && pl j a) = true then .ok (.bl true) S else .bad
  | _ => .bad
theorem m_same_ok {j : Nat} {d : D} {S : Sto} (h : pl j d = true) : m_same j [d, d] S = .ok (.bl true) S := by
  unfold m_same; exact if_pos (by rw [D.eqb_refl, h]; rfl)
def B_same_1 (j : Nat) : Fs :=
  sIf (fNot (fTru (fFn 2 (m_same j)  (fCons (fBin oIx (fVar 0) (fVar 2)) (fCons (fBin oIx (fVar 1) (fVar 2)) (fNil)))))) (sRet (fC (.bl false))) (sNil)
def F_same_at (j : Nat) : Fs :=
  sSeq (sIf (fB (fBin (oIs false) (fVar 1) (fC .non))) (sRet (fBin (oIs false) (fVar 0) (fC .non))) (sNil)) (sSeq (sIf (fTru (fIsi "bool" (fVar 1))) (sRet (fAndV (fIsi "bool" (fVar 0)) (fBin (oEq false) (fVar 0) (fVar 1)))) (sNil)) (sSeq (sIf (fTru (fIsi "int" (fVar 1))) (sRet (fAndV (fFn 1 m_is_integer (fCons (fVar 0) (fNil))) (fBin (oEq false) (fVar 0) (fVar 1)))) (sNil)) (sSeq (sIf (fTru (fIsi "str" (fVar 1))) (sRet (fAndV (fIsi "str" (fVar 0)) (fBin (oEq false) (fVar 0) (fVar 1)))) (sNil)) (sSeq (sIf (fAnd (fTru (fIsi "tuple" (fVar 1))) (fNot (fTru (fIsi "tuple" (fVar 0))))) (sRet (fC (.bl false))) (sNil)) (sSeq (sIf (fAnd (fTru (fIsi "list" (fVar 1))) (fNot (fTru (fIsi "list" (fVar 0))))) (sRet (fC (.bl false))) (sNil)) (sSeq (sIf (fB (fBin (oEq true) (fCall oLen (fCons (fVar 0) (fNil))) (fCall oLen (fCons (fVar 1) (fNil))))) (sRet (fC (.bl false))) (sNil)) (sSeq (sFor (gN 2) (iOf kRan1 (fCons (fCall oLen (fCons (fVar 1) (fNil))) (fNil))) (B_same_1 j)) (sRet (fC (.bl true))))))))))

theorem loop_same {S : Sto} {j b : Nat} {d : D} {l : List D} (hs : seqOf S d = some l) (hl : l.all (pl j) = true) : ∃ k, forL (gN 2) (B_same_1 j) b (ranD 0 l.length) [some d, some d, none] S = .nx [some d, some d, k] S := by
  obtain ⟨ds', S', e, k, rfl, rfl⟩ := forL_inv (T := gN 2) (F := B_same_1 j) (b := b) (items := ranD 0 l.length) (ds := [some d, some d, none]) (S := S)
      (fun i ds' S' => ∃ k, ds' = [some d, some d, k] ∧ S' = S) ⟨_, rfl, rfl⟩ (by
        rintro i ds' S' hi ⟨k, rfl, rfl⟩
        have hi : i < l.length := by simpa using hi
        rw [ranD_get]
        simp only [Int.zero_add]
        have h1 : atI l (i : Int) = some l[i] := atI_get hi
        have h2 : m_same j [l[i], l[i]] S' = .ok (.bl true) S' := m_same_ok (List.all_eq_true.mp hl _ (List.getElem_mem hi))
        refine ⟨_, _, _, rfl, ?_, some (.int i), rfl, rfl⟩
        simp [B_same_1, hs, h1, h2])
  exact ⟨k, by simpa using e⟩
theorem agr_same (j : Nat) : ∀ ds S, ds.length = 2 → Agr S (F_same_at j S.length (startD ["_law_actual", "_law_expected", "_law_k"] ds) S) (m_same (j + 1) ds S) := by
  intro ds S h
  unfold m_same
  split
  · rename_i a e
    split
    · rename_i c
      rw [Bool.and_eq_true] at c
      obtain ⟨c0, c⟩ := c
      cases D.eqb_eq c0
      have fin : ∀ l, seqOf S a = some l → (∃ t, tyD S a = some t ∧ (t = "tuple" ∨ t = "list")) → a ≠ .non → (∀ s, a ≠ .str s) → fits l.length = true → l.all (pl j) = true → Agr S (F_same_at j S.length (startD ["_law_actual", "_law_expected", "_law_k"] [a, a]) S) (.ok (.bl true) S) := by
        rintro l hs ⟨t, ht, ht2⟩ hn hstr hf hl
        obtain ⟨k, e⟩ := loop_same (b := S.length) hs hl
        have hk : kRan1 [.int (l.length : Int)] = some (ranD 0 l.length) := kRan1_n (of_decide_eq_true hf)
        have hlen : oLen [a] S = .ok (.int l.length) S := by
          cases a with
          | str s => exact absurd rfl (hstr s)
          | _ => simp only [oLen, hs]
        have his : oIs false a .non S = .ok (.bl false) S := oIs_ne false hn S
        rcases ht2 with rfl | rfl
        · simp [F_same_at, ht, his, hlen, hk, -oLen, -oIs]
          rw [e]
          simp
          exact .ret
        · simp [F_same_at, ht, his, hlen, hk, -oLen, -oIs]
          rw [e]
          simp
          exact .ret
      cases a with
      | non => simp [F_same_at]; exact .ret
      | bl b => simp [F_same_at]; exact .ret
      | int i => simp [F_same_at, m_is_integer]; exact .ret
      | str s =>
        have := shp_str (S := S) (s := s) (by simpa [pl] using c)
        simp [F_same_at, this]; exact .ret
      | tup l =>
        simp only [pl, Bool.and_eq_true] at c
        exact fin l rfl ⟨_, rfl, .inl rfl⟩ (fun z => nomatch z) (fun _ z => nomatch z) c.1 c.2
      | lst l =>
        simp only [pl, Bool.and_eq_true] at c
        exact fin l rfl ⟨_, rfl, .inr rfl⟩ (fun z => nomatch z) (fun _ z => nomatch z) c.1 c.2
      | _ => simp [pl] at c
    · trivial
  · trivial
end
end DL

set_option maxRecDepth 100000
set_option maxHeartbeats 2000000
/-! DlA: minus, sorted ints, a walk over a list that may be written, mirrors that are the meaning itself -/
namespace DL
open PySem PySem.Spec L2 PyProof.Rows
noncomputable section
section
variable {X : Cx} {W : WX} {pos : Pos} {a : Expr} {f : Fe}
@[simp] def fNeg (f : Fe) : Fe := fun ds S => (f ds S).bind fun d S1 => match d with
  | .int i => .ok (.int (-i)) S1
  | _ => .bad
theorem de_neg (ha : DE X W a f) : DE X W (.UnaryOp .USub a pos) (fNeg f) := PEimp (pe_un un_neg ha) fun σ H Q hw => by
  obtain ⟨γ, ds, S, st, ev, p⟩ := hw
  refine (Post.bind (Rp := Rep X.K) st ev p).imp fun x H1 ⟨γ1, d1, S1, e1, st1, ev1, r1, p1⟩ => ?_
  cases d1 with
  | int i => cases rep_int r1; exact ⟨i, rfl, p1 γ1 _ H1 .refl st1 (.int _)⟩
  | _ => exact p1.elim
/-- sorted(..) of a list of ints -/
def sortI (ns : List Int) : List Int := ns.mergeSort fun a b => decide (a ≤ b)
theorem sortI_is {ns ms : List Int} (hp : ms.Perm ns) (hs : ms.Pairwise (· ≤ ·)) : ms = sortI ns := by
  have h1 : (sortI ns).Pairwise (fun a b => decide (a ≤ b) = true) := List.pairwise_mergeSort (le := fun (a b : Int) => decide (a ≤ b)) (fun a b c h1 h2 => decide_eq_true (Int.le_trans (of_decide_eq_true h1) (of_decide_eq_true h2))) (fun a b => by
    rcases Int.le_total a b with h | h
    · rw [decide_eq_true h]; rfl
    · rw [decide_eq_true h, Bool.or_true]) ns
  have h2 : (sortI ns).Pairwise (· ≤ ·) := h1.imp fun h => of_decide_eq_true h
  exact List.Perm.eq_of_pairwise (fun a b _ _ h3 h4 => Int.le_antisymm h3 h4) hs h2 (hp.trans (List.mergeSort_perm ns _).symm)
def oSorted : OpA := fun xs S => match xs with
  | [d] => match (lstOf S d).bind intsOf with
    | some ns => .ok (.lst ((sortI ns).map D.int)) S
    | none => .bad
  | _ => .bad
theorem oSorted_of {S : Sto} {d : D} {ns : List Int} (h : lstOf S d = some (ns.map D.int)) : oSorted [d] S = .ok (.lst ((sortI ns).map D.int)) S := by
  show (match (lstOf S d).bind intsOf with
    | some ns => Res.ok (D.lst ((sortI ns).map D.int)) S
    | none => .bad) = _
  rw [h]
  show (match intsOf (ns.map D.int) with
    | some ns => Res.ok (D.lst ((sortI ns).map D.int)) S
    | none => .bad) = _
  rw [intsOf_map]
theorem does_sorted {K : PySem.W.Frag} : DoesA K W (rSortedI K) oSorted := by
  intro γ S H xs vs σ Q st r p
  cases xs with
  | nil => exact p.elim
  | cons d t =>
    cases t with
    | cons d2 t2 => exact p.elim
    | nil =>
      obtain ⟨v, rfl, rd⟩ := reps1 r
      unfold oSorted at p
      dsimp only at p
      cases hx : lstOf S d with
      | none => rw [hx] at p; exact p.elim
      | some l =>
        rw [hx] at p
        change Post (Rep K) K W σ Q γ H (match intsOf l with
          | some ns => .ok (.lst ((sortI ns).map D.int)) S
          | none => .bad) at p
        cases hi : intsOf l with
        | none => rw [hi] at p; exact p.elim
        | some ns =>
          rw [hi] at p
          obtain ⟨b, us, rfl, hs, t⟩ := lstOf_at hx st rd
          rw [intsOf_eq hi] at t
          rw [t.ints] at hs
          refine ⟨b, ns, rfl, .of hs, fun ms q h1 h2 hq => ?_⟩
          rw [sortI_is h1 h2]
          exact p γ _ _ (.new hq) (st.new hq) (st.newLst hq (.of_ints _))
theorem b_sorted (hm : X.mg "sorted" = none) : Blt X W "sorted" oSorted := ⟨_, does_sorted, hm, by decide, by decide, .inl ⟨_, cr_sortedI, by decide +kernel⟩⟩
end
/-- a def's meaning as its own mirror -/
def mOf (N : List PySem.Str) (F : Fs) : Fm := fun ds S => match F S.length (startD N ds) S with
  | .rt d S' => .ok d S'
  | .exc x _ S' => .exc x S'
  | _ => .bad
theorem agr_mOf {N : List PySem.Str} {F : Fs} (ds : List D) (S : Sto) : Agr S (F S.length (startD N ds) S) (mOf N F ds S) := by
  unfold mOf
  cases q : F S.length (startD N ds) S with
  | rt d S' => exact ⟨d, S', .inl rfl, .same⟩
  | exc x ds' S' => exact ⟨ds', rfl⟩
  | _ => trivial
theorem mOf_rt {N : List PySem.Str} {F : Fs} {ds : List D} {S S' : Sto} {d : D} (h : F S.length (startD N ds) S = .rt d S') : mOf N F ds S = .ok d S' := by
  unfold mOf; rw [h]
theorem m_same_zero (ds : List D) (S : Sto) : m_same 0 ds S = .bad := by
  unfold m_same
  split
  · rw [if_neg (fun z => by simp [pl] at z)]
  · rfl
/-! ### the stream as the laws hold it -/
def strD : D := .lst [.ref 0, .ref 1]
def Stt (dg : List Int) (k : Int) : Sto := [.lst (dg.map D.int), .lst [.int k]]
theorem next_at {dg : List Int} {k m : Int} (hd : dg ≠ []) (hm : 0 < m) : ∃ v, m_next [strD, .int m] (Stt dg k) = .ok (.int v) (Stt dg (k + 1)) ∧ 0 ≤ v ∧ v < m := by
  have hl : (0 : Int) < dg.length := by
    cases dg with
    | nil => exact absurd rfl hd
    | cons _ _ => simp
  have m0 := Int.emod_nonneg k (Int.ne_of_gt hl)
  have m1 := Int.emod_lt_of_pos k hl
  obtain ⟨j, hj⟩ := Int.eq_ofNat_of_zero_le m0
  have hjl : j < dg.length := by omega
  have h1 : atI (dg.map D.int) (k % (dg.map D.int).length) = some (.int dg[j]) := by
    rw [List.length_map, hj]
    have := atI_get (l := dg.map D.int) (i := j) (by simpa using hjl)
    rw [this]; simp
  refine ⟨dg[j] % m, ?_, Int.emod_nonneg _ (Int.ne_of_gt hm), Int.emod_lt_of_pos _ hm⟩
  show (match atI (dg.map D.int) (k % (dg.map D.int).length) with
    | some (.int v) => if 0 < m ∧ (0 : Int) < (dg.map D.int).length then Res.ok (D.int (v % m)) ((Stt dg k).set 1 (.lst [.int (k + 1)])) else .bad
    | _ => .bad) = _
  rw [h1]
  dsimp only
  rw [if_pos ⟨hm, by rw [List.length_map]; exact hl⟩]
  rfl
/-- its start -/
theorem stream_at (ns : List Int) {c : Int} (h0 : 0 < c) (h1 : c ≤ 60) : ∃ dg : List Int, dg ≠ [] ∧ m_stream [.scr ns, .int 0, .int c] [] = .ok strD (Stt dg 0) := by
  refine ⟨streamDs ns 0 c.toNat, fun z => ?_, ?_⟩
  · have := streamDs_len (ns := ns) (a := 0) c.toNat
    rw [z] at this; simp at this; omega
  · show (if (0 : Int) ≤ 0 ∧ 0 ≤ c ∧ c ≤ 60 then Res.ok (D.lst [.ref 0, .ref 1]) [Cell.lst ((streamDs ns 0 c.toNat).map D.int), .lst [.int 0]] else .bad) = _
    rw [if_pos ⟨Int.le_refl _, Int.le_of_lt h0, h1⟩]; rfl
theorem cell_at (ns : List Int) {k : Int} (h : 0 ≤ k) (S : Sto) : m_cell [.scr ns, .int k] S = .ok (.int (ns.getD k.toNat 0)) S := by
  show (if 0 ≤ k then Res.ok (D.int (ns.getD k.toNat 0)) S else .bad) = _
  rw [if_pos h]
/-- at the law's end nothing is kept -/
theorem cls_end (d : D) (h : cloD 0 d = true) (S : Sto) : Cls [] d S d [] := Cls.frz (S := []) ⟨Nat.zero_le _, fun n c hn => by simp at hn⟩ (.same h)
theorem pl_ints {j : Nat} {ns : List Int} : (ns.map D.int).all (pl (j + 1)) = true := by
  rw [List.all_eq_true]; intro d hd
  rw [List.mem_map] at hd
  obtain ⟨i, _, rfl⟩ := hd
  rfl
theorem pl_tup_ints {j : Nat} {ns : List Int} (h : ns.length ≤ 1000) : pl (j + 2) (.tup (ns.map D.int)) = true := by
  show (fits (ns.map D.int).length && (ns.map D.int).all (pl (j + 1))) = true
  rw [pl_ints, List.length_map, fits_small h]; rfl
theorem oSum_of {S : Sto} {d : D} {ns : List Int} (h : seqOf S d = some (ns.map D.int)) : oSum [d] S = .ok (.int ns.sum) S := by
  show (match (seqOf S d).bind intsOf with
    | some ns => Res.ok (D.int ns.sum) S
    | none => .bad) = _
  rw [h]
  show (match intsOf (ns.map D.int) with
    | some ns => Res.ok (D.int ns.sum) S
    | none => .bad) = _
  rw [intsOf_map]
end
end DL

set_option maxRecDepth 100000
set_option maxHeartbeats 2000000
/-! DlR: for over a list that may be written, but isn't meanwhile -/
namespace DL
open PySem PySem.Spec L2
noncomputable section
/-- the list at n is l0 -/
def lstIs (S : Sto) (n : Nat) (l0 : List D) : Bool := match S[n]? with
  | some (.lst l) => D.eqbs l l0
  | _ => false
theorem lstIs_eq {S : Sto} {n : Nat} {l0 : List D} (h : lstIs S n l0 = true) : S[n]? = some (.lst l0) := by
  unfold lstIs at h
  cases q : S[n]? with
  | none => rw [q] at h; cases h
  | some c =>
    rw [q] at h
    cases c with
    | lst l => rw [D.eqbs_eq h]
    | obj _ _ => cases h
    | dct _ => cases h
    | dk _ => cases h
theorem lstIs_of {S : Sto} {n : Nat} {l0 : List D} (h : S[n]? = some (.lst l0)) : lstIs S n l0 = true := by
  unfold lstIs; rw [h]; exact D.eqbs_refl l0
def forR (n : Nat) (l0 : List D) (T : Ft) (F : Fs) (b : Nat) : List D → Ev → Sto → RS
  | [], ds, S => .nx ds S
  | d :: r, ds, S => match T d ds with
    | none => .bad
    | some ds1 => match F b ds1 S with
      | .nx ds' S' => if lstIs S' n l0 = true then forR n l0 T F b r ds' S' else .bad
      | .ct ds' S' => if lstIs S' n l0 = true then forR n l0 T F b r ds' S' else .bad
      | .bk ds' S' => .nx ds' S'
      | .rt d S' => .rt d S'
      | .exc x ds' S' => .exc x ds' S'
      | .bad => .bad
def sForR (T : Ft) (f : Fe) (F : Fs) : Fs := fun _ ds S => (f ds S).go ds fun d S1 => match d with
  | .ref n => match S1[n]? with
    | some (.lst l) => forR n l T F S1.length l ds S1
    | _ => .bad
  | _ => .bad
section
variable {X : Cx} {W : WX} {pos : Pos} {tg l : Expr} {body : List Stmt} {f : Fe} {T : Ft} {F : Fs} {ws : List Nat}
def TurnsR (K : PySem.W.Frag) (W : WX) (n : Nat) (l0 : List D) (T : Ft) (F : Fs) (Dn : Ends) (γ0 : Ga) (H0 : Hp) (γ1 : Ga) (H1 : Hp) (i : Nat) (σ : L2.St) (H : Hp) : Prop :=
  ∃ γ ds S, Ext γ1 H1 γ H ∧ StoR K γ S H ∧ EvR K γ H ds σ ∧ S[n]? = some (.lst l0) ∧ PostS K W Dn γ0 H0 (forR n l0 T F γ1.length (l0.drop i) ds S)
theorem body_turnR {K : PySem.W.Frag} {Dn : Ends} {γ0 γ1 γ : Ga} {H0 H1 H : Hp} {n : Nat} {l0 : List D} {i : Nat} {σ : L2.St} {ds : Ev} {S : Sto} {r : List D} (e01 : Ext γ0 H0 γ1 H1) (e : Ext γ1 H1 γ H) (st : StoR K γ S H) (ev : EvR K γ H ds σ)
    (hr : l0.drop (i + 1) = r) (p : PostS K W Dn γ0 H0 (match F γ1.length ds S with
      | .nx ds' S' => if lstIs S' n l0 = true then forR n l0 T F γ1.length r ds' S' else .bad
      | .ct ds' S' => if lstIs S' n l0 = true then forR n l0 T F γ1.length r ds' S' else .bad
      | .bk ds' S' => .nx ds' S'
      | .rt d S' => .rt d S'
      | .exc x ds' S' => .exc x ds' S'
      | .bad => .bad)) :
    rdSE K W F { Dn with nx := TurnsR K W n l0 T F Dn γ0 H0 γ1 H1 (i + 1), ct := TurnsR K W n l0 T F Dn γ0 H0 γ1 H1 (i + 1), bk := Dn.nx } σ H := by
  refine ⟨γ1, H1, γ, ds, S, e, st, ev, ?_⟩
  cases q : F γ1.length ds S with
  | nx ds' S' =>
    rw [q] at p
    dsimp only at p
    by_cases c : lstIs S' n l0 = true
    · rw [if_pos c] at p
      exact fun γ' σ' H' e' st' ev' => ⟨γ', ds', S', e', st', ev', lstIs_eq c, by rw [hr]; exact p⟩
    · rw [if_neg c] at p; exact p.elim
  | ct ds' S' =>
    rw [q] at p
    dsimp only at p
    by_cases c : lstIs S' n l0 = true
    · rw [if_pos c] at p
      exact fun γ' σ' H' e' st' ev' => ⟨γ', ds', S', e', st', ev', lstIs_eq c, by rw [hr]; exact p⟩
    · rw [if_neg c] at p; exact p.elim
  | bk ds' S' => rw [q] at p; exact fun γ' σ' H' e' st' ev' => p γ' σ' H' (e01.trans e') st' ev'
  | rt d S' => rw [q] at p; exact fun γ' v H' e' st' r' => p γ' v H' (e01.trans e') st' r'
  | exc x ds' S' => rw [q] at p; exact fun γ' σ' H' c dd e' st' ev' x' => p γ' σ' H' c dd (e01.trans e') st' ev' x'
  | bad => rw [q] at p; exact p
theorem ds_forR (hp : PassesOwn (model X.prog X.w) X.A X.env X.xe) (hc : X.calm = true) (hl : DE X W l f) (hg : DG X tg T ws) (hb : DSs X W body F) (hs : ∀ x, foldedSetIterable l X.env x = pure x := by intro _; rfl) :
    DS X W (.For tg l body [] pos) (sForR T f F) := by
  intro γ0 H0
  refine PSimp (ps_for hp hc (pi_list hl) hg (pss_E hb) hs) fun Dn σ H hw => ?_
  obtain ⟨γ, ds, S, e, st, ev, p⟩ := hw
  refine (PostS.go (Rp := Rep X.K) e st ev p).imp fun v H1 ⟨γ1, d, S1, e01, st1, ev1, r1, p1⟩ => ?_
  dsimp only at p1
  cases d <;> first | exact p1.elim | skip
  rename_i n
  dsimp only at p1
  cases q : S1[n]? with
  | none => rw [q] at p1; exact p1.elim
  | some c =>
    cases c with
    | obj _ _ => (rw [q] at p1; exact p1.elim)
    | dct _ => (rw [q] at p1; exact p1.elim)
    | dk _ => (rw [q] at p1; exact p1.elim)
    | lst l0 =>
      rw [q] at p1
      dsimp only at p1
      obtain ⟨a, vs, rfl, g, ha, t⟩ := st1.lst q r1
      have hlen : γ1.length = S1.length := st1.len
      rw [← hlen] at p1
      have cellAt : ∀ {γ' : Ga} {S' : Sto} {H' : Hp}, Ext γ1 H1 γ' H' → StoR X.K γ' S' H' → S'[n]? = some (.lst l0) → ∃ us, H' a = some (.lst us) ∧ Reps X.K γ' H' l0 us := fun {γ' S' H'} e' st' q' => by
        obtain ⟨us, h1, h2⟩ := st'.cell n _ a q' (e'.get g)
        exact ⟨us, h1, h2⟩
      have w : Walk (Itl X.K a) l0.length (fun H => ∃ us, SqL X.K H a us ∧ us.length = l0.length) (fun i H x H' => H' = H ∧ ∀ us, SqL X.K H a us → us[i]? = some x) := by
        refine ⟨fun i H hi ⟨us, hq, hl⟩ => ⟨us, us[i]'(by rw [hl]; exact hi), hq, by simp⟩, fun H ⟨us, hq, hl⟩ => ⟨us, hq, by rw [hl]; exact Nat.le_refl _⟩, fun i H x H' hi _ y => y⟩
      refine ⟨a, rfl, ⟨vs, .of ha⟩, for_it w (TurnsR X.K W n l0 T F Dn γ0 H0 γ1 H1) ⟨γ1, ds, S1, .refl, st1, ev1, q, p1⟩ (fun i σ H hi ⟨γ', ds', S', e', st', ev', q', _⟩ => ?_) ?_ ?_⟩
      · obtain ⟨us, h1, h2⟩ := cellAt e' st' q'
        exact ⟨us, .of h1, h2.length.symm⟩
      · rintro i x σ2 H2 H3 hi ⟨γ2, ds2, S2, e2, st2, ev2, q2, p2⟩ ⟨rfl, y⟩
        obtain ⟨us, h1, h2⟩ := cellAt e2 st2 q2
        have hd : l0[i]? = some l0[i] := List.getElem?_eq_getElem hi
        obtain ⟨u, hu, ru⟩ := h2.get hd
        have := y us (.of h1)
        rw [hu] at this; cases this
        rw [List.drop_eq_getElem_cons hi] at p2
        unfold forR at p2
        cases ht : T l0[i] ds2 with
        | none => rw [ht] at p2; exact p2.elim
        | some ds3 =>
          rw [ht] at p2
          exact ⟨γ2, _, ds2, ds3, ru, ev2, ht, fun σ3 ev3 _ => body_turnR e01 e2 st2 ev3 rfl p2⟩
      · rintro σ2 H2 ⟨γ2, ds2, S2, e2, st2, ev2, q2, p2⟩
        rw [List.drop_length] at p2
        exact p2 γ2 σ2 H2 (e01.trans e2) st2 ev2
end
end
end DL
namespace DL
open PySem PySem.Spec L2
/-- a constant of a module: an int -/
theorem de_globI {X : Cx} {W : WX} {x : PySem.Str} {i : Int} {pos : Pos} (hm : ∃ t, X.mg x = some (.int i t)) (hg : Gl X x := by rfl) (hd : (x == ("__debug__" : PySem.Str)) = false := by decide) : DE X W (.Name x pos) (fC (.int i)) := by
  obtain ⟨t, h⟩ := hm
  exact de_c (v := .int i) (pe_glob (v := .int i) hg h (show ∃ t', Value.int i t = Value.int i t' from ⟨t, rfl⟩) hd) fun _ _ => .int i
end DL

set_option maxRecDepth 100000
set_option maxHeartbeats 2000000
/-! DlX: what is never reached; raise of a class of the program's own; a try with several clauses -/
namespace DL
open PySem PySem.Spec L2 PyProof.Rows
noncomputable section
@[simp] def fBad : Fe := fun _ _ => .bad
@[simp] def sBad : Fs := fun _ _ _ => .bad
section
variable {X : Cx} {W : WX} {e : Expr} {st : Stmt}
theorem de_bad : DE X W e fBad := ⟨fun pins s σ H Q I h => by obtain ⟨_, _, _, _, _, p⟩ := h; exact p.elim⟩
theorem ds_bad : DS X W st sBad := fun γ0 H0 => ⟨fun pins s σ H D I h => by obtain ⟨_, _, _, _, _, _, p⟩ := h; exact p.elim⟩
end
/-- what the written part says of an error's class x, over ValueError, without an __init__ -/
structure ExcT (K : PySem.W.Frag) (mg : PySem.Str → Option Value) (x : PySem.Str) : Prop where
  g : mg x = some (.ref (cAd K x))
  xi : PySem.W.excIn K (cAd K x) [.type "ValueError", .type "Exception", .type "BaseException", .type "object"] "ValueError.__new__" = true
  k : PySem.W.keepIn K (.ref (cAd K x)) = true
  b : PySem.W.subIn K (.ref (cAd K x)) (.type "BaseException") = some true
  t : PySem.W.typeIn K (.ref (cAd K x)) = some (.type "type")
@[simp] def sRaise (c : PySem.Str) : Fs := fun _ ds S => .exc ⟨c, none⟩ ds S
section
variable {X : Cx} {W : WX} {pos pos1 pos2 np p p2 : Pos} {x m n : PySem.Str} {j : Nat}
theorem ds_raise (hc : X.calm = true) (T : ExcT X.K X.mg x) (tk : Takes X W) (hg : Gl X x := by rfl) (hdb : (x == ("__debug__" : PySem.Str)) = false := by decide) : DS X W (.Raise (some (.Call (.Name x p) [.Constant (.str m) j p2] [] pos1)) none pos2) (sRaise x) := fun γ0 H0 =>
  PSimp (ps_raise hc tk (pmk_own PySem.F.excBase_ValueError T.xi T.g T.k (raises_own T.b T.t) hg hdb)) fun Dn σ H hw => by
    obtain ⟨γ, ds, S, e, st, ev, p⟩ := hw
    exact p γ σ H (.ref (cAd X.K x)) none e st ev ⟨rfl, rfl⟩
/-- which errors come, which are asked for -/
structure TryT (K : PySem.W.Frag) (es hs : List PySem.Str) : Prop where
  m : ∀ e ∈ es, ∀ h ∈ hs, PySem.W.exmOne K (.ref (cAd K e)) (.ref (cAd K h)) = some (decide (e = h))
/-- the clause for an error -/
def pickH (c : PySem.Str) : List (PySem.Str × Fs) → Option Fs
  | [] => none
  | (h, G) :: r => if decide (c = h) = true then some G else pickH c r
/-- try: body except h: suite .. ; es: the errors that may come -/
def sTry (es : List PySem.Str) (F : Fs) (hs : List (PySem.Str × Fs)) : Fs := fun b ds S => match F b ds S with
  | .exc x ds' S' => if es.contains x.cls = true then match pickH x.cls hs with
    | some G => G b ds' S'
    | none => .exc x ds' S'
    else .bad
  | r => r
/-- the clauses -/
inductive DHs (X : Cx) (W : WX) : List ExceptHandler → List (PySem.Str × Fs) → Prop
  | nil : DHs X W [] []
  | cons {x : PySem.Str} {b₀ : Stmt} {suite : List Stmt} {np pos' : Pos} {hds : List ExceptHandler} {l : List (PySem.Str × Fs)} {G : Fs} (hg : Gl X x) (hd : (x == ("__debug__" : PySem.Str)) = false) (hm : X.mg x = some (.ref (cAd X.K x)))
      (hsu : ∀ (a : Addr) (oe : Obj) (pn : List (Addr × Obj)), DSs (X.suite a ((a, oe) :: pn)) W (b₀ :: suite) G) (r : DHs X W hds l) : DHs X W (.ExceptHandler (some (.Name x np)) none (b₀ :: suite) pos' :: hds) ((x, G) :: l)
def hdL (K : PySem.W.Frag) (W : WX) (γ0 : Ga) (H0 : Hp) (l : List (PySem.Str × Fs)) : List (Value × (Addr → Value → Option Addr → TS)) := l.map fun z => (.ref (cAd K z.1), fun _ _ _ => rdS K W γ0 H0 z.2)
theorem DHs.ok {hds : List ExceptHandler} {l : List (PySem.Str × Fs)} (γ0 : Ga) (H0 : Hp) (h : DHs X W hds l) : HdsOk X hds (hdL X.K W γ0 H0 l) := by
  induction h with
  | nil => exact .nil
  | cons hg hd hm hsu r ih => exact .cons ⟨hg, hd, .inl hm⟩ (fun a oe cls d pn _ _ => hsu a oe pn γ0 H0) ih
theorem ds_try {es : List PySem.Str} {body : List Stmt} {F : Fs} {h₀ : ExceptHandler} {hds : List ExceptHandler} {l : List (PySem.Str × Fs)} (hs : X.stack = X.env :: X.outer) (hfr : X.env.frame = some X.env.locals) (tk0 : Takes X W)
    {hn : List PySem.Str} (T0 : TryT X.K es hn) (hb : ∀ (W : WX) (pn : List (Addr × Obj)) (xe : Value → Shared → Prop), Takes (X.tr pn xe) W → DSs (X.tr pn xe) W body F) (hh : DHs X W (h₀ :: hds) l) (hl : l.map (·.1) = hn := by rfl) :
    DS X W (.Try body (h₀ :: hds) [] [] pos) (sTry es F l) := by
  have T : TryT X.K es (l.map (·.1)) := by rw [hl]; exact T0
  intro γ0 H0
  refine PSimp (ps_try_many (tb := fun W => rdS X.K W γ0 H0 F) hs hfr tk0 (fun W pn xe tk _ => hb W pn xe tk γ0 H0) (hh.ok γ0 H0)) ?_
  rintro Dn σ H ⟨γ, ds, S, e, st, ev, p⟩
  refine ⟨γ, ds, S, e, st, ev, ?_⟩
  unfold sTry at p
  cases q : F γ0.length ds S with
  | nx ds' S' => rw [q] at p; exact p
  | rt d S' => rw [q] at p; exact p
  | bk ds' S' => rw [q] at p; exact p
  | ct ds' S' => rw [q] at p; exact p
  | bad => rw [q] at p; exact p
  | exc xx ds' S' =>
    rw [q] at p
    dsimp only at p
    by_cases c : es.contains xx.cls = true
    · rw [if_pos c] at p
      intro γ' σ' H' cls dd e' st' ev' ex'
      have hm : xx.cls ∈ es := by simpa using c
      have go : ∀ (l' : List (PySem.Str × Fs)), (∀ h ∈ l'.map (·.1), PySem.W.exmOne X.K (.ref (cAd X.K xx.cls)) (.ref (cAd X.K h)) = some (decide (xx.cls = h))) → PostS X.K W Dn γ0 H0 (match pickH xx.cls l' with
        | some G => G γ0.length ds' S'
        | none => .exc xx ds' S') → wMany X.K W Dn (hdL X.K W γ0 H0 l') cls dd σ' H' := by
        intro l'
        induction l' with
        | nil =>
          intro _ p
          exact p γ' σ' H' cls dd e' st' ev' ex'
        | cons z l' ih =>
          intro hm p
          obtain ⟨h, G⟩ := z
          have ec := ex'.1
          refine ⟨decide (xx.cls = h), by rw [ec]; exact hm h (by simp), fun hb a _ => ?_, fun hb => ih (fun h' hh' => hm h' (List.mem_cons_of_mem _ hh')) ?_⟩
          · unfold pickH at p
            rw [if_pos hb] at p
            exact ⟨γ', ds', S', e', st', ev', p⟩
          · unfold pickH at p
            rw [if_neg (by rw [hb]; exact Bool.false_ne_true)] at p
            exact p
      exact go l (T.m xx.cls hm) p
    · rw [if_neg c] at p; exact p.elim
end
end
end DL

set_option maxRecDepth 100000
set_option maxHeartbeats 2000000
/-! DlO: instances of the program's classes: fields -/
namespace DL
open PySem PySem.Spec L2 PyProof.Rows
noncomputable section
section
variable {K : PySem.W.Frag} {γ : Ga} {H : Hp} {S : Sto}
theorem RepN.lookup {f : PySem.Str} : ∀ {fs : List (PySem.Str × D)} {vs : List (PySem.Str × V)} {d : D}, RepN K γ H fs vs → fs.lookup f = some d → ∃ v, vs.lookup f = some v ∧ Rep K γ H d v
  | [], _, _, _, e => by cases e
  | (g, x) :: fs, [], _, h, _ => by have := h.1; simp at this
  | (g, x) :: fs, (g', y) :: vs, d, h, e => by
    obtain ⟨h1, h2⟩ := h
    simp only [List.map_cons, List.cons.injEq] at h1
    cases h2 with
    | cons r t =>
      have hg : g = g' := h1.1
      subst hg
      rw [List.lookup_cons] at e ⊢
      split at e
      · cases e; exact ⟨y, rfl, r⟩
      · exact RepN.lookup ⟨h1.2, t⟩ e
def putD (f : PySem.Str) (d : D) : List (PySem.Str × D) → List (PySem.Str × D)
  | [] => [(f, d)]
  | (g, x) :: r => if g = f then (g, d) :: r else (g, x) :: putD f d r
theorem RepN.put {f : PySem.Str} {d : D} {v : V} (r : Rep K γ H d v) : ∀ {fs : List (PySem.Str × D)} {vs : List (PySem.Str × V)}, RepN K γ H fs vs → RepN K γ H (putD f d fs) (putF f v vs)
  | [], [], _ => ⟨rfl, .cons r .nil⟩
  | [], _ :: _, h => by have := h.1; simp at this
  | _ :: _, [], h => by have := h.1; simp at this
  | (g, x) :: fs, (g', y) :: vs, h => by
    obtain ⟨h1, h2⟩ := h
    simp only [List.map_cons, List.cons.injEq] at h1
    cases h2 with
    | cons rx t =>
      have hg : g = g' := h1.1
      subst hg
      unfold putD putF
      by_cases c : g = f
      · rw [if_pos c, if_pos c]; exact ⟨by simp [h1.2], .cons r t⟩
      · rw [if_neg c, if_neg c]
        have ih := RepN.put (f := f) r (fs := fs) (vs := vs) ⟨h1.2, t⟩
        exact ⟨by simp [ih.1], .cons rx ih.2⟩
theorem RepN.len {N : Type} {fs : List (N × D)} {vs : List (N × V)} (h : RepN K γ H fs vs) : vs.length = fs.length := by
  have := h.2.length
  simpa using this.symm
theorem StoR.obj {n : Nat} {C : PySem.Str} {fs : List (PySem.Str × D)} {v : V} (st : StoR K γ S H) (h : S[n]? = some (.obj C fs)) (r : Rep K γ H (.ref n) v) : ∃ a dx vs, v = .ref a ∧ γ.c[n]? = some a ∧ H a = some (.ins (cAd K C) dx vs) ∧ RepN K γ H fs vs := by
  obtain ⟨a, rfl, g⟩ := rep_ref r
  obtain ⟨dx, vs, h1, h2⟩ := st.cell n _ a h g
  exact ⟨a, dx, vs, rfl, g, h1, h2⟩
/-- a cell is written, whatever it is -/
theorem StoR.setCell (st : StoR K γ S H) {n : Nat} {a : Addr} {o u : HO} {c : Cell} (g : γ.c[n]? = some a) (hu : H a = some u) (nt : ∀ xs, u ≠ .tup xs) (hc : CellR K γ (upd H a o) a c) : StoR K γ (S.set n c) (upd H a o) := by
  have e : Ext γ H γ (upd H a o) := st.write g hu nt
  refine ⟨by simp [st.len], st.nd, fun m c' b h q => ?_, fun b h => ⟨fun z => (st.hidden b h).1 (e.stay b z), (st.hidden b h).2⟩⟩
  by_cases hm : m = n
  · subst hm
    rw [g] at q; cases q
    have hl : m < S.length := by
      have h1 := (List.getElem?_eq_some_iff.mp g).1
      have h2 : γ.c.length = S.length := st.len
      omega
    rw [List.getElem?_set_self hl] at h
    cases h
    exact hc
  · rw [List.getElem?_set_ne (Ne.symm hm)] at h
    refine (st.cell m c' b h q).mono e (upd_ne fun z => ?_)
    subst z
    obtain ⟨h1, e1⟩ := List.getElem?_eq_some_iff.mp q
    obtain ⟨h2, e2⟩ := List.getElem?_eq_some_iff.mp g
    exact hm ((List.getElem_inj st.nd).mp (e1.trans e2.symm))
end
section
variable {X : Cx} {W : WX} {pos pos' : Pos} {e o value : Expr} {f : PySem.Str} {fo fv : Fe} {C : PySem.Str}
/-- e.f, of an instance of the class at C -/
def fFld (C : PySem.Str) (f : PySem.Str) (fo : Fe) : Fe := fun ds S => (fo ds S).bind fun d S1 => match d with
  | .ref n => match S1[n]? with
    | some (.obj C' fs) => if decide (C' = C) = true then match fs.lookup f with
      | some x => .ok x S1
      | none => .bad else .bad
    | _ => .bad
  | _ => .bad
theorem de_fld (c : L2.Cls X.K (cAd X.K C)) (n : NoAttr X.K (cAd X.K C) f) (he : DE X W e fo) (hb : attributeBase e f X.env (eval e X.env) = eval e X.env := by rfl) : DE X W (.Attribute e f pos) (fFld C f fo) := PEimp (pe_fld he hb) fun σ H Q hw => by
  obtain ⟨γ, ds, S, st, ev, p⟩ := hw
  refine (Post.bind (Rp := Rep X.K) st ev p).imp fun v H1 ⟨γ1, d, S1, e1, st1, ev1, r1, p1⟩ => ?_
  cases d <;> first | exact p1.elim | skip
  rename_i m
  dsimp only at p1
  cases q : S1[m]? with
  | none => rw [q] at p1; exact p1.elim
  | some cl =>
    rw [q] at p1
    cases cl with
    | lst _ => exact p1.elim
    | dct _ => exact p1.elim
    | dk _ => exact p1.elim
    | obj C' fs =>
      dsimp only at p1
      by_cases hC : decide (C' = C) = true
      · rw [if_pos hC] at p1
        cases (of_decide_eq_true hC)
        cases hl : fs.lookup f with
        | none => rw [hl] at p1; exact p1.elim
        | some x =>
          rw [hl] at p1
          obtain ⟨a, dx, vs, rfl, g, ha, rn⟩ := st1.obj q r1
          obtain ⟨y, hy, ry⟩ := rn.lookup hl
          exact ⟨a, _, dx, vs, y, rfl, ha, c, n, hy, p1 γ1 y H1 .refl st1 ry⟩
      · rw [if_neg hC] at p1; exact p1.elim
/-- o.f = value -/
def sSetFld (C : PySem.Str) (f : PySem.Str) (fo fv : Fe) : Fs := fun _ ds S => (fv ds S).go ds fun x S1 => (fo ds S1).go ds fun d S2 => match d with
  | .ref n => match S2[n]? with
    | some (.obj C' fs) => if (decide (C' = C) && decide (fs.length < 900)) = true then .nx ds (S2.set n (.obj C' (putD f x fs))) else .bad
    | _ => .bad
  | _ => .bad
theorem ds_setFld (c : L2.Cls X.K (cAd X.K C)) (n : NoAttr X.K (cAd X.K C) f) (ho : DE X W o fo) (hv : DE X W value fv) (hs : swapsWith value (some (.Attribute o f pos')) pos.line X.env = pure false := by rfl) : DS X W (.Assign [.Attribute o f pos'] value pos) (sSetFld C f fo fv) := fun γ0 H0 => PSimp (ps_fld ho hv hs) fun Dn σ H hw => by
  obtain ⟨γ, ds, S, e, st, ev, p⟩ := hw
  refine (PostS.goX (Rp := Rep X.K) e st ev p).imp fun v H1 ⟨γ1, x, S1, e1, st1, ev1, r1, p1⟩ => ?_
  refine (PostS.goX (Rp := Rep X.K) (e.trans e1) st1 ev1 p1).imp fun u H2 ⟨γ2, d, S2, e2, st2, ev2, r2, p2⟩ => ?_
  cases d <;> first | exact p2.elim | skip
  rename_i m
  dsimp only at p2
  cases q : S2[m]? with
  | none => rw [q] at p2; exact p2.elim
  | some cl =>
    rw [q] at p2
    cases cl with
    | lst _ => exact p2.elim
    | dct _ => exact p2.elim
    | dk _ => exact p2.elim
    | obj C' fs =>
      dsimp only at p2
      by_cases hC : (decide (C' = C) && decide (fs.length < 900)) = true
      · rw [if_pos hC] at p2
        simp only [Bool.and_eq_true, decide_eq_true_eq] at hC
        obtain ⟨rfl, hl⟩ := hC
        obtain ⟨a, dx, vs, rfl, g, ha, rn⟩ := st2.obj q r2
        have ew : Ext γ2 H2 γ2 (upd H2 a (.ins (cAd X.K C') dx (putF f v vs))) := st2.write g ha (fun xs z => by cases z)
        have rx := (r1.mono e2).mono ew
        have rn' : RepN X.K γ2 (upd H2 a (.ins (cAd X.K C') dx (putF f v vs))) fs vs := ⟨rn.1, rn.2.mono ew⟩
        refine ⟨a, _, dx, vs, rfl, ha, c, n, by rw [rn.len]; omega, ?_⟩
        exact p2 γ2 σ _ (((e.trans e1).trans e2).trans ew) (st2.setCell g ha (fun xs z => by cases z) ⟨dx, _, upd_same, rn'.put rx⟩) (ev2.mono ew)
      · rw [if_neg hC] at p2; exact p2.elim
end
end
end DL

set_option maxRecDepth 100000
set_option maxHeartbeats 2000000
/-! DlP: calls of methods, new instances -/
namespace DL
open PySem PySem.Spec L2 PyProof.Rows
noncomputable section
section
variable {K : PySem.W.Frag} {γ : Ga} {H : Hp} {S : Sto}
/-- a new cell of any kind -/
theorem StoR.newAny (st : StoR K γ S H) {p : Addr} {o : HO} {c0 : Cell} (hp : H p = none) (r : CellR K (γ.snoc p) (upd H p o) p c0) : StoR K (γ.snoc p) (S ++ [c0]) (upd H p o) := by
  have hpγ : p ∉ γ := fun h => st.there h hp
  have e : Ext γ H (γ.snoc p) (upd H p o) := .newCell hp
  have hl : γ.c.length = S.length := st.len
  refine ⟨by show (γ.c ++ [p]).length = _; simp [hl], ?_, fun n c a h g => ?_, fun a h => ⟨fun z => (st.hidden a h).1 (e.stay a z), fun z => ?_⟩⟩
  · show (γ.c ++ [p]).Nodup
    rw [List.nodup_append]
    exact ⟨st.nd, by simp, fun a ha b hb => by simp at hb; subst hb; intro z; subst z; exact hpγ (.inl ha)⟩
  · have g : (γ.c ++ [p])[n]? = some a := g
    by_cases hn : n < S.length
    · rw [List.getElem?_append_left hn] at h
      rw [List.getElem?_append_left (by omega)] at g
      have hm : a ∈ γ.c := List.mem_of_getElem? g
      exact (st.cell n c a h g).mono e (upd_ne fun z => hpγ (.inl (z ▸ hm)))
    · have hn' : n = S.length := by
        have := (List.getElem?_eq_some_iff.mp h).1
        simp at this; omega
      subst hn'
      rw [List.getElem?_append_right (by omega)] at h
      rw [List.getElem?_append_right (by omega)] at g
      simp [hl] at h g
      subst h g
      exact r
  · have z : a ∈ γ.c ++ [p] := z
    rcases List.mem_append.mp z with z | z
    · exact (st.hidden a h).2 z
    · have : a = p := by simpa using z
      subst this
      exact (st.hidden a h).1 hp
end
section
variable {X : Cx} {CX : CXT} {k : Nat} {f C : Addr} {fd : FuncData} {ps : List PySem.Str} {sp : Sp} {E : L2.St → XK} {x m : PySem.Str} {p pos apos : Pos} {e o : Expr} {es : List Expr} {ta : TE} {t : TA}
/-- o.m(..), what is raised wished for at the caller's slots -/
def tMethS (C : Addr) (m : PySem.Str) (sp : Sp) (E : L2.St → XK) (ta : TE) (t : TA) : TE := fun σ H Q => ta σ H fun x H1 => ∃ a dx fs, x = .ref a ∧ H1 a = some (.ins C dx fs) ∧ fs.lookup m = none ∧
  t σ H1 fun vs H2 => sp (x :: vs) H2 Q (E σ)
theorem pe_methS {pl : Sem Bool} (he : PE X o ta) (c : L2.Cls X.K C) (hm : Meth X.K C m f) (F : FnOk X.prog X.w X.K X.mg X.base CX k f fd ps sp) (hr : Room k X.A) (hb : Binds X.K fd ps []) (hx : ∀ σ, PassesAt CX X σ (E σ)) (ha : PA X (e :: es) t)
    (hst : starEach (e :: es) X.env = (false, eval e X.env) :: starEach es X.env := by rfl) (hpl : (backTo pos (starEach es X.env)).any (·.1) = false := by rfl)
    (ht : eval (.Call (.Attribute o m apos) (e :: es) [] pos) X.env = (do
      let ov ← eval o X.env
      standAt apos.atName
      let (f, first) ← holding [ov] (getMethod ov m pl)
      callWith pos f first (backTo pos (starEach (e :: es) X.env)) (backToKw pos (keywordEach [] X.env))) := by rfl) :
    PE X (.Call (.Attribute o m apos) (e :: es) [] pos) (tMethS C m sp E ta t) := by
  refine ⟨fun pins s σ H Q I h => ?_⟩
  refine PySem.W.methodCall_KW (pl := pl) (thn (he.run pins s σ H _ I h) fun u s1 ⟨x, H1, I1, rx, a, dx, fs, ex, ea, l, q⟩ => ?_) ht
  subst ex
  obtain rfl : u = Value.ref a := rx
  refine getmeth_ok I1 ea c hm l ?_
  refine PySem.W.callWith_K (first := [.ref a]) (h₀ := X.base) I.ok.mod.kin hm.kp (thn (ha.run pos pins s1 σ H1 _ I1 q) fun us s2 ⟨vs, H2, I2, r, q2⟩ => ⟨I2.kIn, ?_⟩) hst hpl
  exact run_fnS (us := .ref a :: us) (vs := .ref a :: vs) F hr hb (hx σ) I2 (.cons rfl r) q2
theorem pe_methS0 {pl : Sem Bool} (he : PE X o ta) (c : L2.Cls X.K C) (hm : Meth X.K C m f) (F : FnOk X.prog X.w X.K X.mg X.base CX k f fd ps sp) (hr : Room k X.A) (hb : Binds X.K fd ps []) (hx : ∀ σ, PassesAt CX X σ (E σ))
    (ht : eval (.Call (.Attribute o m apos) [] [] pos) X.env = (do
      let ov ← eval o X.env
      standAt apos.atName
      let (f, first) ← holding [ov] (getMethod ov m pl)
      callWith pos f first (backTo pos (starEach [] X.env)) (backToKw pos (keywordEach [] X.env))) := by rfl) :
    PE X (.Call (.Attribute o m apos) [] [] pos) (tMethS C m sp E ta tNil) := by
  refine ⟨fun pins s σ H Q I h => ?_⟩
  refine PySem.W.methodCall_KW (pl := pl) (thn (he.run pins s σ H _ I h) fun u s1 ⟨x, H1, I1, rx, a, dx, fs, ex, ea, l, q⟩ => ?_) ht
  subst ex
  obtain rfl : u = Value.ref a := rx
  refine getmeth_ok I1 ea c hm l ?_
  exact PySem.W.callWith_K0 (first := [.ref a]) I1.kIn hm.kp (run_fnS (us := [.ref a]) (vs := [.ref a]) F hr hb (hx σ) I1 (.cons rfl .nil) q)
/-- C(..), with an __init__ -/
def tMakeS (C : Addr) (sp : Sp) (E : L2.St → XK) (t : TA) : TE := fun σ H Q => t σ H fun vs H1 => ∀ x dx, H1 x = none → H1 dx = none → dx ≠ x →
  sp (.ref x :: vs) (upd (upd H1 dx (.own x)) x (.ins C dx [])) (fun v H2 => v = .non ∧ Q (.ref x) H2) (E σ)
theorem run_makeS {pins : List (Addr × Obj)} {σ : L2.St} {H : Hp} {s : Shared} {Q : VK} {us : List Value} {vs : List V} (M : Mk X.K C f) (F : FnOk X.prog X.w X.K X.mg X.base CX k f fd ps sp) (hr : Room (k + 1) X.A) (hb : Binds X.K fd ps [])
    (hx : PassesAt CX X σ (E σ)) (I : Inv X pins σ H s) (r : Vals vs us)
    (h : ∀ x dx, H x = none → H dx = none → dx ≠ x → sp (.ref x :: vs) (upd (upd H dx (.own x)) x (.ins C dx [])) (fun v H2 => v = .non ∧ Q (.ref x) H2) (E σ)) :
    wpAny (model X.prog X.w) X.A (call (.ref C) us) (EP X pins σ Q) X.xe s := by
  have hq := h (s.heap.objs.size + 1) s.heap.objs.size (I.hok.fresh (Nat.le_succ _)) (I.hok.fresh (Nat.le_refl _)) (Nat.ne_of_lt (Nat.lt_succ_self _))
  have I2 := Inv.made (C := C) I
  have r2 : Vals (V.ref (s.heap.objs.size + 1) :: vs) (Value.ref (s.heap.objs.size + 1) :: us) := .cons rfl r
  have hl : (Value.ref (s.heap.objs.size + 1) :: us).length = ps.length := by
    have e := r2.length
    rw [F.len _ _ _ _ hq] at e
    exact e.symm
  have b := hb _ (Value.ref (s.heap.objs.size + 1) :: us) I2.kIn (by rw [List.append_nil]; exact hl)
  rw [List.append_nil] at b
  refine wpAny_call (make_map (f := f) I.kIn M.makes M.init (beq_iff_eq.mp M.fn) (codeAny_mono (F.run _ X.stack _ _ ⟨Value.ref (s.heap.objs.size + 1) :: us, []⟩ (Value.ref (s.heap.objs.size + 1) :: us) _ _ (E σ) (hr.make C us [])
    (I2.env0.make C us []) b r2 hq) fun r s' hq' => ?_))
  cases r with
  | error e => exact hx pins _ _ e s' I2 hq'
  | ok fl =>
    cases fl with
    | ret u =>
      obtain ⟨v, H', I3, rv, ev, q3⟩ := I2.after hq'
      subst ev
      exact ⟨rv, ⟨V.ref (s.heap.objs.size + 1), H', I3, rfl, q3⟩⟩
    | next => exact False.elim hq'
    | brk => exact False.elim hq'
    | cont => exact False.elim hq'
theorem pe_makeS0 (M : Mk X.K C f) (F : FnOk X.prog X.w X.K X.mg X.base CX k f fd ps sp) (hr : Room (k + 1) X.A) (hg : Gl X x) (hm : X.mg x = some (.ref C)) (hb : Binds X.K fd ps []) (hx : ∀ σ, PassesAt CX X σ (E σ))
    (hdb : (x == ("__debug__" : PySem.Str)) = false := by decide) : PE X (.Call (.Name x p) [] [] pos) (tMakeS C sp E tNil) := by
  refine ⟨fun pins s σ H Q I h => ?_⟩
  refine wpAny_Call_Name_kw (ld_glob I hg hm ?_ hdb)
  exact PySem.W.callWith_K0 I.kIn M.kp (run_makeS (us := []) M F hr hb (hx σ) I .nil h)
theorem pe_makeS (M : Mk X.K C f) (F : FnOk X.prog X.w X.K X.mg X.base CX k f fd ps sp) (hr : Room (k + 1) X.A) (hg : Gl X x) (hm : X.mg x = some (.ref C)) (hb : Binds X.K fd ps []) (hx : ∀ σ, PassesAt CX X σ (E σ))
    (ha : PA X (e :: es) t) (hdb : (x == ("__debug__" : PySem.Str)) = false := by decide) (he : starEach (e :: es) X.env = (false, eval e X.env) :: starEach es X.env := by rfl) (hpl : (backTo pos (starEach es X.env)).any (·.1) = false := by rfl) : PE X (.Call (.Name x p) (e :: es) [] pos) (tMakeS C sp E t) := by
  refine ⟨fun pins s σ H Q I h => ?_⟩
  refine wpAny_Call_Name_kw (ld_glob I hg hm ?_ hdb)
  refine PySem.W.callWith_K (h₀ := X.base) I.ok.mod.kin M.kp (thn (ha.run pos pins s σ H _ I h) fun us s1 ⟨vs, H1, I1, r, q⟩ => ⟨I1.kIn, ?_⟩) he hpl
  exact run_makeS M F hr hb (hx σ) I1 r q
end
/-- a method m of the class at C, of n arguments behind self, does fm -/
structure CalM (P : Program) (w : World) (K : PySem.W.Frag) (mg : PySem.Str → Option Value) (base : Heap) (k : Nat) (C : PySem.Str) (m : PySem.Str) (n : Nat) (fm : Fm) : Prop where
  ex : ∃ f fd ps, ps.length = n + 1 ∧ FnOk P w K mg base (L2.CX P w) k f fd ps (spD K (n + 1) fm) ∧ Meth K (cAd K C) m f ∧ Binds K fd ps []
theorem CalM.mono {P : Program} {w : World} {K : PySem.W.Frag} {mg : PySem.Str → Option Value} {base : Heap} {j k n : Nat} {C : PySem.Str} {m : PySem.Str} {fm : Fm} (h : CalM P w K mg base j C m n fm) (l : j ≤ k) : CalM P w K mg base k C m n fm := by
  obtain ⟨f, fd, ps, hn, F, h1, h2⟩ := h.ex
  exact ⟨f, fd, ps, hn, F.mono l, h1, h2⟩
/-- the class x can be made, its __init__ takes self and n more and does fm -/
structure CalI (P : Program) (w : World) (K : PySem.W.Frag) (mg : PySem.Str → Option Value) (base : Heap) (k : Nat) (x : PySem.Str) (n : Nat) (fm : Fm) : Prop where
  ex : ∃ f fd ps, ps.length = n + 1 ∧ FnOk P w K mg base (L2.CX P w) k f fd ps (spD K (n + 1) fm) ∧ Mk K (cAd K x) f ∧ Binds K fd ps [] ∧ mg x = some (.ref (cAd K x))
theorem CalI.mono {P : Program} {w : World} {K : PySem.W.Frag} {mg : PySem.Str → Option Value} {base : Heap} {j k n : Nat} {x : PySem.Str} {fm : Fm} (h : CalI P w K mg base j x n fm) (l : j ≤ k) : CalI P w K mg base k x n fm := by
  obtain ⟨f, fd, ps, hn, F, h1, h2⟩ := h.ex
  exact ⟨f, fd, ps, hn, F.mono l, h1, h2⟩
/-- o.m(..) -/
def fMeth (C m : PySem.Str) (n : Nat) (fm : Fm) (fo : Fe) (fa : Fa) : Fe := fun ds S => (fo ds S).bind fun d S1 => match d with
  | .ref i => match S1[i]? with
    | some (.obj C' fs) => if (decide (C' = C) && (fs.lookup m).isNone) = true then (fa ds S1).bind fun xs S2 => if xs.length = n then fm (.ref i :: xs) S2 else .bad else .bad
    | _ => .bad
  | _ => .bad
/-- C(..) -/
def fMake (C : PySem.Str) (n : Nat) (fm : Fm) (fa : Fa) : Fe := fun ds S => (fa ds S).bind fun xs S1 => if xs.length = n then (fm (.ref S1.length :: xs) (S1 ++ [.obj C []])).bind fun d S2 => match d with
  | .non => .ok (.ref S1.length) S2
  | _ => .bad else .bad
section
variable {X : Cx} {W : WX} {pos apos p : Pos} {e o : Expr} {es : List Expr} {fo : Fe} {fa : Fa} {k n : Nat} {C : PySem.Str} {x m : PySem.Str} {fm : Fm}
theorem rd_meth {f : Addr} {ta : TA} {σ : L2.St} {H : Hp} {Q : VK} (hw : rdE X.K W (fMeth C m n fm fo fa) σ H Q) (ht : ∀ σ H Q, rdA X.K W fa σ H Q → ta σ H Q) : tMethS (cAd X.K C) m (spD X.K (n + 1) fm) (WE W) (rdE X.K W fo) ta σ H Q := by
  obtain ⟨γ, ds, S, st, ev, p⟩ := hw
  refine (Post.bind (Rp := Rep X.K) st ev p).imp fun v H1 ⟨γ1, d, S1, e1, st1, ev1, r1, p1⟩ => ?_
  dsimp only at p1
  cases d <;> first | exact p1.elim | skip
  rename_i i
  dsimp only at p1
  cases q : S1[i]? with
  | none => rw [q] at p1; exact p1.elim
  | some cl =>
    rw [q] at p1
    cases cl with
    | lst _ => exact p1.elim
    | dct _ => exact p1.elim
    | dk _ => exact p1.elim
    | obj C' fs =>
      dsimp only at p1
      obtain ⟨hc, p3⟩ := Post.ite p1
      clear p1
      simp only [Bool.and_eq_true, decide_eq_true_eq] at hc
      obtain ⟨rfl, hn⟩ := hc
      obtain ⟨a, dx, vs, rfl, g, ha, rn⟩ := st1.obj q r1
      refine ⟨a, dx, vs, rfl, ha, ?_, ht _ _ _ ?_⟩
      · cases hl : vs.lookup m with
        | none => rfl
        | some u =>
          exfalso
          have : ∀ {fs : List (PySem.Str × D)} {vs : List (PySem.Str × V)}, RepN X.K γ1 H1 fs vs → (fs.lookup m).isNone = true → vs.lookup m = none := by
            intro fs
            induction fs with
            | nil =>
              intro vs h _
              cases vs with
              | nil => rfl
              | cons _ _ => have := h.1; simp at this
            | cons z fs ih =>
              intro vs h hn
              cases vs with
              | nil => rfl
              | cons y vs =>
                obtain ⟨g1, x1⟩ := z
                obtain ⟨g2, x2⟩ := y
                obtain ⟨h1, h2⟩ := h
                simp only [List.map_cons, List.cons.injEq] at h1
                cases h2 with
                | cons r t =>
                  have hg : g1 = g2 := h1.1
                  subst hg
                  rw [List.lookup_cons] at hn ⊢
                  split at hn
                  · cases hn
                  · exact ih ⟨h1.2, t⟩ hn
          rw [this rn hn] at hl
          cases hl
      · refine (Post.bind (Rp := Reps X.K) st1 ev1 p3).imp fun us H2 ⟨γ2, xs, S2, e2, st2, ev2, r2, p2⟩ => ?_
        dsimp only at p2
        by_cases hl : xs.length = n
        · rw [if_pos hl] at p2
          exact ⟨by simp [← r2.length, hl], γ2, S2, .ref i :: xs, st2, .cons (r1.mono e2) r2, p2.st⟩
        · rw [if_neg hl] at p2; exact p2.elim
theorem de_meth {pl : Sem Bool} (c : L2.Cls X.K (cAd X.K C)) (G : CalM X.prog X.w X.K X.mg X.base k C m n fm) (hr : Room k X.A) (tk : Takes X W) (he : DE X W o fo) (ha : DA X W (e :: es) fa)
    (hst : starEach (e :: es) X.env = (false, eval e X.env) :: starEach es X.env := by rfl) (hpl : (backTo pos (starEach es X.env)).any (·.1) = false := by rfl)
    (ht : eval (.Call (.Attribute o m apos) (e :: es) [] pos) X.env = (do
      let ov ← eval o X.env
      standAt apos.atName
      let (f, first) ← holding [ov] (getMethod ov m pl)
      callWith pos f first (backTo pos (starEach (e :: es) X.env)) (backToKw pos (keywordEach [] X.env))) := by rfl) :
    DE X W (.Call (.Attribute o m apos) (e :: es) [] pos) (fMeth C m n fm fo fa) := by
  obtain ⟨f, fd, ps, hn, F, h1, h2⟩ := G.ex
  exact PEimp (pe_methS (pl := pl) he c h1 F hr h2 (passAt tk) ha hst hpl ht) fun σ H Q hw => rd_meth (f := f) hw fun _ _ _ h => h
theorem de_meth0 {pl : Sem Bool} (c : L2.Cls X.K (cAd X.K C)) (G : CalM X.prog X.w X.K X.mg X.base k C m 0 fm) (hr : Room k X.A) (tk : Takes X W) (he : DE X W o fo)
    (ht : eval (.Call (.Attribute o m apos) [] [] pos) X.env = (do
      let ov ← eval o X.env
      standAt apos.atName
      let (f, first) ← holding [ov] (getMethod ov m pl)
      callWith pos f first (backTo pos (starEach [] X.env)) (backToKw pos (keywordEach [] X.env))) := by rfl) :
    DE X W (.Call (.Attribute o m apos) [] [] pos) (fMeth C m 0 fm fo fNil) := by
  obtain ⟨f, fd, ps, hn, F, h1, h2⟩ := G.ex
  refine PEimp (pe_methS0 (pl := pl) he c h1 F hr h2 (passAt tk) ht) fun σ H Q hw => rd_meth (f := f) hw fun σ H Q h => ?_
  obtain ⟨γ, ds, S, st, ev, p⟩ := h
  exact p γ [] H .refl st .nil
theorem rd_make {ta : TA} {σ : L2.St} {H : Hp} {Q : VK} (hw : rdE X.K W (fMake C n fm fa) σ H Q) (ht : ∀ σ H Q, rdA X.K W fa σ H Q → ta σ H Q) : tMakeS (cAd X.K C) (spD X.K (n + 1) fm) (WE W) ta σ H Q := by
  obtain ⟨γ, ds, S, st, ev, p⟩ := hw
  refine ht _ _ _ ((Post.bind (Rp := Reps X.K) st ev p).imp fun us H1 ⟨γ1, xs, S1, e1, st1, ev1, r1, p1⟩ => ?_)
  intro y dx hy hd ne
  dsimp only at p1
  by_cases hl : xs.length = n
  rotate_left
  · rw [if_neg hl] at p1; exact p1.elim
  rw [if_pos hl] at p1
  have f1 : Ext γ1 H1 γ1 (upd H1 dx (.own y)) := .new hd
  have st2 : StoR X.K γ1 S1 (upd H1 dx (.own y)) := st1.new hd
  have hy1 : upd H1 dx (.own y) y = none := by rw [upd_ne (Ne.symm ne)]; exact hy
  have f2 : Ext γ1 (upd H1 dx (.own y)) (γ1.snoc y) (upd (upd H1 dx (.own y)) y (.ins (cAd X.K C) dx [])) := .newCell hy1
  have st3 := st2.newAny (o := .ins (cAd X.K C) dx []) (c0 := .obj C []) hy1 ⟨dx, [], upd_same, rfl, .nil⟩
  have r2 : Rep X.K (γ1.snoc y) (upd (upd H1 dx (.own y)) y (.ins (cAd X.K C) dx [])) (.ref S1.length) (.ref y) := StoR.newRef st2
  refine ⟨by simp [← r1.length, hl], γ1.snoc y, S1 ++ [.obj C []], .ref S1.length :: xs, st3, .cons r2 ((r1.mono f1).mono f2), ?_⟩
  cases q : fm (.ref S1.length :: xs) (S1 ++ [.obj C []]) with
  | bad => rw [q] at p1; exact p1.elim
  | exc xx S' =>
    rw [q] at p1
    exact fun γ' c d H' e' st' x' => p1 γ' c d H' ((f1.trans f2).trans e') st' x'
  | ok d S' =>
    rw [q] at p1
    intro γ' b H' e' st' r'
    cases d <;> first | exact p1.elim | skip
    cases rep_non r'
    exact ⟨rfl, p1 γ' _ H' ((f1.trans f2).trans e') st' (r2.mono e')⟩
theorem de_make0 (G : CalI X.prog X.w X.K X.mg X.base k C 0 fm) (hr : Room (k + 1) X.A) (tk : Takes X W) (hg : Gl X C := by rfl) (hdb : (C == ("__debug__" : PySem.Str)) = false := by decide) :
    DE X W (.Call (.Name C p) [] [] pos) (fMake C 0 fm fNil) := by
  obtain ⟨f, fd, ps, hn, F, h1, h2, h3⟩ := G.ex
  refine PEimp (pe_makeS0 h1 F hr hg h3 h2 (passAt tk) hdb) fun σ H Q hw => rd_make hw fun σ H Q h => ?_
  obtain ⟨γ, ds, S, st, ev, p⟩ := h
  exact p γ [] H .refl st .nil
theorem de_make (G : CalI X.prog X.w X.K X.mg X.base k C n fm) (hr : Room (k + 1) X.A) (tk : Takes X W) (ha : DA X W (e :: es) fa) (hg : Gl X C := by rfl) (hdb : (C == ("__debug__" : PySem.Str)) = false := by decide)
    (he : starEach (e :: es) X.env = (false, eval e X.env) :: starEach es X.env := by rfl) (hpl : (backTo pos (starEach es X.env)).any (·.1) = false := by rfl) :
    DE X W (.Call (.Name C p) (e :: es) [] pos) (fMake C n fm fa) := by
  obtain ⟨f, fd, ps, hn, F, h1, h2, h3⟩ := G.ex
  exact PEimp (pe_makeS h1 F hr hg h3 h2 (passAt tk) ha hdb he hpl) fun σ H Q hw => rd_make hw fun σ H Q h => h
end
end
end DL

set_option maxRecDepth 100000
set_option maxHeartbeats 2000000
/-! DlQ0: dict(d), d with keys that are tuples -/
namespace DL
open PySem PySem.Spec L2 PyProof.Rows
noncomputable section
section
variable {prog : Program} {w : World} {KT' : Type} [DecidableEq KT'] {knd : HeapKind prog w KT'} {A : Around} {E : Value → Shared → Prop} {s : Shared}
theorem typeIs_push {s : Shared} {b : Addr} {t : String} {o : Obj} (h : s.TypeIs (.ref b) t) : Shared.TypeIs { s with heap := s.heap.push o } (.ref b) t := by
  obtain ⟨ob, h1, h2⟩ := h
  exact ⟨ob, Heap.get?_push_of_some _ h1, h2⟩
theorem dictOfH_push {h : Heap} {o : Addr} {more : List (KT' × Addr × Value)} {ob : Obj} (st : knd.Stays) (ho : h.DictOfH knd o more) : (h.push ob).DictOfH knd o more := by
  obtain ⟨o1, es, ep, a1, a2, a3, a4, a5, a6⟩ := ho
  exact ⟨o1, es, ep, Heap.get?_push_of_some _ a1, a2, a3, a4, fun x hx => st.stays (fun b ob _ _ e _ => Heap.get?_push_of_some _ e) (a5 x hx), a6⟩
theorem call_dict_h {o : Addr} {more : List (KT' × Addr × Value)} {Q : Value → Shared → Prop} (st : knd.Stays) (hu : knd.room A.in1.in1) (hoS : (o == sysModules) = false) (ho : s.heap.DictOfH knd o more)
    (hn : (more.map fun x => knd.hash x.1).Nodup) (hty : ∀ x ∈ more, s.TypeIs (.ref x.2.1) "tuple") (hsz : more.length ≤ sizeLine)
    (h : ∀ h', h'.DictOfH knd s.heap.objs.size more → Heap.SameBut s.heap.objs.size (s.heap.push { cls := .type "dict", data := .dict #[] }) h' → Q (.ref s.heap.objs.size) { s with heap := h' }) :
    wpAny (model prog w) A (call (.type "dict") [.ref o]) Q E s := by
  refine callType_codes (Q₁ := fun obj s₁ => obj = .ref s.heap.objs.size ∧ s₁ = { s with heap := s.heap.push { cls := .type "dict", data := .dict #[] } }) F.kt_called_dict (F.kt_typeCall_dict_1 _) F.entry_dict_init (kt_code_dict_new _ ⟨rfl, rfl⟩) ?_
  rintro obj s₁ ⟨rfl, rfl⟩
  have hnew : (s.heap.push { cls := .type "dict", data := .dict #[] }).DictOfH knd s.heap.objs.size [] := Heap.DictOfH.new s.heap
  have ho' : (s.heap.push { cls := .type "dict", data := .dict #[] }).DictOfH knd o more := dictOfH_push st ho
  have hdo : s.heap.objs.size ≠ o := by
    obtain ⟨_, _, _, hg, _⟩ := ho
    exact fun e => absurd (Heap.lt_size hg) (by rw [e]; exact Nat.lt_irrefl _)
  have hap : (∀ x ∈ more, Shared.TypeIs { s with heap := s.heap.push { cls := .type "dict", data := .dict #[] } } (.ref x.2.1) "tuple") ∧ (more.map fun x => knd.hash x.1).Nodup := ⟨fun x hx => typeIs_push (hty x hx), hn⟩
  have hm := storedAllH_nil_of_nodup more ho.nodup
  refine ⟨hnew.typeIs, F.args_dict_init_2 _ _, ?_⟩
  unfold Builtin.«dict.__init__»
  refine wpAny_bind ?_
  unfold Builtin.Dict.selfAndRest
  refine wpAny_bind (wpAny_notOrdered_dict hnew.typeIs ?_)
  show wpAny _ _ (pure (s.heap.objs.size, [Value.ref o])) _ _ _
  refine wpAny_pure ?_
  show wpAny _ _ (Builtin.Dict.updateFrom "dict.__init__" s.heap.objs.size (.ref o) [] .none) _ _ _
  unfold Builtin.Dict.updateFrom
  refine wpAny_bind (wpAny_typeOf ho'.typeIs ?_)
  rw [if_neg (by decide)]
  refine wpAny_bind ?_
  unfold Builtin.Dict.merge
  refine wpAny_bind ?_
  unfold Builtin.Dict.readDirectly
  refine wpAny_bind (wpAny_isInstance ho'.typeIs isSubtype_dict_dict ?_)
  simp only [Bool.not_true, Bool.false_eq_true, if_false]
  refine wpAny_bind (wpAny_specialOf ho'.typeIs F.slot_dict_iter.lookup (wpAny_pure ?_))
  simp only [beq_self_eq_true, if_true]
  refine wpAny_bind (wpAny_pure ?_)
  refine wpAny_mergeDict_heap (hsz := by simpa using hsz) hu hdo hoS hnew ho' (.inr hap) fun h' hd' _ hs' => ?_
  show wpAny _ _ (Builtin.Dict.addKeywords s.heap.objs.size [] >>= _) _ _ _
  rw [hm] at hd'
  exact wpAny_bind (wpAny_pure (wpAny_pure ⟨rfl, h h' hd' hs'⟩))
end
end
end DL

set_option maxRecDepth 100000
set_option maxHeartbeats 2000000
/-! DlQ: dicts: keys that are ints or texts (.dk), tuples of these (.dct) -/
namespace DL
open PySem PySem.Spec L2 PyProof.Rows
noncomputable section
/-! ### keys -/
def keyD : D → Option Key
  | .int i => some (.inl i)
  | .str s => some (.inr s)
  | _ => none
def keysD : List D → Option (List Key)
  | [] => some []
  | d :: r => match keyD d with
    | some k => match keysD r with
      | some ks => some (k :: ks)
      | none => none
    | none => none
section
variable {κ : Type} [DecidableEq κ]
def valD (es : List (κ × D)) (k : κ) : Option D := (es.find? fun e => decide (e.1 = k)).map (·.2)
def putDK (es : List (κ × D)) (k : κ) (d : D) : List (κ × D) := if (es.any fun e => decide (e.1 = k)) = true then es.map (fun e => if decide (e.1 = k) = true then (e.1, d) else e) else es ++ [(k, d)]
variable {K : PySem.W.Frag} {γ : Ga} {H : Hp}
theorem RepN.nil : RepN K γ H ([] : List (κ × D)) [] := ⟨rfl, .nil⟩
theorem RepN.cons_inv {e : κ × D} {es : List (κ × D)} {kvs : List (κ × V)} (h : RepN K γ H (e :: es) kvs) : ∃ v r, kvs = (e.1, v) :: r ∧ Rep K γ H e.2 v ∧ RepN K γ H es r := by
  cases kvs with
  | nil => have := h.1; simp at this
  | cons y r =>
    obtain ⟨h1, h2⟩ := h
    simp only [List.map_cons, List.cons.injEq] at h1
    cases h2 with
    | cons rx t =>
      obtain ⟨a, b⟩ := y
      have : a = e.1 := h1.1.symm
      subst this
      exact ⟨b, r, rfl, rx, h1.2, t⟩
theorem RepN.cons {k : κ} {d : D} {v : V} {es : List (κ × D)} {kvs : List (κ × V)} (rx : Rep K γ H d v) (h : RepN K γ H es kvs) : RepN K γ H ((k, d) :: es) ((k, v) :: kvs) := ⟨by simp [h.1], .cons rx h.2⟩
/-- what stands at a key, on both sides -/
inductive RepO (K : PySem.W.Frag) (γ : Ga) (H : Hp) : Option D → Option V → Prop
  | none : RepO K γ H none none
  | some {d : D} {v : V} : Rep K γ H d v → RepO K γ H (some d) (some v)
theorem RepN.val {k : κ} : ∀ {es : List (κ × D)} {kvs : List (κ × V)}, RepN K γ H es kvs → RepO K γ H (valD es k) (valV kvs k)
  | [], kvs, h => by
    cases kvs with
    | nil => exact .none
    | cons _ _ => have := h.1; simp at this
  | e :: es, kvs, h => by
    obtain ⟨v, r, rfl, rx, t⟩ := h.cons_inv
    have ih := RepN.val (k := k) t
    by_cases c : e.1 = k
    · have e1 : valD (e :: es) k = some e.2 := by simp [valD, List.find?_cons, c]
      rw [e1, valV_pos c]
      exact .some rx
    · have e1 : valD (e :: es) k = valD es k := by simp [valD, List.find?_cons, c]
      rw [e1, valV_neg c]
      exact ih
theorem RepN.any {k : κ} : ∀ {es : List (κ × D)} {kvs : List (κ × V)}, RepN K γ H es kvs → (es.any fun e => decide (e.1 = k)) = kvs.any fun e => decide (e.1 = k)
  | [], kvs, h => by
    cases kvs with
    | nil => rfl
    | cons _ _ => have := h.1; simp at this
  | e :: es, kvs, h => by
    obtain ⟨v, r, rfl, rx, t⟩ := h.cons_inv
    rw [List.any_cons, List.any_cons, RepN.any t]
theorem RepN.repl {k : κ} {d : D} {v : V} (rx : Rep K γ H d v) : ∀ {es : List (κ × D)} {kvs : List (κ × V)}, RepN K γ H es kvs → RepN K γ H (es.map fun e => if decide (e.1 = k) = true then (e.1, d) else e) (kvs.map fun e => if e.1 = k then (e.1, v) else e)
  | [], kvs, h => by
    cases kvs with
    | nil => exact .nil
    | cons _ _ => have := h.1; simp at this
  | e :: es, kvs, h => by
    obtain ⟨u, r, rfl, ry, t⟩ := h.cons_inv
    rw [List.map_cons, List.map_cons]
    by_cases c : e.1 = k
    · rw [if_pos (decide_eq_true c), if_pos c]; exact .cons rx (RepN.repl rx t)
    · rw [if_neg (fun z => c (of_decide_eq_true z)), if_neg c]; exact .cons ry (RepN.repl rx t)
theorem RepN.snoc {k : κ} {d : D} {v : V} (rx : Rep K γ H d v) : ∀ {es : List (κ × D)} {kvs : List (κ × V)}, RepN K γ H es kvs → RepN K γ H (es ++ [(k, d)]) (kvs ++ [(k, v)])
  | [], kvs, h => by
    cases kvs with
    | nil => exact .cons rx .nil
    | cons _ _ => have := h.1; simp at this
  | e :: es, kvs, h => by
    obtain ⟨u, r, rfl, ry, t⟩ := h.cons_inv
    exact .cons ry (RepN.snoc rx t)
theorem RepN.putK {k : κ} {d : D} {v : V} (rx : Rep K γ H d v) {es : List (κ × D)} {kvs : List (κ × V)} (h : RepN K γ H es kvs) : RepN K γ H (putDK es k d) (L2.putK kvs k v) := by
  unfold putDK L2.putK
  rw [← h.any]
  by_cases c : (es.any fun e => decide (e.1 = k)) = true
  · rw [if_pos c, if_pos c]; exact h.repl rx
  · rw [if_neg c, if_neg c]; exact h.snoc rx
end
section
variable {K : PySem.W.Frag} {γ γ' : Ga} {H H' : Hp} {S : Sto}
theorem keyD_at {d : D} {k : Key} {v : V} (h : keyD d = some k) (r : Rep K γ H d v) : v = kV k := by
  cases d <;> first | cases h | skip
  · cases rep_int r; rfl
  · cases rep_str r; rfl
theorem keysD_at : ∀ {l : List D} {ks : List Key} {vs : List V}, keysD l = some ks → Reps K γ H l vs → vs = ks.map kV
  | [], _, _, h, .nil => by cases h; rfl
  | d :: l, ks, _, h, .cons r t => by
    unfold keysD at h
    cases q : keyD d with
    | none => rw [q] at h; cases h
    | some k =>
      rw [q] at h
      dsimp only at h
      cases q2 : keysD l with
      | none => rw [q2] at h; cases h
      | some ks' =>
        rw [q2] at h
        cases h
        rw [keyD_at q r, keysD_at q2 t]; rfl
theorem StoR.dct {n : Nat} {es : List (List Key × D)} {v : V} (st : StoR K γ S H) (h : S[n]? = some (.dct es)) (r : Rep K γ H (.ref n) v) : ∃ a kvs, v = .ref a ∧ γ.c[n]? = some a ∧ H a = some (.dT kvs) ∧ RepN K γ H es kvs := by
  obtain ⟨a, rfl, g⟩ := rep_ref r
  obtain ⟨vs, h1, h2⟩ := st.cell n _ a h g
  exact ⟨a, vs, rfl, g, h1, h2⟩
theorem StoR.dk {n : Nat} {es : List (Key × D)} {v : V} (st : StoR K γ S H) (h : S[n]? = some (.dk es)) (r : Rep K γ H (.ref n) v) : ∃ a kvs, v = .ref a ∧ γ.c[n]? = some a ∧ H a = some (.dK kvs) ∧ RepN K γ H es kvs := by
  obtain ⟨a, rfl, g⟩ := rep_ref r
  obtain ⟨vs, h1, h2⟩ := st.cell n _ a h g
  exact ⟨a, vs, rfl, g, h1, h2⟩
theorem RepN.mono {N : Type} {fs : List (N × D)} {vs : List (N × V)} (h : RepN K γ H fs vs) (e : Ext γ H γ' H') : RepN K γ' H' fs vs := ⟨h.1, h.2.mono e⟩
/-- is it a dict? -/
def isDc (S : Sto) : D → Bool
  | .ref n => match S[n]? with
    | some (.dct _) => true
    | some (.dk _) => true
    | _ => false
  | _ => false
theorem isDc_at {d : D} {v : V} (h : isDc S d = true) (st : StoR K γ S H) (r : Rep K γ H d v) : ∃ a, v = .ref a ∧ IsD H a := by
  cases d <;> first | cases h | skip
  rename_i n
  unfold isDc at h
  dsimp only at h
  cases q : S[n]? with
  | none => rw [q] at h; cases h
  | some c =>
    rw [q] at h
    cases c with
    | lst _ => cases h
    | obj _ _ => cases h
    | dct es => obtain ⟨a, kvs, rfl, _, ha, _⟩ := st.dct q r; exact ⟨a, rfl, .inr ⟨_, .inl ha⟩⟩
    | dk es => obtain ⟨a, kvs, rfl, _, ha, _⟩ := st.dk q r; exact ⟨a, rfl, .inl ⟨_, .inl ha⟩⟩
/-- what stands in a dict at a key -/
def getC (S : Sto) (c k : D) : Option (Option D) := match c with
  | .ref n => match S[n]? with
    | some (.dct es) => match k with
      | .tup l => match keysD l with
        | some ks => some (valD es ks)
        | none => none
      | _ => none
    | some (.dk es) => match keyD k with
      | some k => some (valD es k)
      | none => none
    | _ => none
  | _ => none
theorem getC_at {c k : D} {v u : V} {o : Option D} (h : getC S c k = some o) (st : StoR K γ S H) (r : Rep K γ H c v) (rk : Rep K γ H k u) : ∃ a o', v = .ref a ∧ DGet H a u o' ∧ RepO K γ H o o' := by
  cases c <;> first | cases h | skip
  rename_i n
  unfold getC at h
  dsimp only at h
  cases q : S[n]? with
  | none => rw [q] at h; cases h
  | some cl =>
    rw [q] at h
    cases cl with
    | lst _ => cases h
    | obj _ _ => cases h
    | dct es =>
      dsimp only at h
      cases k <;> first | cases h | skip
      rename_i l
      dsimp only at h
      cases q2 : keysD l with
      | none => rw [q2] at h; cases h
      | some ks =>
        rw [q2] at h
        cases h
        obtain ⟨a, kvs, rfl, g, ha, rn⟩ := st.dct q r
        obtain ⟨b, us, rfl, hb, t⟩ := rep_tup rk
        rw [keysD_at q2 t] at hb
        exact ⟨a, _, rfl, .t ha hb, rn.val⟩
    | dk es =>
      dsimp only at h
      cases q2 : keyD k with
      | none => rw [q2] at h; cases h
      | some k' =>
        rw [q2] at h
        cases h
        obtain ⟨a, kvs, rfl, g, ha, rn⟩ := st.dk q r
        rw [keyD_at q2 rk]
        exact ⟨a, _, rfl, .k ha, rn.val⟩
/-- a dict with a key's value set: the store then -/
def putC (S : Sto) (c k x : D) : Option Sto := match c with
  | .ref n => match S[n]? with
    | some (.dct es) => match k with
      | .tup l => match keysD l with
        | some ks => if fits es.length = true then some (S.set n (.dct (putDK es ks x))) else none
        | none => none
      | _ => none
    | some (.dk es) => match keyD k with
      | some k => if fits es.length = true then some (S.set n (.dk (putDK es k x))) else none
      | none => none
    | _ => none
  | _ => none
theorem putC_at {c k x : D} {v u z : V} {S' : Sto} (h : putC S c k x = some S') (st : StoR K γ S H) (r : Rep K γ H c v) (rk : Rep K γ H k u) (rx : Rep K γ H x z) : ∃ a H', v = .ref a ∧ DPut H a u z H' ∧ Ext γ H γ H' ∧ StoR K γ S' H' := by
  cases c <;> first | cases h | skip
  rename_i n
  unfold putC at h
  dsimp only at h
  cases q : S[n]? with
  | none => rw [q] at h; cases h
  | some cl =>
    rw [q] at h
    cases cl with
    | lst _ => cases h
    | obj _ _ => cases h
    | dct es =>
      dsimp only at h
      cases k <;> first | cases h | skip
      rename_i l
      dsimp only at h
      cases q2 : keysD l with
      | none => rw [q2] at h; cases h
      | some ks =>
        rw [q2] at h
        dsimp only at h
        by_cases hf : fits es.length = true
        rotate_left
        · rw [if_neg hf] at h; cases h
        rw [if_pos hf] at h
        cases h
        obtain ⟨a, kvs, rfl, g, ha, rn⟩ := st.dct q r
        obtain ⟨b, us, rfl, hb, t⟩ := rep_tup rk
        rw [keysD_at q2 t] at hb
        have ew : Ext γ H γ (upd H a (.dT (L2.putK kvs ks z))) := st.write g ha (fun xs z => by cases z)
        exact ⟨a, _, rfl, .t ha hb (by rw [rn.len]; exact fits_lt hf), ew, st.setCell g ha (fun xs z => by cases z) ⟨_, upd_same, (rn.mono ew).putK (rx.mono ew)⟩⟩
    | dk es =>
      dsimp only at h
      cases q2 : keyD k with
      | none => rw [q2] at h; cases h
      | some k' =>
        rw [q2] at h
        dsimp only at h
        by_cases hf : fits es.length = true
        rotate_left
        · rw [if_neg hf] at h; cases h
        rw [if_pos hf] at h
        cases h
        obtain ⟨a, kvs, rfl, g, ha, rn⟩ := st.dk q r
        rw [keyD_at q2 rk]
        have ew : Ext γ H γ (upd H a (.dK (L2.putK kvs k' z))) := st.write g ha (fun xs z => by cases z)
        exact ⟨a, _, rfl, .k ha (by rw [rn.len]; exact fits_lt hf), ew, st.setCell g ha (fun xs z => by cases z) ⟨_, upd_same, (rn.mono ew).putK (rx.mono ew)⟩⟩
end
/-! ### the rules -/
section
variable {X : Cx} {W : WX} {pos pos' tpos apos : Pos} {o i e value : Expr} {fo fi fx fv : Fe} {j : Nat}
/-- {}: keys will be tuples -/
@[simp] def fDct : Fe := fun _ S => .ok (.ref S.length) (S ++ [.dct []])
/-- {}: keys will be ints or texts -/
@[simp] def fDk : Fe := fun _ S => .ok (.ref S.length) (S ++ [.dk []])
theorem de_dct : DE X W (.Dict [] [] pos) fDct := PEimp pe_dnewT fun σ H Q hw => by
  obtain ⟨γ, ds, S, st, ev, p⟩ := hw
  exact fun q hq => p _ _ _ (.newCell hq) (st.newAny (c0 := .dct []) hq ⟨[], upd_same, .nil⟩) st.newRef
theorem de_dk : DE X W (.Dict [] [] pos) fDk := PEimp pe_dnewK fun σ H Q hw => by
  obtain ⟨γ, ds, S, st, ev, p⟩ := hw
  exact fun q hq => p _ _ _ (.newCell hq) (st.newAny (c0 := .dk []) hq ⟨[], upd_same, .nil⟩) st.newRef
/-- d[k] -/
def fDGet (fo fi : Fe) : Fe := fun ds S => (fo ds S).bind fun c S1 => (fi ds S1).bind fun k S2 => match getC S2 c k with
  | some (some x) => .ok x S2
  | _ => .bad
theorem de_dget (hr : Room j X.A) (ho : DE X W o fo) (hi : DE X W i fi) (hs : NoSl i := by exact fun _ _ => rfl) : DE X W (.Subscript o i pos) (fDGet fo fi) := PEimp (pe_dget (hu_of hr) ho hi hs) fun σ H Q hw => by
  obtain ⟨γ, ds, S, st, ev, p⟩ := hw
  refine (Post.bind (Rp := Rep X.K) st ev p).imp fun v H1 ⟨γ1, c, S1, e1, st1, ev1, r1, p1⟩ => ?_
  refine (Post.bind (Rp := Rep X.K) st1 ev1 p1).imp fun u H2 ⟨γ2, k, S2, e2, st2, ev2, r2, p2⟩ => ?_
  dsimp only at p2
  cases q : getC S2 c k with
  | none => rw [q] at p2; exact p2.elim
  | some x =>
    cases x with
    | none => rw [q] at p2; exact p2.elim
    | some x =>
      rw [q] at p2
      obtain ⟨a, o', rfl, g, ro⟩ := getC_at q st2 (r1.mono e2) r2
      cases ro with
      | some rx => exact ⟨a, _, rfl, g, p2 γ2 _ H2 .refl st2 rx⟩
/-- k in d, k not in d -/
def fDIn (neg : Bool) (fi fo : Fe) : Fe := fun ds S => (fi ds S).bind fun k S1 => (fo ds S1).bind fun c S2 => match getC S2 c k with
  | some x => .ok (.bl (neg != x.isSome)) S2
  | none => .bad
theorem RepO.isSome {K : PySem.W.Frag} {γ : Ga} {H : Hp} {o : Option D} {o' : Option V} (h : RepO K γ H o o') : o'.isSome = o.isSome := by cases h <;> rfl
theorem de_din (hr : Room j X.A) (hi : DE X W i fi) (ho : DE X W o fo) (hm : behindInMarks .In o = false := by rfl) : DE X W (.Compare i [.In] [o] pos) (fDIn false fi fo) := PEimp (pe_cmp (pc_din (hu_of hr) hi ho) hm) fun σ H Q hw => by
  obtain ⟨γ, ds, S, st, ev, p⟩ := hw
  refine (Post.bind (Rp := Rep X.K) st ev p).imp fun u H1 ⟨γ1, k, S1, e1, st1, ev1, r1, p1⟩ => ?_
  refine (Post.bind (Rp := Rep X.K) st1 ev1 p1).imp fun v H2 ⟨γ2, c, S2, e2, st2, ev2, r2, p2⟩ => ?_
  dsimp only at p2
  cases q : getC S2 c k with
  | none => rw [q] at p2; exact p2.elim
  | some x =>
    rw [q] at p2
    obtain ⟨a, o', rfl, g, ro⟩ := getC_at q st2 r2 (r1.mono e2)
    refine ⟨a, o', rfl, g, ?_⟩
    rw [ro.isSome]
    exact p2 γ2 _ H2 .refl st2 (by rw [Bool.false_bne]; exact .bl _)
/-- d.get(k, x) -/
def fDGet2 (fo fi fx : Fe) : Fe := fun ds S => (fo ds S).bind fun c S1 => if isDc S1 c = true then (fi ds S1).bind fun k S2 => (fx ds S2).bind fun x S3 => match getC S3 c k with
  | some y => .ok (y.getD x) S3
  | none => .bad else .bad
theorem de_dget2 {cpos : Pos} (hr : Room j X.A) (ho : DE X W o fo) (hi : DE X W i fi) (hx : DE X W e fx) (m : M2 X o "get" apos i e cpos) : DE X W (.Call (.Attribute o "get" apos) [i, e] [] cpos) (fDGet2 fo fi fx) := PEimp (pe_dget2 (hu_of hr) ho hi hx m) fun σ H Q hw => by
  obtain ⟨γ, ds, S, st, ev, p⟩ := hw
  refine (Post.bind (Rp := Rep X.K) st ev p).imp fun v H1 ⟨γ1, c, S1, e1, st1, ev1, r1, p1⟩ => ?_
  obtain ⟨hd, p1⟩ := Post.ite p1
  obtain ⟨a, rfl, isd⟩ := isDc_at hd st1 r1
  refine ⟨a, rfl, isd, ?_⟩
  refine (Post.bind (Rp := Rep X.K) st1 ev1 p1).imp fun u H2 ⟨γ2, k, S2, e2, st2, ev2, r2, p2⟩ => ?_
  refine (Post.bind (Rp := Rep X.K) st2 ev2 p2).imp fun z H3 ⟨γ3, x, S3, e3, st3, ev3, r3, p3⟩ => ?_
  dsimp only at p3
  cases q : getC S3 c k with
  | none => rw [q] at p3; exact p3.elim
  | some y =>
    rw [q] at p3
    obtain ⟨a', o', ea, g, ro⟩ := getC_at q st3 ((r1.mono e2).mono e3) (r2.mono e3)
    cases ea
    refine ⟨o', g, p3 γ3 _ H3 .refl st3 ?_⟩
    cases ro with
    | none => exact r3
    | some rx => exact rx
/-- d[k] = v -/
def sDPut (fo fi fv : Fe) : Fs := fun _ ds S => (fv ds S).go ds fun x S1 => (fo ds S1).go ds fun c S2 => (fi ds S2).go ds fun k S3 => match putC S3 c k x with
  | some S4 => .nx ds S4
  | none => .bad
theorem ds_dput (hr : Room j X.A) (ho : DE X W o fo) (hi : DE X W i fi) (hv : DE X W value fv) (hs : swapsWith value (some (.Subscript o i pos')) pos.line X.env = pure false := by rfl) : DS X W (.Assign [.Subscript o i pos'] value pos) (sDPut fo fi fv) := fun γ0 H0 => PSimp (ps_dput (hu_of hr) ho hi hv hs) fun Dn σ H hw => by
  obtain ⟨γ, ds, S, e, st, ev, p⟩ := hw
  refine (PostS.goX (Rp := Rep X.K) e st ev p).imp fun z H1 ⟨γ1, x, S1, e1, st1, ev1, r1, p1⟩ => ?_
  refine (PostS.goX (Rp := Rep X.K) (e.trans e1) st1 ev1 p1).imp fun v H2 ⟨γ2, c, S2, e2, st2, ev2, r2, p2⟩ => ?_
  refine (PostS.goX (Rp := Rep X.K) ((e.trans e1).trans e2) st2 ev2 p2).imp fun u H3 ⟨γ3, k, S3, e3, st3, ev3, r3, p3⟩ => ?_
  dsimp only at p3
  cases q : putC S3 c k x with
  | none => rw [q] at p3; exact p3.elim
  | some S4 =>
    rw [q] at p3
    obtain ⟨a, H4, rfl, hp, e4, st4⟩ := putC_at q st3 (r2.mono e3) r3 ((r1.mono e2).mono e3)
    exact ⟨a, H4, rfl, hp, p3 γ3 σ H4 ((((e.trans e1).trans e2).trans e3).trans e4) st4 (ev3.mono e4)⟩
/-- d[k] += v, ints -/
def sDAug (fo fi fv : Fe) : Fs := fun _ ds S => (fo ds S).go ds fun c S1 => (fi ds S1).go ds fun k S2 => match getC S2 c k with
  | some (some (.int x)) => (fv ds S2).go ds fun y S3 => match y with
    | .int y => match putC S3 c k (.int (x + y)) with
      | some S4 => .nx ds S4
      | none => .bad
    | _ => .bad
  | _ => .bad
theorem ds_daug (hr : Room j X.A) (ho : DE X W o fo) (hi : DE X W i fi) (hv : DE X W value fv) (ha : ∀ ov iv new, augStore i ov iv new = (do holding [new, ov, iv] (setItem ov iv new); release [new, ov, iv] []; pure .next) := by exact fun _ _ _ => rfl) : DS X W (.AugAssign (.Subscript o i tpos) .Add value pos) (sDAug fo fi fv) := fun γ0 H0 => PSimp (ps_daug (hu_of hr) ho hi hv in_add ha) fun Dn σ H hw => by
  obtain ⟨γ, ds, S, e, st, ev, p⟩ := hw
  refine (PostS.goX (Rp := Rep X.K) e st ev p).imp fun v H1 ⟨γ1, c, S1, e1, st1, ev1, r1, p1⟩ => ?_
  refine (PostS.goX (Rp := Rep X.K) (e.trans e1) st1 ev1 p1).imp fun u H2 ⟨γ2, k, S2, e2, st2, ev2, r2, p2⟩ => ?_
  dsimp only at p2
  cases q : getC S2 c k with
  | none => rw [q] at p2; exact p2.elim
  | some x =>
    cases x with
    | none => rw [q] at p2; exact p2.elim
    | some x =>
      rw [q] at p2
      cases x <;> first | exact p2.elim | skip
      rename_i x
      obtain ⟨a, o', rfl, g, ro⟩ := getC_at q st2 (r1.mono e2) r2
      cases ro with
      | some rx =>
        cases rep_int rx
        refine ⟨a, _, rfl, g, ?_⟩
        refine (PostS.goX (Rp := Rep X.K) ((e.trans e1).trans e2) st2 ev2 p2).imp fun z H3 ⟨γ3, y, S3, e3, st3, ev3, r3, p3⟩ => ?_
        dsimp only at p3
        cases y <;> first | exact p3.elim | skip
        rename_i y
        cases rep_int r3
        dsimp only at p3
        cases q3 : putC S3 c k (.int (x + y)) with
        | none => rw [q3] at p3; exact p3.elim
        | some S4 =>
          rw [q3] at p3
          obtain ⟨a', H4, ea, hp, e4, st4⟩ := putC_at q3 st3 ((r1.mono e2).mono e3) (r2.mono e3) (.int (x + y))
          cases ea
          exact ⟨x, y, rfl, rfl, H4, hp, p3 γ3 σ H4 ((((e.trans e1).trans e2).trans e3).trans e4) st4 (ev3.mono e4)⟩
end
end
end DL

set_option maxRecDepth 100000
set_option maxHeartbeats 2000000
/-! DlS: dict(d); texts; any, all, count; zip; constants of a class; a list times an int that is written -/
namespace DL
open PySem PySem.Spec L2 PyProof.Rows
noncomputable section
/-! ### dict(d), keys tuples -/
/-- keys whose hashes differ in every world -/
def hSep (ks : List (List Key)) : Bool := decide (ks.length ≤ 1)
theorem hSep_nodup {P : Program} {w : World} {ks : List (List Key)} (h : hSep ks = true) : (ks.map (tupleKind (mixKind P w)).hash).Nodup := by
  have h : ks.length ≤ 1 := of_decide_eq_true h
  match ks, h with
  | [], _ => exact List.nodup_nil
  | [x], _ => simp
section
variable {X : Cx} {W : WX} {pos p pos' tpos : Pos} {a b e o : Expr} {es : List Expr} {f g fo : Fe} {fa it : Fa} {j : Nat}
def rDcT (X : Cx) : List V → Hp → VK → Prop := fun xs H Q => ∃ (a : Addr) (kvs : List (List Key × V)), xs = [.ref a] ∧ H a = some (.dT kvs) ∧ (kvs.map fun x => (tupleKind (mixKind X.prog X.w)).hash x.1).Nodup ∧ ∀ q, H q = none → Q (.ref q) (upd H q (.dT kvs))
theorem cr_dcopy (hr : Room j X.A) : CallR X (.type "dict") (rDcT X) := by
  intro pins s σ H xs us Q I r h
  obtain ⟨a, kvs, rfl, ha, hn, q⟩ := h
  rw [Vals.ref1 r]
  obtain ⟨z, hd, xs', rel, dd⟩ := dt_of I.hok ha
  have hl : kvs.length = xs'.length := Paired.length rel
  have keys : ∀ {l : List (List Key × V)} {m : List (List Key × Addr × Value)}, KT H l m → m.map (·.1) = l.map (·.1) := by
    intro l m q
    induction q with
    | nil => rfl
    | @cons p q ps qs hq t ih => rw [List.map_cons, List.map_cons, ih, hq.1]
  have hn' : (xs'.map fun x => (tupleKind (mixKind X.prog X.w)).hash x.1).Nodup := by
    have e1 : (xs'.map fun x => (tupleKind (mixKind X.prog X.w)).hash x.1) = (xs'.map (·.1)).map (tupleKind (mixKind X.prog X.w)).hash := by rw [List.map_map]; rfl
    have e2 : (kvs.map fun x => (tupleKind (mixKind X.prog X.w)).hash x.1) = (kvs.map (·.1)).map (tupleKind (mixKind X.prog X.w)).hash := by rw [List.map_map]; rfl
    rw [e1, keys rel, ← e2]; exact hn
  have hty : ∀ x ∈ xs', s.TypeIs (.ref x.2.1) "tuple" := by
    obtain ⟨_, _, _, _, _, _, _, his, _⟩ := id dd
    intro x hx
    obtain ⟨o, items, n, h1, h2, h3, _⟩ := his x hx
    exact ⟨o, h1, h2⟩
  refine call_dict_h (knd := tupleKind (mixKind X.prog X.w)) tupleKind_stays (show X.A.units + 1 + 1 < cLine from ?_) hd dd hn' hty (by rw [← hl]; exact z) fun h' dd' hs => ?_
  · have := hr.units; omega
  · obtain ⟨o, es, ep, h1, h2, h3, h4, _, h5⟩ := dd'
    refine ⟨.ref s.heap.objs.size, _, I.laid (a := s.heap.objs.size) (o := .dT kvs) (t' := s.toks) (fun b u hb => ?_) (Nat.le_refl _) ⟨z, beq_eq_false_iff_ne.mpr (Ne.symm (Nat.ne_of_lt I.big)), xs', ?_, o, es, ep, h1, h2, h3, h4, h5⟩, rfl, q _ (I.hok.fresh (Nat.le_refl _))⟩
    · exact (hs.2 b (Nat.ne_of_lt (Heap.lt_size hb))).trans (Heap.get?_push_of_some _ hb)
    · exact rel.keeps fun c ys ec => by rw [upd_ne (ne_of_none ec (I.hok.fresh (Nat.le_refl _)))]; exact ec
@[simp] def oDCopy : OpA := fun xs S => match xs with
  | [.ref n] => match S[n]? with
    | some (.dct es) => if hSep (es.map (·.1)) = true then .ok (.ref S.length) (S ++ [.dct es]) else .bad
    | _ => .bad
  | _ => .bad
theorem does_dcopy : DoesA X.K W (rDcT X) oDCopy := by
  intro γ S H xs vs σ Q st r p
  cases xs with
  | nil => exact p.elim
  | cons d t =>
    cases t with
    | cons d2 t2 => cases d <;> exact p.elim
    | nil =>
      obtain ⟨v, rfl, rd⟩ := reps1 r
      cases d <;> first | exact p.elim | skip
      rename_i n
      unfold oDCopy at p
      dsimp only at p
      cases q : S[n]? with
      | none => rw [q] at p; exact p.elim
      | some c =>
        rw [q] at p
        cases c with
        | lst _ => exact p.elim
        | obj _ _ => exact p.elim
        | dk _ => exact p.elim
        | dct es =>
          obtain ⟨hf, p⟩ := Post.ite p
          obtain ⟨a, kvs, rfl, g, ha, rn⟩ := st.dct q rd
          refine ⟨a, kvs, rfl, ha, ?_, fun q hq => ?_⟩
          · have e2 : (kvs.map fun x => (tupleKind (mixKind X.prog X.w)).hash x.1) = (es.map (·.1)).map (tupleKind (mixKind X.prog X.w)).hash := by
              rw [rn.1, List.map_map]; rfl
            rw [e2]; exact hSep_nodup hf
          · exact p _ _ _ (.newCell hq) (st.newAny (c0 := .dct es) hq ⟨kvs, upd_same, rn.mono (.newCell hq)⟩) st.newRef
theorem bt_dict : bootBuiltins "dict" = some (.type "dict") := by decide +kernel
theorem b_dict (hr : Room j X.A) (hm : X.mg "dict" = none) : Blt X W "dict" oDCopy := ⟨_, does_dcopy, hm, by decide, by decide, .inr ⟨_, cr_dcopy hr, bt_dict⟩⟩
/-! ### texts -/
/-- one sign in a text -/
@[simp] def oInS : Op2 := fun x y S => match x, y with
  | .str a, .str z => match a.cps.toList with
    | [c] => .ok (.bl (decide (c ∈ z.cps.toList))) S
    | _ => .bad
  | _, _ => .bad
theorem does_inS {K : PySem.W.Frag} : Does2 K W (fun x y H Q => ∃ (c : Nat) (z : PySem.Str), x = .str ⟨#[c]⟩ ∧ y = .str z ∧ Q (.bl (decide (c ∈ z.cps.toList))) H) oInS := by
  intro γ S H x y v u σ Q st rx ry p
  cases x <;> first | (cases y <;> exact p.elim) | skip
  cases y <;> first | exact p.elim | skip
  rename_i a z
  cases rep_str rx
  cases rep_str ry
  unfold oInS at p
  dsimp only at p
  obtain ⟨ac⟩ := a
  cases q : ac.toList with
  | nil => rw [q] at p; exact p.elim
  | cons c r =>
    cases r with
    | cons _ _ => rw [q] at p; exact p.elim
    | nil =>
      rw [q] at p
      have e : ac = #[c] := by
        have := congrArg List.toArray q
        simpa using this
      subst e
      exact ⟨c, z, rfl, rfl, p γ _ H .refl st (.bl _)⟩
theorem de_inS (ha : DE X W a f) (hb : DE X W b g) (hm : behindInMarks .In b = false := by rfl) : DE X W (.Compare a [.In] [b] pos) (fBin oInS f g) := de_cmpR op_in_sign does_inS ha hb hm
/-- s[i] -/
@[simp] def oIxS : Op2 := fun x y S => match x, y with
  | .str z, .int i => if fits z.length = true then match atI z.cps.toList i with
    | some c => .ok (.str ⟨#[c]⟩) S
    | none => .bad else .bad
  | _, _ => .bad
theorem does_ixS {K : PySem.W.Frag} : Does2 K W rIxS oIxS := by
  intro γ S H x y v u σ Q st rx ry p
  cases x <;> first | (cases y <;> exact p.elim) | skip
  cases y <;> first | exact p.elim | skip
  rename_i z i
  cases rep_str rx
  cases rep_int ry
  change Post (Rep K) K W σ Q γ H (if fits z.length = true then (match atI z.cps.toList i with
    | some c => Res.ok (D.str ⟨#[c]⟩) S
    | none => .bad) else .bad) at p
  obtain ⟨hf, p⟩ := Post.ite p
  cases q : atI z.cps.toList i with
  | none => rw [q] at p; exact p.elim
  | some c =>
    rw [q] at p
    exact ⟨z, i, c, rfl, rfl, fits_line hf, q, p γ _ H .refl st (.str _)⟩
theorem de_ixS (ha : DE X W a f) (hb : DE X W b g) (hs : PlainIx b := by exact fun _ _ => rfl) : DE X W (.Subscript a b pos) (fBin oIxS f g) := PEimp (pe_ix ix_str ha hb hs) fun _ _ _ => rd_bin does_ixS
/-- s + t -/
@[simp] def oAddS : Op2 := fun x y S => match x, y with
  | .str a, .str b => if fits (a.length + b.length) = true then .ok (.str (a ++ b)) S else .bad
  | _, _ => .bad
theorem does_addS {K : PySem.W.Frag} : Does2 K W (fun x y H Q => ∃ i j, x = .str i ∧ y = .str j ∧ i.length + j.length ≤ sizeLine ∧ Q (.str (i ++ j)) H) oAddS := by
  intro γ S H x y v u σ Q st rx ry p
  cases x <;> first | (cases y <;> exact p.elim) | skip
  cases y <;> first | exact p.elim | skip
  rename_i a b
  cases rep_str rx
  cases rep_str ry
  obtain ⟨hf, p⟩ := Post.ite (c := fits (a.length + b.length)) (r := .ok (D.str (a ++ b)) S) p
  exact ⟨a, b, rfl, rfl, fits_line hf, p γ _ H .refl st (.str _)⟩
theorem de_addS (ha : DE X W a f) (hb : DE X W b g) : DE X W (.BinOp a .Add b pos) (fBin oAddS f g) := de_op op_add_str does_addS ha hb
/-- for c in s -/
@[simp] def kStr : D → Option (List D)
  | .str z => some (z.cps.toList.map fun c => D.str ⟨#[c]⟩)
  | _ => none
theorem itOk_str {K : PySem.W.Frag} {γ : Ga} {H : Hp} (z : PySem.Str) : ItOk K (Its z) (z.cps.toList.map fun c => D.str ⟨#[c]⟩) γ H where
  goes := fun i γ' H' hi _ => (by simpa using hi : i < z.cps.size)
  stops := fun γ' H' _ => (by simp : z.cps.size ≤ (z.cps.toList.map fun c => D.str ⟨#[c]⟩).length)
  yields := fun i x H' H'' γ' S' hi e st y => by
    obtain ⟨rfl, c, hc, rfl⟩ := y
    exact ⟨.refl, st, D.str ⟨#[c]⟩, by rw [List.getElem?_map, Array.getElem?_toList, hc]; rfl, .str _⟩
theorem di_str {tg : Expr} (h : DE X W a f) : DI X W tg a (iOf kStr f) := PIimp (pi_str h) fun σ H R hw => by
  refine (rdI_of (Rp := Rep X.K) hw).imp fun v H1 ⟨γ1, d, S1, items, st, r, hk, ok⟩ => ?_
  cases d <;> first | cases hk | skip
  rename_i z
  cases rep_str r
  exact ⟨z, rfl, ok _ (itOk_str z)⟩
/-- a constant of a module: a text -/
theorem de_globS {x : PySem.Str} {z : PySem.Str} (hm : ∃ t, X.mg x = some (.str z t)) (hg : Gl X x := by rfl) (hd : (x == ("__debug__" : PySem.Str)) = false := by decide) : DE X W (.Name x pos) (fC (.str z)) := by
  obtain ⟨t, h⟩ := hm
  exact de_c (v := .str z) (pe_glob (v := .str z) hg h (show ∃ t', Value.str z t = Value.str z t' from ⟨t, rfl⟩) hd) fun _ _ => .str z
/-! ### constants of a class -/
/-- c.f is the int i -/
structure ClsC (K : PySem.W.Frag) (mg : PySem.Str → Option Value) (c f : PySem.Str) (i : Int) : Prop where
  g : mg c = some (.ref (cAd K c))
  rd : PySem.W.readsIn K (cAd K c) (.type "type") = true
  ga : PySem.W.specialIn K (.ref (cAd K c)) "__getattribute__" = some (some (.builtin "type.__getattribute__"))
  v : ∃ t, PySem.W.findCls K (.ref (cAd K c)) (.type "type") f = some (.val (.int i t))
theorem de_clsI {c f : PySem.Str} {i : Int} (T : ClsC X.K X.mg c f i) (hg : Gl X c := by rfl) (hd : (c == ("__debug__" : PySem.Str)) = false := by decide) (hb : attributeBase (.Name c p) f X.env (eval (.Name c p) X.env) = eval (.Name c p) X.env := by rfl) :
    DE X W (.Attribute (.Name c p) f pos) (fC (.int i)) := by
  refine PEimp (ClX.pe_cval (pe_glob (v := .ref (cAd X.K c)) hg T.g rfl hd) hb) ?_
  rintro σ H Q ⟨γ, ds, S, st, ev, q⟩
  obtain ⟨t, hv⟩ := T.v
  exact ⟨cAd X.K c, .type "type", .int i, .int i t, rfl, ⟨T.rd, T.ga⟩, ⟨hv, ⟨t, rfl⟩⟩, q γ _ H .refl st (.int i)⟩
/-! ### any, all -/
def bolsOf : List D → Option (List Bool)
  | [] => some []
  | .bl i :: r => (bolsOf r).map (i :: ·)
  | _ :: _ => none
theorem bolsOf_eq : ∀ {l : List D} {ns : List Bool}, bolsOf l = some ns → l = ns.map D.bl
  | [], ns, h => by cases h; rfl
  | .bl i :: r, ns, h => by
    unfold bolsOf at h
    cases q : bolsOf r with
    | none => rw [q] at h; cases h
    | some ms =>
      rw [q] at h
      cases h
      rw [bolsOf_eq q]; rfl
  | .non :: _, _, h => by cases h
  | .int _ :: _, _, h => by cases h
  | .str _ :: _, _, h => by cases h
  | .tup _ :: _, _, h => by cases h
  | .lst _ :: _, _, h => by cases h
  | .scr _ :: _, _, h => by cases h
  | .ref _ :: _, _, h => by cases h
theorem bolsOf_map : ∀ ns : List Bool, bolsOf (ns.map D.bl) = some ns
  | [] => rfl
  | n :: ns => by simp [bolsOf, bolsOf_map ns]
theorem Reps.bols {K : PySem.W.Frag} {γ : Ga} {H : Hp} : ∀ {ns : List Bool} {vs : List V}, Reps K γ H (ns.map D.bl) vs → vs = ns.map V.bl
  | [], _, .nil => rfl
  | n :: ns, _, .cons r t => by cases r; rw [Reps.bols t]; rfl
@[simp] def oBools (k : List Bool → Bool) : OpA := fun xs S => match xs with
  | [d] => match (lstOf S d).bind bolsOf with
    | some ns => .ok (.bl (k ns)) S
    | none => .bad
  | _ => .bad
theorem does_bools {K : PySem.W.Frag} (k : List Bool → Bool) : DoesA K W (fun vs H Q => ∃ (a : Addr) (bs : List Bool), vs = [V.ref a] ∧ SqL K H a (bs.map V.bl) ∧ Q (.bl (k bs)) H) (oBools k) := by
  intro γ S H xs vs σ Q st r p
  cases xs with
  | nil => exact p.elim
  | cons d t =>
    cases t with
    | cons d2 t2 => exact p.elim
    | nil =>
      obtain ⟨v, rfl, rd⟩ := reps1 r
      unfold oBools at p
      dsimp only at p
      cases hx : lstOf S d with
      | none => rw [hx] at p; exact p.elim
      | some l =>
        rw [hx] at p
        change Post (Rep K) K W σ Q γ H (match bolsOf l with
          | some ns => .ok (.bl (k ns)) S
          | none => .bad) at p
        cases hi : bolsOf l with
        | none => rw [hi] at p; exact p.elim
        | some ns =>
          rw [hi] at p
          obtain ⟨a, us, rfl, hs, t⟩ := lstOf_at hx st rd
          rw [bolsOf_eq hi] at t
          rw [t.bols] at hs
          exact ⟨a, ns, rfl, .of hs, p γ _ H .refl st (.bl _)⟩
@[simp] def oAny : OpA := oBools fun bs => bs.any id
@[simp] def oAll : OpA := oBools fun bs => bs.all id
theorem b_any (hc : X.calm = true) (hm : X.mg "any" = none) : Blt X W "any" oAny := ⟨_, does_bools _, hm, by decide, by decide, .inl ⟨_, cr_any hc, PyProof.Rows.boot_any⟩⟩
theorem b_all (hc : X.calm = true) (hm : X.mg "all" = none) : Blt X W "all" oAll := ⟨_, does_bools _, hm, by decide, by decide, .inl ⟨_, cr_all hc, PyProof.Rows.boot_all⟩⟩
/-! ### xs.count(y), flat items -/
def rCntF (K : PySem.W.Frag) : V → List V → Hp → VK → Prop := fun x xs H Q => ∃ (p : Addr) (ys : List V) (y : V), x = .ref p ∧ xs = [y] ∧ SqL K H p ys ∧ flatV y = true ∧ ys.all flatV = true ∧ Q (.int ((ys.countP fun z => eqV z y : Nat) : Int)) H
theorem countP_eqU {y : V} : ∀ {ys : List V} {us : List Value}, Vals ys us → ys.all flatV = true → us.countP (eqU y) = ys.countP fun z => eqV z y
  | _, _, .nil, _ => rfl
  | _, _, .cons r t, h => by
    simp only [List.all_cons, Bool.and_eq_true] at h
    rw [List.countP_cons, List.countP_cons, countP_eqU t h.2, eqU_of r h.1]
theorem mt_countF : MtR X "list.count" (rCntF X.K) := by
  intro pins s σ H x xs v us Q I rx rxs h
  obtain ⟨p, ys, y, rfl, rfl, hs, fy, fs, q⟩ := h
  cases rx
  obtain ⟨u, rfl, ru⟩ := rxs.one
  obtain ⟨its, rv, ⟨⟨cls, dd, data, sl⟩, n, ho, hc, hdn, hd⟩, hlen⟩ := I.list hs
  simp only at hc hd
  subst hc hd
  refine call_meets PySem.F.slot_list_count ⟨_, ho, rfl⟩ PySem.F.entry_list_count (PySem.F.args_list_count_2 _ _)
    (SeqAt.list_countAt p its.toArray n dd sl u (eqU y)) ⟨ho, fun w hw => mem_eqAt ru fy rv fs w (by simpa using hw), ?_⟩
  refine ⟨.int ((ys.countP fun z => eqV z y : Nat) : Int), H, I.tok _, ⟨s.toks, ?_⟩, q⟩
  show Value.int ((its.toArray.toList.countP (eqU y) : Nat) : Int) s.toks = Value.int _ s.toks
  have e : its.toArray.toList.countP (eqU y) = ys.countP fun z => eqV z y := countP_eqU rv fs
  rw [e]
theorem countF_of {K : PySem.W.Frag} {γ : Ga} {H : Hp} {e : D} {u : V} (q : Rep K γ H e u) (k : flatD e = true) : ∀ {ds : List D} {vs : List V}, Reps K γ H ds vs → ds.all flatD = true → (vs.countP fun z => eqV z u) = ds.countP fun d => eqF d e
  | _, _, .nil, _ => rfl
  | _, _, .cons r t, h => by
    simp only [List.all_cons, Bool.and_eq_true] at h
    rw [List.countP_cons, List.countP_cons, countF_of q k t h.2, eqF_of r q h.1 k]
@[simp] def oCount : OpM := fun o xs S => match xs with
  | [x] => match lstOf S o with
    | some l => if (flatD x && l.all flatD) = true then .ok (.int ((l.countP fun d => eqF d x : Nat) : Int)) S else .bad
    | none => .bad
  | _ => .bad
theorem does_count {K : PySem.W.Frag} : DoesM K W (rCntF K) oCount := by
  intro γ S H o v xs vs σ Q st r rs p
  cases rs with
  | nil => exact p.elim
  | cons rx rt =>
    cases rt with
    | cons _ _ => exact p.elim
    | nil =>
      rename_i x y
      unfold oCount at p
      dsimp only at p
      cases hx : lstOf S o with
      | none => rw [hx] at p; exact p.elim
      | some l =>
        rw [hx] at p
        obtain ⟨hf, p⟩ := Post.ite p
        rw [Bool.and_eq_true] at hf
        obtain ⟨a, us, rfl, ha, t⟩ := lstOf_at hx st r
        exact ⟨a, us, y, rfl, rfl, .of ha, flat_of rx hf.1, flats_of t hf.2, by rw [countF_of rx hf.1 t hf.2]; exact p γ _ H .refl st (.int _)⟩
theorem m_count : LMeth X W "count" oCount := ⟨_, _, PySem.F.slot_list_count, PySem.F.type_list_count, mt_countF, does_count⟩
/-! ### zip of two tuples -/
def zipD : List D → List D → List D
  | a :: l, b :: m => .tup [a, b] :: zipD l m
  | _, _ => []
theorem zipD_get : ∀ (l m : List D) (i : Nat), (zipD l m)[i]? = match l[i]?, m[i]? with
    | some a, some b => some (D.tup [a, b])
    | _, _ => none
  | [], m, i => by simp [zipD]
  | a :: l, [], i => by cases q : (a :: l)[i]? <;> simp [zipD, q]
  | a :: l, b :: m, 0 => by simp [zipD]
  | a :: l, b :: m, i + 1 => by simpa [zipD] using zipD_get l m i
theorem zipD_len : ∀ (l m : List D), (zipD l m).length = min l.length m.length
  | [], m => by simp [zipD]
  | a :: l, [] => by simp [zipD]
  | a :: l, b :: m => by simp only [zipD, List.length_cons, zipD_len l m]; omega
theorem itOk_zipT {K : PySem.W.Frag} {γ : Ga} {H : Hp} {a b : Addr} {ds es : List D} {vs us : List V} (h : H a = some (.tup vs)) (t : Reps K γ H ds vs) (h2 : H b = some (.tup us)) (t2 : Reps K γ H es us) : ItOk K (RZ.ItzT K a b) (zipD ds es) γ H where
  goes := fun i γ' H' hi e => by
    rw [zipD_len] at hi
    exact ⟨vs, us, vs[i]'(by rw [← t.length]; omega), us[i]'(by rw [← t2.length]; omega), .of (e.tup _ _ h), .of (e.tup _ _ h2), by simp, by simp⟩
  stops := fun γ' H' e => by
    rw [zipD_len]
    refine ⟨vs, us, .of (e.tup _ _ h), .of (e.tup _ _ h2), ?_⟩
    rw [← t.length, ← t2.length]; omega
  yields := fun i x H' H'' γ' S' hi e st y => by
    rw [zipD_len] at hi
    obtain ⟨T, u, u2, rfl, hT, rfl, hu, hu2⟩ := y
    have i1 : i < ds.length := by omega
    have i2 : i < es.length := by omega
    obtain ⟨v, a1, a2⟩ := t.get (i := i) (d := ds[i]) (by simp)
    obtain ⟨v2, b1, b2⟩ := t2.get (i := i) (d := es[i]) (by simp)
    have q := hu vs (.of (e.tup _ _ h))
    rw [a1] at q; cases q
    have q2 := hu2 us (.of (e.tup _ _ h2))
    rw [b1] at q2; cases q2
    obtain ⟨c1, c2, c3⟩ := pair_new st hT (a2.mono e) (b2.mono e)
    exact ⟨c1, c2, _, by rw [zipD_get]; simp [i1, i2], c3⟩
@[simp] def kZip : List D → Option (List D)
  | [.tup l, .tup m] => some (zipD l m)
  | _ => none
theorem di_zip {elts : List Expr} {kk : Nat} (hg : Gl X "zip") (hm : X.mg "zip" = none) (ha : DA X W [a, b] it) (hs : starEach [a, b] X.env = (false, eval a X.env) :: starEach [b] X.env := by rfl) (hpl : (backTo pos (starEach [b] X.env)).any (·.1) = false := by rfl) :
    DI X W (.Tuple elts kk tpos) (.Call (.Name "zip" p) [a, b] [] pos) (iOf kZip it) := PIimp (RZ.pi_zipA hg hm ha hs hpl) fun σ H R hw => by
  refine (rdI_of (Rp := Reps X.K) hw).imp fun vs H1 ⟨γ1, l, S1, items, st, r, hk, ok⟩ => ?_
  unfold kZip at hk
  split at hk <;> first | (cases hk; done) | skip
  cases hk
  obtain ⟨v, u, rfl, rv, ru⟩ := reps2 r
  obtain ⟨a1, us1, rfl, h1, t1⟩ := rep_tup rv
  obtain ⟨a2, us2, rfl, h2, t2⟩ := rep_tup ru
  exact ⟨a1, a2, us1, us2, rfl, .inr ⟨.of h1, .of h2, ok _ (itOk_zipT h1 t1 h2 t2)⟩⟩
/-! ### a list times an int, to be written -/
@[simp] def oRepM : Op2 := fun x y S => match y with
  | .int k => match lstOf S x with
    | some l => if (decide (0 ≤ k) && decide (k.natAbs < 1000000) && fits (l.length * k.toNat)) = true then .ok (.ref S.length) (S ++ [.lst (List.replicate k.toNat l).flatten]) else .bad
    | none => .bad
  | _ => .bad
theorem does_repM {K : PySem.W.Frag} : Does2 K W rRep oRepM := by
  intro γ S H x y v u σ Q st rx ry p
  cases y <;> first | exact p.elim | skip
  rename_i k
  cases rep_int ry
  unfold oRepM at p
  dsimp only at p
  cases hx : lstOf S x with
  | none => rw [hx] at p; exact p.elim
  | some l =>
    rw [hx] at p
    obtain ⟨hf, p⟩ := Post.ite p
    simp only [Bool.and_eq_true, decide_eq_true_eq] at hf
    obtain ⟨a, vs, rfl, ha, ra⟩ := lstOf_at hx st rx
    refine ⟨a, k, vs, rfl, rfl, ha, by omega, by omega, ?_, fun q hq => ?_⟩
    · rw [← ra.length]; exact fits_line hf.2
    · exact p _ _ _ (.newCell hq) (st.newCell hq (ra.rep _)) st.newRef
theorem de_repM (ha : DE X W a f) (hb : DE X W b g) : DE X W (.BinOp a .Mult b pos) (fBin oRepM f g) := de_op op_rep does_repM ha hb
end
end
end DL

set_option maxRecDepth 100000
set_option maxHeartbeats 2000000
/-! DlT: comprehensions of dicts, keys ints or texts -/
namespace DL
open PySem PySem.Spec L2 PyProof.Rows
noncomputable section
def dcL (T : Ft) (fk fv : Fe) : List D → Ev → Sto → List (Key × D) → Res (List (Key × D))
  | [], _, S, acc => .ok acc S
  | d :: r, ds, S, acc => match T d ds with
    | none => .bad
    | some ds1 => match fk ds1 S with
      | .ok y S1 => match fv ds1 S1 with
        | .ok z S2 => match keyD y with
          | some k => if fits acc.length = true then dcL T fk fv r ds S2 (putDK acc k z) else .bad
          | none => .bad
        | _ => .bad
      | _ => .bad
@[simp] def fDc (ws : List Nat) (T : Ft) (it : Fa) (fk fv : Fe) : Fe := fun ds S => (it ds S).bind fun items S1 => (dcL T fk fv items (wipeE ds ws) S1 []).bind fun es S2 => .ok (.ref S2.length) (S2 ++ [.dk es])
section
variable {n : Nat} {G : Hp → Prop} {J : It} {Y : Nat → Hp → V → Hp → Prop}
theorem dc_it (w : Walk J n G Y) {g : TG} {tt : TT} {tk tv : TE} {vs : List Nat} {σ : L2.St} {H1 : Hp} {D : Addr} {Qd : Hp → Prop} (Pv : Nat → Hp → Prop) (h0 : Pv 0 (upd H1 D (.dK []))) (hG : ∀ i H, i ≤ n → Pv i H → G H)
    (hs : ∀ i x H H', i < n → Pv i H → Y i H x H' → g x (wipe σ vs) H' fun σ2 H2 => wipe σ2 vs = wipe σ vs ∧ tt σ2 H2 fun b H3 =>
      if b = true then tk σ2 H3 fun y H4 => tv σ2 H4 fun z H5 => ∃ kvs k, y = kV k ∧ H5 D = some (.dK kvs) ∧ kvs.length < sizeLine ∧ Pv (i + 1) (upd H5 D (.dK (L2.putK kvs k z))) else Pv (i + 1) H3) (hd : ∀ H, Pv n H → Qd H) :
    ∃ W : Nat → Nat → Hp → Prop, (∃ m, W 0 m (upd H1 D (.dK []))) ∧ ∀ i m H, W i m H →
      (J.stop i H ∧ Qd H) ∨ (J.go i H ∧ ∃ Nx : Hp → Prop, (∀ H', Nx H' → ∃ m', m' < m ∧ W (i + 1) m' H') ∧ ∀ x H', J.yld i H x H' → g x (wipe σ vs) H' fun σ2 H2 => wipe σ2 vs = wipe σ vs ∧ tt σ2 H2 fun b H3 =>
        if b = true then tk σ2 H3 fun y H4 => tv σ2 H4 fun z H5 => ∃ kvs k, y = kV k ∧ H5 D = some (.dK kvs) ∧ kvs.length < sizeLine ∧ Nx (upd H5 D (.dK (L2.putK kvs k z))) else Nx H3) := by
  refine ⟨fun i m H => m = n - i ∧ i ≤ n ∧ Pv i H, ⟨n, by simp, Nat.zero_le _, h0⟩, ?_⟩
  rintro i m H ⟨rfl, hi, p⟩
  have q := hG i H hi p
  by_cases hlt : i < n
  · refine .inr ⟨w.goes i H hlt q, Pv (i + 1), fun H' p' => ⟨n - (i + 1), by omega, rfl, hlt, p'⟩, fun x H' y => hs i x H H' hlt p (w.yields i H x H' hlt q y)⟩
  · have e : i = n := by omega
    subst e
    exact .inl ⟨w.stops H q, hd H p⟩
end
section
variable {X : Cx} {W : WX} {pos : Pos} {tg iter kx vx : Expr} {it : Fa} {T : Ft} {fk fv : Fe} {ws : List Nat}
def DcTurn (K : PySem.W.Frag) (T : Ft) (fk fv : Fe) (σ : L2.St) (us : List Nat) (fin : List (Key × D) → Sto → Prop) (γ1 : Ga) (H1 : Hp) (Dd : Addr) (items : List D) (ds : Ev) (i : Nat) (H : Hp) : Prop :=
  ∃ γ S acc vs, Ext γ1 H1 γ H ∧ StoR K γ S H ∧ EvR K γ H ds (wipe σ us) ∧ Dd ∈ γ.hid ∧ H Dd = some (.dK vs) ∧ RepN K γ H acc vs ∧ (match dcL T fk fv (items.drop i) ds S acc with
    | .ok l S' => fin l S'
    | _ => False)
theorem RepN.mono0 {K : PySem.W.Frag} {γ γ' : Ga} {H H' : Hp} {N : Type} {fs : List (N × D)} {vs : List (N × V)} (h : RepN K γ H fs vs) (e : Ext0 γ H γ' H') : RepN K γ' H' fs vs := ⟨h.1, Reps.mono0 e h.2⟩
theorem dc_read {K : PySem.W.Frag} {us : List Nat} (hsub : ∀ i ∈ ws, i ∈ us)
    {J : It} {items : List D} {γ1 : Ga} {H1 : Hp} {S1 : Sto} {σ : L2.St} {ds : Ev} (ok : ItOk K J items γ1 H1) (st1 : StoR K γ1 S1 H1) (ev1 : EvR K γ1 H1 ds σ) (Q : VK) (fin : List (Key × D) → Sto → Prop) (Dd : Addr) (hD : H1 Dd = none)
    (run : match dcL T fk fv items (wipeE ds us) S1 [] with
      | .ok l S' => fin l S'
      | _ => False)
    (hfin : ∀ γ S l vs H, fin l S → Ext γ1 H1 γ H → StoR K γ S H → Dd ∈ γ.hid → H Dd = some (.dK vs) → RepN K γ H l vs → Q (.ref Dd) H) :
    ∃ W' : Nat → Nat → Hp → Prop, (∃ m, W' 0 m (upd H1 Dd (.dK []))) ∧ ∀ i m H, W' i m H →
      (J.stop i H ∧ Q (.ref Dd) H) ∨ (J.go i H ∧ ∃ Nx : Hp → Prop, (∀ H', Nx H' → ∃ m', m' < m ∧ W' (i + 1) m' H') ∧ ∀ x H', J.yld i H x H' → rdG K T ws x (wipe σ us) H' fun σ2 H2 => wipe σ2 us = wipe σ us ∧ rdT K WF tYesB σ2 H2 fun b H3 =>
        if b = true then rdE K WF fk σ2 H3 fun y H4 => rdE K WF fv σ2 H4 fun z H5 => ∃ kvs k, y = kV k ∧ H5 Dd = some (.dK kvs) ∧ kvs.length < sizeLine ∧ Nx (upd H5 Dd (.dK (L2.putK kvs k z))) else Nx H3) := by
  have w : Walk J items.length (fun H => ∃ γ' S', Ext γ1 H1 γ' H ∧ StoR K γ' S' H) J.yld :=
    ⟨fun i H hi ⟨γ', S', a, b⟩ => ok.goes i γ' H hi a, fun H ⟨γ', S', a, b⟩ => ok.stops γ' H a, fun i H x H' hi _ y => y⟩
  have e0 : Ext γ1 H1 (γ1.hide Dd) (upd H1 Dd (.dK [])) := .hide hD
  refine dc_it w (DcTurn K T fk fv σ us fin γ1 H1 Dd items (wipeE ds us)) ?_ (fun i H hi ⟨γ', S', _, _, a, b, _⟩ => ⟨γ', S', a, b⟩) ?_ ?_
  · exact ⟨γ1.hide Dd, S1, [], [], e0, st1.hideNew hD, (ev1.mono e0).wipe us, by simp [Ga.hide], upd_same, .nil, run⟩
  · rintro i x H2 H3 hi ⟨γ2, S2, acc, vs, e2, st2, ev2, hD2, hl2, ra, p2⟩ y
    obtain ⟨e3, st3, d, hd, rd⟩ := ok.yields i x H2 H3 γ2 S2 hi e2 st2 y
    have hdrop : items.drop i = d :: items.drop (i + 1) := by
      rw [List.drop_eq_getElem_cons hi]
      have : items[i] = d := by
        have h := List.getElem?_eq_getElem hi
        rw [hd] at h; exact (Option.some.inj h).symm
      rw [this]
    rw [hdrop] at p2
    unfold dcL at p2
    have keep : ∀ {γ γ' : Ga} {H H' : Hp}, Ext γ H γ' H' → Dd ∈ γ.hid → H Dd = some (.dK vs) → H' Dd = some (.dK vs) := fun e h q => (e.hk Dd h (by rw [q]; intro z; cases z)).trans q
    cases ht : T d (wipeE ds us) with
    | none => rw [ht] at p2; exact p2.elim
    | some ds3 =>
      rw [ht] at p2
      dsimp only at p2
      refine ⟨γ2, d, _, ds3, rd, ev2.mono e3, ht, fun σ3 ev3 only => ⟨?_, ?_⟩⟩
      · rw [only us hsub, wipe_idem us us fun _ h => h]
      · refine ⟨γ2, ds3, S2, st3, ev3, fun γ4 b' H4 e4 st4 r4 => ?_⟩
        cases r4
        rw [if_pos rfl]
        cases hq : fk ds3 S2 with
        | exc x S3 => rw [hq] at p2; exact p2.elim
        | bad => rw [hq] at p2; exact p2.elim
        | ok yd S5 =>
          rw [hq] at p2
          dsimp only at p2
          refine Rdg.known st4 (ev3.mono e4) hq fun γ5 yv H5 e5 st5 r5 => ?_
          cases hq2 : fv ds3 S5 with
          | exc x S4 => rw [hq2] at p2; exact p2.elim
          | bad => rw [hq2] at p2; exact p2.elim
          | ok zd S6 =>
            rw [hq2] at p2
            dsimp only at p2
            refine Rdg.known st5 ((ev3.mono e4).mono e5) hq2 fun γ6 zv H6 e6 st6 r6 => ?_
            cases hk : keyD yd with
            | none => rw [hk] at p2; exact p2.elim
            | some k =>
              rw [hk] at p2
              dsimp only at p2
              by_cases hf : fits acc.length = true
              rotate_left
              · rw [if_neg hf] at p2; exact p2.elim
              rw [if_pos hf] at p2
              have e26 := ((e3.trans e4).trans e5).trans e6
              have hl6 := keep e26 hD2 hl2
              have hD6 := e26.hidSub hD2
              have ew : Ext0 γ6 H6 γ6 (upd H6 Dd (.dK (L2.putK vs k zv))) := .write (.inr hD6) hl6 (fun xs z => by cases z)
              refine ⟨vs, k, keyD_at hk r5, hl6, by rw [ra.len]; exact fits_lt hf, γ6, S6, putDK acc k zd, L2.putK vs k zv, (e2.trans e26).made hD, st6.hide hD6 hl6 (fun xs z => by cases z), (ev2.mono e26).mono0 ew, hD6, upd_same, RepN.mono0 ((ra.mono e26).putK r6) ew, p2⟩
  · rintro H2 ⟨γ2, S2, acc, vs, e2, st2, ev2, hD2, hl2, ra, p2⟩
    rw [List.drop_length] at p2
    exact hfin γ2 S2 acc vs H2 p2 e2 st2 hD2 hl2 ra
theorem dcL_nox : ∀ (items : List D) ds S acc x S', dcL T fk fv items ds S acc ≠ .exc x S' := by
  intro items
  induction items with
  | nil => intro _ _ _ _ _ h; cases h
  | cons d r ih =>
    intro ds S acc x S' h
    unfold dcL at h
    split at h <;> first | (cases h; done) | skip
    split at h <;> first | (cases h; done) | skip
    split at h <;> first | (cases h; done) | skip
    split at h <;> first | (cases h; done) | skip
    split at h <;> first | (cases h; done) | skip
    exact ih _ _ _ _ _ h
/-- what was hidden is a cell -/
theorem unhide {K : PySem.W.Frag} {γ1 γ : Ga} {H1 H2 : Hp} {S1 S : Sto} {Dd : Addr} {o : HO} {c : Cell} (hD : H1 Dd = none) (st1 : StoR K γ1 S1 H1) (e : Ext γ1 H1 γ H2) (st : StoR K γ S H2) (h1 : Dd ∈ γ.hid)
    (hc : ∀ γ' : Ga, (∀ (n : Nat) (a : Addr), γ.c[n]? = some a → γ'.c[n]? = some a) → (∀ a, a ∈ γ' → a ∈ γ) → CellR K γ' H2 Dd c) :
    Ext γ1 H1 ((γ.show γ1).snoc Dd) H2 ∧ StoR K ((γ.show γ1).snoc Dd) (S ++ [c]) H2 ∧ Rep K ((γ.show γ1).snoc Dd) H2 (.ref S.length) (.ref Dd) := by
  have hns : Dd ∉ γ.show γ1 := not_in_show hD e st h1 fun a h => (st1.hidden a h).1
  have hlen : γ.c.length = S.length := st.len
  have hcc : ∀ (n : Nat) (a : Addr), γ.c[n]? = some a → ((γ.show γ1).snoc Dd).c[n]? = some a := fun n a g => by
    show (γ.c ++ [Dd])[n]? = some a
    rw [List.getElem?_append_left (List.getElem?_eq_some_iff.mp g).1]; exact g
  have hmm : ∀ a, a ∈ (γ.show γ1).snoc Dd → a ∈ γ := fun a z => by
    rcases Ga.show_snoc_mem z with z | z
    · exact e.show_sub z
    · exact .inr (z ▸ h1)
  refine ⟨?_, ?_, .ref (by show (γ.c ++ [Dd])[S.length]? = _; rw [← hlen]; simp)⟩
  · obtain ⟨ns, q, qn⟩ := e.pre
    refine ⟨⟨⟨ns ++ [Dd], by show γ.c ++ [Dd] = _; rw [q]; simp, fun a h => ?_⟩, ⟨[], by simp [Ga.show, Ga.snoc], by simp⟩, e.tup, e.lst, e.rd, e.stay⟩, e.hk⟩
    rcases List.mem_append.mp h with h | h
    · exact qn a h
    · have : a = Dd := by simpa using h
      rw [this]; exact hD
  · refine ⟨by show (γ.c ++ [Dd]).length = _; simp [hlen], ?_, fun n c' a h g => ?_, fun a h => ?_⟩
    · show (γ.c ++ [Dd]).Nodup
      rw [List.nodup_append]
      exact ⟨st.nd, by simp, fun a ha b hb => by simp at hb; subst hb; intro z; subst z; exact (st.hidden _ h1).2 ha⟩
    · have g : (γ.c ++ [Dd])[n]? = some a := g
      by_cases hn : n < S.length
      · rw [List.getElem?_append_left hn] at h
        rw [List.getElem?_append_left (by omega)] at g
        have := st.cell n c' a h g
        cases c' with
        | lst ds => obtain ⟨vs, q1, q2⟩ := this; exact ⟨vs, q1, q2.to hcc hmm⟩
        | obj C fs => obtain ⟨dx, vs, q1, q2⟩ := this; exact ⟨dx, vs, q1, q2.1, q2.2.to hcc hmm⟩
        | dct es => obtain ⟨vs, q1, q2⟩ := this; exact ⟨vs, q1, q2.1, q2.2.to hcc hmm⟩
        | dk es => obtain ⟨vs, q1, q2⟩ := this; exact ⟨vs, q1, q2.1, q2.2.to hcc hmm⟩
      · have hn' : n = S.length := by
          have := (List.getElem?_eq_some_iff.mp h).1
          simp at this; omega
        subst hn'
        rw [List.getElem?_append_right (by omega)] at h
        rw [List.getElem?_append_right (by omega)] at g
        simp [hlen] at h g
        subst h g
        exact hc _ hcc hmm
    · have hh : a ∈ γ.hid := e.hidSub h
      refine ⟨(st.hidden a hh).1, fun z => ?_⟩
      have z : a ∈ γ.c ++ [Dd] := z
      rcases List.mem_append.mp z with z | z
      · exact (st.hidden a hh).2 z
      · have z : a = Dd := by simpa using z
        exact (st1.hidden a h).1 (z ▸ hD)
theorem rd_dc {K : PySem.W.Frag} {us : List Nat} (hsub : ∀ i ∈ ws, i ∈ us) {σ : L2.St} {H : Hp} {Q : VK} (hw : rdE K W (fDc us T it fk fv) σ H Q) : tDc (rdI K W it) (rdG K T ws) (rdT K WF tYesB) (rdE K WF fk) (rdE K WF fv) us σ H Q := by
  obtain ⟨γ, ds, S, st, ev, p⟩ := hw
  refine ⟨γ, ds, S, st, ev, ?_⟩
  change Post (Rep K) K W σ Q γ H ((it ds S).bind fun items S1 => (dcL T fk fv items (wipeE ds us) S1 []).bind fun es S2 => .ok (.ref S2.length) (S2 ++ [.dk es])) at p
  cases q : it ds S with
  | exc x S1 => rw [q] at p; exact p
  | bad => rw [q] at p; exact p
  | ok items S1 =>
    rw [q, Res.bind_ok] at p
    intro γ1 H1 J e1 st1 ev1 ok Dd hD
    have p1 := p.ext e1
    refine dc_read (T := T) (fk := fk) (fv := fv) hsub ok st1 ev1 Q (fun l S' => Post (Rep K) K W σ Q γ1 H1 (.ok (.ref S'.length) (S' ++ [.dk l]))) Dd hD ?_ (fun γ S l vs H2 p2 e st h1 h2 r => ?_)
    · cases q2 : dcL T fk fv items (wipeE ds us) S1 [] with
      | ok l S' => rw [q2] at p1; exact p1
      | exc x S' => exact absurd q2 (dcL_nox _ _ _ _ _ _)
      | bad => rw [q2] at p1; exact p1.elim
    · obtain ⟨a1, a2, a3⟩ := unhide (c := .dk l) (o := .dK vs) hD st1 e st h1 fun γ' hcc hmm => ⟨vs, h2, r.1, r.2.to hcc hmm⟩
      exact p2 _ _ _ a1 a2 a3
theorem de_dc {scope : Scope} {own : List (PySem.Str × Nat)} (hc : X.calm = true) (hN : X.N.Nodup) (hi : DI X W tg iter it) (ok : blkC X.N X.env.scope scope own = true) (hg : inBlk X scope fun Y => DG Y tg T ws) (hk : inBlk X scope fun Y => DE Y WF kx fk) (hv : inBlk X scope fun Y => DE Y WF vx fv)
    (hsub : ∀ i ∈ ws, i ∈ own.map (·.2)) (hs : ∀ x, foldedSetIterable iter X.env x = pure x := by intro _; rfl) : DE X W (.DictComp kx vx [⟨tg, iter, [], 0⟩] scope pos) (fDc (own.map (·.2)) T it fk fv) :=
  PEimp (pe_dc hc hN hi (blkOk_by ok) hg (fun _ _ _ _ _ => dts_nil) hk hv hs) fun _ _ _ => rd_dc hsub
end
end
end DL

set_option maxRecDepth 100000
set_option maxHeartbeats 2000000
/-! DlU: methods of the text; mirrors that are the meaning itself -/
namespace DL
open PySem PySem.Spec L2 PyProof.Rows
noncomputable section
/-- a method of the text -/
structure Mth (K : PySem.W.Frag) (c m qual : PySem.Str) (st : Stmt) (ps : List PySem.Str) : Prop where
  ex : ∃ f fd, Fun K m qual st f fd ∧ Meth K (cAd K c) m f ∧ Binds K fd ps []
/-- a class's __init__ -/
structure Ini (K : PySem.W.Frag) (mg : PySem.Str → Option Value) (c qual : PySem.Str) (st : Stmt) (ps : List PySem.Str) : Prop where
  ex : ∃ f fd, Fun K "__init__" qual st f fd ∧ Mk K (cAd K c) f ∧ Binds K fd ps [] ∧ mg c = some (.ref (cAd K c))
section
variable {P : Program} {w : World} {K : PySem.W.Frag} {mg : PySem.Str → Option Value} {base : Heap}
theorem calm_of {c m qual : PySem.Str} {st : Stmt} {ps : List PySem.Str} {n k : Nat} {fm : Fm} (Df : Mth K c m qual st ps) (hn : ps.length = n + 1) (h : ∀ f fd, Fun K m qual st f fd → FnOk P w K mg base (L2.CX P w) k f fd ps (spD K ps.length fm)) : CalM P w K mg base k c m n fm := by
  obtain ⟨f, fd, Fn, h1, h2⟩ := Df.ex
  exact ⟨f, fd, ps, hn, by rw [← hn]; exact h f fd Fn, h1, h2⟩
theorem cali_of {c qual : PySem.Str} {st : Stmt} {ps : List PySem.Str} {n k : Nat} {fm : Fm} (Df : Ini K mg c qual st ps) (hn : ps.length = n + 1) (h : ∀ f fd, Fun K "__init__" qual st f fd → FnOk P w K mg base (L2.CX P w) k f fd ps (spD K ps.length fm)) : CalI P w K mg base k c n fm := by
  obtain ⟨f, fd, Fn, h1, h2, h3⟩ := Df.ex
  exact ⟨f, fd, ps, hn, by rw [← hn]; exact h f fd Fn, h1, h2, h3⟩
end
/-- a def's meaning as its own mirror: what is left of the store stays -/
def mAll (N : List PySem.Str) (F : Fs) : Fm := fun ds S => match F S.length (startD N ds) S with
  | .rt d S' => .ok d S'
  | .nx _ S' => .ok .non S'
  | .exc x _ S' => .exc x S'
  | _ => .bad
theorem agr_mAll {N : List PySem.Str} {F : Fs} (ds : List D) (S : Sto) : Agr S (F S.length (startD N ds) S) (mAll N F ds S) := by
  unfold mAll
  cases q : F S.length (startD N ds) S with
  | rt d S' => exact ⟨d, S', .inl rfl, .same⟩
  | nx ds' S' => exact ⟨.non, S', .inr ⟨rfl, ds', rfl⟩, .same⟩
  | exc x ds' S' => exact ⟨ds', rfl⟩
  | _ => trivial
/-- .. and nothing of its own is kept, where nothing else holds it -/
def cutR (b : Nat) (d : D) (S : Sto) : Res D := if (decide (b ≤ S.length) && (cloD b d && (S.take b).all (cloC b))) = true then .ok d (S.take b) else .ok d S
def mCut (N : List PySem.Str) (F : Fs) : Fm := fun ds S => match F S.length (startD N ds) S with
  | .rt d S' => cutR S.length d S'
  | .nx _ S' => cutR S.length .non S'
  | .exc x _ S' => .exc x S'
  | _ => .bad
theorem cutR_cls {S S' : Sto} {d : D} : ∃ d' S'', cutR S.length d S' = .ok d' S'' ∧ Cls S d S' d' S'' := by
  unfold cutR
  by_cases h : (decide (S.length ≤ S'.length) && (cloD S.length d && (S'.take S.length).all (cloC S.length))) = true
  · rw [if_pos h]
    simp only [Bool.and_eq_true, decide_eq_true_eq] at h
    refine ⟨_, _, rfl, .frz ⟨h.1, fun n c hn q => .inr ?_⟩ (.same h.2.1)⟩
    have hm : c ∈ S'.take S.length := by
      refine List.mem_of_getElem? (i := n) ?_
      rw [List.getElem?_take_of_lt hn]; exact q
    exact List.all_eq_true.mp h.2.2 c hm
  · rw [if_neg h]; exact ⟨_, _, rfl, .same⟩
theorem agr_mCut {N : List PySem.Str} {F : Fs} (ds : List D) (S : Sto) : Agr S (F S.length (startD N ds) S) (mCut N F ds S) := by
  unfold mCut
  cases q : F S.length (startD N ds) S with
  | rt d S' =>
    obtain ⟨d', S'', e, c⟩ := cutR_cls (S := S) (S' := S') (d := d)
    show Agr S _ (cutR S.length d S')
    rw [e]
    exact ⟨d, S', .inl rfl, c⟩
  | nx ds' S' =>
    obtain ⟨d', S'', e, c⟩ := cutR_cls (S := S) (S' := S') (d := .non)
    show Agr S _ (cutR S.length .non S')
    rw [e]
    exact ⟨.non, S', .inr ⟨rfl, ds', rfl⟩, c⟩
  | exc x ds' S' => exact ⟨ds', rfl⟩
  | _ => trivial
/-! a run, statement by statement -/
theorem sSeq_nx {F G : Fs} {b : Nat} {ds ds' : Ev} {S S' : Sto} (h : F b ds S = .nx ds' S') : sSeq F G b ds S = G b ds' S' := by
  show (match F b ds S with
    | .nx ds' S' => G b ds' S'
    | r => r) = _
  rw [h]
theorem sSeq_rt {F G : Fs} {b : Nat} {ds : Ev} {S S' : Sto} {d : D} (h : F b ds S = .rt d S') : sSeq F G b ds S = .rt d S' := by
  show (match F b ds S with
    | .nx ds' S' => G b ds' S'
    | r => r) = _
  rw [h]
section
variable {X : Cx} {W : WX} {pos : Pos} {a b i o : Expr} {f g fi fo : Fe} {j : Nat}
theorem dt_inS (ha : DE X W a f) (hb : DE X W b g) (hm : behindInMarks .In b = false := by rfl) : DT X W (.Compare a [.In] [b] pos) (fB (fBin oInS f g)) := PTimp (pt_cmpR op_in_sign ha hb hm) fun σ H Q hw => rd_bin does_inS (rd_toB hw)
end
end
end DL

set_option maxRecDepth 100000
set_option maxHeartbeats 2000000
/-! M11: what the defs of k11 do -/
namespace DL
open PySem PySem.Spec L2 PyProof.Rows
noncomputable section
/-! printed by wip/gen/gen2.py: what each def does, its mirror -/
def F_is_number : Fs :=
  sRet (fAndV (fIsi "int" (fVar 0)) (fAndV (fNotV (fIsi "bool" (fVar 0))) (fChain oLe oLe (fVar 1) (fVar 0) (fVar 2))))
def m_is_number : Fm := mAll ["value", "least", "most"] F_is_number
theorem agr_is_number : ∀ ds S, ds.length = 3 → Agr S (F_is_number S.length (startD ["value", "least", "most"] ds) S) (m_is_number ds S) := fun ds S _ => agr_mAll ds S
def F_is_cover : Fs :=
  sSeq (sIf (fOr (fNot (fTru (fIsi "tuple" (fVar 0)))) (fNot (fTru (fVar 0)))) (sRet (fC (.bl false))) (sNil)) (sSeq (sIf (fB (fBin (oEq false) (fBin oIx (fVar 0) (fC (.int 0))) (fC (.str "share")))) (sRet (fAndV (fBin (oEq false) (fCall oLen (fCons (fVar 0) (fNil))) (fC (.int 2))) (fFn 3 m_is_number (fCons (fBin oIx (fVar 0) (fC (.int 1))) (fCons (fC (.int 1)) (fCons (fC (.int 1000)) (fNil))))))) (sNil)) (sSeq (sIf (fB (fBin (oEq false) (fBin oIx (fVar 0) (fC (.int 0))) (fC (.str "layer")))) (sRet (fAndV (fBin (oEq false) (fCall oLen (fCons (fVar 0) (fNil))) (fC (.int 3))) (fAndV (fFn 3 m_is_number (fCons (fBin oIx (fVar 0) (fC (.int 1))) (fCons (fC (.int 0)) (fCons (fC (.int 100000)) (fNil))))) (fFn 3 m_is_number (fCons (fBin oIx (fVar 0) (fC (.int 2))) (fCons (fC (.int 1)) (fCons (fC (.int 100000)) (fNil)))))))) (sNil)) (sRet (fC (.bl false)))))
def m_is_cover : Fm := mAll ["value"] F_is_cover
theorem agr_is_cover : ∀ ds S, ds.length = 1 → Agr S (F_is_cover S.length (startD ["value"] ds) S) (m_is_cover ds S) := fun ds S _ => agr_mAll ds S
def F_check_cover : Fs :=
  sIf (fNot (fTru (fFn 1 m_is_cover (fCons (fVar 0) (fNil))))) (sRaise "BadCover") (sNil)
def m_check_cover : Fm := mAll ["value"] F_check_cover
theorem agr_check_cover : ∀ ds S, ds.length = 1 → Agr S (F_check_cover S.length (startD ["value"] ds) S) (m_check_cover ds S) := fun ds S _ => agr_mAll ds S
def F_recovery : Fs :=
  sSeq (sIf (fB (fBin (oEq false) (fBin oIx (fVar 0) (fC (.int 0))) (fC (.str "share")))) (sRet (fBin oDiv (fBin oMul (fBin oIx (fVar 0) (fC (.int 1))) (fVar 1)) (fC (.int 1000)))) (sNil)) (sRet (fCall oMin (fCons (fCall oMax (fCons (fC (.int 0)) (fCons (fBin oSub (fVar 1) (fBin oIx (fVar 0) (fC (.int 1)))) (fNil)))) (fCons (fBin oIx (fVar 0) (fC (.int 2))) (fNil)))))
def m_recovery : Fm := mAll ["cover", "loss"] F_recovery
theorem agr_recovery : ∀ ds S, ds.length = 2 → Agr S (F_recovery S.length (startD ["cover", "loss"] ds) S) (m_recovery ds S) := fun ds S _ => agr_mAll ds S
def B_programme_1 : Fs :=
  sSeq (sSet 4 (fFn 2 m_recovery (fCons (fVar 3) (fCons (fVar 1) (fNil))))) (sSeq (sExpr (fMt oAppend (fVar 2) (fCons (fVar 4) (fNil)))) (sSet 1 (fBin oSub (fVar 1) (fVar 4))))
def F_programme : Fs :=
  sSeq (sSet 2 (fLst (fNil))) (sSeq (sFor (gN 3) (iOf kSeq (fVar 0)) (B_programme_1)) (sRet (fTup (fCons (fCall oTuple (fCons (fVar 2) (fNil))) (fCons (fVar 1) (fNil))))))
def m_programme : Fm := mAll ["covers", "loss", "paid", "cover", "part"] F_programme
theorem agr_programme : ∀ ds S, ds.length = 2 → Agr S (F_programme S.length (startD ["covers", "loss", "paid", "cover", "part"] ds) S) (m_programme ds S) := fun ds S _ => agr_mAll ds S
def B_allocate_1 : Fs :=
  sSeq (sSet 6 (fCall oMin (fCons (fVar 5) (fCons (fVar 3) (fNil))))) (sSeq (sSet 3 (fBin oSub (fVar 3) (fVar 6))) (sExpr (fMt oAppend (fVar 4) (fCons (fBin oAdd (fBin oMul (fVar 2) (fVar 5)) (fVar 6)) (fNil)))))
def F_allocate : Fs :=
  sSeq (sSet 2 (fBin oDiv (fVar 0) (fCall oSum (fCons (fVar 1) (fNil))))) (sSeq (sSet 3 (fBin oSub (fVar 0) (fBin oMul (fVar 2) (fCall oSum (fCons (fVar 1) (fNil)))))) (sSeq (sSet 4 (fLst (fNil))) (sSeq (sFor (gN 5) (iOf kSeq (fVar 1)) (B_allocate_1)) (sRet (fCall oTuple (fCons (fVar 4) (fNil)))))))
def m_allocate : Fm := mAll ["amount", "shares", "cycles", "left", "parts", "share", "more"] F_allocate
theorem agr_allocate : ∀ ds S, ds.length = 2 → Agr S (F_allocate S.length (startD ["amount", "shares", "cycles", "left", "parts", "share", "more"] ds) S) (m_allocate ds S) := fun ds S _ => agr_mAll ds S
def C_numbers_of_1 : Fe :=
  fVar 2
def C_numbers_of_1t : (Ev → Sto → Res Bool) :=
  fAnd (fB (fBin (oEq false) (fBin oIx (fVar 3) (fC (.int 0))) (fVar 1))) (fNot (fTru (fBin oIx (fVar 3) (fC (.int 3)))))
def F_numbers_of : Fs :=
  sRet (fCall oTuple (fCons (fLc [2, 3] (gT 2 (gC (gN 2) (gC (gN 3) (gE)))) (iOf kEnu (fCons (fVar 0) (fNil))) (C_numbers_of_1t) (C_numbers_of_1)) (fNil)))
def m_numbers_of : Fm := mAll ["treaties", "insurer", "number", "treaty"] F_numbers_of
theorem agr_numbers_of : ∀ ds S, ds.length = 2 → Agr S (F_numbers_of S.length (startD ["treaties", "insurer", "number", "treaty"] ds) S) (m_numbers_of ds S) := fun ds S _ => agr_mAll ds S
def C_payments_1 : Fe :=
  fBin oIx (fBin oIx (fVar 1) (fVar 9)) (fC (.int 1))
def B_payments_1 : Fs :=
  sSetIx (fVar 3) (fVar 9) (fVar 10)
def B_payments_2 : Fs :=
  sSeq (sSet 6 (fFn 2 m_numbers_of (fCons (fVar 1) (fCons (fVar 5) (fNil))))) (sSeq (sAsg (gT 2 (gC (gN 7) (gC (gN 8) (gE)))) (fFn 2 m_programme (fCons (fLc [9] (gN 9) (iOf kSeq (fVar 6)) (tYesB) (C_payments_1)) (fCons (fBin oIx (fVar 2) (fVar 4)) (fNil))))) (sFor (gT 2 (gC (gN 9) (gC (gN 10) (gE)))) (iOf kZip (fCons (fVar 6) (fCons (fVar 7) (fNil)))) (B_payments_1)))
def F_payments : Fs :=
  sSeq (sSet 3 (fBin oRepM (fFls (fCons (fC (.int 0)) (fNil))) (fCall oLen (fCons (fVar 1) (fNil))))) (sSeq (sFor (gT 2 (gC (gN 4) (gC (gN 5) (gE)))) (iOf kEnu (fCons (fVar 0) (fNil))) (B_payments_2)) (sRet (fCall oTuple (fCons (fVar 3) (fNil)))))
def m_payments : Fm := mAll ["insurers", "treaties", "gross", "paid", "place", "insurer", "numbers", "parts", "_", "number", "part"] F_payments
theorem agr_payments : ∀ ds S, ds.length = 3 → Agr S (F_payments S.length (startD ["insurers", "treaties", "gross", "paid", "place", "insurer", "numbers", "parts", "_", "number", "part"] ds) S) (m_payments ds S) := fun ds S _ => agr_mAll ds S
def C_parts_of_1 : Fe :=
  fVar 3
def F_parts_of : Fs :=
  sRet (fFn 2 m_allocate (fCons (fVar 1) (fCons (fLc [2, 3] (gT 2 (gC (gN 2) (gC (gN 3) (gE)))) (iOf kSeq (fBin oIx (fVar 0) (fC (.int 2)))) (tYesB) (C_parts_of_1)) (fNil))))
def m_parts_of : Fm := mAll ["treaty", "amount", "_", "shares"] F_parts_of
theorem agr_parts_of : ∀ ds S, ds.length = 2 → Agr S (F_parts_of S.length (startD ["treaty", "amount", "_", "shares"] ds) S) (m_parts_of ds S) := fun ds S _ => agr_mAll ds S
def B_next_gross_1 : Fs :=
  sIf (fB (fBin (oIs true) (fVar 7) (fC .non))) (sDAug (fVar 4) (fVar 7) (fVar 9)) (sNil)
def B_next_gross_2 : Fs :=
  sFor (gT 2 (gC (gT 2 (gC (gN 7) (gC (gN 8) (gE)))) (gC (gN 9) (gE)))) (iOf kZip (fCons (fBin oIx (fVar 5) (fC (.int 2))) (fCons (fFn 2 m_parts_of (fCons (fVar 5) (fCons (fVar 6) (fNil)))) (fNil)))) (B_next_gross_1)
def C_next_gross_1 : Fe :=
  fDGet (fVar 4) (fVar 10)
def F_next_gross : Fs :=
  sSeq (sSet 4 (fDc [10, 11] (gT 2 (gC (gN 10) (gC (gN 11) (gE)))) (iOf kZip (fCons (fVar 0) (fCons (fVar 2) (fNil)))) (fVar 10) (fVar 11))) (sSeq (sFor (gT 2 (gC (gN 5) (gC (gN 6) (gE)))) (iOf kZip (fCons (fVar 1) (fCons (fFn 3 m_payments (fCons (fVar 0) (fCons (fVar 1) (fCons (fVar 3) (fNil))))) (fNil)))) (B_next_gross_2)) (sRet (fCall oTuple (fCons (fLc [10] (gN 10) (iOf kSeq (fVar 0)) (tYesB) (C_next_gross_1)) (fNil)))))
def m_next_gross : Fm := mAll ["insurers", "treaties", "direct", "gross", "found", "treaty", "amount", "name", "_", "part", "insurer", "loss"] F_next_gross
theorem agr_next_gross : ∀ ds S, ds.length = 4 → Agr S (F_next_gross S.length (startD ["insurers", "treaties", "direct", "gross", "found", "treaty", "amount", "name", "_", "part", "insurer", "loss"] ds) S) (m_next_gross ds S) := fun ds S _ => agr_mAll ds S
def C_rounds_of_1 : Fe :=
  fBin oGt (fVar 6) (fC (.int 1000000000))
def B_rounds_of_1 : Fs :=
  sSeq (sSet 5 (fFn 4 m_next_gross (fCons (fVar 0) (fCons (fVar 1) (fCons (fVar 2) (fCons (fBin oIx (fVar 3) (fNeg (fC (.int 1)))) (fNil))))))) (sSeq (sIf (fB (fBin (oEq false) (fVar 5) (fBin oIx (fVar 3) (fNeg (fC (.int 1)))))) (sRet (fCall oTuple (fCons (fVar 3) (fNil)))) (sNil)) (sSeq (sIf (fTru (fCall oAny (fCons (fLc [6] (gN 6) (iOf kSeq (fVar 5)) (tYesB) (C_rounds_of_1)) (fNil)))) (sRet (fC .non)) (sNil)) (sExpr (fMt oAppend (fVar 3) (fCons (fVar 5) (fNil))))))
def F_rounds_of : Fs :=
  sSeq (sSet 3 (fLst (fCons (fVar 2) (fNil)))) (sSeq (sFor (gN 4) (iOf kRan1 (fCons (fBin oAdd (fC (.int 200)) (fC (.int 1))) (fNil))) (B_rounds_of_1)) (sRet (fC .non)))
def m_rounds_of : Fm := mAll ["insurers", "treaties", "direct", "found", "_", "gross", "loss"] F_rounds_of
theorem agr_rounds_of : ∀ ds S, ds.length = 3 → Agr S (F_rounds_of S.length (startD ["insurers", "treaties", "direct", "found", "_", "gross", "loss"] ds) S) (m_rounds_of ds S) := fun ds S _ => agr_mAll ds S
def C_is_name_1 : Fe :=
  fBin oInS (fVar 1) (fC (.str "abcdefghijklmnopqrstuvwxyz"))
def F_is_name : Fs :=
  sRet (fAndV (fIsi "str" (fVar 0)) (fAndV (fChain oLe oLe (fC (.int 1)) (fCall oLen (fCons (fVar 0) (fNil))) (fC (.int 12))) (fCall oAll (fCons (fLc [1] (gN 1) (iOf kStr (fVar 0)) (tYesB) (C_is_name_1)) (fNil)))))
def m_is_name : Fm := mAll ["value", "letter"] F_is_name
theorem agr_is_name : ∀ ds S, ds.length = 1 → Agr S (F_is_name S.length (startD ["value", "letter"] ds) S) (m_is_name ds S) := fun ds S _ => agr_mAll ds S
def B_is_panel_1 : Fs :=
  sSeq (sIf (fOr (fNot (fTru (fIsi "tuple" (fVar 1)))) (fOr (fB (fBin (oEq true) (fCall oLen (fCons (fVar 1) (fNil))) (fC (.int 2)))) (fNot (fTru (fFn 3 m_is_number (fCons (fBin oIx (fVar 1) (fC (.int 1))) (fCons (fC (.int 1)) (fCons (fC (.int 100)) (fNil))))))))) (sRet (fC (.bl false))) (sNil)) (sIf (fAnd (fB (fBin (oIs true) (fBin oIx (fVar 1) (fC (.int 0))) (fC .non))) (fNot (fTru (fFn 1 m_is_name (fCons (fBin oIx (fVar 1) (fC (.int 0))) (fNil)))))) (sRet (fC (.bl false))) (sNil))
def C_is_panel_1 : Fe :=
  fVar 3
def F_is_panel : Fs :=
  sSeq (sIf (fOr (fNot (fTru (fIsi "tuple" (fVar 0)))) (fNot (fB (fChain oLe oLe (fC (.int 1)) (fCall oLen (fCons (fVar 0) (fNil))) (fC (.int 6)))))) (sRet (fC (.bl false))) (sNil)) (sSeq (sFor (gN 1) (iOf kSeq (fVar 0)) (B_is_panel_1)) (sRet (fBin oLe (fCall oSum (fCons (fLc [2, 3] (gT 2 (gC (gN 2) (gC (gN 3) (gE)))) (iOf kSeq (fVar 0)) (tYesB) (C_is_panel_1)) (fNil))) (fC (.int 100)))))
def m_is_panel : Fm := mAll ["value", "part", "_", "shares"] F_is_panel
theorem agr_is_panel : ∀ ds S, ds.length = 1 → Agr S (F_is_panel S.length (startD ["value", "part", "_", "shares"] ds) S) (m_is_panel ds S) := fun ds S _ => agr_mAll ds S
def F_check_name : Fs :=
  sIf (fNot (fTru (fFn 1 m_is_name (fCons (fVar 0) (fNil))))) (sRaise "BadName") (sNil)
def m_check_name : Fm := mAll ["value"] F_check_name
theorem agr_check_name : ∀ ds S, ds.length = 1 → Agr S (F_check_name S.length (startD ["value"] ds) S) (m_check_name ds S) := fun ds S _ => agr_mAll ds S
def F_check_panel : Fs :=
  sIf (fNot (fTru (fFn 1 m_is_panel (fCons (fVar 0) (fNil))))) (sRaise "BadPanel") (sNil)
def m_check_panel : Fm := mAll ["value"] F_check_panel
theorem agr_check_panel : ∀ ds S, ds.length = 1 → Agr S (F_check_panel S.length (startD ["value"] ds) S) (m_check_panel ds S) := fun ds S _ => agr_mAll ds S
def F_Market_init : Fs :=
  sSeq (sSetFld "Market" "insurers" (fVar 0) (fTup (fNil))) (sSeq (sSetFld "Market" "events" (fVar 0) (fTup (fNil))) (sSeq (sSetFld "Market" "treaties" (fVar 0) (fTup (fNil))) (sSetFld "Market" "losses" (fVar 0) (fDct))))
def m_Market_init : Fm := mAll ["self"] F_Market_init
theorem agr_Market_init : ∀ ds S, ds.length = 1 → Agr S (F_Market_init S.length (startD ["self"] ds) S) (m_Market_init ds S) := fun ds S _ => agr_mAll ds S
def F_Market_copy : Fs :=
  sSeq (sSet 1 (fMake "Market" 0 m_Market_init fNil)) (sSeq (sSetFld "Market" "insurers" (fVar 1) (fFld "Market" "insurers" (fVar 0))) (sSeq (sSetFld "Market" "events" (fVar 1) (fFld "Market" "events" (fVar 0))) (sSeq (sSetFld "Market" "treaties" (fVar 1) (fFld "Market" "treaties" (fVar 0))) (sSeq (sSetFld "Market" "losses" (fVar 1) (fCall oDCopy (fCons (fFld "Market" "losses" (fVar 0)) (fNil)))) (sRet (fVar 1))))))
def m_Market_copy : Fm := mAll ["self", "other"] F_Market_copy
theorem agr_Market_copy : ∀ ds S, ds.length = 1 → Agr S (F_Market_copy S.length (startD ["self", "other"] ds) S) (m_Market_copy ds S) := fun ds S _ => agr_mAll ds S
def F_Market_check_insurer : Fs :=
  sIf (fB (fBin (oIn true) (fVar 1) (fFld "Market" "insurers" (fVar 0)))) (sBad) (sNil)
def m_Market_check_insurer : Fm := mAll ["self", "name"] F_Market_check_insurer
theorem agr_Market_check_insurer : ∀ ds S, ds.length = 2 → Agr S (F_Market_check_insurer S.length (startD ["self", "name"] ds) S) (m_Market_check_insurer ds S) := fun ds S _ => agr_mAll ds S
def F_Market_check_event : Fs :=
  sIf (fB (fBin (oIn true) (fVar 1) (fFld "Market" "events" (fVar 0)))) (sBad) (sNil)
def m_Market_check_event : Fm := mAll ["self", "name"] F_Market_check_event
theorem agr_Market_check_event : ∀ ds S, ds.length = 2 → Agr S (F_Market_check_event S.length (startD ["self", "name"] ds) S) (m_Market_check_event ds S) := fun ds S _ => agr_mAll ds S
def C_Market_direct_1 : Fe :=
  fDGet2 (fFld "Market" "losses" (fVar 0)) (fTup (fCons (fVar 1) (fCons (fVar 2) (fNil)))) (fC (.int 0))
def F_Market_direct : Fs :=
  sSeq (sExpr (fMeth "Market" "check_event" 1 m_Market_check_event (fVar 0) (fCons (fVar 1) (fNil)))) (sRet (fCall oTuple (fCons (fLc [2] (gN 2) (iOf kSeq (fFld "Market" "insurers" (fVar 0))) (tYesB) (C_Market_direct_1)) (fNil))))
def m_Market_direct : Fm := mAll ["self", "event", "insurer"] F_Market_direct
theorem agr_Market_direct : ∀ ds S, ds.length = 2 → Agr S (F_Market_direct S.length (startD ["self", "event", "insurer"] ds) S) (m_Market_direct ds S) := fun ds S _ => agr_mAll ds S
def B_Market_check_end_1 : Fs :=
  sIf (fB (fBin (oIs false) (fFn 3 m_rounds_of (fCons (fFld "Market" "insurers" (fVar 0)) (fCons (fFld "Market" "treaties" (fVar 0)) (fCons (fMeth "Market" "direct" 1 m_Market_direct (fVar 0) (fCons (fVar 1) (fNil))) (fNil))))) (fC .non))) (sBad) (sNil)
def F_Market_check_end : Fs :=
  sFor (gN 1) (iOf kSeq (fFld "Market" "events" (fVar 0))) (B_Market_check_end_1)
def m_Market_check_end : Fm := mAll ["self", "event"] F_Market_check_end
theorem agr_Market_check_end : ∀ ds S, ds.length = 1 → Agr S (F_Market_check_end S.length (startD ["self", "event"] ds) S) (m_Market_check_end ds S) := fun ds S _ => agr_mAll ds S
def F_Market_add_insurer : Fs :=
  sSeq (sExpr (fFn 1 m_check_name (fCons (fVar 1) (fNil)))) (sSeq (sIf (fB (fBin (oEq false) (fCall oLen (fCons (fFld "Market" "insurers" (fVar 0)) (fNil))) (fC (.int 6)))) (sBad) (sNil)) (sSeq (sIf (fB (fBin (oIn false) (fVar 1) (fFld "Market" "insurers" (fVar 0)))) (sBad) (sNil)) (sSeq (sSetFld "Market" "insurers" (fVar 0) (fBin oAdd (fFld "Market" "insurers" (fVar 0)) (fTup (fCons (fVar 1) (fNil))))) (sRet (fCall oLen (fCons (fFld "Market" "insurers" (fVar 0)) (fNil)))))))
def m_Market_add_insurer : Fm := mAll ["self", "name"] F_Market_add_insurer
theorem agr_Market_add_insurer : ∀ ds S, ds.length = 2 → Agr S (F_Market_add_insurer S.length (startD ["self", "name"] ds) S) (m_Market_add_insurer ds S) := fun ds S _ => agr_mAll ds S
def F_Market_add_event : Fs :=
  sSeq (sExpr (fFn 1 m_check_name (fCons (fVar 1) (fNil)))) (sSeq (sIf (fB (fBin (oEq false) (fCall oLen (fCons (fFld "Market" "events" (fVar 0)) (fNil))) (fC (.int 3)))) (sBad) (sNil)) (sSeq (sIf (fB (fBin (oIn false) (fVar 1) (fFld "Market" "events" (fVar 0)))) (sBad) (sNil)) (sSeq (sSetFld "Market" "events" (fVar 0) (fBin oAdd (fFld "Market" "events" (fVar 0)) (fTup (fCons (fVar 1) (fNil))))) (sRet (fCall oLen (fCons (fFld "Market" "events" (fVar 0)) (fNil)))))))
def m_Market_add_event : Fm := mAll ["self", "name"] F_Market_add_event
theorem agr_Market_add_event : ∀ ds S, ds.length = 2 → Agr S (F_Market_add_event S.length (startD ["self", "name"] ds) S) (m_Market_add_event ds S) := fun ds S _ => agr_mAll ds S
def C_Market_check_treaty_parts_1 : Fe :=
  fVar 4
def B_Market_check_treaty_parts_1 : Fs :=
  sIf (fB (fBin (oIs true) (fVar 4) (fC .non))) (sExpr (fMeth "Market" "check_insurer" 1 m_Market_check_insurer (fVar 0) (fCons (fVar 4) (fNil)))) (sNil)
def C_Market_check_treaty_parts_2 : Fe :=
  fBin oGt (fMt oCount (fVar 3) (fCons (fVar 4) (fNil))) (fC (.int 1))
def F_Market_check_treaty_parts : Fs :=
  sSeq (sExpr (fMeth "Market" "check_insurer" 1 m_Market_check_insurer (fVar 0) (fCons (fVar 1) (fNil)))) (sSeq (sSet 3 (fLc [4, 5] (gT 2 (gC (gN 4) (gC (gN 5) (gE)))) (iOf kSeq (fVar 2)) (tYesB) (C_Market_check_treaty_parts_1))) (sSeq (sFor (gN 4) (iOf kSeq (fVar 3)) (B_Market_check_treaty_parts_1)) (sSeq (sIf (fTru (fCall oAny (fCons (fLc [4] (gN 4) (iOf kSeq (fVar 3)) (tYesB) (C_Market_check_treaty_parts_2)) (fNil)))) (sBad) (sNil)) (sIf (fB (fBin (oIn false) (fVar 1) (fVar 3))) (sBad) (sNil)))))
def m_Market_check_treaty_parts : Fm := mAll ["self", "cedent", "panel", "participants", "name", "_"] F_Market_check_treaty_parts
theorem agr_Market_check_treaty_parts : ∀ ds S, ds.length = 3 → Agr S (F_Market_check_treaty_parts S.length (startD ["self", "cedent", "panel", "participants", "name", "_"] ds) S) (m_Market_check_treaty_parts ds S) := fun ds S _ => agr_mAll ds S
def F_Market_try_treaties : Fs :=
  sSeq (sSet 2 (fMeth "Market" "copy" 0 m_Market_copy (fVar 0) fNil)) (sSeq (sSetFld "Market" "treaties" (fVar 2) (fVar 1)) (sSeq (sExpr (fMeth "Market" "check_end" 0 m_Market_check_end (fVar 2) fNil)) (sSetFld "Market" "treaties" (fVar 0) (fVar 1))))
def m_Market_try_treaties : Fm := mAll ["self", "treaties", "other"] F_Market_try_treaties
theorem agr_Market_try_treaties : ∀ ds S, ds.length = 2 → Agr S (F_Market_try_treaties S.length (startD ["self", "treaties", "other"] ds) S) (m_Market_try_treaties ds S) := fun ds S _ => agr_mAll ds S
def F_Market_add_treaty : Fs :=
  sSeq (sExpr (fFn 1 m_check_name (fCons (fVar 1) (fNil)))) (sSeq (sExpr (fFn 1 m_check_cover (fCons (fVar 2) (fNil)))) (sSeq (sExpr (fFn 1 m_check_panel (fCons (fVar 3) (fNil)))) (sSeq (sExpr (fMeth "Market" "check_treaty_parts" 2 m_Market_check_treaty_parts (fVar 0) (fCons (fVar 1) (fCons (fVar 3) (fNil))))) (sSeq (sIf (fB (fBin (oEq false) (fCall oLen (fCons (fFld "Market" "treaties" (fVar 0)) (fNil))) (fC (.int 16)))) (sBad) (sNil)) (sSeq (sExpr (fMeth "Market" "try_treaties" 1 m_Market_try_treaties (fVar 0) (fCons (fBin oAdd (fFld "Market" "treaties" (fVar 0)) (fTup (fCons (fTup (fCons (fVar 1) (fCons (fVar 2) (fCons (fVar 3) (fCons (fC (.bl false)) (fNil)))))) (fNil)))) (fNil)))) (sRet (fBin oSub (fCall oLen (fCons (fFld "Market" "treaties" (fVar 0)) (fNil))) (fC (.int 1)))))))))
def m_Market_add_treaty : Fm := mAll ["self", "cedent", "cover", "panel"] F_Market_add_treaty
theorem agr_Market_add_treaty : ∀ ds S, ds.length = 4 → Agr S (F_Market_add_treaty S.length (startD ["self", "cedent", "cover", "panel"] ds) S) (m_Market_add_treaty ds S) := fun ds S _ => agr_mAll ds S
def F_Market_set_loss : Fs :=
  sSeq (sExpr (fFn 1 m_check_name (fCons (fVar 1) (fNil)))) (sSeq (sExpr (fFn 1 m_check_name (fCons (fVar 2) (fNil)))) (sSeq (sIf (fNot (fTru (fFn 3 m_is_number (fCons (fVar 3) (fCons (fC (.int 0)) (fCons (fC (.int 100000)) (fNil))))))) (sRaise "BadAmount") (sNil)) (sSeq (sExpr (fMeth "Market" "check_event" 1 m_Market_check_event (fVar 0) (fCons (fVar 1) (fNil)))) (sSeq (sExpr (fMeth "Market" "check_insurer" 1 m_Market_check_insurer (fVar 0) (fCons (fVar 2) (fNil)))) (sSeq (sSet 4 (fMeth "Market" "copy" 0 m_Market_copy (fVar 0) fNil)) (sSeq (sDPut (fFld "Market" "losses" (fVar 4)) (fTup (fCons (fVar 1) (fCons (fVar 2) (fNil)))) (fVar 3)) (sSeq (sExpr (fMeth "Market" "check_end" 0 m_Market_check_end (fVar 4) fNil)) (sSetFld "Market" "losses" (fVar 0) (fFld "Market" "losses" (fVar 4))))))))))
def m_Market_set_loss : Fm := mAll ["self", "event", "insurer", "amount", "other"] F_Market_set_loss
theorem agr_Market_set_loss : ∀ ds S, ds.length = 4 → Agr S (F_Market_set_loss S.length (startD ["self", "event", "insurer", "amount", "other"] ds) S) (m_Market_set_loss ds S) := fun ds S _ => agr_mAll ds S
def F_kind : Fs :=
  sSeq (sTry ["BadName", "BadCover", "BadPanel", "BadAmount"] (sIf (fB (fBin (oEq false) (fBin oIx (fVar 1) (fC (.int 0))) (fC (.str "insurer")))) (sExpr (fMeth "Market" "add_insurer" 1 m_Market_add_insurer (fVar 0) (fCons (fBin oIx (fVar 1) (fC (.int 1))) (fNil)))) (sIf (fB (fBin (oEq false) (fBin oIx (fVar 1) (fC (.int 0))) (fC (.str "event")))) (sExpr (fMeth "Market" "add_event" 1 m_Market_add_event (fVar 0) (fCons (fBin oIx (fVar 1) (fC (.int 1))) (fNil)))) (sIf (fB (fBin (oEq false) (fBin oIx (fVar 1) (fC (.int 0))) (fC (.str "treaty")))) (sExpr (fMeth "Market" "add_treaty" 3 m_Market_add_treaty (fVar 0) (fCons (fBin oIx (fVar 1) (fC (.int 1))) (fCons (fBin oIx (fVar 1) (fC (.int 2))) (fCons (fBin oIx (fVar 1) (fC (.int 3))) (fNil)))))) (sExpr (fMeth "Market" "set_loss" 3 m_Market_set_loss (fVar 0) (fCons (fBin oIx (fVar 1) (fC (.int 1))) (fCons (fBin oIx (fVar 1) (fC (.int 2))) (fCons (fBin oIx (fVar 1) (fC (.int 3))) (fNil))))))))) (("BadName", sRet (fC (.str "name"))) :: ("BadCover", sRet (fC (.str "cover"))) :: ("BadPanel", sRet (fC (.str "panel"))) :: [("BadAmount", sRet (fC (.str "amount")))])) (sRet (fC (.str "done")))
def m_kind : Fm := mAll ["_law_market", "_law_deed"] F_kind
theorem agr_kind : ∀ ds S, ds.length = 2 → Agr S (F_kind S.length (startD ["_law_market", "_law_deed"] ds) S) (m_kind ds S) := fun ds S _ => agr_mAll ds S
def C_law_1 : Fe :=
  fTup (fCons (fBin oIxS (fC (.str "abcdefg")) (fVar 14)) (fCons (fC (.int 1)) (fNil)))
def B_law_1 : Fs :=
  sIf (fOr (fB (fBin (oEq true) (fFn 2 m_kind (fCons (fVar 1) (fCons (fTup (fCons (fC (.str "insurer")) (fCons (fVar 9) (fNil)))) (fNil)))) (fC (.str "name")))) (fB (fBin (oEq true) (fFn 2 m_kind (fCons (fVar 1) (fCons (fTup (fCons (fC (.str "event")) (fCons (fVar 9) (fNil)))) (fNil)))) (fC (.str "name"))))) (sRet (fC (.bl false))) (sNil)
def B_law_2 : Fs :=
  sIf (fB (fBin (oEq true) (fFn 2 m_kind (fCons (fVar 1) (fCons (fTup (fCons (fC (.str "treaty")) (fCons (fC (.str "a")) (fCons (fTup (fCons (fC (.str "share")) (fCons (fC (.int 1)) (fNil)))) (fCons (fVar 9) (fNil)))))) (fNil)))) (fC (.str "panel")))) (sRet (fC (.bl false))) (sNil)
def B_law_3 : Fs :=
  sIf (fB (fBin (oEq true) (fFn 2 m_kind (fCons (fVar 1) (fCons (fTup (fCons (fC (.str "loss")) (fCons (fC (.str "e")) (fCons (fC (.str "a")) (fCons (fVar 9) (fNil)))))) (fNil)))) (fC (.str "amount")))) (sRet (fC (.bl false))) (sNil)
def B_law_4 : Fs :=
  sIf (fNot (fTru (fFn 2 (m_same 3) (fCons (fFn 2 m_kind (fCons (fVar 1) (fCons (fVar 11) (fNil)))) (fCons (fVar 12) (fNil)))))) (sRet (fC (.bl false))) (sNil)
def B_law_5 : Fs :=
  sSeq (sExpr (fMeth "Market" "add_insurer" 1 m_Market_add_insurer (fVar 13) (fCons (fVar 9) (fNil)))) (sIf (fB (fBin oInS (fVar 9) (fC (.str "abc")))) (sExpr (fMeth "Market" "add_event" 1 m_Market_add_event (fVar 13) (fCons (fBin oAddS (fC (.str "x")) (fVar 9)) (fNil)))) (sNil))
def F_law : Fs :=
  sSeq (sSet 1 (fMake "Market" 0 m_Market_init fNil)) (sSeq (sExpr (fMeth "Market" "add_insurer" 1 m_Market_add_insurer (fVar 1) (fCons (fC (.str "a")) (fNil)))) (sSeq (sExpr (fMeth "Market" "add_insurer" 1 m_Market_add_insurer (fVar 1) (fCons (fC (.str "abcdefghijkl")) (fNil)))) (sSeq (sExpr (fMeth "Market" "add_event" 1 m_Market_add_event (fVar 1) (fCons (fC (.str "e")) (fNil)))) (sSeq (sSet 2 (fFls (fCons (fC (.str "")) (fCons (fC (.str "A")) (fCons (fC (.str "a1")) (fCons (fC (.str "abcdefghijklm")) (fCons (fC (.str "a b")) (fCons (fC .non) (fCons (fC (.int 7)) (fCons (fTup (fCons (fC (.str "a")) (fNil))) (fNil))))))))))) (sSeq (sSet 3 (fBin oIx (fVar 2) (fBin oMod (fFn 2 m_cell (fCons (fVar 0) (fCons (fC (.int 0)) (fNil)))) (fC (.int 8))))) (sSeq (sSet 4 (fLst (fCons (fTup (fNil)) (fCons (fFls (fCons (fTup (fCons (fC (.str "a")) (fCons (fC (.int 1)) (fNil)))) (fNil))) (fCons (fTup (fCons (fTup (fCons (fC (.str "a")) (fCons (fC (.int 0)) (fNil)))) (fNil))) (fCons (fTup (fCons (fTup (fCons (fC (.str "a")) (fCons (fC (.int 101)) (fNil)))) (fNil))) (fCons (fTup (fCons (fTup (fCons (fC (.str "a")) (fCons (fC (.int 60)) (fNil)))) (fCons (fTup (fCons (fC .non) (fCons (fC (.int 41)) (fNil)))) (fNil)))) (fCons (fTup (fCons (fTup (fCons (fC (.str "A")) (fCons (fC (.int 1)) (fNil)))) (fNil))) (fCons (fTup (fCons (fC (.str "a")) (fCons (fC (.int 1)) (fNil)))) (fCons (fTup (fCons (fTup (fCons (fC (.str "a")) (fCons (fC (.int 1)) (fCons (fC (.int 1)) (fNil))))) (fNil))) (fCons (fTup (fCons (fTup (fCons (fC .non) (fCons (fC (.str "1")) (fNil)))) (fNil))) (fNil)))))))))))) (sSeq (sExpr (fMt oAppend (fVar 4) (fCons (fCall oTuple (fCons (fLc [14] (gN 14) (iOf kRan1 (fCons (fC (.int 7)) (fNil))) (tYesB) (C_law_1)) (fNil))) (fNil)))) (sSeq (sSet 5 (fBin oIx (fVar 4) (fBin oMod (fFn 2 m_cell (fCons (fVar 0) (fCons (fC (.int 1)) (fNil)))) (fC (.int 10))))) (sSeq (sSet 6 (fBin oIx (fFls (fCons (fNeg (fC (.int 1))) (fCons (fC (.int 100001)) (fCons (fC .non) (fCons (fC (.str "5")) (fCons (fBin oPow (fC (.int 10)) (fC (.int 30))) (fNil))))))) (fBin oMod (fFn 2 m_cell (fCons (fVar 0) (fCons (fC (.int 2)) (fNil)))) (fC (.int 5))))) (sSeq (sSet 7 (fBin oIx (fFls (fCons (fTup (fCons (fC (.str "share")) (fCons (fC (.int 0)) (fNil)))) (fCons (fTup (fCons (fC (.str "layer")) (fCons (fC (.int 5)) (fNil)))) (fCons (fTup (fCons (fC (.str "layer")) (fCons (fNeg (fC (.int 1))) (fCons (fC (.int 1)) (fNil))))) (fCons (fC .non) (fCons (fC (.str "share")) (fCons (fTup (fCons (fC (.str "share")) (fCons (fC (.int 1001)) (fNil)))) (fNil)))))))) (fBin oMod (fFn 2 m_cell (fCons (fVar 0) (fCons (fC (.int 3)) (fNil)))) (fC (.int 6))))) (sSeq (sSet 8 (fTup (fCons (fTup (fCons (fC (.str "a")) (fCons (fC (.int 1)) (fNil)))) (fNil)))) (sSeq (sFor (gN 9) (iOf kSeq (fVar 2)) (B_law_1)) (sSeq (sForR (gN 9) (fVar 4) (B_law_2)) (sSeq (sFor (gN 9) (iOf kSeq (fFls (fCons (fNeg (fC (.int 1))) (fCons (fC (.int 100001)) (fCons (fC .non) (fCons (fC (.str "5")) (fNil))))))) (B_law_3)) (sSeq (sSet 10 (fFls (fCons (fTup (fCons (fTup (fCons (fC (.str "insurer")) (fCons (fVar 3) (fNil)))) (fCons (fC (.str "name")) (fNil)))) (fCons (fTup (fCons (fTup (fCons (fC (.str "event")) (fCons (fVar 3) (fNil)))) (fCons (fC (.str "name")) (fNil)))) (fCons (fTup (fCons (fTup (fCons (fC (.str "treaty")) (fCons (fVar 3) (fCons (fVar 7) (fCons (fVar 5) (fNil)))))) (fCons (fC (.str "name")) (fNil)))) (fCons (fTup (fCons (fTup (fCons (fC (.str "treaty")) (fCons (fC (.str "nobody")) (fCons (fVar 7) (fCons (fVar 5) (fNil)))))) (fCons (fC (.str "cover")) (fNil)))) (fCons (fTup (fCons (fTup (fCons (fC (.str "treaty")) (fCons (fC (.str "nobody")) (fCons (fTup (fCons (fC (.str "share")) (fCons (fC (.int 1)) (fNil)))) (fCons (fVar 5) (fNil)))))) (fCons (fC (.str "panel")) (fNil)))) (fCons (fTup (fCons (fTup (fCons (fC (.str "treaty")) (fCons (fC (.str "a")) (fCons (fVar 7) (fCons (fVar 8) (fNil)))))) (fCons (fC (.str "cover")) (fNil)))) (fCons (fTup (fCons (fTup (fCons (fC (.str "loss")) (fCons (fVar 3) (fCons (fC (.str "a")) (fCons (fVar 6) (fNil)))))) (fCons (fC (.str "name")) (fNil)))) (fCons (fTup (fCons (fTup (fCons (fC (.str "loss")) (fCons (fC (.str "e")) (fCons (fVar 3) (fCons (fVar 6) (fNil)))))) (fCons (fC (.str "name")) (fNil)))) (fCons (fTup (fCons (fTup (fCons (fC (.str "loss")) (fCons (fC (.str "none")) (fCons (fC (.str "nobody")) (fCons (fVar 6) (fNil)))))) (fCons (fC (.str "amount")) (fNil)))) (fCons (fTup (fCons (fTup (fCons (fC (.str "loss")) (fCons (fC (.str "e")) (fCons (fC (.str "a")) (fCons (fC (.int 100000)) (fNil)))))) (fCons (fC (.str "done")) (fNil)))) (fCons (fTup (fCons (fTup (fCons (fC (.str "treaty")) (fCons (fC (.str "abcdefghijkl")) (fCons (fTup (fCons (fC (.str "layer")) (fCons (fC (.int 100000)) (fCons (fC (.int 100000)) (fNil))))) (fCons (fVar 8) (fNil)))))) (fCons (fC (.str "done")) (fNil)))) (fNil)))))))))))))) (sSeq (sFor (gT 2 (gC (gN 11) (gC (gN 12) (gE)))) (iOf kSeq (fVar 10)) (B_law_4)) (sSeq (sSet 13 (fMake "Market" 0 m_Market_init fNil)) (sSeq (sFor (gN 9) (iOf kSeq (fTup (fCons (fC (.str "a")) (fCons (fC (.str "b")) (fCons (fC (.str "c")) (fCons (fC (.str "d")) (fCons (fC (.str "e")) (fCons (fC (.str "f")) (fNil))))))))) (B_law_5)) (sSeq (sIf (fOr (fB (fBin (oEq true) (fFn 2 m_kind (fCons (fVar 13) (fCons (fTup (fCons (fC (.str "insurer")) (fCons (fC (.str "")) (fNil)))) (fNil)))) (fC (.str "name")))) (fB (fBin (oEq true) (fFn 2 m_kind (fCons (fVar 13) (fCons (fTup (fCons (fC (.str "event")) (fCons (fC (.str "A")) (fNil)))) (fNil)))) (fC (.str "name"))))) (sRet (fC (.bl false))) (sNil)) (sSeq (sIf (fNot (fTru (fFn 2 (m_same 3) (fCons (fTup (fCons (fFld "Market" "insurers" (fVar 1)) (fCons (fFld "Market" "events" (fVar 1)) (fCons (fCall oLen (fCons (fFld "Market" "treaties" (fVar 1)) (fNil))) (fNil))))) (fCons (fTup (fCons (fTup (fCons (fC (.str "a")) (fCons (fC (.str "abcdefghijkl")) (fNil)))) (fCons (fTup (fCons (fC (.str "e")) (fNil))) (fCons (fC (.int 1)) (fNil))))) (fNil)))))) (sRet (fC (.bl false))) (sNil)) (sRet (fFn 2 (m_same 3) (fCons (fMeth "Market" "direct" 1 m_Market_direct (fVar 1) (fCons (fC (.str "e")) (fNil))) (fCons (fTup (fCons (fC (.int 100000)) (fCons (fC (.int 0)) (fNil)))) (fNil)))))))))))))))))))))))))
def m_law : Fm := mAll ["_law_script", "_law_market", "_law_names", "_law_name", "_law_panels", "_law_panel", "_law_amount", "_law_cover", "_law_good", "_law_one", "_law_deeds", "_law_deed", "_law_due", "_law_full", "_law_k"] F_law
theorem agr_law : ∀ ds S, ds.length = 1 → Agr S (F_law S.length (startD ["_law_script", "_law_market", "_law_names", "_law_name", "_law_panels", "_law_panel", "_law_amount", "_law_cover", "_law_good", "_law_one", "_law_deeds", "_law_deed", "_law_due", "_law_full", "_law_k"] ds) S) (m_law ds S) := fun ds S _ => agr_mAll ds S

end
end DL

set_option maxRecDepth 100000
set_option maxHeartbeats 2000000
/-! N11: the terms that derive them -/
namespace DL
open PySem PySem.Spec L2 PyProof.Rows
noncomputable section
/-! printed by wip/gen/gen2.py: the text by places, the terms that derive -/
def top (i : Nat) : Stmt := PySem.Challenge.pw_spiraldue_k11_values_of_wrong_kinds.main.body.getD i (.Pass ⟨0, 0, 0, 0⟩)
abbrev s_cell : Stmt := top 38
abbrev s_is_integer : Stmt := top 39
abbrev s_same : Stmt := top 40
abbrev s_is_number : Stmt := top 15
abbrev s_is_cover : Stmt := top 16
abbrev s_check_cover : Stmt := top 17
abbrev s_recovery : Stmt := top 18
abbrev s_programme : Stmt := top 19
abbrev s_allocate : Stmt := top 21
abbrev s_numbers_of : Stmt := top 25
abbrev s_payments : Stmt := top 26
abbrev s_parts_of : Stmt := top 27
abbrev s_next_gross : Stmt := top 28
abbrev s_rounds_of : Stmt := top 29
abbrev s_is_name : Stmt := top 32
abbrev s_is_panel : Stmt := top 33
abbrev s_check_name : Stmt := top 34
abbrev s_check_panel : Stmt := top 35
abbrev s_Market_init : Stmt := inClass (top 36) 3
abbrev s_Market_copy : Stmt := inClass (top 36) 4
abbrev s_Market_check_insurer : Stmt := inClass (top 36) 5
abbrev s_Market_check_event : Stmt := inClass (top 36) 6
abbrev s_Market_direct : Stmt := inClass (top 36) 8
abbrev s_Market_check_end : Stmt := inClass (top 36) 9
abbrev s_Market_add_insurer : Stmt := inClass (top 36) 10
abbrev s_Market_add_event : Stmt := inClass (top 36) 11
abbrev s_Market_check_treaty_parts : Stmt := inClass (top 36) 12
abbrev s_Market_try_treaties : Stmt := inClass (top 36) 14
abbrev s_Market_add_treaty : Stmt := inClass (top 36) 13
abbrev s_Market_set_loss : Stmt := inClass (top 36) 16
abbrev s_kind : Stmt := top 41
abbrev s_law : Stmt := top 42
structure Txt (K : PySem.W.Frag) (mg : PySem.Str → Option Value) : Prop where
  z_all : mg "all" = none
  z_any : mg "any" = none
  z_bool : mg "bool" = none
  z_dict : mg "dict" = none
  z_enumerate : mg "enumerate" = none
  z_int : mg "int" = none
  z_isinstance : mg "isinstance" = none
  z_len : mg "len" = none
  z_list : mg "list" = none
  z_max : mg "max" = none
  z_min : mg "min" = none
  z_range : mg "range" = none
  z_str : mg "str" = none
  z_sum : mg "sum" = none
  z_tuple : mg "tuple" = none
  z_zip : mg "zip" = none
  g_LETTERS : ∃ t, mg "LETTERS" = some (.str "abcdefghijklmnopqrstuvwxyz" t)
  g_MOST_AMOUNT : ∃ t, mg "MOST_AMOUNT" = some (.int 100000 t)
  g_MOST_GROSS : ∃ t, mg "MOST_GROSS" = some (.int 1000000000 t)
  g_MOST_ROUNDS : ∃ t, mg "MOST_ROUNDS" = some (.int 200 t)
  c_Market : L2.Cls K (cAd K "Market")
  n_Market_events : NoAttr K (cAd K "Market") "events"
  n_Market_insurers : NoAttr K (cAd K "Market") "insurers"
  n_Market_losses : NoAttr K (cAd K "Market") "losses"
  n_Market_treaties : NoAttr K (cAd K "Market") "treaties"
  k_Market_MOST_EVENTS : ClsC K mg "Market" "MOST_EVENTS" 3
  k_Market_MOST_INSURERS : ClsC K mg "Market" "MOST_INSURERS" 6
  k_Market_MOST_TREATIES : ClsC K mg "Market" "MOST_TREATIES" 16
  x_BadName : ExcT K mg "BadName"
  x_BadCover : ExcT K mg "BadCover"
  x_BadPanel : ExcT K mg "BadPanel"
  x_BadAmount : ExcT K mg "BadAmount"
  tries : TryT K ["BadName", "BadCover", "BadPanel", "BadAmount"] ["BadName", "BadCover", "BadPanel", "BadAmount"]
theorem sc_cell : FnScope ["_law_script", "_law_k"] ["_law_script", "_law_k"] (defScope s_cell) := ⟨rfl, rfl, rfl, by decide +kernel, rfl, by decide +kernel, by decide +kernel⟩
theorem ok_cell {P : Program} {w : World} {K : PySem.W.Frag} {mg : PySem.Str → Option Value} {base : Heap} (T : Txt K mg) (D : Dfn K mg "_law_cell" s_cell ["_law_script", "_law_k"]) (agr : ∀ ds S, ds.length = 2 → Agr S (F_cell S.length (startD ["_law_script", "_law_k"] ds) S) (m_cell ds S)) : CalN P w K mg base 1 "_law_cell" 2 m_cell :=
  caln_of D rfl fun f fd Fn => fn_ok (k := 0) Fn sc_cell (fun cdv A outer s H E hr tk =>
    ds_cons (ds_if (dt_cmp c_lt (de_var 1) (de_blt (b_len T.z_len) rfl (da_cons (de_var 0) (da_nil)))) (ds_one (ds_ret (de_blt (b_int T.z_int bt_int) rfl (da_cons (de_ix (de_var 0) (de_var 1)) (da_nil))))) (ds_nil))
      (ds_one (ds_ret (de_int)))) agr
theorem sc_is_integer : FnScope ["_law_actual"] ["_law_actual"] (defScope s_is_integer) := ⟨rfl, rfl, rfl, by decide +kernel, rfl, by decide +kernel, by decide +kernel⟩
theorem ok_is_integer {P : Program} {w : World} {K : PySem.W.Frag} {mg : PySem.Str → Option Value} {base : Heap} (T : Txt K mg) (D : Dfn K mg "_law_is_integer" s_is_integer ["_law_actual"]) (agr : ∀ ds S, ds.length = 1 → Agr S (F_is_integer S.length (startD ["_law_actual"] ds) S) (m_is_integer ds S)) : CalN P w K mg base 1 "_law_is_integer" 1 m_is_integer :=
  caln_of D rfl fun f fd Fn => fn_ok (k := 0) Fn sc_is_integer (fun cdv A outer s H E hr tk =>
    ds_one (ds_ret (de_and (de_isi ans_int (de_var 0) T.z_isinstance T.z_int bt_int) (de_one (de_not (de_isi ans_bool (de_var 0) T.z_isinstance T.z_bool bt_bool)))))) agr
theorem sc_same : FnScope ["_law_actual", "_law_expected", "_law_k"] ["_law_actual", "_law_expected"] (defScope s_same) := ⟨rfl, rfl, rfl, by decide +kernel, rfl, by decide +kernel, by decide +kernel⟩
theorem ok_same {P : Program} {w : World} {K : PySem.W.Frag} {mg : PySem.Str → Option Value} {base : Heap} (j i : Nat) (hj : 1 ≤ j) (T : Txt K mg) (D : Dfn K mg "_law_same" s_same ["_law_actual", "_law_expected"]) (G_is_integer : CalN P w K mg base 1 "_law_is_integer" 1 m_is_integer) (G_same : CalN P w K mg base j "_law_same" 2 (m_same i)) (agr : ∀ ds S, ds.length = 2 → Agr S (F_same_at i S.length (startD ["_law_actual", "_law_expected", "_law_k"] ds) S) (m_same (i + 1) ds S)) : CalN P w K mg base (j + 1) "_law_same" 2 (m_same (i + 1)) :=
  caln_of D rfl fun f fd Fn => fn_ok Fn sc_same (fun cdv A outer s H E hr tk =>
    ds_cons (ds_if (dt_cmp c_is (de_var 1) (de_non)) (ds_one (ds_ret (de_cmp c_is (de_var 0) (de_non)))) (ds_nil))
      (ds_cons (ds_if (dt_val (de_isi ans_bool (de_var 1) T.z_isinstance T.z_bool bt_bool)) (ds_one (ds_ret (de_and (de_isi ans_bool (de_var 0) T.z_isinstance T.z_bool bt_bool) (de_one (de_cmp (c_eq hr) (de_var 0) (de_var 1)))))) (ds_nil))
      (ds_cons (ds_if (dt_val (de_isi ans_int (de_var 1) T.z_isinstance T.z_int bt_int)) (ds_one (ds_ret (de_and (de_fn (G_is_integer.mono (by omega)) hr tk (da_cons (de_var 0) (da_nil))) (de_one (de_cmp (c_eq hr) (de_var 0) (de_var 1)))))) (ds_nil))
      (ds_cons (ds_if (dt_val (de_isi ans_str (de_var 1) T.z_isinstance T.z_str bt_str)) (ds_one (ds_ret (de_and (de_isi ans_str (de_var 0) T.z_isinstance T.z_str bt_str) (de_one (de_cmp (c_eq hr) (de_var 0) (de_var 1)))))) (ds_nil))
      (ds_cons (ds_if (dt_bool (dw_and (dt_val (de_isi ans_tuple (de_var 1) T.z_isinstance T.z_tuple bt_tuple)) (dw_and1 (dt_not (dt_val (de_isi ans_tuple (de_var 0) T.z_isinstance T.z_tuple bt_tuple)))))) (ds_one (ds_ret (de_bl))) (ds_nil))
      (ds_cons (ds_if (dt_bool (dw_and (dt_val (de_isi ans_list (de_var 1) T.z_isinstance T.z_list bt_list)) (dw_and1 (dt_not (dt_val (de_isi ans_list (de_var 0) T.z_isinstance T.z_list bt_list)))))) (ds_one (ds_ret (de_bl))) (ds_nil))
      (ds_cons (ds_if (dt_cmp (c_ne hr) (de_blt (b_len T.z_len) rfl (da_cons (de_var 0) (da_nil))) (de_blt (b_len T.z_len) rfl (da_cons (de_var 1) (da_nil)))) (ds_one (ds_ret (de_bl))) (ds_nil))
      (ds_cons (ds_for (L2.passes_of rfl) rfl (di_range1 rfl T.z_range (da_cons (de_blt (b_len T.z_len) rfl (da_cons (de_var 1) (da_nil))) (da_nil))) (dg_name 2 sc_same.nd) (ds_one (ds_if (dt_not (dt_val (de_fn G_same hr tk (da_cons (de_ix (de_var 0) (de_var 2)) (da_cons (de_ix (de_var 1) (de_var 2)) (da_nil)))))) (ds_one (ds_ret (de_bl))) (ds_nil))))
      (ds_one (ds_ret (de_bl))))))))))) agr
theorem sc_is_number : FnScope ["value", "least", "most"] ["value", "least", "most"] (defScope s_is_number) := ⟨rfl, rfl, rfl, by decide +kernel, rfl, by decide +kernel, by decide +kernel⟩
theorem ok_is_number {P : Program} {w : World} {K : PySem.W.Frag} {mg : PySem.Str → Option Value} {base : Heap} (T : Txt K mg) (D : Dfn K mg "is_number" s_is_number ["value", "least", "most"]) (agr : ∀ ds S, ds.length = 3 → Agr S (F_is_number S.length (startD ["value", "least", "most"] ds) S) (m_is_number ds S)) : CalN P w K mg base 1 "is_number" 3 m_is_number :=
  caln_of D rfl fun f fd Fn => fn_ok (k := 0) Fn sc_is_number (fun cdv A outer s H E hr tk =>
    ds_one (ds_ret (de_and (de_isi ans_int (de_var 0) T.z_isinstance T.z_int bt_int) (de_and (de_not (de_isi ans_bool (de_var 0) T.z_isinstance T.z_bool bt_bool)) (de_one (de_chain c_le c_le (de_var 1) (de_var 0) (de_var 2))))))) agr
theorem sc_is_cover : FnScope ["value"] ["value"] (defScope s_is_cover) := ⟨rfl, rfl, rfl, by decide +kernel, rfl, by decide +kernel, by decide +kernel⟩
theorem ok_is_cover {P : Program} {w : World} {K : PySem.W.Frag} {mg : PySem.Str → Option Value} {base : Heap} (T : Txt K mg) (D : Dfn K mg "is_cover" s_is_cover ["value"]) (G_is_number : CalN P w K mg base 1 "is_number" 3 m_is_number) (agr : ∀ ds S, ds.length = 1 → Agr S (F_is_cover S.length (startD ["value"] ds) S) (m_is_cover ds S)) : CalN P w K mg base 2 "is_cover" 1 m_is_cover :=
  caln_of D rfl fun f fd Fn => fn_ok (k := 1) Fn sc_is_cover (fun cdv A outer s H E hr tk =>
    ds_cons (ds_if (dt_bool (dw_or (dt_not (dt_val (de_isi ans_tuple (de_var 0) T.z_isinstance T.z_tuple bt_tuple))) (dw_or1 (dt_not (dt_val (de_var 0)))))) (ds_one (ds_ret (de_bl))) (ds_nil))
      (ds_cons (ds_if (dt_cmp (c_eq hr) (de_ix (de_var 0) (de_int)) (de_str)) (ds_one (ds_ret (de_and (de_cmp (c_eq hr) (de_blt (b_len T.z_len) rfl (da_cons (de_var 0) (da_nil))) (de_int)) (de_one (de_fn (G_is_number.mono (by decide)) hr tk (da_cons (de_ix (de_var 0) (de_int)) (da_cons (de_int) (da_cons (de_int) (da_nil))))))))) (ds_nil))
      (ds_cons (ds_if (dt_cmp (c_eq hr) (de_ix (de_var 0) (de_int)) (de_str)) (ds_one (ds_ret (de_and (de_cmp (c_eq hr) (de_blt (b_len T.z_len) rfl (da_cons (de_var 0) (da_nil))) (de_int)) (de_and (de_fn (G_is_number.mono (by decide)) hr tk (da_cons (de_ix (de_var 0) (de_int)) (da_cons (de_int) (da_cons (de_globI T.g_MOST_AMOUNT) (da_nil))))) (de_one (de_fn (G_is_number.mono (by decide)) hr tk (da_cons (de_ix (de_var 0) (de_int)) (da_cons (de_int) (da_cons (de_globI T.g_MOST_AMOUNT) (da_nil)))))))))) (ds_nil))
      (ds_one (ds_ret (de_bl)))))) agr
theorem sc_check_cover : FnScope ["value"] ["value"] (defScope s_check_cover) := ⟨rfl, rfl, rfl, by decide +kernel, rfl, by decide +kernel, by decide +kernel⟩
theorem ok_check_cover {P : Program} {w : World} {K : PySem.W.Frag} {mg : PySem.Str → Option Value} {base : Heap} (T : Txt K mg) (D : Dfn K mg "check_cover" s_check_cover ["value"]) (G_is_cover : CalN P w K mg base 2 "is_cover" 1 m_is_cover) (agr : ∀ ds S, ds.length = 1 → Agr S (F_check_cover S.length (startD ["value"] ds) S) (m_check_cover ds S)) : CalN P w K mg base 3 "check_cover" 1 m_check_cover :=
  caln_of D rfl fun f fd Fn => fn_ok (k := 2) Fn sc_check_cover (fun cdv A outer s H E hr tk =>
    ds_one (ds_if (dt_not (dt_val (de_fn (G_is_cover.mono (by decide)) hr tk (da_cons (de_var 0) (da_nil))))) (ds_one (ds_raise rfl T.x_BadCover tk)) (ds_nil))) agr
theorem sc_recovery : FnScope ["cover", "loss"] ["cover", "loss"] (defScope s_recovery) := ⟨rfl, rfl, rfl, by decide +kernel, rfl, by decide +kernel, by decide +kernel⟩
theorem ok_recovery {P : Program} {w : World} {K : PySem.W.Frag} {mg : PySem.Str → Option Value} {base : Heap} (T : Txt K mg) (D : Dfn K mg "recovery" s_recovery ["cover", "loss"]) (agr : ∀ ds S, ds.length = 2 → Agr S (F_recovery S.length (startD ["cover", "loss"] ds) S) (m_recovery ds S)) : CalN P w K mg base 1 "recovery" 2 m_recovery :=
  caln_of D rfl fun f fd Fn => fn_ok (k := 0) Fn sc_recovery (fun cdv A outer s H E hr tk =>
    ds_cons (ds_if (dt_cmp (c_eq hr) (de_ix (de_var 0) (de_int)) (de_str)) (ds_one (ds_ret (de_div (de_mul (de_ix (de_var 0) (de_int)) (de_var 1)) (de_int)))) (ds_nil))
      (ds_one (ds_ret (de_blt (b_min rfl T.z_min bt_min) rfl (da_cons (de_blt (b_max rfl T.z_max bt_max) rfl (da_cons (de_int) (da_cons (de_sub (de_var 1) (de_ix (de_var 0) (de_int))) (da_nil)))) (da_cons (de_ix (de_var 0) (de_int)) (da_nil))))))) agr
theorem sc_programme : FnScope ["covers", "loss", "paid", "cover", "part"] ["covers", "loss"] (defScope s_programme) := ⟨rfl, rfl, rfl, by decide +kernel, rfl, by decide +kernel, by decide +kernel⟩
theorem ok_programme {P : Program} {w : World} {K : PySem.W.Frag} {mg : PySem.Str → Option Value} {base : Heap} (T : Txt K mg) (D : Dfn K mg "programme" s_programme ["covers", "loss"]) (G_recovery : CalN P w K mg base 1 "recovery" 2 m_recovery) (agr : ∀ ds S, ds.length = 2 → Agr S (F_programme S.length (startD ["covers", "loss", "paid", "cover", "part"] ds) S) (m_programme ds S)) : CalN P w K mg base 2 "programme" 2 m_programme :=
  caln_of D rfl fun f fd Fn => fn_ok (k := 1) Fn sc_programme (fun cdv A outer s H E hr tk =>
    ds_cons (ds_set 2 sc_programme.nd (de_lst (da_nil)))
      (ds_cons (ds_for (L2.passes_of rfl) rfl (di_seq (de_var 0)) (dg_name 3 sc_programme.nd) (ds_cons (ds_set 4 sc_programme.nd (de_fn (G_recovery.mono (by decide)) hr tk (da_cons (de_var 3) (da_cons (de_var 1) (da_nil)))))
      (ds_cons (ds_expr (de_mt m_append (de_var 2) (da_cons (de_var 4) (da_nil))))
      (ds_one (ds_set 1 sc_programme.nd (de_sub (de_var 1) (de_var 4)))))))
      (ds_one (ds_ret (de_tup (da_cons (de_blt (b_tuple T.z_tuple bt_tuple) rfl (da_cons (de_var 2) (da_nil))) (da_cons (de_var 1) (da_nil)))))))) agr
theorem sc_allocate : FnScope ["amount", "shares", "cycles", "left", "parts", "share", "more"] ["amount", "shares"] (defScope s_allocate) := ⟨rfl, rfl, rfl, by decide +kernel, rfl, by decide +kernel, by decide +kernel⟩
theorem ok_allocate {P : Program} {w : World} {K : PySem.W.Frag} {mg : PySem.Str → Option Value} {base : Heap} (T : Txt K mg) (D : Dfn K mg "allocate" s_allocate ["amount", "shares"]) (agr : ∀ ds S, ds.length = 2 → Agr S (F_allocate S.length (startD ["amount", "shares", "cycles", "left", "parts", "share", "more"] ds) S) (m_allocate ds S)) : CalN P w K mg base 1 "allocate" 2 m_allocate :=
  caln_of D rfl fun f fd Fn => fn_ok (k := 0) Fn sc_allocate (fun cdv A outer s H E hr tk =>
    ds_cons (ds_set 2 sc_allocate.nd (de_div (de_var 0) (de_blt (b_sum rfl T.z_sum) rfl (da_cons (de_var 1) (da_nil)))))
      (ds_cons (ds_set 3 sc_allocate.nd (de_sub (de_var 0) (de_mul (de_var 2) (de_blt (b_sum rfl T.z_sum) rfl (da_cons (de_var 1) (da_nil))))))
      (ds_cons (ds_set 4 sc_allocate.nd (de_lst (da_nil)))
      (ds_cons (ds_for (L2.passes_of rfl) rfl (di_seq (de_var 1)) (dg_name 5 sc_allocate.nd) (ds_cons (ds_set 6 sc_allocate.nd (de_blt (b_min rfl T.z_min bt_min) rfl (da_cons (de_var 5) (da_cons (de_var 3) (da_nil)))))
      (ds_cons (ds_set 3 sc_allocate.nd (de_sub (de_var 3) (de_var 6)))
      (ds_one (ds_expr (de_mt m_append (de_var 4) (da_cons (de_add (de_mul (de_var 2) (de_var 5)) (de_var 6)) (da_nil))))))))
      (ds_one (ds_ret (de_blt (b_tuple T.z_tuple bt_tuple) rfl (da_cons (de_var 4) (da_nil))))))))) agr
theorem sc_numbers_of : FnScope ["treaties", "insurer", "number", "treaty"] ["treaties", "insurer"] (defScope s_numbers_of) := ⟨rfl, rfl, rfl, by decide +kernel, rfl, by decide +kernel, by decide +kernel⟩
theorem ok_numbers_of {P : Program} {w : World} {K : PySem.W.Frag} {mg : PySem.Str → Option Value} {base : Heap} (T : Txt K mg) (D : Dfn K mg "numbers_of" s_numbers_of ["treaties", "insurer"]) (agr : ∀ ds S, ds.length = 2 → Agr S (F_numbers_of S.length (startD ["treaties", "insurer", "number", "treaty"] ds) S) (m_numbers_of ds S)) : CalN P w K mg base 1 "numbers_of" 2 m_numbers_of :=
  caln_of D rfl fun f fd Fn => fn_ok (k := 0) Fn sc_numbers_of (fun cdv A outer s H E hr tk =>
    ds_one (ds_ret (de_blt (b_tuple T.z_tuple bt_tuple) rfl (da_cons (de_lc (own := ([("number", 2), ("treaty", 3)] : List (PySem.Str × Nat))) rfl sc_numbers_of.nd (di_enum rfl T.z_enumerate (da_cons (de_var 0) (da_nil))) (by show blkC ["treaties", "insurer", "number", "treaty"] (defScope s_numbers_of) _ ([("number", 2), ("treaty", 3)] : List (PySem.Str × Nat)) = true; decide +kernel) (fun _ _ _ _ _ => dg_tup rfl (dg_cons (dg_name 2 sc_numbers_of.nd) (dg_cons (dg_name 3 sc_numbers_of.nd) (dg_nil)))) (fun _ _ _ _ _ => dts_one (dt_bool (dw_and (dt_cmp (c_eq hr) (de_ix (de_var 3) (de_int)) (de_var 1)) (dw_and1 (dt_not (dt_val (de_ix (de_var 3) (de_int)))))))) (fun _ _ _ _ _ => de_var 2) (by decide)) (da_nil))))) agr
theorem sc_payments : FnScope ["insurers", "treaties", "gross", "paid", "place", "insurer", "numbers", "parts", "_", "number", "part"] ["insurers", "treaties", "gross"] (defScope s_payments) := ⟨rfl, rfl, rfl, by decide +kernel, rfl, by decide +kernel, by decide +kernel⟩
theorem ok_payments {P : Program} {w : World} {K : PySem.W.Frag} {mg : PySem.Str → Option Value} {base : Heap} (T : Txt K mg) (D : Dfn K mg "payments" s_payments ["insurers", "treaties", "gross"]) (G_numbers_of : CalN P w K mg base 1 "numbers_of" 2 m_numbers_of) (G_programme : CalN P w K mg base 2 "programme" 2 m_programme) (agr : ∀ ds S, ds.length = 3 → Agr S (F_payments S.length (startD ["insurers", "treaties", "gross", "paid", "place", "insurer", "numbers", "parts", "_", "number", "part"] ds) S) (m_payments ds S)) : CalN P w K mg base 3 "payments" 3 m_payments :=
  caln_of D rfl fun f fd Fn => fn_ok (k := 2) Fn sc_payments (fun cdv A outer s H E hr tk =>
    ds_cons (ds_set 3 sc_payments.nd (de_repM (de_fls (da_cons (de_int) (da_nil))) (de_blt (b_len T.z_len) rfl (da_cons (de_var 1) (da_nil)))))
      (ds_cons (ds_for (L2.passes_of rfl) rfl (di_enum rfl T.z_enumerate (da_cons (de_var 0) (da_nil))) (dg_tup rfl (dg_cons (dg_name 4 sc_payments.nd) (dg_cons (dg_name 5 sc_payments.nd) (dg_nil)))) (ds_cons (ds_set 6 sc_payments.nd (de_fn (G_numbers_of.mono (by decide)) hr tk (da_cons (de_var 1) (da_cons (de_var 5) (da_nil)))))
      (ds_cons (ds_asg (de_fn (G_programme.mono (by decide)) hr tk (da_cons (de_lc (own := ([("number", 9)] : List (PySem.Str × Nat))) rfl sc_payments.nd (di_seq (de_var 6)) (by show blkC ["insurers", "treaties", "gross", "paid", "place", "insurer", "numbers", "parts", "_", "number", "part"] (defScope s_payments) _ ([("number", 9)] : List (PySem.Str × Nat)) = true; decide +kernel) (fun _ _ _ _ _ => dg_name 9 sc_payments.nd) (fun _ _ _ _ _ => dts_nil) (fun _ _ _ _ _ => de_ix (de_ix (de_var 1) (de_var 9)) (de_int)) (by decide)) (da_cons (de_ix (de_var 2) (de_var 4)) (da_nil)))) (dg_tup rfl (dg_cons (dg_name 7 sc_payments.nd) (dg_cons (dg_name 8 sc_payments.nd) (dg_nil)))))
      (ds_one (ds_for (L2.passes_of rfl) rfl (di_zip rfl T.z_zip (da_cons (de_var 6) (da_cons (de_var 7) (da_nil)))) (dg_tup rfl (dg_cons (dg_name 9 sc_payments.nd) (dg_cons (dg_name 10 sc_payments.nd) (dg_nil)))) (ds_one (ds_setIx (de_var 10) (de_var 3) (de_var 9))))))))
      (ds_one (ds_ret (de_blt (b_tuple T.z_tuple bt_tuple) rfl (da_cons (de_var 3) (da_nil))))))) agr
theorem sc_parts_of : FnScope ["treaty", "amount", "_", "shares"] ["treaty", "amount"] (defScope s_parts_of) := ⟨rfl, rfl, rfl, by decide +kernel, rfl, by decide +kernel, by decide +kernel⟩
theorem ok_parts_of {P : Program} {w : World} {K : PySem.W.Frag} {mg : PySem.Str → Option Value} {base : Heap} (T : Txt K mg) (D : Dfn K mg "parts_of" s_parts_of ["treaty", "amount"]) (G_allocate : CalN P w K mg base 1 "allocate" 2 m_allocate) (agr : ∀ ds S, ds.length = 2 → Agr S (F_parts_of S.length (startD ["treaty", "amount", "_", "shares"] ds) S) (m_parts_of ds S)) : CalN P w K mg base 2 "parts_of" 2 m_parts_of :=
  caln_of D rfl fun f fd Fn => fn_ok (k := 1) Fn sc_parts_of (fun cdv A outer s H E hr tk =>
    ds_one (ds_ret (de_fn (G_allocate.mono (by decide)) hr tk (da_cons (de_var 1) (da_cons (de_lc (own := ([("_", 2), ("shares", 3)] : List (PySem.Str × Nat))) rfl sc_parts_of.nd (di_seq (de_ix (de_var 0) (de_int))) (by show blkC ["treaty", "amount", "_", "shares"] (defScope s_parts_of) _ ([("_", 2), ("shares", 3)] : List (PySem.Str × Nat)) = true; decide +kernel) (fun _ _ _ _ _ => dg_tup rfl (dg_cons (dg_name 2 sc_parts_of.nd) (dg_cons (dg_name 3 sc_parts_of.nd) (dg_nil)))) (fun _ _ _ _ _ => dts_nil) (fun _ _ _ _ _ => de_var 3) (by decide)) (da_nil)))))) agr
theorem sc_next_gross : FnScope ["insurers", "treaties", "direct", "gross", "found", "treaty", "amount", "name", "_", "part", "insurer", "loss"] ["insurers", "treaties", "direct", "gross"] (defScope s_next_gross) := ⟨rfl, rfl, rfl, by decide +kernel, rfl, by decide +kernel, by decide +kernel⟩
theorem ok_next_gross {P : Program} {w : World} {K : PySem.W.Frag} {mg : PySem.Str → Option Value} {base : Heap} (T : Txt K mg) (D : Dfn K mg "next_gross" s_next_gross ["insurers", "treaties", "direct", "gross"]) (G_parts_of : CalN P w K mg base 2 "parts_of" 2 m_parts_of) (G_payments : CalN P w K mg base 3 "payments" 3 m_payments) (agr : ∀ ds S, ds.length = 4 → Agr S (F_next_gross S.length (startD ["insurers", "treaties", "direct", "gross", "found", "treaty", "amount", "name", "_", "part", "insurer", "loss"] ds) S) (m_next_gross ds S)) : CalN P w K mg base 4 "next_gross" 4 m_next_gross :=
  caln_of D rfl fun f fd Fn => fn_ok (k := 3) Fn sc_next_gross (fun cdv A outer s H E hr tk =>
    ds_cons (ds_set 4 sc_next_gross.nd (de_dc (own := ([("insurer", 10), ("loss", 11)] : List (PySem.Str × Nat))) rfl sc_next_gross.nd (di_zip rfl T.z_zip (da_cons (de_var 0) (da_cons (de_var 2) (da_nil)))) (by show blkC ["insurers", "treaties", "direct", "gross", "found", "treaty", "amount", "name", "_", "part", "insurer", "loss"] (defScope s_next_gross) _ ([("insurer", 10), ("loss", 11)] : List (PySem.Str × Nat)) = true; decide +kernel) (fun _ _ _ _ _ => dg_tup rfl (dg_cons (dg_name 10 sc_next_gross.nd) (dg_cons (dg_name 11 sc_next_gross.nd) (dg_nil)))) (fun _ _ _ _ _ => de_var 10) (fun _ _ _ _ _ => de_var 11) (by decide)))
      (ds_cons (ds_for (L2.passes_of rfl) rfl (di_zip rfl T.z_zip (da_cons (de_var 1) (da_cons (de_fn (G_payments.mono (by decide)) hr tk (da_cons (de_var 0) (da_cons (de_var 1) (da_cons (de_var 3) (da_nil))))) (da_nil)))) (dg_tup rfl (dg_cons (dg_name 5 sc_next_gross.nd) (dg_cons (dg_name 6 sc_next_gross.nd) (dg_nil)))) (ds_one (ds_for (L2.passes_of rfl) rfl (di_zip rfl T.z_zip (da_cons (de_ix (de_var 5) (de_int)) (da_cons (de_fn (G_parts_of.mono (by decide)) hr tk (da_cons (de_var 5) (da_cons (de_var 6) (da_nil)))) (da_nil)))) (dg_tup rfl (dg_cons (dg_tup rfl (dg_cons (dg_name 7 sc_next_gross.nd) (dg_cons (dg_name 8 sc_next_gross.nd) (dg_nil)))) (dg_cons (dg_name 9 sc_next_gross.nd) (dg_nil)))) (ds_one (ds_if (dt_cmp c_isnot (de_var 7) (de_non)) (ds_one (ds_daug hr (de_var 4) (de_var 7) (de_var 9))) (ds_nil))))))
      (ds_one (ds_ret (de_blt (b_tuple T.z_tuple bt_tuple) rfl (da_cons (de_lc (own := ([("insurer", 10)] : List (PySem.Str × Nat))) rfl sc_next_gross.nd (di_seq (de_var 0)) (by show blkC ["insurers", "treaties", "direct", "gross", "found", "treaty", "amount", "name", "_", "part", "insurer", "loss"] (defScope s_next_gross) _ ([("insurer", 10)] : List (PySem.Str × Nat)) = true; decide +kernel) (fun _ _ _ _ _ => dg_name 10 sc_next_gross.nd) (fun _ _ _ _ _ => dts_nil) (fun _ _ _ _ _ => de_dget hr (de_var 4) (de_var 10)) (by decide)) (da_nil))))))) agr
theorem sc_rounds_of : FnScope ["insurers", "treaties", "direct", "found", "_", "gross", "loss"] ["insurers", "treaties", "direct"] (defScope s_rounds_of) := ⟨rfl, rfl, rfl, by decide +kernel, rfl, by decide +kernel, by decide +kernel⟩
theorem ok_rounds_of {P : Program} {w : World} {K : PySem.W.Frag} {mg : PySem.Str → Option Value} {base : Heap} (T : Txt K mg) (D : Dfn K mg "rounds_of" s_rounds_of ["insurers", "treaties", "direct"]) (G_next_gross : CalN P w K mg base 4 "next_gross" 4 m_next_gross) (agr : ∀ ds S, ds.length = 3 → Agr S (F_rounds_of S.length (startD ["insurers", "treaties", "direct", "found", "_", "gross", "loss"] ds) S) (m_rounds_of ds S)) : CalN P w K mg base 5 "rounds_of" 3 m_rounds_of :=
  caln_of D rfl fun f fd Fn => fn_ok (k := 4) Fn sc_rounds_of (fun cdv A outer s H E hr tk =>
    ds_cons (ds_set 3 sc_rounds_of.nd (de_lst (da_cons (de_var 2) (da_nil))))
      (ds_cons (ds_for (L2.passes_of rfl) rfl (di_range1 rfl T.z_range (da_cons (de_add (de_globI T.g_MOST_ROUNDS) (de_int)) (da_nil))) (dg_name 4 sc_rounds_of.nd) (ds_cons (ds_set 5 sc_rounds_of.nd (de_fn (G_next_gross.mono (by decide)) hr tk (da_cons (de_var 0) (da_cons (de_var 1) (da_cons (de_var 2) (da_cons (de_ix (de_var 3) (de_neg (de_int))) (da_nil)))))))
      (ds_cons (ds_if (dt_cmp (c_eq hr) (de_var 5) (de_ix (de_var 3) (de_neg (de_int)))) (ds_one (ds_ret (de_blt (b_tuple T.z_tuple bt_tuple) rfl (da_cons (de_var 3) (da_nil))))) (ds_nil))
      (ds_cons (ds_if (dt_val (de_blt (b_any rfl T.z_any) rfl (da_cons (de_lc (own := ([("loss", 6)] : List (PySem.Str × Nat))) rfl sc_rounds_of.nd (di_seq (de_var 5)) (by show blkC ["insurers", "treaties", "direct", "found", "_", "gross", "loss"] (defScope s_rounds_of) _ ([("loss", 6)] : List (PySem.Str × Nat)) = true; decide +kernel) (fun _ _ _ _ _ => dg_name 6 sc_rounds_of.nd) (fun _ _ _ _ _ => dts_nil) (fun _ _ _ _ _ => de_cmp c_gt (de_var 6) (de_globI T.g_MOST_GROSS)) (by decide)) (da_nil)))) (ds_one (ds_ret (de_non))) (ds_nil))
      (ds_one (ds_expr (de_mt m_append (de_var 3) (da_cons (de_var 5) (da_nil)))))))))
      (ds_one (ds_ret (de_non))))) agr
theorem sc_is_name : FnScope ["value", "letter"] ["value"] (defScope s_is_name) := ⟨rfl, rfl, rfl, by decide +kernel, rfl, by decide +kernel, by decide +kernel⟩
theorem ok_is_name {P : Program} {w : World} {K : PySem.W.Frag} {mg : PySem.Str → Option Value} {base : Heap} (T : Txt K mg) (D : Dfn K mg "is_name" s_is_name ["value"]) (agr : ∀ ds S, ds.length = 1 → Agr S (F_is_name S.length (startD ["value", "letter"] ds) S) (m_is_name ds S)) : CalN P w K mg base 1 "is_name" 1 m_is_name :=
  caln_of D rfl fun f fd Fn => fn_ok (k := 0) Fn sc_is_name (fun cdv A outer s H E hr tk =>
    ds_one (ds_ret (de_and (de_isi ans_str (de_var 0) T.z_isinstance T.z_str bt_str) (de_and (de_chain c_le c_le (de_int) (de_blt (b_len T.z_len) rfl (da_cons (de_var 0) (da_nil))) (de_int)) (de_one (de_blt (b_all rfl T.z_all) rfl (da_cons (de_lc (own := ([("letter", 1)] : List (PySem.Str × Nat))) rfl sc_is_name.nd (di_str (de_var 0)) (by show blkC ["value", "letter"] (defScope s_is_name) _ ([("letter", 1)] : List (PySem.Str × Nat)) = true; decide +kernel) (fun _ _ _ _ _ => dg_name 1 sc_is_name.nd) (fun _ _ _ _ _ => dts_nil) (fun _ _ _ _ _ => de_inS (de_var 1) (de_globS T.g_LETTERS)) (by decide)) (da_nil)))))))) agr
theorem sc_is_panel : FnScope ["value", "part", "_", "shares"] ["value"] (defScope s_is_panel) := ⟨rfl, rfl, rfl, by decide +kernel, rfl, by decide +kernel, by decide +kernel⟩
theorem ok_is_panel {P : Program} {w : World} {K : PySem.W.Frag} {mg : PySem.Str → Option Value} {base : Heap} (T : Txt K mg) (D : Dfn K mg "is_panel" s_is_panel ["value"]) (G_is_number : CalN P w K mg base 1 "is_number" 3 m_is_number) (G_is_name : CalN P w K mg base 1 "is_name" 1 m_is_name) (agr : ∀ ds S, ds.length = 1 → Agr S (F_is_panel S.length (startD ["value", "part", "_", "shares"] ds) S) (m_is_panel ds S)) : CalN P w K mg base 2 "is_panel" 1 m_is_panel :=
  caln_of D rfl fun f fd Fn => fn_ok (k := 1) Fn sc_is_panel (fun cdv A outer s H E hr tk =>
    ds_cons (ds_if (dt_bool (dw_or (dt_not (dt_val (de_isi ans_tuple (de_var 0) T.z_isinstance T.z_tuple bt_tuple))) (dw_or1 (dt_not (dt_chain c_le c_le (de_int) (de_blt (b_len T.z_len) rfl (da_cons (de_var 0) (da_nil))) (de_int)))))) (ds_one (ds_ret (de_bl))) (ds_nil))
      (ds_cons (ds_for (L2.passes_of rfl) rfl (di_seq (de_var 0)) (dg_name 1 sc_is_panel.nd) (ds_cons (ds_if (dt_bool (dw_or (dt_not (dt_val (de_isi ans_tuple (de_var 1) T.z_isinstance T.z_tuple bt_tuple))) (dw_or (dt_cmp (c_ne hr) (de_blt (b_len T.z_len) rfl (da_cons (de_var 1) (da_nil))) (de_int)) (dw_or1 (dt_not (dt_val (de_fn (G_is_number.mono (by decide)) hr tk (da_cons (de_ix (de_var 1) (de_int)) (da_cons (de_int) (da_cons (de_int) (da_nil))))))))))) (ds_one (ds_ret (de_bl))) (ds_nil))
      (ds_one (ds_if (dt_bool (dw_and (dt_cmp c_isnot (de_ix (de_var 1) (de_int)) (de_non)) (dw_and1 (dt_not (dt_val (de_fn (G_is_name.mono (by decide)) hr tk (da_cons (de_ix (de_var 1) (de_int)) (da_nil)))))))) (ds_one (ds_ret (de_bl))) (ds_nil)))))
      (ds_one (ds_ret (de_cmp c_le (de_blt (b_sum rfl T.z_sum) rfl (da_cons (de_lc (own := ([("_", 2), ("shares", 3)] : List (PySem.Str × Nat))) rfl sc_is_panel.nd (di_seq (de_var 0)) (by show blkC ["value", "part", "_", "shares"] (defScope s_is_panel) _ ([("_", 2), ("shares", 3)] : List (PySem.Str × Nat)) = true; decide +kernel) (fun _ _ _ _ _ => dg_tup rfl (dg_cons (dg_name 2 sc_is_panel.nd) (dg_cons (dg_name 3 sc_is_panel.nd) (dg_nil)))) (fun _ _ _ _ _ => dts_nil) (fun _ _ _ _ _ => de_var 3) (by decide)) (da_nil))) (de_int)))))) agr
theorem sc_check_name : FnScope ["value"] ["value"] (defScope s_check_name) := ⟨rfl, rfl, rfl, by decide +kernel, rfl, by decide +kernel, by decide +kernel⟩
theorem ok_check_name {P : Program} {w : World} {K : PySem.W.Frag} {mg : PySem.Str → Option Value} {base : Heap} (T : Txt K mg) (D : Dfn K mg "check_name" s_check_name ["value"]) (G_is_name : CalN P w K mg base 1 "is_name" 1 m_is_name) (agr : ∀ ds S, ds.length = 1 → Agr S (F_check_name S.length (startD ["value"] ds) S) (m_check_name ds S)) : CalN P w K mg base 2 "check_name" 1 m_check_name :=
  caln_of D rfl fun f fd Fn => fn_ok (k := 1) Fn sc_check_name (fun cdv A outer s H E hr tk =>
    ds_one (ds_if (dt_not (dt_val (de_fn (G_is_name.mono (by decide)) hr tk (da_cons (de_var 0) (da_nil))))) (ds_one (ds_raise rfl T.x_BadName tk)) (ds_nil))) agr
theorem sc_check_panel : FnScope ["value"] ["value"] (defScope s_check_panel) := ⟨rfl, rfl, rfl, by decide +kernel, rfl, by decide +kernel, by decide +kernel⟩
theorem ok_check_panel {P : Program} {w : World} {K : PySem.W.Frag} {mg : PySem.Str → Option Value} {base : Heap} (T : Txt K mg) (D : Dfn K mg "check_panel" s_check_panel ["value"]) (G_is_panel : CalN P w K mg base 2 "is_panel" 1 m_is_panel) (agr : ∀ ds S, ds.length = 1 → Agr S (F_check_panel S.length (startD ["value"] ds) S) (m_check_panel ds S)) : CalN P w K mg base 3 "check_panel" 1 m_check_panel :=
  caln_of D rfl fun f fd Fn => fn_ok (k := 2) Fn sc_check_panel (fun cdv A outer s H E hr tk =>
    ds_one (ds_if (dt_not (dt_val (de_fn (G_is_panel.mono (by decide)) hr tk (da_cons (de_var 0) (da_nil))))) (ds_one (ds_raise rfl T.x_BadPanel tk)) (ds_nil))) agr
theorem sc_Market_init : FnScope ["self"] ["self"] (defScope s_Market_init) := ⟨rfl, rfl, rfl, by decide +kernel, rfl, by decide +kernel, by decide +kernel⟩
theorem ok_Market_init {P : Program} {w : World} {K : PySem.W.Frag} {mg : PySem.Str → Option Value} {base : Heap} (T : Txt K mg) (D : Ini K mg "Market" "Market.__init__" s_Market_init ["self"]) (agr : ∀ ds S, ds.length = 1 → Agr S (F_Market_init S.length (startD ["self"] ds) S) (m_Market_init ds S)) : CalI P w K mg base 1 "Market" 0 m_Market_init :=
  cali_of D rfl fun f fd Fn => fn_ok (k := 0) Fn sc_Market_init (fun cdv A outer s H E hr tk =>
    ds_cons (ds_setFld T.c_Market T.n_Market_insurers (de_var 0) (de_tup (da_nil)))
      (ds_cons (ds_setFld T.c_Market T.n_Market_events (de_var 0) (de_tup (da_nil)))
      (ds_cons (ds_setFld T.c_Market T.n_Market_treaties (de_var 0) (de_tup (da_nil)))
      (ds_one (ds_setFld T.c_Market T.n_Market_losses (de_var 0) (de_dct)))))) agr
theorem sc_Market_copy : FnScope ["self", "other"] ["self"] (defScope s_Market_copy) := ⟨rfl, rfl, rfl, by decide +kernel, rfl, by decide +kernel, by decide +kernel⟩
theorem ok_Market_copy {P : Program} {w : World} {K : PySem.W.Frag} {mg : PySem.Str → Option Value} {base : Heap} (T : Txt K mg) (D : Mth K "Market" "copy" "Market.copy" s_Market_copy ["self"]) (G_Market_init : CalI P w K mg base 1 "Market" 0 m_Market_init) (agr : ∀ ds S, ds.length = 1 → Agr S (F_Market_copy S.length (startD ["self", "other"] ds) S) (m_Market_copy ds S)) : CalM P w K mg base 3 "Market" "copy" 0 m_Market_copy :=
  calm_of D rfl fun f fd Fn => fn_ok (k := 2) Fn sc_Market_copy (fun cdv A outer s H E hr tk =>
    ds_cons (ds_set 1 sc_Market_copy.nd (de_make0 (G_Market_init.mono (by decide)) hr tk))
      (ds_cons (ds_setFld T.c_Market T.n_Market_insurers (de_var 1) (de_fld T.c_Market T.n_Market_insurers (de_var 0)))
      (ds_cons (ds_setFld T.c_Market T.n_Market_events (de_var 1) (de_fld T.c_Market T.n_Market_events (de_var 0)))
      (ds_cons (ds_setFld T.c_Market T.n_Market_treaties (de_var 1) (de_fld T.c_Market T.n_Market_treaties (de_var 0)))
      (ds_cons (ds_setFld T.c_Market T.n_Market_losses (de_var 1) (de_blt (b_dict hr T.z_dict) rfl (da_cons (de_fld T.c_Market T.n_Market_losses (de_var 0)) (da_nil))))
      (ds_one (ds_ret (de_var 1)))))))) agr
theorem sc_Market_check_insurer : FnScope ["self", "name"] ["self", "name"] (defScope s_Market_check_insurer) := ⟨rfl, rfl, rfl, by decide +kernel, rfl, by decide +kernel, by decide +kernel⟩
theorem ok_Market_check_insurer {P : Program} {w : World} {K : PySem.W.Frag} {mg : PySem.Str → Option Value} {base : Heap} (T : Txt K mg) (D : Mth K "Market" "check_insurer" "Market.check_insurer" s_Market_check_insurer ["self", "name"]) (agr : ∀ ds S, ds.length = 2 → Agr S (F_Market_check_insurer S.length (startD ["self", "name"] ds) S) (m_Market_check_insurer ds S)) : CalM P w K mg base 1 "Market" "check_insurer" 1 m_Market_check_insurer :=
  calm_of D rfl fun f fd Fn => fn_ok (k := 0) Fn sc_Market_check_insurer (fun cdv A outer s H E hr tk =>
    ds_one (ds_if (dt_cmp c_notin (de_var 1) (de_fld T.c_Market T.n_Market_insurers (de_var 0))) (ds_one (ds_bad)) (ds_nil))) agr
theorem sc_Market_check_event : FnScope ["self", "name"] ["self", "name"] (defScope s_Market_check_event) := ⟨rfl, rfl, rfl, by decide +kernel, rfl, by decide +kernel, by decide +kernel⟩
theorem ok_Market_check_event {P : Program} {w : World} {K : PySem.W.Frag} {mg : PySem.Str → Option Value} {base : Heap} (T : Txt K mg) (D : Mth K "Market" "check_event" "Market.check_event" s_Market_check_event ["self", "name"]) (agr : ∀ ds S, ds.length = 2 → Agr S (F_Market_check_event S.length (startD ["self", "name"] ds) S) (m_Market_check_event ds S)) : CalM P w K mg base 1 "Market" "check_event" 1 m_Market_check_event :=
  calm_of D rfl fun f fd Fn => fn_ok (k := 0) Fn sc_Market_check_event (fun cdv A outer s H E hr tk =>
    ds_one (ds_if (dt_cmp c_notin (de_var 1) (de_fld T.c_Market T.n_Market_events (de_var 0))) (ds_one (ds_bad)) (ds_nil))) agr
theorem sc_Market_direct : FnScope ["self", "event", "insurer"] ["self", "event"] (defScope s_Market_direct) := ⟨rfl, rfl, rfl, by decide +kernel, rfl, by decide +kernel, by decide +kernel⟩
theorem ok_Market_direct {P : Program} {w : World} {K : PySem.W.Frag} {mg : PySem.Str → Option Value} {base : Heap} (T : Txt K mg) (D : Mth K "Market" "direct" "Market.direct" s_Market_direct ["self", "event"]) (G_Market_check_event : CalM P w K mg base 1 "Market" "check_event" 1 m_Market_check_event) (agr : ∀ ds S, ds.length = 2 → Agr S (F_Market_direct S.length (startD ["self", "event", "insurer"] ds) S) (m_Market_direct ds S)) : CalM P w K mg base 2 "Market" "direct" 1 m_Market_direct :=
  calm_of D rfl fun f fd Fn => fn_ok (k := 1) Fn sc_Market_direct (fun cdv A outer s H E hr tk =>
    ds_cons (ds_expr (de_meth T.c_Market (G_Market_check_event.mono (by decide)) hr tk (de_var 0) (da_cons (de_var 1) (da_nil))))
      (ds_one (ds_ret (de_blt (b_tuple T.z_tuple bt_tuple) rfl (da_cons (de_lc (own := ([("insurer", 2)] : List (PySem.Str × Nat))) rfl sc_Market_direct.nd (di_seq (de_fld T.c_Market T.n_Market_insurers (de_var 0))) (by show blkC ["self", "event", "insurer"] (defScope s_Market_direct) _ ([("insurer", 2)] : List (PySem.Str × Nat)) = true; decide +kernel) (fun _ _ _ _ _ => dg_name 2 sc_Market_direct.nd) (fun _ _ _ _ _ => dts_nil) (fun _ _ _ _ _ => de_dget2 hr (de_fld T.c_Market T.n_Market_losses (de_var 0)) (de_tup (da_cons (de_var 1) (da_cons (de_var 2) (da_nil)))) (de_int) ⟨rfl, rfl, rfl, rfl⟩) (by decide)) (da_nil)))))) agr
theorem sc_Market_check_end : FnScope ["self", "event"] ["self"] (defScope s_Market_check_end) := ⟨rfl, rfl, rfl, by decide +kernel, rfl, by decide +kernel, by decide +kernel⟩
theorem ok_Market_check_end {P : Program} {w : World} {K : PySem.W.Frag} {mg : PySem.Str → Option Value} {base : Heap} (T : Txt K mg) (D : Mth K "Market" "check_end" "Market.check_end" s_Market_check_end ["self"]) (G_Market_direct : CalM P w K mg base 2 "Market" "direct" 1 m_Market_direct) (G_rounds_of : CalN P w K mg base 5 "rounds_of" 3 m_rounds_of) (agr : ∀ ds S, ds.length = 1 → Agr S (F_Market_check_end S.length (startD ["self", "event"] ds) S) (m_Market_check_end ds S)) : CalM P w K mg base 6 "Market" "check_end" 0 m_Market_check_end :=
  calm_of D rfl fun f fd Fn => fn_ok (k := 5) Fn sc_Market_check_end (fun cdv A outer s H E hr tk =>
    ds_one (ds_for (L2.passes_of rfl) rfl (di_seq (de_fld T.c_Market T.n_Market_events (de_var 0))) (dg_name 1 sc_Market_check_end.nd) (ds_one (ds_if (dt_cmp c_is (de_fn (G_rounds_of.mono (by decide)) hr tk (da_cons (de_fld T.c_Market T.n_Market_insurers (de_var 0)) (da_cons (de_fld T.c_Market T.n_Market_treaties (de_var 0)) (da_cons (de_meth T.c_Market (G_Market_direct.mono (by decide)) hr tk (de_var 0) (da_cons (de_var 1) (da_nil))) (da_nil))))) (de_non)) (ds_one (ds_bad)) (ds_nil))))) agr
theorem sc_Market_add_insurer : FnScope ["self", "name"] ["self", "name"] (defScope s_Market_add_insurer) := ⟨rfl, rfl, rfl, by decide +kernel, rfl, by decide +kernel, by decide +kernel⟩
theorem ok_Market_add_insurer {P : Program} {w : World} {K : PySem.W.Frag} {mg : PySem.Str → Option Value} {base : Heap} (T : Txt K mg) (D : Mth K "Market" "add_insurer" "Market.add_insurer" s_Market_add_insurer ["self", "name"]) (G_check_name : CalN P w K mg base 2 "check_name" 1 m_check_name) (agr : ∀ ds S, ds.length = 2 → Agr S (F_Market_add_insurer S.length (startD ["self", "name"] ds) S) (m_Market_add_insurer ds S)) : CalM P w K mg base 3 "Market" "add_insurer" 1 m_Market_add_insurer :=
  calm_of D rfl fun f fd Fn => fn_ok (k := 2) Fn sc_Market_add_insurer (fun cdv A outer s H E hr tk =>
    ds_cons (ds_expr (de_fn (G_check_name.mono (by decide)) hr tk (da_cons (de_var 1) (da_nil))))
      (ds_cons (ds_if (dt_cmp (c_eq hr) (de_blt (b_len T.z_len) rfl (da_cons (de_fld T.c_Market T.n_Market_insurers (de_var 0)) (da_nil))) (de_clsI T.k_Market_MOST_INSURERS)) (ds_one (ds_bad)) (ds_nil))
      (ds_cons (ds_if (dt_cmp c_in (de_var 1) (de_fld T.c_Market T.n_Market_insurers (de_var 0))) (ds_one (ds_bad)) (ds_nil))
      (ds_cons (ds_setFld T.c_Market T.n_Market_insurers (de_var 0) (de_add (de_fld T.c_Market T.n_Market_insurers (de_var 0)) (de_tup (da_cons (de_var 1) (da_nil)))))
      (ds_one (ds_ret (de_blt (b_len T.z_len) rfl (da_cons (de_fld T.c_Market T.n_Market_insurers (de_var 0)) (da_nil))))))))) agr
theorem sc_Market_add_event : FnScope ["self", "name"] ["self", "name"] (defScope s_Market_add_event) := ⟨rfl, rfl, rfl, by decide +kernel, rfl, by decide +kernel, by decide +kernel⟩
theorem ok_Market_add_event {P : Program} {w : World} {K : PySem.W.Frag} {mg : PySem.Str → Option Value} {base : Heap} (T : Txt K mg) (D : Mth K "Market" "add_event" "Market.add_event" s_Market_add_event ["self", "name"]) (G_check_name : CalN P w K mg base 2 "check_name" 1 m_check_name) (agr : ∀ ds S, ds.length = 2 → Agr S (F_Market_add_event S.length (startD ["self", "name"] ds) S) (m_Market_add_event ds S)) : CalM P w K mg base 3 "Market" "add_event" 1 m_Market_add_event :=
  calm_of D rfl fun f fd Fn => fn_ok (k := 2) Fn sc_Market_add_event (fun cdv A outer s H E hr tk =>
    ds_cons (ds_expr (de_fn (G_check_name.mono (by decide)) hr tk (da_cons (de_var 1) (da_nil))))
      (ds_cons (ds_if (dt_cmp (c_eq hr) (de_blt (b_len T.z_len) rfl (da_cons (de_fld T.c_Market T.n_Market_events (de_var 0)) (da_nil))) (de_clsI T.k_Market_MOST_EVENTS)) (ds_one (ds_bad)) (ds_nil))
      (ds_cons (ds_if (dt_cmp c_in (de_var 1) (de_fld T.c_Market T.n_Market_events (de_var 0))) (ds_one (ds_bad)) (ds_nil))
      (ds_cons (ds_setFld T.c_Market T.n_Market_events (de_var 0) (de_add (de_fld T.c_Market T.n_Market_events (de_var 0)) (de_tup (da_cons (de_var 1) (da_nil)))))
      (ds_one (ds_ret (de_blt (b_len T.z_len) rfl (da_cons (de_fld T.c_Market T.n_Market_events (de_var 0)) (da_nil))))))))) agr
theorem sc_Market_check_treaty_parts : FnScope ["self", "cedent", "panel", "participants", "name", "_"] ["self", "cedent", "panel"] (defScope s_Market_check_treaty_parts) := ⟨rfl, rfl, rfl, by decide +kernel, rfl, by decide +kernel, by decide +kernel⟩
theorem ok_Market_check_treaty_parts {P : Program} {w : World} {K : PySem.W.Frag} {mg : PySem.Str → Option Value} {base : Heap} (T : Txt K mg) (D : Mth K "Market" "check_treaty_parts" "Market.check_treaty_parts" s_Market_check_treaty_parts ["self", "cedent", "panel"]) (G_Market_check_insurer : CalM P w K mg base 1 "Market" "check_insurer" 1 m_Market_check_insurer) (agr : ∀ ds S, ds.length = 3 → Agr S (F_Market_check_treaty_parts S.length (startD ["self", "cedent", "panel", "participants", "name", "_"] ds) S) (m_Market_check_treaty_parts ds S)) : CalM P w K mg base 2 "Market" "check_treaty_parts" 2 m_Market_check_treaty_parts :=
  calm_of D rfl fun f fd Fn => fn_ok (k := 1) Fn sc_Market_check_treaty_parts (fun cdv A outer s H E hr tk =>
    ds_cons (ds_expr (de_meth T.c_Market (G_Market_check_insurer.mono (by decide)) hr tk (de_var 0) (da_cons (de_var 1) (da_nil))))
      (ds_cons (ds_set 3 sc_Market_check_treaty_parts.nd (de_lc (own := ([("name", 4), ("_", 5)] : List (PySem.Str × Nat))) rfl sc_Market_check_treaty_parts.nd (di_seq (de_var 2)) (by show blkC ["self", "cedent", "panel", "participants", "name", "_"] (defScope s_Market_check_treaty_parts) _ ([("name", 4), ("_", 5)] : List (PySem.Str × Nat)) = true; decide +kernel) (fun _ _ _ _ _ => dg_tup rfl (dg_cons (dg_name 4 sc_Market_check_treaty_parts.nd) (dg_cons (dg_name 5 sc_Market_check_treaty_parts.nd) (dg_nil)))) (fun _ _ _ _ _ => dts_nil) (fun _ _ _ _ _ => de_var 4) (by decide)))
      (ds_cons (ds_for (L2.passes_of rfl) rfl (di_seq (de_var 3)) (dg_name 4 sc_Market_check_treaty_parts.nd) (ds_one (ds_if (dt_cmp c_isnot (de_var 4) (de_non)) (ds_one (ds_expr (de_meth T.c_Market (G_Market_check_insurer.mono (by decide)) hr tk (de_var 0) (da_cons (de_var 4) (da_nil))))) (ds_nil))))
      (ds_cons (ds_if (dt_val (de_blt (b_any rfl T.z_any) rfl (da_cons (de_lc (own := ([("name", 4)] : List (PySem.Str × Nat))) rfl sc_Market_check_treaty_parts.nd (di_seq (de_var 3)) (by show blkC ["self", "cedent", "panel", "participants", "name", "_"] (defScope s_Market_check_treaty_parts) _ ([("name", 4)] : List (PySem.Str × Nat)) = true; decide +kernel) (fun _ _ _ _ _ => dg_name 4 sc_Market_check_treaty_parts.nd) (fun _ _ _ _ _ => dts_nil) (fun _ _ _ _ _ => de_cmp c_gt (de_mt m_count (de_var 3) (da_cons (de_var 4) (da_nil))) (de_int)) (by decide)) (da_nil)))) (ds_one (ds_bad)) (ds_nil))
      (ds_one (ds_if (dt_cmp c_in (de_var 1) (de_var 3)) (ds_one (ds_bad)) (ds_nil))))))) agr
theorem sc_Market_try_treaties : FnScope ["self", "treaties", "other"] ["self", "treaties"] (defScope s_Market_try_treaties) := ⟨rfl, rfl, rfl, by decide +kernel, rfl, by decide +kernel, by decide +kernel⟩
theorem ok_Market_try_treaties {P : Program} {w : World} {K : PySem.W.Frag} {mg : PySem.Str → Option Value} {base : Heap} (T : Txt K mg) (D : Mth K "Market" "try_treaties" "Market.try_treaties" s_Market_try_treaties ["self", "treaties"]) (G_Market_copy : CalM P w K mg base 3 "Market" "copy" 0 m_Market_copy) (G_Market_check_end : CalM P w K mg base 6 "Market" "check_end" 0 m_Market_check_end) (agr : ∀ ds S, ds.length = 2 → Agr S (F_Market_try_treaties S.length (startD ["self", "treaties", "other"] ds) S) (m_Market_try_treaties ds S)) : CalM P w K mg base 7 "Market" "try_treaties" 1 m_Market_try_treaties :=
  calm_of D rfl fun f fd Fn => fn_ok (k := 6) Fn sc_Market_try_treaties (fun cdv A outer s H E hr tk =>
    ds_cons (ds_set 2 sc_Market_try_treaties.nd (de_meth0 T.c_Market (G_Market_copy.mono (by decide)) hr tk (de_var 0)))
      (ds_cons (ds_setFld T.c_Market T.n_Market_treaties (de_var 2) (de_var 1))
      (ds_cons (ds_expr (de_meth0 T.c_Market (G_Market_check_end.mono (by decide)) hr tk (de_var 2)))
      (ds_one (ds_setFld T.c_Market T.n_Market_treaties (de_var 0) (de_var 1)))))) agr
theorem sc_Market_add_treaty : FnScope ["self", "cedent", "cover", "panel"] ["self", "cedent", "cover", "panel"] (defScope s_Market_add_treaty) := ⟨rfl, rfl, rfl, by decide +kernel, rfl, by decide +kernel, by decide +kernel⟩
theorem ok_Market_add_treaty {P : Program} {w : World} {K : PySem.W.Frag} {mg : PySem.Str → Option Value} {base : Heap} (T : Txt K mg) (D : Mth K "Market" "add_treaty" "Market.add_treaty" s_Market_add_treaty ["self", "cedent", "cover", "panel"]) (G_check_name : CalN P w K mg base 2 "check_name" 1 m_check_name) (G_check_cover : CalN P w K mg base 3 "check_cover" 1 m_check_cover) (G_check_panel : CalN P w K mg base 3 "check_panel" 1 m_check_panel) (G_Market_check_treaty_parts : CalM P w K mg base 2 "Market" "check_treaty_parts" 2 m_Market_check_treaty_parts) (G_Market_try_treaties : CalM P w K mg base 7 "Market" "try_treaties" 1 m_Market_try_treaties) (agr : ∀ ds S, ds.length = 4 → Agr S (F_Market_add_treaty S.length (startD ["self", "cedent", "cover", "panel"] ds) S) (m_Market_add_treaty ds S)) : CalM P w K mg base 8 "Market" "add_treaty" 3 m_Market_add_treaty :=
  calm_of D rfl fun f fd Fn => fn_ok (k := 7) Fn sc_Market_add_treaty (fun cdv A outer s H E hr tk =>
    ds_cons (ds_expr (de_fn (G_check_name.mono (by decide)) hr tk (da_cons (de_var 1) (da_nil))))
      (ds_cons (ds_expr (de_fn (G_check_cover.mono (by decide)) hr tk (da_cons (de_var 2) (da_nil))))
      (ds_cons (ds_expr (de_fn (G_check_panel.mono (by decide)) hr tk (da_cons (de_var 3) (da_nil))))
      (ds_cons (ds_expr (de_meth T.c_Market (G_Market_check_treaty_parts.mono (by decide)) hr tk (de_var 0) (da_cons (de_var 1) (da_cons (de_var 3) (da_nil)))))
      (ds_cons (ds_if (dt_cmp (c_eq hr) (de_blt (b_len T.z_len) rfl (da_cons (de_fld T.c_Market T.n_Market_treaties (de_var 0)) (da_nil))) (de_clsI T.k_Market_MOST_TREATIES)) (ds_one (ds_bad)) (ds_nil))
      (ds_cons (ds_expr (de_meth T.c_Market (G_Market_try_treaties.mono (by decide)) hr tk (de_var 0) (da_cons (de_add (de_fld T.c_Market T.n_Market_treaties (de_var 0)) (de_tup (da_cons (de_tup (da_cons (de_var 1) (da_cons (de_var 2) (da_cons (de_var 3) (da_cons (de_bl) (da_nil)))))) (da_nil)))) (da_nil))))
      (ds_one (ds_ret (de_sub (de_blt (b_len T.z_len) rfl (da_cons (de_fld T.c_Market T.n_Market_treaties (de_var 0)) (da_nil))) (de_int)))))))))) agr
theorem sc_Market_set_loss : FnScope ["self", "event", "insurer", "amount", "other"] ["self", "event", "insurer", "amount"] (defScope s_Market_set_loss) := ⟨rfl, rfl, rfl, by decide +kernel, rfl, by decide +kernel, by decide +kernel⟩
theorem ok_Market_set_loss {P : Program} {w : World} {K : PySem.W.Frag} {mg : PySem.Str → Option Value} {base : Heap} (T : Txt K mg) (D : Mth K "Market" "set_loss" "Market.set_loss" s_Market_set_loss ["self", "event", "insurer", "amount"]) (G_check_name : CalN P w K mg base 2 "check_name" 1 m_check_name) (G_is_number : CalN P w K mg base 1 "is_number" 3 m_is_number) (G_Market_check_event : CalM P w K mg base 1 "Market" "check_event" 1 m_Market_check_event) (G_Market_check_insurer : CalM P w K mg base 1 "Market" "check_insurer" 1 m_Market_check_insurer) (G_Market_copy : CalM P w K mg base 3 "Market" "copy" 0 m_Market_copy) (G_Market_check_end : CalM P w K mg base 6 "Market" "check_end" 0 m_Market_check_end) (agr : ∀ ds S, ds.length = 4 → Agr S (F_Market_set_loss S.length (startD ["self", "event", "insurer", "amount", "other"] ds) S) (m_Market_set_loss ds S)) : CalM P w K mg base 7 "Market" "set_loss" 3 m_Market_set_loss :=
  calm_of D rfl fun f fd Fn => fn_ok (k := 6) Fn sc_Market_set_loss (fun cdv A outer s H E hr tk =>
    ds_cons (ds_expr (de_fn (G_check_name.mono (by decide)) hr tk (da_cons (de_var 1) (da_nil))))
      (ds_cons (ds_expr (de_fn (G_check_name.mono (by decide)) hr tk (da_cons (de_var 2) (da_nil))))
      (ds_cons (ds_if (dt_not (dt_val (de_fn (G_is_number.mono (by decide)) hr tk (da_cons (de_var 3) (da_cons (de_int) (da_cons (de_globI T.g_MOST_AMOUNT) (da_nil))))))) (ds_one (ds_raise rfl T.x_BadAmount tk)) (ds_nil))
      (ds_cons (ds_expr (de_meth T.c_Market (G_Market_check_event.mono (by decide)) hr tk (de_var 0) (da_cons (de_var 1) (da_nil))))
      (ds_cons (ds_expr (de_meth T.c_Market (G_Market_check_insurer.mono (by decide)) hr tk (de_var 0) (da_cons (de_var 2) (da_nil))))
      (ds_cons (ds_set 4 sc_Market_set_loss.nd (de_meth0 T.c_Market (G_Market_copy.mono (by decide)) hr tk (de_var 0)))
      (ds_cons (ds_dput hr (de_fld T.c_Market T.n_Market_losses (de_var 4)) (de_tup (da_cons (de_var 1) (da_cons (de_var 2) (da_nil)))) (de_var 3))
      (ds_cons (ds_expr (de_meth0 T.c_Market (G_Market_check_end.mono (by decide)) hr tk (de_var 4)))
      (ds_one (ds_setFld T.c_Market T.n_Market_losses (de_var 0) (de_fld T.c_Market T.n_Market_losses (de_var 4)))))))))))) agr
theorem sc_kind : FnScope ["_law_market", "_law_deed"] ["_law_market", "_law_deed"] (defScope s_kind) := ⟨rfl, rfl, rfl, by decide +kernel, rfl, by decide +kernel, by decide +kernel⟩
theorem ok_kind {P : Program} {w : World} {K : PySem.W.Frag} {mg : PySem.Str → Option Value} {base : Heap} (T : Txt K mg) (D : Dfn K mg "_law_kind" s_kind ["_law_market", "_law_deed"]) (G_Market_add_insurer : CalM P w K mg base 3 "Market" "add_insurer" 1 m_Market_add_insurer) (G_Market_add_event : CalM P w K mg base 3 "Market" "add_event" 1 m_Market_add_event) (G_Market_add_treaty : CalM P w K mg base 8 "Market" "add_treaty" 3 m_Market_add_treaty) (G_Market_set_loss : CalM P w K mg base 7 "Market" "set_loss" 3 m_Market_set_loss) (agr : ∀ ds S, ds.length = 2 → Agr S (F_kind S.length (startD ["_law_market", "_law_deed"] ds) S) (m_kind ds S)) : CalN P w K mg base 9 "_law_kind" 2 m_kind :=
  caln_of D rfl fun f fd Fn => fn_ok (k := 8) Fn sc_kind (fun cdv A outer s H E hr tk =>
    ds_cons (ds_try rfl rfl tk T.tries (fun W pn xe tk => ds_one (ds_if (dt_cmp (c_eq hr) (de_ix (de_var 1) (de_int)) (de_str)) (ds_one (ds_expr (de_meth T.c_Market (G_Market_add_insurer.mono (by decide)) hr tk (de_var 0) (da_cons (de_ix (de_var 1) (de_int)) (da_nil))))) (ds_one (ds_if (dt_cmp (c_eq hr) (de_ix (de_var 1) (de_int)) (de_str)) (ds_one (ds_expr (de_meth T.c_Market (G_Market_add_event.mono (by decide)) hr tk (de_var 0) (da_cons (de_ix (de_var 1) (de_int)) (da_nil))))) (ds_one (ds_if (dt_cmp (c_eq hr) (de_ix (de_var 1) (de_int)) (de_str)) (ds_one (ds_expr (de_meth T.c_Market (G_Market_add_treaty.mono (by decide)) hr tk (de_var 0) (da_cons (de_ix (de_var 1) (de_int)) (da_cons (de_ix (de_var 1) (de_int)) (da_cons (de_ix (de_var 1) (de_int)) (da_nil))))))) (ds_one (ds_expr (de_meth T.c_Market (G_Market_set_loss.mono (by decide)) hr tk (de_var 0) (da_cons (de_ix (de_var 1) (de_int)) (da_cons (de_ix (de_var 1) (de_int)) (da_cons (de_ix (de_var 1) (de_int)) (da_nil))))))))))))) (.cons rfl (by decide) T.x_BadName.g (fun _ _ _ => ds_one (ds_ret (de_str))) (.cons rfl (by decide) T.x_BadCover.g (fun _ _ _ => ds_one (ds_ret (de_str))) (.cons rfl (by decide) T.x_BadPanel.g (fun _ _ _ => ds_one (ds_ret (de_str))) (.cons rfl (by decide) T.x_BadAmount.g (fun _ _ _ => ds_one (ds_ret (de_str))) (.nil))))))
      (ds_one (ds_ret (de_str)))) agr
theorem sc_law : FnScope ["_law_script", "_law_market", "_law_names", "_law_name", "_law_panels", "_law_panel", "_law_amount", "_law_cover", "_law_good", "_law_one", "_law_deeds", "_law_deed", "_law_due", "_law_full", "_law_k"] ["_law_script"] (defScope s_law) := ⟨rfl, rfl, rfl, by decide +kernel, rfl, by decide +kernel, by decide +kernel⟩
theorem okF_law {P : Program} {w : World} {K : PySem.W.Frag} {mg : PySem.Str → Option Value} {base : Heap} {f : Addr} {fd : FuncData} (T : Txt K mg) (Fn : Fun K "law" "law" s_law f fd) (G_Market_init : CalI P w K mg base 1 "Market" 0 m_Market_init) (G_Market_add_insurer : CalM P w K mg base 3 "Market" "add_insurer" 1 m_Market_add_insurer) (G_Market_add_event : CalM P w K mg base 3 "Market" "add_event" 1 m_Market_add_event) (G_cell : CalN P w K mg base 1 "_law_cell" 2 m_cell) (G_kind : CalN P w K mg base 9 "_law_kind" 2 m_kind) (G_same : CalN P w K mg base 4 "_law_same" 2 (m_same 3)) (G_Market_direct : CalM P w K mg base 2 "Market" "direct" 1 m_Market_direct) (agr : ∀ ds S, ds.length = 1 → Agr S (F_law S.length (startD ["_law_script", "_law_market", "_law_names", "_law_name", "_law_panels", "_law_panel", "_law_amount", "_law_cover", "_law_good", "_law_one", "_law_deeds", "_law_deed", "_law_due", "_law_full", "_law_k"] ds) S) (m_law ds S)) : FnOk P w K mg base (L2.CX P w) 10 f fd ["_law_script"] (spD K 1 m_law) :=
  fn_ok (k := 9) Fn sc_law (fun cdv A outer s H E hr tk =>
    ds_cons (ds_set 1 sc_law.nd (de_make0 (G_Market_init.mono (by decide)) hr tk))
      (ds_cons (ds_expr (de_meth T.c_Market (G_Market_add_insurer.mono (by decide)) hr tk (de_var 1) (da_cons (de_str) (da_nil))))
      (ds_cons (ds_expr (de_meth T.c_Market (G_Market_add_insurer.mono (by decide)) hr tk (de_var 1) (da_cons (de_str) (da_nil))))
      (ds_cons (ds_expr (de_meth T.c_Market (G_Market_add_event.mono (by decide)) hr tk (de_var 1) (da_cons (de_str) (da_nil))))
      (ds_cons (ds_set 2 sc_law.nd (de_fls (da_cons (de_str) (da_cons (de_str) (da_cons (de_str) (da_cons (de_str) (da_cons (de_str) (da_cons (de_non) (da_cons (de_int) (da_cons (de_tup (da_cons (de_str) (da_nil))) (da_nil)))))))))))
      (ds_cons (ds_set 3 sc_law.nd (de_ix (de_var 2) (de_mod (de_fn (G_cell.mono (by decide)) hr tk (da_cons (de_var 0) (da_cons (de_int) (da_nil)))) (de_int))))
      (ds_cons (ds_set 4 sc_law.nd (de_lst (da_cons (de_tup (da_nil)) (da_cons (de_fls (da_cons (de_tup (da_cons (de_str) (da_cons (de_int) (da_nil)))) (da_nil))) (da_cons (de_tup (da_cons (de_tup (da_cons (de_str) (da_cons (de_int) (da_nil)))) (da_nil))) (da_cons (de_tup (da_cons (de_tup (da_cons (de_str) (da_cons (de_int) (da_nil)))) (da_nil))) (da_cons (de_tup (da_cons (de_tup (da_cons (de_str) (da_cons (de_int) (da_nil)))) (da_cons (de_tup (da_cons (de_non) (da_cons (de_int) (da_nil)))) (da_nil)))) (da_cons (de_tup (da_cons (de_tup (da_cons (de_str) (da_cons (de_int) (da_nil)))) (da_nil))) (da_cons (de_tup (da_cons (de_str) (da_cons (de_int) (da_nil)))) (da_cons (de_tup (da_cons (de_tup (da_cons (de_str) (da_cons (de_int) (da_cons (de_int) (da_nil))))) (da_nil))) (da_cons (de_tup (da_cons (de_tup (da_cons (de_non) (da_cons (de_str) (da_nil)))) (da_nil))) (da_nil))))))))))))
      (ds_cons (ds_expr (de_mt m_append (de_var 4) (da_cons (de_blt (b_tuple T.z_tuple bt_tuple) rfl (da_cons (de_lc (own := ([("_law_k", 14)] : List (PySem.Str × Nat))) rfl sc_law.nd (di_range1 rfl T.z_range (da_cons (de_int) (da_nil))) (by show blkC ["_law_script", "_law_market", "_law_names", "_law_name", "_law_panels", "_law_panel", "_law_amount", "_law_cover", "_law_good", "_law_one", "_law_deeds", "_law_deed", "_law_due", "_law_full", "_law_k"] (defScope s_law) _ ([("_law_k", 14)] : List (PySem.Str × Nat)) = true; decide +kernel) (fun _ _ _ _ _ => dg_name 14 sc_law.nd) (fun _ _ _ _ _ => dts_nil) (fun _ _ _ _ _ => de_tup (da_cons (de_ixS (de_str) (de_var 14)) (da_cons (de_int) (da_nil)))) (by decide)) (da_nil))) (da_nil))))
      (ds_cons (ds_set 5 sc_law.nd (de_ix (de_var 4) (de_mod (de_fn (G_cell.mono (by decide)) hr tk (da_cons (de_var 0) (da_cons (de_int) (da_nil)))) (de_int))))
      (ds_cons (ds_set 6 sc_law.nd (de_ix (de_fls (da_cons (de_neg (de_int)) (da_cons (de_int) (da_cons (de_non) (da_cons (de_str) (da_cons (de_pow (de_int) (de_int)) (da_nil))))))) (de_mod (de_fn (G_cell.mono (by decide)) hr tk (da_cons (de_var 0) (da_cons (de_int) (da_nil)))) (de_int))))
      (ds_cons (ds_set 7 sc_law.nd (de_ix (de_fls (da_cons (de_tup (da_cons (de_str) (da_cons (de_int) (da_nil)))) (da_cons (de_tup (da_cons (de_str) (da_cons (de_int) (da_nil)))) (da_cons (de_tup (da_cons (de_str) (da_cons (de_neg (de_int)) (da_cons (de_int) (da_nil))))) (da_cons (de_non) (da_cons (de_str) (da_cons (de_tup (da_cons (de_str) (da_cons (de_int) (da_nil)))) (da_nil)))))))) (de_mod (de_fn (G_cell.mono (by decide)) hr tk (da_cons (de_var 0) (da_cons (de_int) (da_nil)))) (de_int))))
      (ds_cons (ds_set 8 sc_law.nd (de_tup (da_cons (de_tup (da_cons (de_str) (da_cons (de_int) (da_nil)))) (da_nil))))
      (ds_cons (ds_for (L2.passes_of rfl) rfl (di_seq (de_var 2)) (dg_name 9 sc_law.nd) (ds_one (ds_if (dt_bool (dw_or (dt_cmp (c_ne hr) (de_fn (G_kind.mono (by decide)) hr tk (da_cons (de_var 1) (da_cons (de_tup (da_cons (de_str) (da_cons (de_var 9) (da_nil)))) (da_nil)))) (de_str)) (dw_or1 (dt_cmp (c_ne hr) (de_fn (G_kind.mono (by decide)) hr tk (da_cons (de_var 1) (da_cons (de_tup (da_cons (de_str) (da_cons (de_var 9) (da_nil)))) (da_nil)))) (de_str))))) (ds_one (ds_ret (de_bl))) (ds_nil))))
      (ds_cons (ds_forR (L2.passes_of rfl) rfl (de_var 4) (dg_name 9 sc_law.nd) (ds_one (ds_if (dt_cmp (c_ne hr) (de_fn (G_kind.mono (by decide)) hr tk (da_cons (de_var 1) (da_cons (de_tup (da_cons (de_str) (da_cons (de_str) (da_cons (de_tup (da_cons (de_str) (da_cons (de_int) (da_nil)))) (da_cons (de_var 9) (da_nil)))))) (da_nil)))) (de_str)) (ds_one (ds_ret (de_bl))) (ds_nil))))
      (ds_cons (ds_for (L2.passes_of rfl) rfl (di_seq (de_fls (da_cons (de_neg (de_int)) (da_cons (de_int) (da_cons (de_non) (da_cons (de_str) (da_nil))))))) (dg_name 9 sc_law.nd) (ds_one (ds_if (dt_cmp (c_ne hr) (de_fn (G_kind.mono (by decide)) hr tk (da_cons (de_var 1) (da_cons (de_tup (da_cons (de_str) (da_cons (de_str) (da_cons (de_str) (da_cons (de_var 9) (da_nil)))))) (da_nil)))) (de_str)) (ds_one (ds_ret (de_bl))) (ds_nil))))
      (ds_cons (ds_set 10 sc_law.nd (de_fls (da_cons (de_tup (da_cons (de_tup (da_cons (de_str) (da_cons (de_var 3) (da_nil)))) (da_cons (de_str) (da_nil)))) (da_cons (de_tup (da_cons (de_tup (da_cons (de_str) (da_cons (de_var 3) (da_nil)))) (da_cons (de_str) (da_nil)))) (da_cons (de_tup (da_cons (de_tup (da_cons (de_str) (da_cons (de_var 3) (da_cons (de_var 7) (da_cons (de_var 5) (da_nil)))))) (da_cons (de_str) (da_nil)))) (da_cons (de_tup (da_cons (de_tup (da_cons (de_str) (da_cons (de_str) (da_cons (de_var 7) (da_cons (de_var 5) (da_nil)))))) (da_cons (de_str) (da_nil)))) (da_cons (de_tup (da_cons (de_tup (da_cons (de_str) (da_cons (de_str) (da_cons (de_tup (da_cons (de_str) (da_cons (de_int) (da_nil)))) (da_cons (de_var 5) (da_nil)))))) (da_cons (de_str) (da_nil)))) (da_cons (de_tup (da_cons (de_tup (da_cons (de_str) (da_cons (de_str) (da_cons (de_var 7) (da_cons (de_var 8) (da_nil)))))) (da_cons (de_str) (da_nil)))) (da_cons (de_tup (da_cons (de_tup (da_cons (de_str) (da_cons (de_var 3) (da_cons (de_str) (da_cons (de_var 6) (da_nil)))))) (da_cons (de_str) (da_nil)))) (da_cons (de_tup (da_cons (de_tup (da_cons (de_str) (da_cons (de_str) (da_cons (de_var 3) (da_cons (de_var 6) (da_nil)))))) (da_cons (de_str) (da_nil)))) (da_cons (de_tup (da_cons (de_tup (da_cons (de_str) (da_cons (de_str) (da_cons (de_str) (da_cons (de_var 6) (da_nil)))))) (da_cons (de_str) (da_nil)))) (da_cons (de_tup (da_cons (de_tup (da_cons (de_str) (da_cons (de_str) (da_cons (de_str) (da_cons (de_int) (da_nil)))))) (da_cons (de_str) (da_nil)))) (da_cons (de_tup (da_cons (de_tup (da_cons (de_str) (da_cons (de_str) (da_cons (de_tup (da_cons (de_str) (da_cons (de_int) (da_cons (de_int) (da_nil))))) (da_cons (de_var 8) (da_nil)))))) (da_cons (de_str) (da_nil)))) (da_nil))))))))))))))
      (ds_cons (ds_for (L2.passes_of rfl) rfl (di_seq (de_var 10)) (dg_tup rfl (dg_cons (dg_name 11 sc_law.nd) (dg_cons (dg_name 12 sc_law.nd) (dg_nil)))) (ds_one (ds_if (dt_not (dt_val (de_fn (G_same.mono (by decide)) hr tk (da_cons (de_fn (G_kind.mono (by decide)) hr tk (da_cons (de_var 1) (da_cons (de_var 11) (da_nil)))) (da_cons (de_var 12) (da_nil)))))) (ds_one (ds_ret (de_bl))) (ds_nil))))
      (ds_cons (ds_set 13 sc_law.nd (de_make0 (G_Market_init.mono (by decide)) hr tk))
      (ds_cons (ds_for (L2.passes_of rfl) rfl (di_seq (de_tup (da_cons (de_str) (da_cons (de_str) (da_cons (de_str) (da_cons (de_str) (da_cons (de_str) (da_cons (de_str) (da_nil))))))))) (dg_name 9 sc_law.nd) (ds_cons (ds_expr (de_meth T.c_Market (G_Market_add_insurer.mono (by decide)) hr tk (de_var 13) (da_cons (de_var 9) (da_nil))))
      (ds_one (ds_if (dt_inS (de_var 9) (de_str)) (ds_one (ds_expr (de_meth T.c_Market (G_Market_add_event.mono (by decide)) hr tk (de_var 13) (da_cons (de_addS (de_str) (de_var 9)) (da_nil))))) (ds_nil)))))
      (ds_cons (ds_if (dt_bool (dw_or (dt_cmp (c_ne hr) (de_fn (G_kind.mono (by decide)) hr tk (da_cons (de_var 13) (da_cons (de_tup (da_cons (de_str) (da_cons (de_str) (da_nil)))) (da_nil)))) (de_str)) (dw_or1 (dt_cmp (c_ne hr) (de_fn (G_kind.mono (by decide)) hr tk (da_cons (de_var 13) (da_cons (de_tup (da_cons (de_str) (da_cons (de_str) (da_nil)))) (da_nil)))) (de_str))))) (ds_one (ds_ret (de_bl))) (ds_nil))
      (ds_cons (ds_if (dt_not (dt_val (de_fn (G_same.mono (by decide)) hr tk (da_cons (de_tup (da_cons (de_fld T.c_Market T.n_Market_insurers (de_var 1)) (da_cons (de_fld T.c_Market T.n_Market_events (de_var 1)) (da_cons (de_blt (b_len T.z_len) rfl (da_cons (de_fld T.c_Market T.n_Market_treaties (de_var 1)) (da_nil))) (da_nil))))) (da_cons (de_tup (da_cons (de_tup (da_cons (de_str) (da_cons (de_str) (da_nil)))) (da_cons (de_tup (da_cons (de_str) (da_nil))) (da_cons (de_int) (da_nil))))) (da_nil)))))) (ds_one (ds_ret (de_bl))) (ds_nil))
      (ds_one (ds_ret (de_fn (G_same.mono (by decide)) hr tk (da_cons (de_meth T.c_Market (G_Market_direct.mono (by decide)) hr tk (de_var 1) (da_cons (de_str) (da_nil))) (da_cons (de_tup (da_cons (de_int) (da_cons (de_int) (da_nil)))) (da_nil))))))))))))))))))))))))))) agr

end
end DL

set_option maxRecDepth 100000
set_option maxHeartbeats 2000000
/-! L11: the law's run -/
namespace DL
open PySem PySem.Spec L2 PyProof.Rows
noncomputable section
def q1 : Fs := sSet 1 (fMake "Market" 0 m_Market_init fNil)
def q2 : Fs := sExpr (fMeth "Market" "add_insurer" 1 m_Market_add_insurer (fVar 1) (fCons (fC (.str "a")) (fNil)))
def q3 : Fs := sExpr (fMeth "Market" "add_insurer" 1 m_Market_add_insurer (fVar 1) (fCons (fC (.str "abcdefghijkl")) (fNil)))
def q4 : Fs := sExpr (fMeth "Market" "add_event" 1 m_Market_add_event (fVar 1) (fCons (fC (.str "e")) (fNil)))
def q5 : Fs := sSet 2 (fFls (fCons (fC (.str "")) (fCons (fC (.str "A")) (fCons (fC (.str "a1")) (fCons (fC (.str "abcdefghijklm")) (fCons (fC (.str "a b")) (fCons (fC .non) (fCons (fC (.int 7)) (fCons (fTup (fCons (fC (.str "a")) (fNil))) (fNil))))))))))
def q6 : Fs := sSet 3 (fBin oIx (fVar 2) (fBin oMod (fFn 2 m_cell (fCons (fVar 0) (fCons (fC (.int 0)) (fNil)))) (fC (.int 8))))
def q7 : Fs := sSet 4 (fLst (fCons (fTup (fNil)) (fCons (fFls (fCons (fTup (fCons (fC (.str "a")) (fCons (fC (.int 1)) (fNil)))) (fNil))) (fCons (fTup (fCons (fTup (fCons (fC (.str "a")) (fCons (fC (.int 0)) (fNil)))) (fNil))) (fCons (fTup (fCons (fTup (fCons (fC (.str "a")) (fCons (fC (.int 101)) (fNil)))) (fNil))) (fCons (fTup (fCons (fTup (fCons (fC (.str "a")) (fCons (fC (.int 60)) (fNil)))) (fCons (fTup (fCons (fC .non) (fCons (fC (.int 41)) (fNil)))) (fNil)))) (fCons (fTup (fCons (fTup (fCons (fC (.str "A")) (fCons (fC (.int 1)) (fNil)))) (fNil))) (fCons (fTup (fCons (fC (.str "a")) (fCons (fC (.int 1)) (fNil)))) (fCons (fTup (fCons (fTup (fCons (fC (.str "a")) (fCons (fC (.int 1)) (fCons (fC (.int 1)) (fNil))))) (fNil))) (fCons (fTup (fCons (fTup (fCons (fC .non) (fCons (fC (.str "1")) (fNil)))) (fNil))) (fNil)))))))))))
def q8 : Fs := sExpr (fMt oAppend (fVar 4) (fCons (fCall oTuple (fCons (fLc [14] (gN 14) (iOf kRan1 (fCons (fC (.int 7)) (fNil))) (tYesB) (C_law_1)) (fNil))) (fNil)))
def q9 : Fs := sSet 5 (fBin oIx (fVar 4) (fBin oMod (fFn 2 m_cell (fCons (fVar 0) (fCons (fC (.int 1)) (fNil)))) (fC (.int 10))))
def q10 : Fs := sSet 6 (fBin oIx (fFls (fCons (fNeg (fC (.int 1))) (fCons (fC (.int 100001)) (fCons (fC .non) (fCons (fC (.str "5")) (fCons (fBin oPow (fC (.int 10)) (fC (.int 30))) (fNil))))))) (fBin oMod (fFn 2 m_cell (fCons (fVar 0) (fCons (fC (.int 2)) (fNil)))) (fC (.int 5))))
def q11 : Fs := sSet 7 (fBin oIx (fFls (fCons (fTup (fCons (fC (.str "share")) (fCons (fC (.int 0)) (fNil)))) (fCons (fTup (fCons (fC (.str "layer")) (fCons (fC (.int 5)) (fNil)))) (fCons (fTup (fCons (fC (.str "layer")) (fCons (fNeg (fC (.int 1))) (fCons (fC (.int 1)) (fNil))))) (fCons (fC .non) (fCons (fC (.str "share")) (fCons (fTup (fCons (fC (.str "share")) (fCons (fC (.int 1001)) (fNil)))) (fNil)))))))) (fBin oMod (fFn 2 m_cell (fCons (fVar 0) (fCons (fC (.int 3)) (fNil)))) (fC (.int 6))))
def q12 : Fs := sSet 8 (fTup (fCons (fTup (fCons (fC (.str "a")) (fCons (fC (.int 1)) (fNil)))) (fNil)))
def q13 : Fs := sFor (gN 9) (iOf kSeq (fVar 2)) (B_law_1)
def q14 : Fs := sForR (gN 9) (fVar 4) (B_law_2)
def q15 : Fs := sFor (gN 9) (iOf kSeq (fFls (fCons (fNeg (fC (.int 1))) (fCons (fC (.int 100001)) (fCons (fC .non) (fCons (fC (.str "5")) (fNil))))))) (B_law_3)
def q16 : Fs := sSet 10 (fFls (fCons (fTup (fCons (fTup (fCons (fC (.str "insurer")) (fCons (fVar 3) (fNil)))) (fCons (fC (.str "name")) (fNil)))) (fCons (fTup (fCons (fTup (fCons (fC (.str "event")) (fCons (fVar 3) (fNil)))) (fCons (fC (.str "name")) (fNil)))) (fCons (fTup (fCons (fTup (fCons (fC (.str "treaty")) (fCons (fVar 3) (fCons (fVar 7) (fCons (fVar 5) (fNil)))))) (fCons (fC (.str "name")) (fNil)))) (fCons (fTup (fCons (fTup (fCons (fC (.str "treaty")) (fCons (fC (.str "nobody")) (fCons (fVar 7) (fCons (fVar 5) (fNil)))))) (fCons (fC (.str "cover")) (fNil)))) (fCons (fTup (fCons (fTup (fCons (fC (.str "treaty")) (fCons (fC (.str "nobody")) (fCons (fTup (fCons (fC (.str "share")) (fCons (fC (.int 1)) (fNil)))) (fCons (fVar 5) (fNil)))))) (fCons (fC (.str "panel")) (fNil)))) (fCons (fTup (fCons (fTup (fCons (fC (.str "treaty")) (fCons (fC (.str "a")) (fCons (fVar 7) (fCons (fVar 8) (fNil)))))) (fCons (fC (.str "cover")) (fNil)))) (fCons (fTup (fCons (fTup (fCons (fC (.str "loss")) (fCons (fVar 3) (fCons (fC (.str "a")) (fCons (fVar 6) (fNil)))))) (fCons (fC (.str "name")) (fNil)))) (fCons (fTup (fCons (fTup (fCons (fC (.str "loss")) (fCons (fC (.str "e")) (fCons (fVar 3) (fCons (fVar 6) (fNil)))))) (fCons (fC (.str "name")) (fNil)))) (fCons (fTup (fCons (fTup (fCons (fC (.str "loss")) (fCons (fC (.str "none")) (fCons (fC (.str "nobody")) (fCons (fVar 6) (fNil)))))) (fCons (fC (.str "amount")) (fNil)))) (fCons (fTup (fCons (fTup (fCons (fC (.str "loss")) (fCons (fC (.str "e")) (fCons (fC (.str "a")) (fCons (fC (.int 100000)) (fNil)))))) (fCons (fC (.str "done")) (fNil)))) (fCons (fTup (fCons (fTup (fCons (fC (.str "treaty")) (fCons (fC (.str "abcdefghijkl")) (fCons (fTup (fCons (fC (.str "layer")) (fCons (fC (.int 100000)) (fCons (fC (.int 100000)) (fNil))))) (fCons (fVar 8) (fNil)))))) (fCons (fC (.str "done")) (fNil)))) (fNil)))))))))))))
def q17 : Fs := sFor (gT 2 (gC (gN 11) (gC (gN 12) (gE)))) (iOf kSeq (fVar 10)) (B_law_4)
def q18 : Fs := sSet 13 (fMake "Market" 0 m_Market_init fNil)
def q19 : Fs := sFor (gN 9) (iOf kSeq (fTup (fCons (fC (.str "a")) (fCons (fC (.str "b")) (fCons (fC (.str "c")) (fCons (fC (.str "d")) (fCons (fC (.str "e")) (fCons (fC (.str "f")) (fNil))))))))) (B_law_5)
def q20 : Fs := sIf (fOr (fB (fBin (oEq true) (fFn 2 m_kind (fCons (fVar 13) (fCons (fTup (fCons (fC (.str "insurer")) (fCons (fC (.str "")) (fNil)))) (fNil)))) (fC (.str "name")))) (fB (fBin (oEq true) (fFn 2 m_kind (fCons (fVar 13) (fCons (fTup (fCons (fC (.str "event")) (fCons (fC (.str "A")) (fNil)))) (fNil)))) (fC (.str "name"))))) (sRet (fC (.bl false))) (sNil)
def q21 : Fs := sIf (fNot (fTru (fFn 2 (m_same 3) (fCons (fTup (fCons (fFld "Market" "insurers" (fVar 1)) (fCons (fFld "Market" "events" (fVar 1)) (fCons (fCall oLen (fCons (fFld "Market" "treaties" (fVar 1)) (fNil))) (fNil))))) (fCons (fTup (fCons (fTup (fCons (fC (.str "a")) (fCons (fC (.str "abcdefghijkl")) (fNil)))) (fCons (fTup (fCons (fC (.str "e")) (fNil))) (fCons (fC (.int 1)) (fNil))))) (fNil)))))) (sRet (fC (.bl false))) (sNil)
def q22 : Fs := sRet (fFn 2 (m_same 3) (fCons (fMeth "Market" "direct" 1 m_Market_direct (fVar 1) (fCons (fC (.str "e")) (fNil))) (fCons (fTup (fCons (fC (.int 100000)) (fCons (fC (.int 0)) (fNil)))) (fNil))))
theorem F_law_eq : F_law = sSeq q1 (sSeq q2 (sSeq q3 (sSeq q4 (sSeq q5 (sSeq q6 (sSeq q7 (sSeq q8 (sSeq q9 (sSeq q10 (sSeq q11 (sSeq q12 (sSeq q13 (sSeq q14 (sSeq q15 (sSeq q16 (sSeq q17 (sSeq q18 (sSeq q19 (sSeq q20 (sSeq q21 (q22))))))))))))))))))))) := rfl

def namesL : List D := [.str "", .str "A", .str "a1", .str "abcdefghijklm", .str "a b", .non, .int 7, .tup [.str "a"]]
def panels9 : List D := [.tup [], .lst [.tup [.str "a", .int 1]], .tup [.tup [.str "a", .int 0]], .tup [.tup [.str "a", .int 101]], .tup [.tup [.str "a", .int 60], .tup [.non, .int 41]], .tup [.tup [.str "A", .int 1]], .tup [.str "a", .int 1], .tup [.tup [.str "a", .int 1, .int 1]], .tup [.tup [.non, .str "1"]]]
def panelsL : List D := panels9 ++ [.tup (["a", "b", "c", "d", "e", "f", "g"].map fun s => .tup [.str (PySem.Str.ofString s), .int 1])]
def amountsL : List D := [.int (-1), .int 100001, .non, .str "5", .int 1000000000000000000000000000000]
def coversL : List D := [.tup [.str "share", .int 0], .tup [.str "layer", .int 5], .tup [.str "layer", .int (-1), .int 1], .non, .str "share", .tup [.str "share", .int 1001]]
def goodD : D := .tup [.tup [.str "a", .int 1]]
def mk0 : Cell := .obj "Market" [("insurers", .tup [.str "a", .str "abcdefghijkl"]), ("events", .tup [.str "e"]), ("treaties", .tup []), ("losses", .ref 1)]
def Sa : Sto := [mk0, .dct []]
def Sb : Sto := [mk0, .dct [], .lst panels9]
def Sc : Sto := [mk0, .dct [], .lst panelsL]
theorem atI_mod {l : List D} {c n : Int} (hn : 0 < n) (hl : (l.length : Int) = n) : ∃ d, atI l (c % n) = some d ∧ d ∈ l := by
  have h0 := Int.emod_nonneg c (Int.ne_of_gt hn)
  have h1 := Int.emod_lt_of_pos c hn
  obtain ⟨j, hj⟩ := Int.eq_ofNat_of_zero_le h0
  have hjl : j < l.length := by omega
  exact ⟨l[j], by rw [hj]; exact atI_get hjl, List.getElem_mem hjl⟩
theorem q_ix {i b : Nat} {fl : Fe} {ns : List Int} {k n : Int} {L : List D} {ds : Ev} {S : Sto} {x d : D} (h0 : ds[0]? = some (some (.scr ns))) (hl : fl ds S = .ok x S) (hs : seqOf S x = some L) (hk : 0 ≤ k) (hn : 0 < n)
    (ha : atI L (ns.getD k.toNat 0 % n) = some d) : sSet i (fBin oIx fl (fBin oMod (fFn 2 m_cell (fCons (fVar 0) (fCons (fC (.int k)) (fNil)))) (fC (.int n)))) b ds S = .nx (ds.set i (some d)) S := by
  have hc := cell_at ns hk S
  have hm : oMod (.int (ns.getD k.toNat 0)) (.int n) S = .ok (.int (ns.getD k.toNat 0 % n)) S := oMod_i hn
  have hx : oIx x (.int (ns.getD k.toNat 0 % n)) S = .ok d S := by
    show (match seqOf S x, D.int (ns.getD k.toNat 0 % n) with
      | some l, .int i => match atI l i with
        | some d => Res.ok d S
        | none => .bad
      | _, _ => .bad) = _
    rw [hs]; dsimp only; rw [ha]
  simp only [sSet, fBin, fFn, fCons, fVar, fC, fNil, hl, Res.bind, h0, List.length_cons, List.length_nil, Nat.reduceAdd, if_true, hc, hm, hx, Res.go]
/-! the deeds -/
theorem k_treaty_name {nm : D} (h : nm ∈ namesL) (cv pn : D) : m_kind [.ref 0, .tup [.str "treaty", nm, cv, pn]] Sc = .ok (.str "name") Sc := by
  simp only [namesL, List.mem_cons, List.not_mem_nil, or_false] at h
  rcases h with rfl | rfl | rfl | rfl | rfl | rfl | rfl | rfl <;> kernel_rfl
theorem k_insurer {nm : D} (h : nm ∈ namesL) : m_kind [.ref 0, .tup [.str "insurer", nm]] Sc = .ok (.str "name") Sc := by
  simp only [namesL, List.mem_cons, List.not_mem_nil, or_false] at h
  rcases h with rfl | rfl | rfl | rfl | rfl | rfl | rfl | rfl <;> kernel_rfl
theorem k_event {nm : D} (h : nm ∈ namesL) : m_kind [.ref 0, .tup [.str "event", nm]] Sc = .ok (.str "name") Sc := by
  simp only [namesL, List.mem_cons, List.not_mem_nil, or_false] at h
  rcases h with rfl | rfl | rfl | rfl | rfl | rfl | rfl | rfl <;> kernel_rfl
theorem k_loss1 {nm : D} (h : nm ∈ namesL) (am : D) : m_kind [.ref 0, .tup [.str "loss", nm, .str "a", am]] Sc = .ok (.str "name") Sc := by
  simp only [namesL, List.mem_cons, List.not_mem_nil, or_false] at h
  rcases h with rfl | rfl | rfl | rfl | rfl | rfl | rfl | rfl <;> kernel_rfl
theorem k_loss2 {nm : D} (h : nm ∈ namesL) (am : D) : m_kind [.ref 0, .tup [.str "loss", .str "e", nm, am]] Sc = .ok (.str "name") Sc := by
  simp only [namesL, List.mem_cons, List.not_mem_nil, or_false] at h
  rcases h with rfl | rfl | rfl | rfl | rfl | rfl | rfl | rfl <;> kernel_rfl
theorem k_cover1 {cv : D} (h : cv ∈ coversL) (pn : D) : m_kind [.ref 0, .tup [.str "treaty", .str "nobody", cv, pn]] Sc = .ok (.str "cover") Sc := by
  simp only [coversL, List.mem_cons, List.not_mem_nil, or_false] at h
  rcases h with rfl | rfl | rfl | rfl | rfl | rfl <;> kernel_rfl
theorem k_cover2 {cv : D} (h : cv ∈ coversL) (pn : D) : m_kind [.ref 0, .tup [.str "treaty", .str "a", cv, pn]] Sc = .ok (.str "cover") Sc := by
  simp only [coversL, List.mem_cons, List.not_mem_nil, or_false] at h
  rcases h with rfl | rfl | rfl | rfl | rfl | rfl <;> kernel_rfl
theorem k_panel {pn : D} (h : pn ∈ panelsL) : m_kind [.ref 0, .tup [.str "treaty", .str "nobody", .tup [.str "share", .int 1], pn]] Sc = .ok (.str "panel") Sc := by
  simp only [panelsL, panels9, List.mem_append, List.mem_cons, List.not_mem_nil, or_false] at h
  rcases h with (rfl | rfl | rfl | rfl | rfl | rfl | rfl | rfl | rfl) | rfl <;> kernel_rfl
theorem k_amount {am : D} (h : am ∈ amountsL) : m_kind [.ref 0, .tup [.str "loss", .str "none", .str "nobody", am]] Sc = .ok (.str "amount") Sc := by
  simp only [amountsL, List.mem_cons, List.not_mem_nil, or_false] at h
  rcases h with rfl | rfl | rfl | rfl | rfl <;> kernel_rfl
def stoR : Res D → Sto
  | .ok _ S => S
  | .exc _ S => S
  | .bad => []
def stoS : RS → Sto
  | .nx _ S => S
  | .rt _ S => S
  | .bk _ S => S
  | .ct _ S => S
  | .exc _ _ S => S
  | .bad => []
def envS : RS → Ev
  | .nx ds _ => ds
  | _ => []
def Sd : Sto := stoR (m_kind [.ref 0, .tup [.str "loss", .str "e", .str "a", .int 100000]] Sc)
theorem k_done1 : m_kind [.ref 0, .tup [.str "loss", .str "e", .str "a", .int 100000]] Sc = .ok (.str "done") Sd := by kernel_rfl
def Se : Sto := stoR (m_kind [.ref 0, .tup [.str "treaty", .str "abcdefghijkl", .tup [.str "layer", .int 100000, .int 100000], goodD]] Sd)
theorem k_done2 : m_kind [.ref 0, .tup [.str "treaty", .str "abcdefghijkl", .tup [.str "layer", .int 100000, .int 100000], goodD]] Sd = .ok (.str "done") Se := by kernel_rfl
theorem same_str {s : PySem.Str} {S : Sto} (h : PyData.canLay0 (.str s) = true) : m_same 3 [.str s, .str s] S = .ok (.bl true) S := m_same_ok (by simpa [pl] using h)
/-- one deed -/
theorem deed_at {ds : Ev} {S S' : Sto} {b : Nat} {deed : D} {s : PySem.Str} (h1 : ds[1]? = some (some (.ref 0))) (h11 : 13 ≤ ds.length) (hk : m_kind [.ref 0, deed] S = .ok (.str s) S') (hc : PyData.canLay0 (.str s) = true) :
    B_law_4 b ((ds.set 11 (some deed)).set 12 (some (.str s))) S = .nx ((ds.set 11 (some deed)).set 12 (some (.str s))) S' := by
  have e1 : ((ds.set 11 (some deed)).set 12 (some (.str s)))[1]? = some (some (.ref 0)) := by simp [h1]
  have e2 : ((ds.set 11 (some deed)).set 12 (some (.str s)))[11]? = some (some deed) := by
    rw [List.getElem?_set_ne (by decide), List.getElem?_set_self (by omega)]
  have e3 : ((ds.set 11 (some deed)).set 12 (some (.str s)))[12]? = some (some (.str s)) := by
    rw [List.getElem?_set_self (by rw [List.length_set]; omega)]
  have hs := same_str (S := S') hc
  simp only [B_law_4, sIf, fNot, fTru, fFn, fCons, fVar, fNil, e1, e2, e3, Res.bind, List.length_cons, List.length_nil, Nat.reduceAdd, if_true, hk, hs, truD_bl, Res.go, Bool.not_true, Bool.false_eq_true, if_false, sNil]
/-- the names' values -/
def en (ns : List Int) (a1 a2 a3 a4 a5 a6 a7 a8 a9 a10 a11 a12 a13 a14 : Option D) : Ev := [some (.scr ns), a1, a2, a3, a4, a5, a6, a7, a8, a9, a10, a11, a12, a13, a14]
theorem deed_step {ns : List Int} {a2 a3 a4 a5 a6 a7 a8 a9 a10 a11 a12 a13 a14 : Option D} {S S' : Sto} {b : Nat} {deed : D} {s : PySem.Str} {r : List D} (hk : m_kind [.ref 0, deed] S = .ok (.str s) S') (hc : PyData.canLay0 (.str s) = true) :
    forL (gT 2 (gC (gN 11) (gC (gN 12) (gE)))) B_law_4 b (.tup [deed, .str s] :: r) (en ns (some (.ref 0)) a2 a3 a4 a5 a6 a7 a8 a9 a10 a11 a12 a13 a14) S = forL (gT 2 (gC (gN 11) (gC (gN 12) (gE)))) B_law_4 b r (en ns (some (.ref 0)) a2 a3 a4 a5 a6 a7 a8 a9 a10 (some deed) (some (.str s)) a13 a14) S' := by
  have := deed_at (ds := en ns (some (.ref 0)) a2 a3 a4 a5 a6 a7 a8 a9 a10 a11 a12 a13 a14) (b := b) rfl (by simp [en]) hk hc
  show (match B_law_4 b (((en ns (some (.ref 0)) a2 a3 a4 a5 a6 a7 a8 a9 a10 a11 a12 a13 a14).set 11 (some deed)).set 12 (some (.str s))) S with
    | .nx ds' S' => forL (gT 2 (gC (gN 11) (gC (gN 12) (gE)))) B_law_4 b r ds' S'
    | .ct ds' S' => forL (gT 2 (gC (gN 11) (gC (gN 12) (gE)))) B_law_4 b r ds' S'
    | .bk ds' S' => .nx ds' S'
    | .rt d S' => .rt d S'
    | .exc x ds' S' => .exc x ds' S'
    | .bad => .bad) = _
  rw [this]
  rfl
def deedsL (nm pn am cv : D) : List D := [
  .tup [.tup [.str "insurer", nm], .str "name"], .tup [.tup [.str "event", nm], .str "name"], .tup [.tup [.str "treaty", nm, cv, pn], .str "name"],
  .tup [.tup [.str "treaty", .str "nobody", cv, pn], .str "cover"], .tup [.tup [.str "treaty", .str "nobody", .tup [.str "share", .int 1], pn], .str "panel"],
  .tup [.tup [.str "treaty", .str "a", cv, goodD], .str "cover"], .tup [.tup [.str "loss", nm, .str "a", am], .str "name"], .tup [.tup [.str "loss", .str "e", nm, am], .str "name"],
  .tup [.tup [.str "loss", .str "none", .str "nobody", am], .str "amount"], .tup [.tup [.str "loss", .str "e", .str "a", .int 100000], .str "done"],
  .tup [.tup [.str "treaty", .str "abcdefghijkl", .tup [.str "layer", .int 100000, .int 100000], goodD], .str "done"]]
def tailF : Fs := sSeq q18 (sSeq q19 (sSeq q20 (sSeq q21 q22)))
theorem m_law_yes (ns : List Int) (hl : ns.length ≤ 63) : ∃ S, m_law [.scr ns] [] = .ok (.bl true) S := by
  obtain ⟨nm, a1, hnm⟩ := atI_mod (l := namesL) (c := ns.getD 0 0) (n := 8) (by decide) rfl
  obtain ⟨pn, a2, hpn⟩ := atI_mod (l := panelsL) (c := ns.getD 1 0) (n := 10) (by decide) rfl
  obtain ⟨am, a3, ham⟩ := atI_mod (l := amountsL) (c := ns.getD 2 0) (n := 5) (by decide) rfl
  obtain ⟨cv, a4, hcv⟩ := atI_mod (l := coversL) (c := ns.getD 3 0) (n := 6) (by decide) rfl
  obtain ⟨Sd', hd, kd⟩ : ∃ S, S = Sd ∧ m_kind [.ref 0, .tup [.str "loss", .str "e", .str "a", .int 100000]] Sc = .ok (.str "done") S := ⟨Sd, rfl, k_done1⟩
  obtain ⟨Se', he, ke⟩ : ∃ S, S = Se ∧ m_kind [.ref 0, .tup [.str "treaty", .str "abcdefghijkl", .tup [.str "layer", .int 100000, .int 100000], goodD]] Sd' = .ok (.str "done") S := ⟨Se, rfl, by rw [hd]; exact k_done2⟩
  have run : ∃ Sz, F_law 0 (en ns none none none none none none none none none none none none none none) [] = .rt (.bl true) Sz := by
    rw [F_law_eq]
    rw [sSeq_nx (show q1 0 (en ns none none none none none none none none none none none none none none) [] = .nx (en ns (some (.ref 0)) none none none none none none none none none none none none none) (stoS (q1 0 (en ns none none none none none none none none none none none none none none) [])) from by kernel_rfl)]
    rw [sSeq_nx (show q2 0 (en ns (some (.ref 0)) none none none none none none none none none none none none none) (stoS (q1 0 (en ns none none none none none none none none none none none none none none) [])) = .nx (en ns (some (.ref 0)) none none none none none none none none none none none none none) [.obj "Market" [("insurers", .tup [.str "a"]), ("events", .tup []), ("treaties", .tup []), ("losses", .ref 1)], .dct []] from by kernel_rfl)]
    rw [sSeq_nx (show q3 0 (en ns (some (.ref 0)) none none none none none none none none none none none none none) [.obj "Market" [("insurers", .tup [.str "a"]), ("events", .tup []), ("treaties", .tup []), ("losses", .ref 1)], .dct []] = .nx (en ns (some (.ref 0)) none none none none none none none none none none none none none) [.obj "Market" [("insurers", .tup [.str "a", .str "abcdefghijkl"]), ("events", .tup []), ("treaties", .tup []), ("losses", .ref 1)], .dct []] from by kernel_rfl)]
    rw [sSeq_nx (show q4 0 (en ns (some (.ref 0)) none none none none none none none none none none none none none) [.obj "Market" [("insurers", .tup [.str "a", .str "abcdefghijkl"]), ("events", .tup []), ("treaties", .tup []), ("losses", .ref 1)], .dct []] = .nx (en ns (some (.ref 0)) none none none none none none none none none none none none none) Sa from by kernel_rfl)]
    rw [sSeq_nx (show q5 0 (en ns (some (.ref 0)) none none none none none none none none none none none none none) Sa = .nx (en ns (some (.ref 0)) (some (.lst namesL)) none none none none none none none none none none none none) Sa from by kernel_rfl)]
    rw [sSeq_nx (show q6 0 (en ns (some (.ref 0)) (some (.lst namesL)) none none none none none none none none none none none none) Sa = .nx (en ns (some (.ref 0)) (some (.lst namesL)) (some nm) none none none none none none none none none none none) Sa from q_ix (L := namesL) rfl rfl rfl (by decide) (by decide) a1)]
    rw [sSeq_nx (show q7 0 (en ns (some (.ref 0)) (some (.lst namesL)) (some nm) none none none none none none none none none none none) Sa = .nx (en ns (some (.ref 0)) (some (.lst namesL)) (some nm) (some (.ref 2)) none none none none none none none none none none) Sb from by kernel_rfl)]
    rw [sSeq_nx (show q8 0 (en ns (some (.ref 0)) (some (.lst namesL)) (some nm) (some (.ref 2)) none none none none none none none none none none) Sb = .nx (en ns (some (.ref 0)) (some (.lst namesL)) (some nm) (some (.ref 2)) none none none none none none none none none none) Sc from by kernel_rfl)]
    rw [sSeq_nx (show q9 0 (en ns (some (.ref 0)) (some (.lst namesL)) (some nm) (some (.ref 2)) none none none none none none none none none none) Sc = .nx (en ns (some (.ref 0)) (some (.lst namesL)) (some nm) (some (.ref 2)) (some pn) none none none none none none none none none) Sc from q_ix (L := panelsL) rfl rfl rfl (by decide) (by decide) a2)]
    rw [sSeq_nx (show q10 0 (en ns (some (.ref 0)) (some (.lst namesL)) (some nm) (some (.ref 2)) (some pn) none none none none none none none none none) Sc = .nx (en ns (some (.ref 0)) (some (.lst namesL)) (some nm) (some (.ref 2)) (some pn) (some am) none none none none none none none none) Sc from q_ix (x := .lst amountsL) (L := amountsL) rfl (by kernel_rfl) rfl (by decide) (by decide) a3)]
    rw [sSeq_nx (show q11 0 (en ns (some (.ref 0)) (some (.lst namesL)) (some nm) (some (.ref 2)) (some pn) (some am) none none none none none none none none) Sc = .nx (en ns (some (.ref 0)) (some (.lst namesL)) (some nm) (some (.ref 2)) (some pn) (some am) (some cv) none none none none none none none) Sc from q_ix (x := .lst coversL) (L := coversL) rfl (by kernel_rfl) rfl (by decide) (by decide) a4)]
    rw [sSeq_nx (show q12 0 (en ns (some (.ref 0)) (some (.lst namesL)) (some nm) (some (.ref 2)) (some pn) (some am) (some cv) none none none none none none none) Sc = .nx (en ns (some (.ref 0)) (some (.lst namesL)) (some nm) (some (.ref 2)) (some pn) (some am) (some cv) (some goodD) none none none none none none) Sc from by kernel_rfl)]
    rw [sSeq_nx (show q13 0 (en ns (some (.ref 0)) (some (.lst namesL)) (some nm) (some (.ref 2)) (some pn) (some am) (some cv) (some goodD) none none none none none none) Sc = .nx (en ns (some (.ref 0)) (some (.lst namesL)) (some nm) (some (.ref 2)) (some pn) (some am) (some cv) (some goodD) (some (.tup [.str "a"])) none none none none none) Sc from by kernel_rfl)]
    rw [sSeq_nx (show q14 0 (en ns (some (.ref 0)) (some (.lst namesL)) (some nm) (some (.ref 2)) (some pn) (some am) (some cv) (some goodD) (some (.tup [.str "a"])) none none none none none) Sc = .nx (en ns (some (.ref 0)) (some (.lst namesL)) (some nm) (some (.ref 2)) (some pn) (some am) (some cv) (some goodD) (some (.tup (["a", "b", "c", "d", "e", "f", "g"].map fun s => .tup [.str (PySem.Str.ofString s), .int 1]))) none none none none none) Sc from by kernel_rfl)]
    rw [sSeq_nx (show q15 0 (en ns (some (.ref 0)) (some (.lst namesL)) (some nm) (some (.ref 2)) (some pn) (some am) (some cv) (some goodD) (some (.tup (["a", "b", "c", "d", "e", "f", "g"].map fun s => .tup [.str (PySem.Str.ofString s), .int 1]))) none none none none none) Sc = .nx (en ns (some (.ref 0)) (some (.lst namesL)) (some nm) (some (.ref 2)) (some pn) (some am) (some cv) (some goodD) (some (.str "5")) none none none none none) Sc from by kernel_rfl)]
    rw [sSeq_nx (show q16 0 (en ns (some (.ref 0)) (some (.lst namesL)) (some nm) (some (.ref 2)) (some pn) (some am) (some cv) (some goodD) (some (.str "5")) none none none none none) Sc = .nx (en ns (some (.ref 0)) (some (.lst namesL)) (some nm) (some (.ref 2)) (some pn) (some am) (some cv) (some goodD) (some (.str "5")) (some (.lst (deedsL nm pn am cv))) none none none none) Sc from by kernel_rfl)]
    have h17 : q17 0 (en ns (some (.ref 0)) (some (.lst namesL)) (some nm) (some (.ref 2)) (some pn) (some am) (some cv) (some goodD) (some (.str "5")) (some (.lst (deedsL nm pn am cv))) none none none none) Sc = .nx (en ns (some (.ref 0)) (some (.lst namesL)) (some nm) (some (.ref 2)) (some pn) (some am) (some cv) (some goodD) (some (.str "5")) (some (.lst (deedsL nm pn am cv))) (some (.tup [.str "treaty", .str "abcdefghijkl", .tup [.str "layer", .int 100000, .int 100000], goodD])) (some (.str "done")) none none) Se' := by
      show forL (gT 2 (gC (gN 11) (gC (gN 12) (gE)))) B_law_4 3 (deedsL nm pn am cv) _ Sc = _
      unfold deedsL
      rw [deed_step (k_insurer hnm) (by decide +kernel), deed_step (k_event hnm) (by decide +kernel), deed_step (k_treaty_name hnm cv pn) (by decide +kernel), deed_step (k_cover1 hcv pn) (by decide +kernel), deed_step (k_panel hpn) (by decide +kernel),
        deed_step (k_cover2 hcv goodD) (by decide +kernel), deed_step (k_loss1 hnm am) (by decide +kernel), deed_step (k_loss2 hnm am) (by decide +kernel), deed_step (k_amount ham) (by decide +kernel), deed_step kd (by decide +kernel), deed_step ke (by decide +kernel)]
      rfl
    rw [sSeq_nx h17]
    exact ⟨stoS (tailF 0 (en ns (some (.ref 0)) (some (.lst namesL)) (some nm) (some (.ref 2)) (some pn) (some am) (some cv) (some goodD) (some (.str "5")) (some (.lst (deedsL nm pn am cv))) (some (.tup [.str "treaty", .str "abcdefghijkl", .tup [.str "layer", .int 100000, .int 100000], goodD])) (some (.str "done")) none none) Se), by rw [he]; kernel_rfl⟩
  obtain ⟨Sz, run⟩ := run
  refine ⟨Sz, ?_⟩
  show (match F_law 0 (en ns none none none none none none none none none none none none none none) [] with
    | .rt d S' => Res.ok d S'
    | .nx _ S' => .ok .non S'
    | .exc x _ S' => .exc x S'
    | _ => .bad) = _
  rw [run]
end
end DL

set_option maxRecDepth 100000
set_option maxHeartbeats 2000000
/-! E11: the end -/
namespace DL
open PySem PySem.Spec L2 PyProof.Rows
noncomputable section
theorem law_all {P : Program} {w : World} {K : PySem.W.Frag} {mg : PySem.Str → Option Value} {base : Heap} {f : Addr} {fd : FuncData} (T : Txt K mg) (D_cell : Dfn K mg "_law_cell" s_cell ["_law_script", "_law_k"]) (D_is_integer : Dfn K mg "_law_is_integer" s_is_integer ["_law_actual"]) (D_same : Dfn K mg "_law_same" s_same ["_law_actual", "_law_expected"]) (D_is_number : Dfn K mg "is_number" s_is_number ["value", "least", "most"]) (D_is_cover : Dfn K mg "is_cover" s_is_cover ["value"]) (D_check_cover : Dfn K mg "check_cover" s_check_cover ["value"]) (D_recovery : Dfn K mg "recovery" s_recovery ["cover", "loss"]) (D_programme : Dfn K mg "programme" s_programme ["covers", "loss"]) (D_allocate : Dfn K mg "allocate" s_allocate ["amount", "shares"]) (D_numbers_of : Dfn K mg "numbers_of" s_numbers_of ["treaties", "insurer"]) (D_payments : Dfn K mg "payments" s_payments ["insurers", "treaties", "gross"]) (D_parts_of : Dfn K mg "parts_of" s_parts_of ["treaty", "amount"]) (D_next_gross : Dfn K mg "next_gross" s_next_gross ["insurers", "treaties", "direct", "gross"]) (D_rounds_of : Dfn K mg "rounds_of" s_rounds_of ["insurers", "treaties", "direct"]) (D_is_name : Dfn K mg "is_name" s_is_name ["value"]) (D_is_panel : Dfn K mg "is_panel" s_is_panel ["value"]) (D_check_name : Dfn K mg "check_name" s_check_name ["value"]) (D_check_panel : Dfn K mg "check_panel" s_check_panel ["value"]) (D_Market_init : Ini K mg "Market" "Market.__init__" s_Market_init ["self"]) (D_Market_copy : Mth K "Market" "copy" "Market.copy" s_Market_copy ["self"]) (D_Market_check_insurer : Mth K "Market" "check_insurer" "Market.check_insurer" s_Market_check_insurer ["self", "name"]) (D_Market_check_event : Mth K "Market" "check_event" "Market.check_event" s_Market_check_event ["self", "name"]) (D_Market_direct : Mth K "Market" "direct" "Market.direct" s_Market_direct ["self", "event"]) (D_Market_check_end : Mth K "Market" "check_end" "Market.check_end" s_Market_check_end ["self"]) (D_Market_add_insurer : Mth K "Market" "add_insurer" "Market.add_insurer" s_Market_add_insurer ["self", "name"]) (D_Market_add_event : Mth K "Market" "add_event" "Market.add_event" s_Market_add_event ["self", "name"]) (D_Market_check_treaty_parts : Mth K "Market" "check_treaty_parts" "Market.check_treaty_parts" s_Market_check_treaty_parts ["self", "cedent", "panel"]) (D_Market_try_treaties : Mth K "Market" "try_treaties" "Market.try_treaties" s_Market_try_treaties ["self", "treaties"]) (D_Market_add_treaty : Mth K "Market" "add_treaty" "Market.add_treaty" s_Market_add_treaty ["self", "cedent", "cover", "panel"]) (D_Market_set_loss : Mth K "Market" "set_loss" "Market.set_loss" s_Market_set_loss ["self", "event", "insurer", "amount"]) (D_kind : Dfn K mg "_law_kind" s_kind ["_law_market", "_law_deed"]) (FL : Fun K "law" "law" s_law f fd) : FnOk P w K mg base (L2.CX P w) 10 f fd ["_law_script"] (spLaw K) := by
  have G_cell : CalN P w K mg base 1 "_law_cell" 2 m_cell := ok_cell T D_cell agr_cell
  have G_is_integer : CalN P w K mg base 1 "_law_is_integer" 1 m_is_integer := ok_is_integer T D_is_integer agr_is_integer
  have G_same0 : CalN P w K mg base 1 "_law_same" 2 (m_same 0) := caln_bad D_same rfl fun ds S => m_same_zero ds S
  have G_same1 : CalN P w K mg base 2 "_law_same" 2 (m_same 1) := ok_same 1 0 (by decide) T D_same G_is_integer G_same0 (agr_same 0)
  have G_same2 : CalN P w K mg base 3 "_law_same" 2 (m_same 2) := ok_same 2 1 (by decide) T D_same G_is_integer G_same1 (agr_same 1)
  have G_same : CalN P w K mg base 4 "_law_same" 2 (m_same 3) := ok_same 3 2 (by decide) T D_same G_is_integer G_same2 (agr_same 2)
  have G_is_number : CalN P w K mg base 1 "is_number" 3 m_is_number := ok_is_number T D_is_number agr_is_number
  have G_is_cover : CalN P w K mg base 2 "is_cover" 1 m_is_cover := ok_is_cover T D_is_cover G_is_number agr_is_cover
  have G_check_cover : CalN P w K mg base 3 "check_cover" 1 m_check_cover := ok_check_cover T D_check_cover G_is_cover agr_check_cover
  have G_recovery : CalN P w K mg base 1 "recovery" 2 m_recovery := ok_recovery T D_recovery agr_recovery
  have G_programme : CalN P w K mg base 2 "programme" 2 m_programme := ok_programme T D_programme G_recovery agr_programme
  have G_allocate : CalN P w K mg base 1 "allocate" 2 m_allocate := ok_allocate T D_allocate agr_allocate
  have G_numbers_of : CalN P w K mg base 1 "numbers_of" 2 m_numbers_of := ok_numbers_of T D_numbers_of agr_numbers_of
  have G_payments : CalN P w K mg base 3 "payments" 3 m_payments := ok_payments T D_payments G_numbers_of G_programme agr_payments
  have G_parts_of : CalN P w K mg base 2 "parts_of" 2 m_parts_of := ok_parts_of T D_parts_of G_allocate agr_parts_of
  have G_next_gross : CalN P w K mg base 4 "next_gross" 4 m_next_gross := ok_next_gross T D_next_gross G_parts_of G_payments agr_next_gross
  have G_rounds_of : CalN P w K mg base 5 "rounds_of" 3 m_rounds_of := ok_rounds_of T D_rounds_of G_next_gross agr_rounds_of
  have G_is_name : CalN P w K mg base 1 "is_name" 1 m_is_name := ok_is_name T D_is_name agr_is_name
  have G_is_panel : CalN P w K mg base 2 "is_panel" 1 m_is_panel := ok_is_panel T D_is_panel G_is_number G_is_name agr_is_panel
  have G_check_name : CalN P w K mg base 2 "check_name" 1 m_check_name := ok_check_name T D_check_name G_is_name agr_check_name
  have G_check_panel : CalN P w K mg base 3 "check_panel" 1 m_check_panel := ok_check_panel T D_check_panel G_is_panel agr_check_panel
  have G_Market_init : CalI P w K mg base 1 "Market" 0 m_Market_init := ok_Market_init T D_Market_init agr_Market_init
  have G_Market_copy : CalM P w K mg base 3 "Market" "copy" 0 m_Market_copy := ok_Market_copy T D_Market_copy G_Market_init agr_Market_copy
  have G_Market_check_insurer : CalM P w K mg base 1 "Market" "check_insurer" 1 m_Market_check_insurer := ok_Market_check_insurer T D_Market_check_insurer agr_Market_check_insurer
  have G_Market_check_event : CalM P w K mg base 1 "Market" "check_event" 1 m_Market_check_event := ok_Market_check_event T D_Market_check_event agr_Market_check_event
  have G_Market_direct : CalM P w K mg base 2 "Market" "direct" 1 m_Market_direct := ok_Market_direct T D_Market_direct G_Market_check_event agr_Market_direct
  have G_Market_check_end : CalM P w K mg base 6 "Market" "check_end" 0 m_Market_check_end := ok_Market_check_end T D_Market_check_end G_Market_direct G_rounds_of agr_Market_check_end
  have G_Market_add_insurer : CalM P w K mg base 3 "Market" "add_insurer" 1 m_Market_add_insurer := ok_Market_add_insurer T D_Market_add_insurer G_check_name agr_Market_add_insurer
  have G_Market_add_event : CalM P w K mg base 3 "Market" "add_event" 1 m_Market_add_event := ok_Market_add_event T D_Market_add_event G_check_name agr_Market_add_event
  have G_Market_check_treaty_parts : CalM P w K mg base 2 "Market" "check_treaty_parts" 2 m_Market_check_treaty_parts := ok_Market_check_treaty_parts T D_Market_check_treaty_parts G_Market_check_insurer agr_Market_check_treaty_parts
  have G_Market_try_treaties : CalM P w K mg base 7 "Market" "try_treaties" 1 m_Market_try_treaties := ok_Market_try_treaties T D_Market_try_treaties G_Market_copy G_Market_check_end agr_Market_try_treaties
  have G_Market_add_treaty : CalM P w K mg base 8 "Market" "add_treaty" 3 m_Market_add_treaty := ok_Market_add_treaty T D_Market_add_treaty G_check_name G_check_cover G_check_panel G_Market_check_treaty_parts G_Market_try_treaties agr_Market_add_treaty
  have G_Market_set_loss : CalM P w K mg base 7 "Market" "set_loss" 3 m_Market_set_loss := ok_Market_set_loss T D_Market_set_loss G_check_name G_is_number G_Market_check_event G_Market_check_insurer G_Market_copy G_Market_check_end agr_Market_set_loss
  have G_kind : CalN P w K mg base 9 "_law_kind" 2 m_kind := ok_kind T D_kind G_Market_add_insurer G_Market_add_event G_Market_add_treaty G_Market_set_loss agr_kind
  exact law_imp (okF_law T FL G_Market_init G_Market_add_insurer G_Market_add_event G_cell G_kind G_same G_Market_direct agr_law) m_law_yes
theorem all_mk {P : Program} {w : World} {K : PySem.W.Frag} {h : Heap} {mg : PySem.Str → Option Value} {fa f1 f2 f3 f4 f5 f6 f7 f8 f9 f10 f11 f12 f13 f14 f15 f16 f17 f18 f19 f20 f21 f22 f23 f24 f25 f26 f27 f28 f29 f30 f31 f32 : Addr} {C_Market : Addr} {C_BadName : Addr} {C_BadCover : Addr} {C_BadPanel : Addr} {C_BadAmount : Addr} {tk_Market_MOST_EVENTS : Tok} {tk_Market_MOST_INSURERS : Tok} {tk_Market_MOST_TREATIES : Tok} {tk_LETTERS : Tok} {tk_MOST_AMOUNT : Tok} {tk_MOST_GROSS : Tok} {tk_MOST_ROUNDS : Tok} (X : K.In h) (G : h.Ns mainGlobals mg) (hfa : mg "law" = some (.ref fa))
    {od1 an1 od2 an2 od3 an3 od4 an4 od5 an5 od6 an6 od7 an7 od8 an8 od9 an9 od10 an10 od11 an11 od12 an12 od13 an13 od14 an14 od15 an15 od16 an16 od17 an17 od18 an18 od19 an19 od20 an20 od21 an21 od22 an22 od23 an23 od24 an24 od25 an25 od26 an26 od27 an27 od28 an28 od29 an29 od30 an30 od31 an31 od32 an32 : Option Addr} {sl1 sl2 sl3 sl4 sl5 sl6 sl7 sl8 sl9 sl10 sl11 sl12 sl13 sl14 sl15 sl16 sl17 sl18 sl19 sl20 sl21 sl22 sl23 sl24 sl25 sl26 sl27 sl28 sl29 sl30 sl31 sl32 : Array (Option Value)} {oc1 kV1 dc1 pm1 cd1 ct1 oc2 kV2 dc2 pm2 cd2 ct2 oc3 kV3 dc3 pm3 cd3 ct3 oc4 kV4 dc4 pm4 cd4 ct4 oc5 kV5 dc5 pm5 cd5 ct5 oc6 kV6 dc6 pm6 cd6 ct6 oc7 kV7 dc7 pm7 cd7 ct7 oc8 kV8 dc8 pm8 cd8 ct8 oc9 kV9 dc9 pm9 cd9 ct9 oc10 kV10 dc10 pm10 cd10 ct10 oc11 kV11 dc11 pm11 cd11 ct11 oc12 kV12 dc12 pm12 cd12 ct12 oc13 kV13 dc13 pm13 cd13 ct13 oc14 kV14 dc14 pm14 cd14 ct14 oc15 kV15 dc15 pm15 cd15 ct15 oc16 kV16 dc16 pm16 cd16 ct16 oc17 kV17 dc17 pm17 cd17 ct17 oc18 kV18 dc18 pm18 cd18 ct18 oc19 kV19 dc19 pm19 cd19 ct19 oc20 kV20 dc20 pm20 cd20 ct20 oc21 kV21 dc21 pm21 cd21 ct21 oc22 kV22 dc22 pm22 cd22 ct22 oc23 kV23 dc23 pm23 cd23 ct23 oc24 kV24 dc24 pm24 cd24 ct24 oc25 kV25 dc25 pm25 cd25 ct25 oc26 kV26 dc26 pm26 cd26 ct26 oc27 kV27 dc27 pm27 cd27 ct27 oc28 kV28 dc28 pm28 cd28 ct28 oc29 kV29 dc29 pm29 cd29 ct29 oc30 kV30 dc30 pm30 cd30 ct30 oc31 kV31 dc31 pm31 cd31 ct31 oc32 kV32 dc32 pm32 cd32 ct32 : Value}
    (aC_Market : PySem.W.nsIn K mainGlobals "Market" = some (some (.ref C_Market)))
    (aC_BadName : PySem.W.nsIn K mainGlobals "BadName" = some (some (.ref C_BadName)))
    (aC_BadCover : PySem.W.nsIn K mainGlobals "BadCover" = some (some (.ref C_BadCover)))
    (aC_BadPanel : PySem.W.nsIn K mainGlobals "BadPanel" = some (some (.ref C_BadPanel)))
    (aC_BadAmount : PySem.W.nsIn K mainGlobals "BadAmount" = some (some (.ref C_BadAmount)))
    (pg_Market : PySem.W.plainGet K C_Market Str.empty = true) (hd_Market : PySem.W.hasDictIn K C_Market = true) (po_Market : PySem.W.plainOver K C_Market = true) (sa_Market : PySem.W.findIn K (.ref C_Market) "__setattr__" = some (some (.builtin "object.__setattr__"))) (mk_Market : PySem.W.makesIn K C_Market = true) (kc_Market : PySem.W.keepIn K (.ref C_Market) = true)
    (nf_Market_events : PySem.W.findIn K (.ref C_Market) "events" = some none)
    (nf_Market_insurers : PySem.W.findIn K (.ref C_Market) "insurers" = some none)
    (nf_Market_losses : PySem.W.findIn K (.ref C_Market) "losses" = some none)
    (nf_Market_treaties : PySem.W.findIn K (.ref C_Market) "treaties" = some none)
    (rd_Market : PySem.W.readsIn K C_Market (.type "type") = true) (ga_Market : PySem.W.specialIn K (.ref C_Market) "__getattribute__" = some (some (.builtin "type.__getattribute__")))
    (v_Market_MOST_EVENTS : PySem.W.findCls K (.ref C_Market) (.type "type") "MOST_EVENTS" = some (.val (.int 3 tk_Market_MOST_EVENTS)))
    (v_Market_MOST_INSURERS : PySem.W.findCls K (.ref C_Market) (.type "type") "MOST_INSURERS" = some (.val (.int 6 tk_Market_MOST_INSURERS)))
    (v_Market_MOST_TREATIES : PySem.W.findCls K (.ref C_Market) (.type "type") "MOST_TREATIES" = some (.val (.int 16 tk_Market_MOST_TREATIES)))
    (xC_BadName : PySem.W.excIn K C_BadName [.type "ValueError", .type "Exception", .type "BaseException", .type "object"] "ValueError.__new__" = true) (kC_BadName : PySem.W.keepIn K (.ref C_BadName) = true) (bC_BadName : PySem.W.subIn K (.ref C_BadName) (.type "BaseException") = some true) (tC_BadName : PySem.W.typeIn K (.ref C_BadName) = some (.type "type")) (ed_BadName : PySem.W.hasDictIn K C_BadName = true)
    (xC_BadCover : PySem.W.excIn K C_BadCover [.type "ValueError", .type "Exception", .type "BaseException", .type "object"] "ValueError.__new__" = true) (kC_BadCover : PySem.W.keepIn K (.ref C_BadCover) = true) (bC_BadCover : PySem.W.subIn K (.ref C_BadCover) (.type "BaseException") = some true) (tC_BadCover : PySem.W.typeIn K (.ref C_BadCover) = some (.type "type")) (ed_BadCover : PySem.W.hasDictIn K C_BadCover = true)
    (xC_BadPanel : PySem.W.excIn K C_BadPanel [.type "ValueError", .type "Exception", .type "BaseException", .type "object"] "ValueError.__new__" = true) (kC_BadPanel : PySem.W.keepIn K (.ref C_BadPanel) = true) (bC_BadPanel : PySem.W.subIn K (.ref C_BadPanel) (.type "BaseException") = some true) (tC_BadPanel : PySem.W.typeIn K (.ref C_BadPanel) = some (.type "type")) (ed_BadPanel : PySem.W.hasDictIn K C_BadPanel = true)
    (xC_BadAmount : PySem.W.excIn K C_BadAmount [.type "ValueError", .type "Exception", .type "BaseException", .type "object"] "ValueError.__new__" = true) (kC_BadAmount : PySem.W.keepIn K (.ref C_BadAmount) = true) (bC_BadAmount : PySem.W.subIn K (.ref C_BadAmount) (.type "BaseException") = some true) (tC_BadAmount : PySem.W.typeIn K (.ref C_BadAmount) = some (.type "type")) (ed_BadAmount : PySem.W.hasDictIn K C_BadAmount = true)
    (sub_BadName_BadName : PySem.W.subIn K (.ref C_BadName) (.ref C_BadName) = some true)
    (sub_BadName_BadCover : PySem.W.subIn K (.ref C_BadName) (.ref C_BadCover) = some false)
    (sub_BadName_BadPanel : PySem.W.subIn K (.ref C_BadName) (.ref C_BadPanel) = some false)
    (sub_BadName_BadAmount : PySem.W.subIn K (.ref C_BadName) (.ref C_BadAmount) = some false)
    (sub_BadCover_BadName : PySem.W.subIn K (.ref C_BadCover) (.ref C_BadName) = some false)
    (sub_BadCover_BadCover : PySem.W.subIn K (.ref C_BadCover) (.ref C_BadCover) = some true)
    (sub_BadCover_BadPanel : PySem.W.subIn K (.ref C_BadCover) (.ref C_BadPanel) = some false)
    (sub_BadCover_BadAmount : PySem.W.subIn K (.ref C_BadCover) (.ref C_BadAmount) = some false)
    (sub_BadPanel_BadName : PySem.W.subIn K (.ref C_BadPanel) (.ref C_BadName) = some false)
    (sub_BadPanel_BadCover : PySem.W.subIn K (.ref C_BadPanel) (.ref C_BadCover) = some false)
    (sub_BadPanel_BadPanel : PySem.W.subIn K (.ref C_BadPanel) (.ref C_BadPanel) = some true)
    (sub_BadPanel_BadAmount : PySem.W.subIn K (.ref C_BadPanel) (.ref C_BadAmount) = some false)
    (sub_BadAmount_BadName : PySem.W.subIn K (.ref C_BadAmount) (.ref C_BadName) = some false)
    (sub_BadAmount_BadCover : PySem.W.subIn K (.ref C_BadAmount) (.ref C_BadCover) = some false)
    (sub_BadAmount_BadPanel : PySem.W.subIn K (.ref C_BadAmount) (.ref C_BadPanel) = some false)
    (sub_BadAmount_BadAmount : PySem.W.subIn K (.ref C_BadAmount) (.ref C_BadAmount) = some true)
    (a1 : PySem.W.nsIn K mainGlobals "_law_cell" = some (some (.ref f1)))
    (l1 : K.lookup f1 = some ⟨oc1, od1, .func (PySem.W.fnOf "_law_cell" "_law_cell" (defArgs s_cell) (defBody s_cell) (defScope s_cell) .none kV1 dc1 pm1 an1 cd1 ct1), sl1⟩) (c1 : PySem.W.codeIn K cd1 "_law_cell" = true) (k1 : PySem.W.keepIn K (.ref f1) = true)
    (a2 : PySem.W.nsIn K mainGlobals "_law_is_integer" = some (some (.ref f2)))
    (l2 : K.lookup f2 = some ⟨oc2, od2, .func (PySem.W.fnOf "_law_is_integer" "_law_is_integer" (defArgs s_is_integer) (defBody s_is_integer) (defScope s_is_integer) .none kV2 dc2 pm2 an2 cd2 ct2), sl2⟩) (c2 : PySem.W.codeIn K cd2 "_law_is_integer" = true) (k2 : PySem.W.keepIn K (.ref f2) = true)
    (a3 : PySem.W.nsIn K mainGlobals "_law_same" = some (some (.ref f3)))
    (l3 : K.lookup f3 = some ⟨oc3, od3, .func (PySem.W.fnOf "_law_same" "_law_same" (defArgs s_same) (defBody s_same) (defScope s_same) .none kV3 dc3 pm3 an3 cd3 ct3), sl3⟩) (c3 : PySem.W.codeIn K cd3 "_law_same" = true) (k3 : PySem.W.keepIn K (.ref f3) = true)
    (a4 : PySem.W.nsIn K mainGlobals "is_number" = some (some (.ref f4)))
    (l4 : K.lookup f4 = some ⟨oc4, od4, .func (PySem.W.fnOf "is_number" "is_number" (defArgs s_is_number) (defBody s_is_number) (defScope s_is_number) .none kV4 dc4 pm4 an4 cd4 ct4), sl4⟩) (c4 : PySem.W.codeIn K cd4 "is_number" = true) (k4 : PySem.W.keepIn K (.ref f4) = true)
    (a5 : PySem.W.nsIn K mainGlobals "is_cover" = some (some (.ref f5)))
    (l5 : K.lookup f5 = some ⟨oc5, od5, .func (PySem.W.fnOf "is_cover" "is_cover" (defArgs s_is_cover) (defBody s_is_cover) (defScope s_is_cover) .none kV5 dc5 pm5 an5 cd5 ct5), sl5⟩) (c5 : PySem.W.codeIn K cd5 "is_cover" = true) (k5 : PySem.W.keepIn K (.ref f5) = true)
    (a6 : PySem.W.nsIn K mainGlobals "check_cover" = some (some (.ref f6)))
    (l6 : K.lookup f6 = some ⟨oc6, od6, .func (PySem.W.fnOf "check_cover" "check_cover" (defArgs s_check_cover) (defBody s_check_cover) (defScope s_check_cover) .none kV6 dc6 pm6 an6 cd6 ct6), sl6⟩) (c6 : PySem.W.codeIn K cd6 "check_cover" = true) (k6 : PySem.W.keepIn K (.ref f6) = true)
    (a7 : PySem.W.nsIn K mainGlobals "recovery" = some (some (.ref f7)))
    (l7 : K.lookup f7 = some ⟨oc7, od7, .func (PySem.W.fnOf "recovery" "recovery" (defArgs s_recovery) (defBody s_recovery) (defScope s_recovery) .none kV7 dc7 pm7 an7 cd7 ct7), sl7⟩) (c7 : PySem.W.codeIn K cd7 "recovery" = true) (k7 : PySem.W.keepIn K (.ref f7) = true)
    (a8 : PySem.W.nsIn K mainGlobals "programme" = some (some (.ref f8)))
    (l8 : K.lookup f8 = some ⟨oc8, od8, .func (PySem.W.fnOf "programme" "programme" (defArgs s_programme) (defBody s_programme) (defScope s_programme) .none kV8 dc8 pm8 an8 cd8 ct8), sl8⟩) (c8 : PySem.W.codeIn K cd8 "programme" = true) (k8 : PySem.W.keepIn K (.ref f8) = true)
    (a9 : PySem.W.nsIn K mainGlobals "allocate" = some (some (.ref f9)))
    (l9 : K.lookup f9 = some ⟨oc9, od9, .func (PySem.W.fnOf "allocate" "allocate" (defArgs s_allocate) (defBody s_allocate) (defScope s_allocate) .none kV9 dc9 pm9 an9 cd9 ct9), sl9⟩) (c9 : PySem.W.codeIn K cd9 "allocate" = true) (k9 : PySem.W.keepIn K (.ref f9) = true)
    (a10 : PySem.W.nsIn K mainGlobals "numbers_of" = some (some (.ref f10)))
    (l10 : K.lookup f10 = some ⟨oc10, od10, .func (PySem.W.fnOf "numbers_of" "numbers_of" (defArgs s_numbers_of) (defBody s_numbers_of) (defScope s_numbers_of) .none kV10 dc10 pm10 an10 cd10 ct10), sl10⟩) (c10 : PySem.W.codeIn K cd10 "numbers_of" = true) (k10 : PySem.W.keepIn K (.ref f10) = true)
    (a11 : PySem.W.nsIn K mainGlobals "payments" = some (some (.ref f11)))
    (l11 : K.lookup f11 = some ⟨oc11, od11, .func (PySem.W.fnOf "payments" "payments" (defArgs s_payments) (defBody s_payments) (defScope s_payments) .none kV11 dc11 pm11 an11 cd11 ct11), sl11⟩) (c11 : PySem.W.codeIn K cd11 "payments" = true) (k11 : PySem.W.keepIn K (.ref f11) = true)
    (a12 : PySem.W.nsIn K mainGlobals "parts_of" = some (some (.ref f12)))
    (l12 : K.lookup f12 = some ⟨oc12, od12, .func (PySem.W.fnOf "parts_of" "parts_of" (defArgs s_parts_of) (defBody s_parts_of) (defScope s_parts_of) .none kV12 dc12 pm12 an12 cd12 ct12), sl12⟩) (c12 : PySem.W.codeIn K cd12 "parts_of" = true) (k12 : PySem.W.keepIn K (.ref f12) = true)
    (a13 : PySem.W.nsIn K mainGlobals "next_gross" = some (some (.ref f13)))
    (l13 : K.lookup f13 = some ⟨oc13, od13, .func (PySem.W.fnOf "next_gross" "next_gross" (defArgs s_next_gross) (defBody s_next_gross) (defScope s_next_gross) .none kV13 dc13 pm13 an13 cd13 ct13), sl13⟩) (c13 : PySem.W.codeIn K cd13 "next_gross" = true) (k13 : PySem.W.keepIn K (.ref f13) = true)
    (a14 : PySem.W.nsIn K mainGlobals "rounds_of" = some (some (.ref f14)))
    (l14 : K.lookup f14 = some ⟨oc14, od14, .func (PySem.W.fnOf "rounds_of" "rounds_of" (defArgs s_rounds_of) (defBody s_rounds_of) (defScope s_rounds_of) .none kV14 dc14 pm14 an14 cd14 ct14), sl14⟩) (c14 : PySem.W.codeIn K cd14 "rounds_of" = true) (k14 : PySem.W.keepIn K (.ref f14) = true)
    (a15 : PySem.W.nsIn K mainGlobals "is_name" = some (some (.ref f15)))
    (l15 : K.lookup f15 = some ⟨oc15, od15, .func (PySem.W.fnOf "is_name" "is_name" (defArgs s_is_name) (defBody s_is_name) (defScope s_is_name) .none kV15 dc15 pm15 an15 cd15 ct15), sl15⟩) (c15 : PySem.W.codeIn K cd15 "is_name" = true) (k15 : PySem.W.keepIn K (.ref f15) = true)
    (a16 : PySem.W.nsIn K mainGlobals "is_panel" = some (some (.ref f16)))
    (l16 : K.lookup f16 = some ⟨oc16, od16, .func (PySem.W.fnOf "is_panel" "is_panel" (defArgs s_is_panel) (defBody s_is_panel) (defScope s_is_panel) .none kV16 dc16 pm16 an16 cd16 ct16), sl16⟩) (c16 : PySem.W.codeIn K cd16 "is_panel" = true) (k16 : PySem.W.keepIn K (.ref f16) = true)
    (a17 : PySem.W.nsIn K mainGlobals "check_name" = some (some (.ref f17)))
    (l17 : K.lookup f17 = some ⟨oc17, od17, .func (PySem.W.fnOf "check_name" "check_name" (defArgs s_check_name) (defBody s_check_name) (defScope s_check_name) .none kV17 dc17 pm17 an17 cd17 ct17), sl17⟩) (c17 : PySem.W.codeIn K cd17 "check_name" = true) (k17 : PySem.W.keepIn K (.ref f17) = true)
    (a18 : PySem.W.nsIn K mainGlobals "check_panel" = some (some (.ref f18)))
    (l18 : K.lookup f18 = some ⟨oc18, od18, .func (PySem.W.fnOf "check_panel" "check_panel" (defArgs s_check_panel) (defBody s_check_panel) (defScope s_check_panel) .none kV18 dc18 pm18 an18 cd18 ct18), sl18⟩) (c18 : PySem.W.codeIn K cd18 "check_panel" = true) (k18 : PySem.W.keepIn K (.ref f18) = true)
    (a19 : PySem.W.findIn K (.ref C_Market) "__init__" = some (some (.ref f19))) (i19 : PySem.W.isFn K (.ref f19) = true)
    (l19 : K.lookup f19 = some ⟨oc19, od19, .func (PySem.W.fnOf "__init__" "Market.__init__" (defArgs s_Market_init) (defBody s_Market_init) (defScope s_Market_init) .none kV19 dc19 pm19 an19 cd19 ct19), sl19⟩) (c19 : PySem.W.codeIn K cd19 "Market.__init__" = true) (k19 : PySem.W.keepIn K (.ref f19) = true)
    (a20 : PySem.W.findIn K (.ref C_Market) "copy" = some (some (.ref f20))) (i20 : PySem.W.isFn K (.ref f20) = true)
    (l20 : K.lookup f20 = some ⟨oc20, od20, .func (PySem.W.fnOf "copy" "Market.copy" (defArgs s_Market_copy) (defBody s_Market_copy) (defScope s_Market_copy) .none kV20 dc20 pm20 an20 cd20 ct20), sl20⟩) (c20 : PySem.W.codeIn K cd20 "Market.copy" = true) (k20 : PySem.W.keepIn K (.ref f20) = true)
    (a21 : PySem.W.findIn K (.ref C_Market) "check_insurer" = some (some (.ref f21))) (i21 : PySem.W.isFn K (.ref f21) = true)
    (l21 : K.lookup f21 = some ⟨oc21, od21, .func (PySem.W.fnOf "check_insurer" "Market.check_insurer" (defArgs s_Market_check_insurer) (defBody s_Market_check_insurer) (defScope s_Market_check_insurer) .none kV21 dc21 pm21 an21 cd21 ct21), sl21⟩) (c21 : PySem.W.codeIn K cd21 "Market.check_insurer" = true) (k21 : PySem.W.keepIn K (.ref f21) = true)
    (a22 : PySem.W.findIn K (.ref C_Market) "check_event" = some (some (.ref f22))) (i22 : PySem.W.isFn K (.ref f22) = true)
    (l22 : K.lookup f22 = some ⟨oc22, od22, .func (PySem.W.fnOf "check_event" "Market.check_event" (defArgs s_Market_check_event) (defBody s_Market_check_event) (defScope s_Market_check_event) .none kV22 dc22 pm22 an22 cd22 ct22), sl22⟩) (c22 : PySem.W.codeIn K cd22 "Market.check_event" = true) (k22 : PySem.W.keepIn K (.ref f22) = true)
    (a23 : PySem.W.findIn K (.ref C_Market) "direct" = some (some (.ref f23))) (i23 : PySem.W.isFn K (.ref f23) = true)
    (l23 : K.lookup f23 = some ⟨oc23, od23, .func (PySem.W.fnOf "direct" "Market.direct" (defArgs s_Market_direct) (defBody s_Market_direct) (defScope s_Market_direct) .none kV23 dc23 pm23 an23 cd23 ct23), sl23⟩) (c23 : PySem.W.codeIn K cd23 "Market.direct" = true) (k23 : PySem.W.keepIn K (.ref f23) = true)
    (a24 : PySem.W.findIn K (.ref C_Market) "check_end" = some (some (.ref f24))) (i24 : PySem.W.isFn K (.ref f24) = true)
    (l24 : K.lookup f24 = some ⟨oc24, od24, .func (PySem.W.fnOf "check_end" "Market.check_end" (defArgs s_Market_check_end) (defBody s_Market_check_end) (defScope s_Market_check_end) .none kV24 dc24 pm24 an24 cd24 ct24), sl24⟩) (c24 : PySem.W.codeIn K cd24 "Market.check_end" = true) (k24 : PySem.W.keepIn K (.ref f24) = true)
    (a25 : PySem.W.findIn K (.ref C_Market) "add_insurer" = some (some (.ref f25))) (i25 : PySem.W.isFn K (.ref f25) = true)
    (l25 : K.lookup f25 = some ⟨oc25, od25, .func (PySem.W.fnOf "add_insurer" "Market.add_insurer" (defArgs s_Market_add_insurer) (defBody s_Market_add_insurer) (defScope s_Market_add_insurer) .none kV25 dc25 pm25 an25 cd25 ct25), sl25⟩) (c25 : PySem.W.codeIn K cd25 "Market.add_insurer" = true) (k25 : PySem.W.keepIn K (.ref f25) = true)
    (a26 : PySem.W.findIn K (.ref C_Market) "add_event" = some (some (.ref f26))) (i26 : PySem.W.isFn K (.ref f26) = true)
    (l26 : K.lookup f26 = some ⟨oc26, od26, .func (PySem.W.fnOf "add_event" "Market.add_event" (defArgs s_Market_add_event) (defBody s_Market_add_event) (defScope s_Market_add_event) .none kV26 dc26 pm26 an26 cd26 ct26), sl26⟩) (c26 : PySem.W.codeIn K cd26 "Market.add_event" = true) (k26 : PySem.W.keepIn K (.ref f26) = true)
    (a27 : PySem.W.findIn K (.ref C_Market) "check_treaty_parts" = some (some (.ref f27))) (i27 : PySem.W.isFn K (.ref f27) = true)
    (l27 : K.lookup f27 = some ⟨oc27, od27, .func (PySem.W.fnOf "check_treaty_parts" "Market.check_treaty_parts" (defArgs s_Market_check_treaty_parts) (defBody s_Market_check_treaty_parts) (defScope s_Market_check_treaty_parts) .none kV27 dc27 pm27 an27 cd27 ct27), sl27⟩) (c27 : PySem.W.codeIn K cd27 "Market.check_treaty_parts" = true) (k27 : PySem.W.keepIn K (.ref f27) = true)
    (a28 : PySem.W.findIn K (.ref C_Market) "try_treaties" = some (some (.ref f28))) (i28 : PySem.W.isFn K (.ref f28) = true)
    (l28 : K.lookup f28 = some ⟨oc28, od28, .func (PySem.W.fnOf "try_treaties" "Market.try_treaties" (defArgs s_Market_try_treaties) (defBody s_Market_try_treaties) (defScope s_Market_try_treaties) .none kV28 dc28 pm28 an28 cd28 ct28), sl28⟩) (c28 : PySem.W.codeIn K cd28 "Market.try_treaties" = true) (k28 : PySem.W.keepIn K (.ref f28) = true)
    (a29 : PySem.W.findIn K (.ref C_Market) "add_treaty" = some (some (.ref f29))) (i29 : PySem.W.isFn K (.ref f29) = true)
    (l29 : K.lookup f29 = some ⟨oc29, od29, .func (PySem.W.fnOf "add_treaty" "Market.add_treaty" (defArgs s_Market_add_treaty) (defBody s_Market_add_treaty) (defScope s_Market_add_treaty) .none kV29 dc29 pm29 an29 cd29 ct29), sl29⟩) (c29 : PySem.W.codeIn K cd29 "Market.add_treaty" = true) (k29 : PySem.W.keepIn K (.ref f29) = true)
    (a30 : PySem.W.findIn K (.ref C_Market) "set_loss" = some (some (.ref f30))) (i30 : PySem.W.isFn K (.ref f30) = true)
    (l30 : K.lookup f30 = some ⟨oc30, od30, .func (PySem.W.fnOf "set_loss" "Market.set_loss" (defArgs s_Market_set_loss) (defBody s_Market_set_loss) (defScope s_Market_set_loss) .none kV30 dc30 pm30 an30 cd30 ct30), sl30⟩) (c30 : PySem.W.codeIn K cd30 "Market.set_loss" = true) (k30 : PySem.W.keepIn K (.ref f30) = true)
    (a31 : PySem.W.nsIn K mainGlobals "_law_kind" = some (some (.ref f31)))
    (l31 : K.lookup f31 = some ⟨oc31, od31, .func (PySem.W.fnOf "_law_kind" "_law_kind" (defArgs s_kind) (defBody s_kind) (defScope s_kind) .none kV31 dc31 pm31 an31 cd31 ct31), sl31⟩) (c31 : PySem.W.codeIn K cd31 "_law_kind" = true) (k31 : PySem.W.keepIn K (.ref f31) = true)
    (a32 : PySem.W.nsIn K mainGlobals "law" = some (some (.ref f32)))
    (l32 : K.lookup f32 = some ⟨oc32, od32, .func (PySem.W.fnOf "law" "law" (defArgs s_law) (defBody s_law) (defScope s_law) .none kV32 dc32 pm32 an32 cd32 ct32), sl32⟩) (c32 : PySem.W.codeIn K cd32 "law" = true) (k32 : PySem.W.keepIn K (.ref f32) = true)
    (z_all : PySem.W.nsIn K mainGlobals "all" = some none)
    (z_any : PySem.W.nsIn K mainGlobals "any" = some none)
    (z_bool : PySem.W.nsIn K mainGlobals "bool" = some none)
    (z_dict : PySem.W.nsIn K mainGlobals "dict" = some none)
    (z_enumerate : PySem.W.nsIn K mainGlobals "enumerate" = some none)
    (z_int : PySem.W.nsIn K mainGlobals "int" = some none)
    (z_isinstance : PySem.W.nsIn K mainGlobals "isinstance" = some none)
    (z_len : PySem.W.nsIn K mainGlobals "len" = some none)
    (z_list : PySem.W.nsIn K mainGlobals "list" = some none)
    (z_max : PySem.W.nsIn K mainGlobals "max" = some none)
    (z_min : PySem.W.nsIn K mainGlobals "min" = some none)
    (z_range : PySem.W.nsIn K mainGlobals "range" = some none)
    (z_str : PySem.W.nsIn K mainGlobals "str" = some none)
    (z_sum : PySem.W.nsIn K mainGlobals "sum" = some none)
    (z_tuple : PySem.W.nsIn K mainGlobals "tuple" = some none)
    (z_zip : PySem.W.nsIn K mainGlobals "zip" = some none)
    (g_LETTERS : PySem.W.nsIn K mainGlobals "LETTERS" = some (some (.str "abcdefghijklmnopqrstuvwxyz" tk_LETTERS)))
    (g_MOST_AMOUNT : PySem.W.nsIn K mainGlobals "MOST_AMOUNT" = some (some (.int 100000 tk_MOST_AMOUNT)))
    (g_MOST_GROSS : PySem.W.nsIn K mainGlobals "MOST_GROSS" = some (some (.int 1000000000 tk_MOST_GROSS)))
    (g_MOST_ROUNDS : PySem.W.nsIn K mainGlobals "MOST_ROUNDS" = some (some (.int 200 tk_MOST_ROUNDS))) :
    ∃ fd : FuncData, (∀ (s : Shared) (v : Value), BindsTo s fd ⟨[v], []⟩ [("_law_script", v)]) ∧ ∀ base : Heap, K.In base → base.Ns mainGlobals mg → FnOk P w K mg base (L2.CX P w) 10 fa fd ["_law_script"] (spLaw K) := by
  have e := hfa.symm.trans (PySem.W.mg_of X G a32)
  cases e
  have e_Market : cAd K "Market" = C_Market := cAd_of aC_Market
  have e_BadName : cAd K "BadName" = C_BadName := cAd_of aC_BadName
  have e_BadCover : cAd K "BadCover" = C_BadCover := cAd_of aC_BadCover
  have e_BadPanel : cAd K "BadPanel" = C_BadPanel := cAd_of aC_BadPanel
  have e_BadAmount : cAd K "BadAmount" = C_BadAmount := cAd_of aC_BadAmount
  have g_Market : mg "Market" = some (.ref (cAd K "Market")) := by rw [e_Market]; exact PySem.W.mg_of X G aC_Market
  have g_BadName : mg "BadName" = some (.ref (cAd K "BadName")) := by rw [e_BadName]; exact PySem.W.mg_of X G aC_BadName
  have g_BadCover : mg "BadCover" = some (.ref (cAd K "BadCover")) := by rw [e_BadCover]; exact PySem.W.mg_of X G aC_BadCover
  have g_BadPanel : mg "BadPanel" = some (.ref (cAd K "BadPanel")) := by rw [e_BadPanel]; exact PySem.W.mg_of X G aC_BadPanel
  have g_BadAmount : mg "BadAmount" = some (.ref (cAd K "BadAmount")) := by rw [e_BadAmount]; exact PySem.W.mg_of X G aC_BadAmount
  have tries : TryT K ["BadName", "BadCover", "BadPanel", "BadAmount"] ["BadName", "BadCover", "BadPanel", "BadAmount"] := by
    refine ⟨fun e he h hh => ?_⟩
    simp only [List.mem_cons, List.not_mem_nil, or_false] at he hh
    rcases he with rfl | rfl | rfl | rfl <;> rcases hh with rfl | rfl | rfl | rfl
    · rw [e_BadName]; exact PySem.W.exm_ref bC_BadName ed_BadName tC_BadName (sub_BadName_BadName.trans (congrArg some (by decide +kernel)))
    · rw [e_BadName, e_BadCover]; exact PySem.W.exm_ref bC_BadCover ed_BadCover tC_BadCover (sub_BadName_BadCover.trans (congrArg some (by decide +kernel)))
    · rw [e_BadName, e_BadPanel]; exact PySem.W.exm_ref bC_BadPanel ed_BadPanel tC_BadPanel (sub_BadName_BadPanel.trans (congrArg some (by decide +kernel)))
    · rw [e_BadName, e_BadAmount]; exact PySem.W.exm_ref bC_BadAmount ed_BadAmount tC_BadAmount (sub_BadName_BadAmount.trans (congrArg some (by decide +kernel)))
    · rw [e_BadCover, e_BadName]; exact PySem.W.exm_ref bC_BadName ed_BadName tC_BadName (sub_BadCover_BadName.trans (congrArg some (by decide +kernel)))
    · rw [e_BadCover]; exact PySem.W.exm_ref bC_BadCover ed_BadCover tC_BadCover (sub_BadCover_BadCover.trans (congrArg some (by decide +kernel)))
    · rw [e_BadCover, e_BadPanel]; exact PySem.W.exm_ref bC_BadPanel ed_BadPanel tC_BadPanel (sub_BadCover_BadPanel.trans (congrArg some (by decide +kernel)))
    · rw [e_BadCover, e_BadAmount]; exact PySem.W.exm_ref bC_BadAmount ed_BadAmount tC_BadAmount (sub_BadCover_BadAmount.trans (congrArg some (by decide +kernel)))
    · rw [e_BadPanel, e_BadName]; exact PySem.W.exm_ref bC_BadName ed_BadName tC_BadName (sub_BadPanel_BadName.trans (congrArg some (by decide +kernel)))
    · rw [e_BadPanel, e_BadCover]; exact PySem.W.exm_ref bC_BadCover ed_BadCover tC_BadCover (sub_BadPanel_BadCover.trans (congrArg some (by decide +kernel)))
    · rw [e_BadPanel]; exact PySem.W.exm_ref bC_BadPanel ed_BadPanel tC_BadPanel (sub_BadPanel_BadPanel.trans (congrArg some (by decide +kernel)))
    · rw [e_BadPanel, e_BadAmount]; exact PySem.W.exm_ref bC_BadAmount ed_BadAmount tC_BadAmount (sub_BadPanel_BadAmount.trans (congrArg some (by decide +kernel)))
    · rw [e_BadAmount, e_BadName]; exact PySem.W.exm_ref bC_BadName ed_BadName tC_BadName (sub_BadAmount_BadName.trans (congrArg some (by decide +kernel)))
    · rw [e_BadAmount, e_BadCover]; exact PySem.W.exm_ref bC_BadCover ed_BadCover tC_BadCover (sub_BadAmount_BadCover.trans (congrArg some (by decide +kernel)))
    · rw [e_BadAmount, e_BadPanel]; exact PySem.W.exm_ref bC_BadPanel ed_BadPanel tC_BadPanel (sub_BadAmount_BadPanel.trans (congrArg some (by decide +kernel)))
    · rw [e_BadAmount]; exact PySem.W.exm_ref bC_BadAmount ed_BadAmount tC_BadAmount (sub_BadAmount_BadAmount.trans (congrArg some (by decide +kernel)))
  have T : Txt K mg := ⟨PySem.W.mg_none_of X G z_all, PySem.W.mg_none_of X G z_any, PySem.W.mg_none_of X G z_bool, PySem.W.mg_none_of X G z_dict, PySem.W.mg_none_of X G z_enumerate, PySem.W.mg_none_of X G z_int, PySem.W.mg_none_of X G z_isinstance, PySem.W.mg_none_of X G z_len, PySem.W.mg_none_of X G z_list, PySem.W.mg_none_of X G z_max, PySem.W.mg_none_of X G z_min, PySem.W.mg_none_of X G z_range, PySem.W.mg_none_of X G z_str, PySem.W.mg_none_of X G z_sum, PySem.W.mg_none_of X G z_tuple, PySem.W.mg_none_of X G z_zip, ⟨_, PySem.W.mg_of X G g_LETTERS⟩, ⟨_, PySem.W.mg_of X G g_MOST_AMOUNT⟩, ⟨_, PySem.W.mg_of X G g_MOST_GROSS⟩, ⟨_, PySem.W.mg_of X G g_MOST_ROUNDS⟩, (by rw [e_Market]; exact ⟨pg_Market, hd_Market, po_Market, sa_Market⟩), (by rw [e_Market]; exact nf_Market_events), (by rw [e_Market]; exact nf_Market_insurers), (by rw [e_Market]; exact nf_Market_losses), (by rw [e_Market]; exact nf_Market_treaties), ⟨g_Market, by rw [e_Market]; exact rd_Market, by rw [e_Market]; exact ga_Market, ⟨_, by rw [e_Market]; exact v_Market_MOST_EVENTS⟩⟩, ⟨g_Market, by rw [e_Market]; exact rd_Market, by rw [e_Market]; exact ga_Market, ⟨_, by rw [e_Market]; exact v_Market_MOST_INSURERS⟩⟩, ⟨g_Market, by rw [e_Market]; exact rd_Market, by rw [e_Market]; exact ga_Market, ⟨_, by rw [e_Market]; exact v_Market_MOST_TREATIES⟩⟩, ⟨g_BadName, by rw [e_BadName]; exact xC_BadName, by rw [e_BadName]; exact kC_BadName, by rw [e_BadName]; exact bC_BadName, by rw [e_BadName]; exact tC_BadName⟩, ⟨g_BadCover, by rw [e_BadCover]; exact xC_BadCover, by rw [e_BadCover]; exact kC_BadCover, by rw [e_BadCover]; exact bC_BadCover, by rw [e_BadCover]; exact tC_BadCover⟩, ⟨g_BadPanel, by rw [e_BadPanel]; exact xC_BadPanel, by rw [e_BadPanel]; exact kC_BadPanel, by rw [e_BadPanel]; exact bC_BadPanel, by rw [e_BadPanel]; exact tC_BadPanel⟩, ⟨g_BadAmount, by rw [e_BadAmount]; exact xC_BadAmount, by rw [e_BadAmount]; exact kC_BadAmount, by rw [e_BadAmount]; exact bC_BadAmount, by rw [e_BadAmount]; exact tC_BadAmount⟩, tries⟩
  have F1 := fun_mk (st := s_cell) l1 c1 k1
  have D_cell : Dfn K mg "_law_cell" s_cell ["_law_script", "_law_k"] := ⟨_, _, F1, PySem.W.mg_of X G a1, F1.binds fun _ _ _ _ _ _ us hl => match us, hl with | [_, _], _ => rfl⟩
  have F2 := fun_mk (st := s_is_integer) l2 c2 k2
  have D_is_integer : Dfn K mg "_law_is_integer" s_is_integer ["_law_actual"] := ⟨_, _, F2, PySem.W.mg_of X G a2, F2.binds fun _ _ _ _ _ _ us hl => match us, hl with | [_], _ => rfl⟩
  have F3 := fun_mk (st := s_same) l3 c3 k3
  have D_same : Dfn K mg "_law_same" s_same ["_law_actual", "_law_expected"] := ⟨_, _, F3, PySem.W.mg_of X G a3, F3.binds fun _ _ _ _ _ _ us hl => match us, hl with | [_, _], _ => rfl⟩
  have F4 := fun_mk (st := s_is_number) l4 c4 k4
  have D_is_number : Dfn K mg "is_number" s_is_number ["value", "least", "most"] := ⟨_, _, F4, PySem.W.mg_of X G a4, F4.binds fun _ _ _ _ _ _ us hl => match us, hl with | [_, _, _], _ => rfl⟩
  have F5 := fun_mk (st := s_is_cover) l5 c5 k5
  have D_is_cover : Dfn K mg "is_cover" s_is_cover ["value"] := ⟨_, _, F5, PySem.W.mg_of X G a5, F5.binds fun _ _ _ _ _ _ us hl => match us, hl with | [_], _ => rfl⟩
  have F6 := fun_mk (st := s_check_cover) l6 c6 k6
  have D_check_cover : Dfn K mg "check_cover" s_check_cover ["value"] := ⟨_, _, F6, PySem.W.mg_of X G a6, F6.binds fun _ _ _ _ _ _ us hl => match us, hl with | [_], _ => rfl⟩
  have F7 := fun_mk (st := s_recovery) l7 c7 k7
  have D_recovery : Dfn K mg "recovery" s_recovery ["cover", "loss"] := ⟨_, _, F7, PySem.W.mg_of X G a7, F7.binds fun _ _ _ _ _ _ us hl => match us, hl with | [_, _], _ => rfl⟩
  have F8 := fun_mk (st := s_programme) l8 c8 k8
  have D_programme : Dfn K mg "programme" s_programme ["covers", "loss"] := ⟨_, _, F8, PySem.W.mg_of X G a8, F8.binds fun _ _ _ _ _ _ us hl => match us, hl with | [_, _], _ => rfl⟩
  have F9 := fun_mk (st := s_allocate) l9 c9 k9
  have D_allocate : Dfn K mg "allocate" s_allocate ["amount", "shares"] := ⟨_, _, F9, PySem.W.mg_of X G a9, F9.binds fun _ _ _ _ _ _ us hl => match us, hl with | [_, _], _ => rfl⟩
  have F10 := fun_mk (st := s_numbers_of) l10 c10 k10
  have D_numbers_of : Dfn K mg "numbers_of" s_numbers_of ["treaties", "insurer"] := ⟨_, _, F10, PySem.W.mg_of X G a10, F10.binds fun _ _ _ _ _ _ us hl => match us, hl with | [_, _], _ => rfl⟩
  have F11 := fun_mk (st := s_payments) l11 c11 k11
  have D_payments : Dfn K mg "payments" s_payments ["insurers", "treaties", "gross"] := ⟨_, _, F11, PySem.W.mg_of X G a11, F11.binds fun _ _ _ _ _ _ us hl => match us, hl with | [_, _, _], _ => rfl⟩
  have F12 := fun_mk (st := s_parts_of) l12 c12 k12
  have D_parts_of : Dfn K mg "parts_of" s_parts_of ["treaty", "amount"] := ⟨_, _, F12, PySem.W.mg_of X G a12, F12.binds fun _ _ _ _ _ _ us hl => match us, hl with | [_, _], _ => rfl⟩
  have F13 := fun_mk (st := s_next_gross) l13 c13 k13
  have D_next_gross : Dfn K mg "next_gross" s_next_gross ["insurers", "treaties", "direct", "gross"] := ⟨_, _, F13, PySem.W.mg_of X G a13, F13.binds fun _ _ _ _ _ _ us hl => match us, hl with | [_, _, _, _], _ => rfl⟩
  have F14 := fun_mk (st := s_rounds_of) l14 c14 k14
  have D_rounds_of : Dfn K mg "rounds_of" s_rounds_of ["insurers", "treaties", "direct"] := ⟨_, _, F14, PySem.W.mg_of X G a14, F14.binds fun _ _ _ _ _ _ us hl => match us, hl with | [_, _, _], _ => rfl⟩
  have F15 := fun_mk (st := s_is_name) l15 c15 k15
  have D_is_name : Dfn K mg "is_name" s_is_name ["value"] := ⟨_, _, F15, PySem.W.mg_of X G a15, F15.binds fun _ _ _ _ _ _ us hl => match us, hl with | [_], _ => rfl⟩
  have F16 := fun_mk (st := s_is_panel) l16 c16 k16
  have D_is_panel : Dfn K mg "is_panel" s_is_panel ["value"] := ⟨_, _, F16, PySem.W.mg_of X G a16, F16.binds fun _ _ _ _ _ _ us hl => match us, hl with | [_], _ => rfl⟩
  have F17 := fun_mk (st := s_check_name) l17 c17 k17
  have D_check_name : Dfn K mg "check_name" s_check_name ["value"] := ⟨_, _, F17, PySem.W.mg_of X G a17, F17.binds fun _ _ _ _ _ _ us hl => match us, hl with | [_], _ => rfl⟩
  have F18 := fun_mk (st := s_check_panel) l18 c18 k18
  have D_check_panel : Dfn K mg "check_panel" s_check_panel ["value"] := ⟨_, _, F18, PySem.W.mg_of X G a18, F18.binds fun _ _ _ _ _ _ us hl => match us, hl with | [_], _ => rfl⟩
  have F19 := fun_mk (st := s_Market_init) l19 c19 k19
  have D_Market_init : Ini K mg "Market" "Market.__init__" s_Market_init ["self"] := ⟨_, _, F19, by rw [e_Market]; exact ⟨mk_Market, a19, i19, kc_Market⟩, (F19.binds fun _ _ _ _ _ _ us hl => match us, hl with | [_], _ => rfl), g_Market⟩
  have F20 := fun_mk (st := s_Market_copy) l20 c20 k20
  have D_Market_copy : Mth K "Market" "copy" "Market.copy" s_Market_copy ["self"] := ⟨_, _, F20, by rw [e_Market]; exact ⟨a20, i20, k20⟩, F20.binds fun _ _ _ _ _ _ us hl => match us, hl with | [_], _ => rfl⟩
  have F21 := fun_mk (st := s_Market_check_insurer) l21 c21 k21
  have D_Market_check_insurer : Mth K "Market" "check_insurer" "Market.check_insurer" s_Market_check_insurer ["self", "name"] := ⟨_, _, F21, by rw [e_Market]; exact ⟨a21, i21, k21⟩, F21.binds fun _ _ _ _ _ _ us hl => match us, hl with | [_, _], _ => rfl⟩
  have F22 := fun_mk (st := s_Market_check_event) l22 c22 k22
  have D_Market_check_event : Mth K "Market" "check_event" "Market.check_event" s_Market_check_event ["self", "name"] := ⟨_, _, F22, by rw [e_Market]; exact ⟨a22, i22, k22⟩, F22.binds fun _ _ _ _ _ _ us hl => match us, hl with | [_, _], _ => rfl⟩
  have F23 := fun_mk (st := s_Market_direct) l23 c23 k23
  have D_Market_direct : Mth K "Market" "direct" "Market.direct" s_Market_direct ["self", "event"] := ⟨_, _, F23, by rw [e_Market]; exact ⟨a23, i23, k23⟩, F23.binds fun _ _ _ _ _ _ us hl => match us, hl with | [_, _], _ => rfl⟩
  have F24 := fun_mk (st := s_Market_check_end) l24 c24 k24
  have D_Market_check_end : Mth K "Market" "check_end" "Market.check_end" s_Market_check_end ["self"] := ⟨_, _, F24, by rw [e_Market]; exact ⟨a24, i24, k24⟩, F24.binds fun _ _ _ _ _ _ us hl => match us, hl with | [_], _ => rfl⟩
  have F25 := fun_mk (st := s_Market_add_insurer) l25 c25 k25
  have D_Market_add_insurer : Mth K "Market" "add_insurer" "Market.add_insurer" s_Market_add_insurer ["self", "name"] := ⟨_, _, F25, by rw [e_Market]; exact ⟨a25, i25, k25⟩, F25.binds fun _ _ _ _ _ _ us hl => match us, hl with | [_, _], _ => rfl⟩
  have F26 := fun_mk (st := s_Market_add_event) l26 c26 k26
  have D_Market_add_event : Mth K "Market" "add_event" "Market.add_event" s_Market_add_event ["self", "name"] := ⟨_, _, F26, by rw [e_Market]; exact ⟨a26, i26, k26⟩, F26.binds fun _ _ _ _ _ _ us hl => match us, hl with | [_, _], _ => rfl⟩
  have F27 := fun_mk (st := s_Market_check_treaty_parts) l27 c27 k27
  have D_Market_check_treaty_parts : Mth K "Market" "check_treaty_parts" "Market.check_treaty_parts" s_Market_check_treaty_parts ["self", "cedent", "panel"] := ⟨_, _, F27, by rw [e_Market]; exact ⟨a27, i27, k27⟩, F27.binds fun _ _ _ _ _ _ us hl => match us, hl with | [_, _, _], _ => rfl⟩
  have F28 := fun_mk (st := s_Market_try_treaties) l28 c28 k28
  have D_Market_try_treaties : Mth K "Market" "try_treaties" "Market.try_treaties" s_Market_try_treaties ["self", "treaties"] := ⟨_, _, F28, by rw [e_Market]; exact ⟨a28, i28, k28⟩, F28.binds fun _ _ _ _ _ _ us hl => match us, hl with | [_, _], _ => rfl⟩
  have F29 := fun_mk (st := s_Market_add_treaty) l29 c29 k29
  have D_Market_add_treaty : Mth K "Market" "add_treaty" "Market.add_treaty" s_Market_add_treaty ["self", "cedent", "cover", "panel"] := ⟨_, _, F29, by rw [e_Market]; exact ⟨a29, i29, k29⟩, F29.binds fun _ _ _ _ _ _ us hl => match us, hl with | [_, _, _, _], _ => rfl⟩
  have F30 := fun_mk (st := s_Market_set_loss) l30 c30 k30
  have D_Market_set_loss : Mth K "Market" "set_loss" "Market.set_loss" s_Market_set_loss ["self", "event", "insurer", "amount"] := ⟨_, _, F30, by rw [e_Market]; exact ⟨a30, i30, k30⟩, F30.binds fun _ _ _ _ _ _ us hl => match us, hl with | [_, _, _, _], _ => rfl⟩
  have F31 := fun_mk (st := s_kind) l31 c31 k31
  have D_kind : Dfn K mg "_law_kind" s_kind ["_law_market", "_law_deed"] := ⟨_, _, F31, PySem.W.mg_of X G a31, F31.binds fun _ _ _ _ _ _ us hl => match us, hl with | [_, _], _ => rfl⟩
  have F32 := fun_mk (st := s_law) l32 c32 k32
  exact ⟨_, fun s v => .of_eq rfl, fun base _ _ => law_all T D_cell D_is_integer D_same D_is_number D_is_cover D_check_cover D_recovery D_programme D_allocate D_numbers_of D_payments D_parts_of D_next_gross D_rounds_of D_is_name D_is_panel D_check_name D_check_panel D_Market_init D_Market_copy D_Market_check_insurer D_Market_check_event D_Market_direct D_Market_check_end D_Market_add_insurer D_Market_add_event D_Market_check_treaty_parts D_Market_try_treaties D_Market_add_treaty D_Market_set_loss D_kind F32⟩
end
end DL
open PySem PySem.W PyProof.Rows in
set_option maxRecDepth 100000 in
set_option maxHeartbeats 0 in
theorem PySem.Challenge.cw_spiraldue_k11_values_of_wrong_kinds_holds : PySem.Challenge.rw_spiraldue_k11_values_of_wrong_kinds.Holds := by
  w_on; o_law; k_head; (case hw => w_witness2)
  k_fill
  refine DL.walk (l := PySem.Challenge.rw_spiraldue_k11_values_of_wrong_kinds) (k := 10) (x := "_law_script") rfl rfl ⟨rfl, by decide, by decide⟩ (fun w h Y => PySem.W.kIn_of Y) ?F
  case F =>
    intro w mg fa h KX G hmg
    refine' DL.all_mk KX G hmg ?aC_Market ?aC_BadName ?aC_BadCover ?aC_BadPanel ?aC_BadAmount ?pg_Market ?hd_Market ?po_Market ?sa_Market ?mk_Market ?kc_Market ?nf_Market_events ?nf_Market_insurers ?nf_Market_losses ?nf_Market_treaties ?rd_Market ?ga_Market ?v_Market_MOST_EVENTS ?v_Market_MOST_INSURERS ?v_Market_MOST_TREATIES ?xC_BadName ?kC_BadName ?bC_BadName ?tC_BadName ?ed_BadName ?xC_BadCover ?kC_BadCover ?bC_BadCover ?tC_BadCover ?ed_BadCover ?xC_BadPanel ?kC_BadPanel ?bC_BadPanel ?tC_BadPanel ?ed_BadPanel ?xC_BadAmount ?kC_BadAmount ?bC_BadAmount ?tC_BadAmount ?ed_BadAmount ?sub_BadName_BadName ?sub_BadName_BadCover ?sub_BadName_BadPanel ?sub_BadName_BadAmount ?sub_BadCover_BadName ?sub_BadCover_BadCover ?sub_BadCover_BadPanel ?sub_BadCover_BadAmount ?sub_BadPanel_BadName ?sub_BadPanel_BadCover ?sub_BadPanel_BadPanel ?sub_BadPanel_BadAmount ?sub_BadAmount_BadName ?sub_BadAmount_BadCover ?sub_BadAmount_BadPanel ?sub_BadAmount_BadAmount ?a1 ?l1 ?c1 ?k1 ?a2 ?l2 ?c2 ?k2 ?a3 ?l3 ?c3 ?k3 ?a4 ?l4 ?c4 ?k4 ?a5 ?l5 ?c5 ?k5 ?a6 ?l6 ?c6 ?k6 ?a7 ?l7 ?c7 ?k7 ?a8 ?l8 ?c8 ?k8 ?a9 ?l9 ?c9 ?k9 ?a10 ?l10 ?c10 ?k10 ?a11 ?l11 ?c11 ?k11 ?a12 ?l12 ?c12 ?k12 ?a13 ?l13 ?c13 ?k13 ?a14 ?l14 ?c14 ?k14 ?a15 ?l15 ?c15 ?k15 ?a16 ?l16 ?c16 ?k16 ?a17 ?l17 ?c17 ?k17 ?a18 ?l18 ?c18 ?k18 ?a19 ?i19 ?l19 ?c19 ?k19 ?a20 ?i20 ?l20 ?c20 ?k20 ?a21 ?i21 ?l21 ?c21 ?k21 ?a22 ?i22 ?l22 ?c22 ?k22 ?a23 ?i23 ?l23 ?c23 ?k23 ?a24 ?i24 ?l24 ?c24 ?k24 ?a25 ?i25 ?l25 ?c25 ?k25 ?a26 ?i26 ?l26 ?c26 ?k26 ?a27 ?i27 ?l27 ?c27 ?k27 ?a28 ?i28 ?l28 ?c28 ?k28 ?a29 ?i29 ?l29 ?c29 ?k29 ?a30 ?i30 ?l30 ?c30 ?k30 ?a31 ?l31 ?c31 ?k31 ?a32 ?l32 ?c32 ?k32 ?z_all ?z_any ?z_bool ?z_dict ?z_enumerate ?z_int ?z_isinstance ?z_len ?z_list ?z_max ?z_min ?z_range ?z_str ?z_sum ?z_tuple ?z_zip ?g_LETTERS ?g_MOST_AMOUNT ?g_MOST_GROSS ?g_MOST_ROUNDS
    (case aC_Market => k_is)
    (case aC_BadName => k_is)
    (case aC_BadCover => k_is)
    (case aC_BadPanel => k_is)
    (case aC_BadAmount => k_is)
    (case pg_Market => k_is)
    (case hd_Market => k_is)
    (case po_Market => k_is)
    (case sa_Market => k_is)
    (case mk_Market => k_is)
    (case kc_Market => k_is)
    (case nf_Market_events => k_is)
    (case nf_Market_insurers => k_is)
    (case nf_Market_losses => k_is)
    (case nf_Market_treaties => k_is)
    (case rd_Market => k_is)
    (case ga_Market => k_is)
    (case v_Market_MOST_EVENTS => k_is)
    (case v_Market_MOST_INSURERS => k_is)
    (case v_Market_MOST_TREATIES => k_is)
    (case xC_BadName => k_exc)
    (case kC_BadName => k_is)
    (case bC_BadName => k_is)
    (case tC_BadName => k_is)
    (case ed_BadName => k_is)
    (case xC_BadCover => k_exc)
    (case kC_BadCover => k_is)
    (case bC_BadCover => k_is)
    (case tC_BadCover => k_is)
    (case ed_BadCover => k_is)
    (case xC_BadPanel => k_exc)
    (case kC_BadPanel => k_is)
    (case bC_BadPanel => k_is)
    (case tC_BadPanel => k_is)
    (case ed_BadPanel => k_is)
    (case xC_BadAmount => k_exc)
    (case kC_BadAmount => k_is)
    (case bC_BadAmount => k_is)
    (case tC_BadAmount => k_is)
    (case ed_BadAmount => k_is)
    (case sub_BadName_BadName => first | rfl | k_is)
    (case sub_BadName_BadCover => first | rfl | k_is)
    (case sub_BadName_BadPanel => first | rfl | k_is)
    (case sub_BadName_BadAmount => first | rfl | k_is)
    (case sub_BadCover_BadName => first | rfl | k_is)
    (case sub_BadCover_BadCover => first | rfl | k_is)
    (case sub_BadCover_BadPanel => first | rfl | k_is)
    (case sub_BadCover_BadAmount => first | rfl | k_is)
    (case sub_BadPanel_BadName => first | rfl | k_is)
    (case sub_BadPanel_BadCover => first | rfl | k_is)
    (case sub_BadPanel_BadPanel => first | rfl | k_is)
    (case sub_BadPanel_BadAmount => first | rfl | k_is)
    (case sub_BadAmount_BadName => first | rfl | k_is)
    (case sub_BadAmount_BadCover => first | rfl | k_is)
    (case sub_BadAmount_BadPanel => first | rfl | k_is)
    (case sub_BadAmount_BadAmount => first | rfl | k_is)
    (case a1 => k_is)
    (case l1 => k_is)
    (case c1 => k_is)
    (case k1 => k_is)
    (case a2 => k_is)
    (case l2 => k_is)
    (case c2 => k_is)
    (case k2 => k_is)
    (case a3 => k_is)
    (case l3 => k_is)
    (case c3 => k_is)
    (case k3 => k_is)
    (case a4 => k_is)
    (case l4 => k_is)
    (case c4 => k_is)
    (case k4 => k_is)
    (case a5 => k_is)
    (case l5 => k_is)
    (case c5 => k_is)
    (case k5 => k_is)
    (case a6 => k_is)
    (case l6 => k_is)
    (case c6 => k_is)
    (case k6 => k_is)
    (case a7 => k_is)
    (case l7 => k_is)
    (case c7 => k_is)
    (case k7 => k_is)
    (case a8 => k_is)
    (case l8 => k_is)
    (case c8 => k_is)
    (case k8 => k_is)
    (case a9 => k_is)
    (case l9 => k_is)
    (case c9 => k_is)
    (case k9 => k_is)
    (case a10 => k_is)
    (case l10 => k_is)
    (case c10 => k_is)
    (case k10 => k_is)
    (case a11 => k_is)
    (case l11 => k_is)
    (case c11 => k_is)
    (case k11 => k_is)
    (case a12 => k_is)
    (case l12 => k_is)
    (case c12 => k_is)
    (case k12 => k_is)
    (case a13 => k_is)
    (case l13 => k_is)
    (case c13 => k_is)
    (case k13 => k_is)
    (case a14 => k_is)
    (case l14 => k_is)
    (case c14 => k_is)
    (case k14 => k_is)
    (case a15 => k_is)
    (case l15 => k_is)
    (case c15 => k_is)
    (case k15 => k_is)
    (case a16 => k_is)
    (case l16 => k_is)
    (case c16 => k_is)
    (case k16 => k_is)
    (case a17 => k_is)
    (case l17 => k_is)
    (case c17 => k_is)
    (case k17 => k_is)
    (case a18 => k_is)
    (case l18 => k_is)
    (case c18 => k_is)
    (case k18 => k_is)
    (case a19 => k_is)
    (case i19 => k_is)
    (case l19 => k_is)
    (case c19 => k_is)
    (case k19 => k_is)
    (case a20 => k_is)
    (case i20 => k_is)
    (case l20 => k_is)
    (case c20 => k_is)
    (case k20 => k_is)
    (case a21 => k_is)
    (case i21 => k_is)
    (case l21 => k_is)
    (case c21 => k_is)
    (case k21 => k_is)
    (case a22 => k_is)
    (case i22 => k_is)
    (case l22 => k_is)
    (case c22 => k_is)
    (case k22 => k_is)
    (case a23 => k_is)
    (case i23 => k_is)
    (case l23 => k_is)
    (case c23 => k_is)
    (case k23 => k_is)
    (case a24 => k_is)
    (case i24 => k_is)
    (case l24 => k_is)
    (case c24 => k_is)
    (case k24 => k_is)
    (case a25 => k_is)
    (case i25 => k_is)
    (case l25 => k_is)
    (case c25 => k_is)
    (case k25 => k_is)
    (case a26 => k_is)
    (case i26 => k_is)
    (case l26 => k_is)
    (case c26 => k_is)
    (case k26 => k_is)
    (case a27 => k_is)
    (case i27 => k_is)
    (case l27 => k_is)
    (case c27 => k_is)
    (case k27 => k_is)
    (case a28 => k_is)
    (case i28 => k_is)
    (case l28 => k_is)
    (case c28 => k_is)
    (case k28 => k_is)
    (case a29 => k_is)
    (case i29 => k_is)
    (case l29 => k_is)
    (case c29 => k_is)
    (case k29 => k_is)
    (case a30 => k_is)
    (case i30 => k_is)
    (case l30 => k_is)
    (case c30 => k_is)
    (case k30 => k_is)
    (case a31 => k_is)
    (case l31 => k_is)
    (case c31 => k_is)
    (case k31 => k_is)
    (case a32 => k_is)
    (case l32 => k_is)
    (case c32 => k_is)
    (case k32 => k_is)
    (case z_all => k_is)
    (case z_any => k_is)
    (case z_bool => k_is)
    (case z_dict => k_is)
    (case z_enumerate => k_is)
    (case z_int => k_is)
    (case z_isinstance => k_is)
    (case z_len => k_is)
    (case z_list => k_is)
    (case z_max => k_is)
    (case z_min => k_is)
    (case z_range => k_is)
    (case z_str => k_is)
    (case z_sum => k_is)
    (case z_tuple => k_is)
    (case z_zip => k_is)
    (case g_LETTERS => k_is)
    (case g_MOST_AMOUNT => k_is)
    (case g_MOST_GROSS => k_is)
    (case g_MOST_ROUNDS => k_is)
#print axioms PySem.Challenge.cw_spiraldue_k11_values_of_wrong_kinds_holds

