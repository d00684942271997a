import PyProof.Rows.All
import Wide.All
import OpenK.AllK
import Wide.FinOn
import KE.KStateDown
import KE.KDictKeyed
import KE.SortData
import KE.DataMinMax
import KE.DataEq
import KE.DataCmp
import KE.DatumOrd
import Lean
import HandS.ForMost
import HandS.Exc
import HandS.Defaults
import HandS.HeadHook2
import HandS.TupAny
import HandS.Style
import HandS.TupLe
import HandS.IsInst
import KE.KDictCopyH
import KE.GoesEnum
import HandS.Codes
import HandS.DictEq
import HandS.More
import HandS.Words
import HandS.WordsExc
import HandS.Head0
import HandS.Head1
import HandS.Head2
import HandS.HeadEnd
import HandS.HeadHook1
import HandS.HeadHook3
import HandS.HeadHook4
import PySem.Challenge.RW_oneendless_k71_whole_sayings_of_full_dep
set_option Elab.async false
set_option linter.all false
set_option autoImplicit false
set_option maxRecDepth 100000
set_option maxHeartbeats 1000000
/-! Pi1: values by content, the small store, outcomes; how they lie in the abstract heap. -/
namespace Pi
open PySem PySem.Spec PyProof.Rows L2

/-- a value by content; loc: a mutable object of the store; gl: a global of the module; scr: the script, a list that is read alone -/
inductive T where
  | non | bl (b : Bool) | int (i : Int) | str (x : List Nat)
  | tup (xs : List T) | lst (xs : List T) | dic (kvs : List (T × T)) | ins (c : Nat) (fs : List (Nat × T))
  | loc (n : Nat) | gl (g : Nat) | scr (xs : List T)
  deriving Inhabited
/-- a mutable object -/
inductive Ob where
  | lst (xs : List T) | dic (kvs : List (T × T)) | ins (c : Nat) (fs : List (Nat × T))
structure Sto where
  nxt : Nat
  obs : List (Nat × Ob)
inductive Out (α : Type) where
  | ok (a : α) (S : Sto) | exc (c : Nat) (fs : List (Nat × T)) (S : Sto) | no
abbrev M (α : Type) := Sto → Out α
def ret {α : Type} (a : α) : M α := fun S => .ok a S
def bnd {α β : Type} (m : M α) (f : α → M β) : M β := fun S => match m S with
  | .ok a S' => f a S'
  | .exc c fs S' => .exc c fs S'
  | .no => .no
def stuck {α : Type} : M α := fun _ => .no
def ofO {α : Type} : Option α → M α
  | some a => ret a
  | none => stuck

/-! ### lists, for the kernel's reckoning -/
def nth {α : Type} : List α → Nat → Option α
  | [], _ => none
  | a :: _, 0 => some a
  | _ :: r, n + 1 => nth r n
theorem nth_eq {α : Type} : ∀ (l : List α) (n : Nat), nth l n = l[n]?
  | [], _ => by simp [nth]
  | a :: _, 0 => by simp [nth]
  | _ :: r, n + 1 => by simp [nth, nth_eq r n]
def setN {α : Type} : List α → Nat → α → List α
  | [], _, _ => []
  | _ :: r, 0, b => b :: r
  | a :: r, n + 1, b => a :: setN r n b
theorem setN_eq {α : Type} : ∀ (l : List α) (n : Nat) (b : α), setN l n b = l.set n b
  | [], _, _ => by simp [setN]
  | a :: _, 0, _ => by simp [setN]
  | _ :: r, n + 1, b => by simp [setN, setN_eq r n b]

/-! ### the store -/
def getL : List (Nat × Ob) → Nat → Option Ob
  | [], _ => none
  | p :: r, n => match Nat.beq p.1 n with
    | true => some p.2
    | false => getL r n
def setL : List (Nat × Ob) → Nat → Ob → List (Nat × Ob)
  | [], _, _ => []
  | p :: r, n, o => match Nat.beq p.1 n with
    | true => (p.1, o) :: r
    | false => p :: setL r n o
def delL : List (Nat × Ob) → Nat → List (Nat × Ob)
  | [], _ => []
  | p :: r, n => match Nat.beq p.1 n with
    | true => r
    | false => p :: delL r n
/-- what is older than n -/
def oldL : List (Nat × Ob) → Nat → List (Nat × Ob)
  | [], _ => []
  | p :: r, n => match Nat.ble n p.1 with
    | true => oldL r n
    | false => p :: oldL r n
def Sto.get (S : Sto) (n : Nat) : Option Ob := getL S.obs n
def Sto.set (S : Sto) (n : Nat) (o : Ob) : Sto := ⟨S.nxt, setL S.obs n o⟩
def Sto.add (S : Sto) (o : Ob) : Sto := ⟨S.nxt + 1, (S.nxt, o) :: S.obs⟩
def Sto.del (S : Sto) (n : Nat) : Sto := ⟨S.nxt, delL S.obs n⟩
def Sto.exit (S : Sto) (n : Nat) : Sto := ⟨S.nxt, oldL S.obs n⟩
def Sto.keys (S : Sto) : List Nat := S.obs.map (·.1)

theorem getL_mem : ∀ {l : List (Nat × Ob)} {n : Nat} {o : Ob}, getL l n = some o → (n, o) ∈ l
  | [], n, o, h => by simp [getL] at h
  | p :: r, n, o, h => by
    unfold getL at h
    cases e : Nat.beq p.1 n with
    | true =>
      rw [e] at h
      have e1 : p.1 = n := Nat.eq_of_beq_eq_true e
      have e2 : p.2 = o := Option.some.inj h
      subst e1; subst e2
      exact List.mem_cons_self
    | false =>
      rw [e] at h
      exact List.mem_cons_of_mem _ (getL_mem h)
theorem setL_keys : ∀ (l : List (Nat × Ob)) (n : Nat) (o : Ob), (setL l n o).map (·.1) = l.map (·.1)
  | [], _, _ => rfl
  | p :: r, n, o => by
    unfold setL
    cases e : Nat.beq p.1 n with
    | true => rfl
    | false => simp only [List.map_cons, setL_keys r n o]
theorem setL_mem : ∀ {l : List (Nat × Ob)} {n : Nat} {o : Ob} {m : Nat} {u : Ob}, (l.map (·.1)).Nodup → (m, u) ∈ setL l n o → (m = n ∧ u = o) ∨ (m ≠ n ∧ (m, u) ∈ l)
  | [], _, _, _, _, _, h => by simp [setL] at h
  | p :: r, n, o, m, u, nd, h => by
    unfold setL at h
    rw [List.map_cons, List.nodup_cons] at nd
    cases e : Nat.beq p.1 n with
    | true =>
      rw [e] at h
      have e1 : p.1 = n := Nat.eq_of_beq_eq_true e
      rcases List.mem_cons.mp h with q | q
      · cases q; exact .inl ⟨e1, rfl⟩
      · refine .inr ⟨fun z => ?_, List.mem_cons_of_mem _ q⟩
        exact nd.1 (List.mem_map.mpr ⟨_, q, by rw [e1, z]⟩)
    | false =>
      rw [e] at h
      have e1 : p.1 ≠ n := fun z => by
        have e2 : Nat.beq p.1 n = true := Nat.beq_eq.mpr z
        rw [e] at e2; cases e2
      rcases List.mem_cons.mp h with q | q
      · cases q; exact .inr ⟨e1, List.mem_cons_self⟩
      · rcases setL_mem nd.2 q with z | z
        · exact .inl z
        · exact .inr ⟨z.1, List.mem_cons_of_mem _ z.2⟩
theorem delL_sub : ∀ {l : List (Nat × Ob)} {n : Nat}, (delL l n).Sublist l
  | [], _ => List.Sublist.refl _
  | p :: r, n => by
    unfold delL
    cases e : Nat.beq p.1 n with
    | true => exact List.sublist_cons_self _ _
    | false => exact delL_sub.cons_cons _
theorem delL_not : ∀ {l : List (Nat × Ob)} {n : Nat}, (l.map (·.1)).Nodup → n ∉ (delL l n).map (·.1)
  | [], _, _ => by simp [delL]
  | p :: r, n, nd => by
    rw [List.map_cons, List.nodup_cons] at nd
    unfold delL
    cases e : Nat.beq p.1 n with
    | true =>
      have e1 : p.1 = n := Nat.eq_of_beq_eq_true e
      rw [← e1]
      exact nd.1
    | false =>
      have e1 : p.1 ≠ n := fun z => by
        have e2 : Nat.beq p.1 n = true := Nat.beq_eq.mpr z
        rw [e] at e2; cases e2
      rw [List.map_cons]
      intro h
      rcases List.mem_cons.mp h with z | z
      · exact e1 z.symm
      · exact delL_not nd.2 z
theorem oldL_sub : ∀ {l : List (Nat × Ob)} {n : Nat}, (oldL l n).Sublist l
  | [], _ => List.Sublist.refl _
  | p :: r, n => by
    unfold oldL
    cases e : Nat.ble n p.1 with
    | true => exact oldL_sub.cons _
    | false => exact oldL_sub.cons_cons _
end Pi
set_option Elab.async false
set_option linter.all false
set_option autoImplicit false
set_option maxRecDepth 100000
set_option maxHeartbeats 1000000
/-! Pi2: how values and the store lie in the abstract heap; what an evaluation keeps. -/
namespace Pi
open PySem PySem.Spec PyProof.Rows L2

abbrev St := L2.St
/-- the program's tables: names of classes, fields, globals by number -/
structure Tb where
  cn : Nat → Str
  fd : Nat → Str
  gn : Nat → Str
structure Pm where
  P : Program
  w : World
  K : PySem.W.Frag
  tb : Tb
def Pm.cls (p : Pm) (c : Nat) : Addr := He.ga p.K (p.tb.cn c)
def Pm.glo (p : Pm) (g : Nat) : Addr := He.ga p.K (p.tb.gn g)
/-- where the numbered objects lie; what never changes -/
structure Wd where
  nxt : Nat
  mu : Nat → Addr
  fz : Addr → Prop

/-- the dict at a with keys that are tuples -/
def DicP (p : Pm) (a : Addr) (xs : List (NestedKey × Addr × V)) (h : Heap) : Prop :=
  ∃ us : List (NestedKey × Addr × Value), Paired (fun (x : NestedKey × Addr × V) (y : NestedKey × Addr × Value) => x.1 = y.1 ∧ x.2.1 = y.2.1 ∧ RelV x.2.2 y.2.2) xs us ∧
    ∃ o es ep, h.get? a = some o ∧ o.ExactDict ∧ o.data = .dict es ep ∧ es.toList = us.map (entryOfKey (nestedKind p.P p.w))
def DicE (p : Pm) (a : Addr) (xs : List (NestedKey × Addr × V)) : HO := .ext (DicP p a xs)

mutual
/-- a value as a part of a key -/
def T.nk : T → Option NestedKey
  | .non => some .none
  | .bl b => some (.num (if b = true then 1 else 0))
  | .int i => some (.num i)
  | .str x => some (.text ⟨x.toArray⟩)
  | .tup xs => match T.nks xs with
    | some ks => some (.tup ks)
    | none => none
  | _ => none
def T.nks : List T → Option (List NestedKey)
  | [] => some []
  | x :: xs => match T.nk x, T.nks xs with
    | some k, some ks => some (k :: ks)
    | _, _ => none
end
/-- a key of the other kind of dict: an int or a text -/
def T.lk : T → Option Key
  | .int i => some (.inl i)
  | .str x => some (.inr ⟨x.toArray⟩)
  | _ => none

section
variable (p : Pm) (W : Wd) (H : Hp)
/-- a tuple that stays: frozen, or of the written part -/
def FzT (a : Addr) (vs : List V) : Prop := (W.fz a ∧ H a = some (.tup vs)) ∨ SqT p.K (fun _ => none) a vs
def FzL (a : Addr) (vs : List V) : Prop := (W.fz a ∧ (H a = some (.lst vs) ∨ ∃ o, H a = some (.frz o (.lst vs)))) ∨ SqL p.K (fun _ => none) a vs
mutual
inductive Rep : T → V → Prop
  | non : Rep .non .non
  | bl (b : Bool) : Rep (.bl b) (.bl b)
  | int (i : Int) : Rep (.int i) (.int i)
  | str (x : List Nat) : Rep (.str x) (.str ⟨x.toArray⟩)
  | tup {a : Addr} {xs : List T} {vs : List V} : FzT p W H a vs → Reps xs vs → Rep (.tup xs) (.ref a)
  | lst {a : Addr} {xs : List T} {vs : List V} : W.fz a → H a = some (.lst vs) → Reps xs vs → Rep (.lst xs) (.ref a)
  | scr {a : Addr} {xs : List T} {vs : List V} : FzL p W H a vs → Reps xs vs → Rep (.scr xs) (.ref a)
  | dicK {a : Addr} {kvs : List (T × T)} {ks : List (Key × V)} : W.fz a → H a = some (.dK ks) → RepK kvs ks → Rep (.dic kvs) (.ref a)
  | dicE {a : Addr} {kvs : List (T × T)} {ks : List (NestedKey × Addr × V)} : W.fz a → H a = some (DicE p a ks) → (a == sysModules) = false → ks.length ≤ sizeLine → RepE kvs ks → (ks.map (·.1)).Nodup → Rep (.dic kvs) (.ref a)
  | ins {a dx : Addr} {c : Nat} {fs : List (Nat × T)} {gs : List (Str × V)} : W.fz a → H a = some (.ins (p.cls c) dx gs) → RepF fs gs → Rep (.ins c fs) (.ref a)
  | loc {n : Nat} : n < W.nxt → Rep (.loc n) (.ref (W.mu n))
  | gl (g : Nat) : Rep (.gl g) (.ref (p.glo g))
inductive Reps : List T → List V → Prop
  | nil : Reps [] []
  | cons {t : T} {v : V} {ts : List T} {vs : List V} : Rep t v → Reps ts vs → Reps (t :: ts) (v :: vs)
inductive RepF : List (Nat × T) → List (Str × V) → Prop
  | nil : RepF [] []
  | cons {k : Nat} {t : T} {v : V} {fs : List (Nat × T)} {gs : List (Str × V)} : Rep t v → RepF fs gs → RepF ((k, t) :: fs) ((p.tb.fd k, v) :: gs)
inductive RepK : List (T × T) → List (Key × V) → Prop
  | nil : RepK [] []
  | cons {k t : T} {q : Key} {v : V} {kvs : List (T × T)} {ks : List (Key × V)} : k.lk = some q → Rep t v → RepK kvs ks → RepK ((k, t) :: kvs) ((q, v) :: ks)
inductive RepE : List (T × T) → List (NestedKey × Addr × V) → Prop
  | nil : RepE [] []
  | cons {k t : T} {q : NestedKey} {a : Addr} {v : V} {kvs : List (T × T)} {ks : List (NestedKey × Addr × V)} : k.nk = some q → q.depth ≤ 8 → Rep k (.ref a) → Rep t v → RepE kvs ks → RepE ((k, t) :: kvs) ((q, a, v) :: ks)
end
/-- a mutable object at its address -/
inductive RepO (a : Addr) : Ob → Prop
  | lst {xs : List T} {vs : List V} : H a = some (.lst vs) → Reps p W H xs vs → RepO a (.lst xs)
  | dicK {kvs : List (T × T)} {ks : List (Key × V)} : H a = some (.dK ks) → RepK p W H kvs ks → RepO a (.dic kvs)
  | dicE {kvs : List (T × T)} {ks : List (NestedKey × Addr × V)} : H a = some (DicE p a ks) → (a == sysModules) = false → ks.length ≤ sizeLine → RepE p W H kvs ks → (ks.map (·.1)).Nodup → RepO a (.dic kvs)
  | ins {dx : Addr} {c : Nat} {fs : List (Nat × T)} {gs : List (Str × V)} : H a = some (.ins (p.cls c) dx gs) → RepF p W H fs gs → RepO a (.ins c fs)
end
/-- the store lies in the abstract heap -/
structure RelS (p : Pm) (W : Wd) (H : Hp) (S : Sto) : Prop where
  nxt : S.nxt = W.nxt
  ob : ∀ n o, (n, o) ∈ S.obs → RepO p W H (W.mu n) o ∧ ¬ W.fz (W.mu n) ∧ n < W.nxt
  nd : S.keys.Nodup
  inj : ∀ n m, n ∈ S.keys → m ∈ S.keys → W.mu n = W.mu m → n = m
  fzs : ∀ a, W.fz a → H a ≠ none
/-- what a run keeps -/
structure Ext (W : Wd) (S : Sto) (H : Hp) (W' : Wd) (S' : Sto) (H' : Hp) : Prop where
  mu : ∀ n, n < W.nxt → W'.mu n = W.mu n
  nxt : W.nxt ≤ W'.nxt
  fz : ∀ a, W.fz a → W'.fz a
  keep : ∀ a o, H a = some o → (∀ n, n ∈ S.keys → W.mu n ≠ a) → H' a = some o
  there : ∀ a, H a ≠ none → H' a ≠ none
  own : ∀ n, n ∈ S'.keys → n ∈ S.keys ∨ H (W'.mu n) = none
  fzn : ∀ a, W'.fz a → W.fz a ∨ H a = none ∨ ∃ n, n ∈ S.keys ∧ W.mu n = a

section
variable {p : Pm} {W W' W'' : Wd} {H H' H'' : Hp} {S S' S'' : Sto}
theorem Ext.refl : Ext W S H W S H := ⟨fun _ _ => rfl, Nat.le_refl _, fun _ h => h, fun _ _ h _ => h, fun _ h => h, fun _ h => .inl h, fun _ h => .inl h⟩
theorem RelS.key (R : RelS p W H S) {n : Nat} (h : n ∈ S.keys) : n < W.nxt ∧ ¬ W.fz (W.mu n) ∧ H (W.mu n) ≠ none := by
  obtain ⟨⟨m, o⟩, hm, e⟩ := List.mem_map.mp h
  cases e
  obtain ⟨r, nf, l⟩ := R.ob _ _ hm
  refine ⟨l, nf, ?_⟩
  cases r with
  | lst e _ => rw [e]; exact fun z => nomatch z
  | dicK e _ => rw [e]; exact fun z => nomatch z
  | dicE e _ _ _ => rw [e]; exact fun z => nomatch z
  | ins e _ => rw [e]; exact fun z => nomatch z
theorem Ext.trans (R0 : RelS p W H S) (R : RelS p W' H' S') (a : Ext W S H W' S' H') (b : Ext W' S' H' W'' S'' H'') : Ext W S H W'' S'' H'' where
  mu := fun n h => (b.mu n (Nat.lt_of_lt_of_le h a.nxt)).trans (a.mu n h)
  nxt := Nat.le_trans a.nxt b.nxt
  fz := fun x h => b.fz x (a.fz x h)
  keep := fun x o h hn => b.keep x o (a.keep x o h hn) fun n hk e => by
    rcases a.own n hk with q | q
    · refine hn n q ?_
      rw [← a.mu n (R0.key q).1]; exact e
    · rw [e, h] at q; cases q
  there := fun x h => b.there x (a.there x h)
  own := fun n h => by
    rcases b.own n h with q | q
    · rcases a.own n q with z | z
      · exact .inl z
      · refine .inr ?_
        rw [b.mu n (R.key q).1]
        exact z
    · refine .inr ?_
      cases e : H (W''.mu n) with
      | none => rfl
      | some o => exact absurd q (a.there _ (by rw [e]; exact fun z => nomatch z))
  fzn := fun x h => by
    rcases b.fzn x h with q | q | ⟨n, hn, e⟩
    · exact a.fzn x q
    · refine .inr (.inl ?_)
      cases e : H x with
      | none => rfl
      | some o => exact absurd q (a.there _ (by rw [e]; exact fun z => nomatch z))
    · rcases a.own n hn with z | z
      · exact .inr (.inr ⟨n, z, by rw [← a.mu n (R0.key z).1]; exact e⟩)
      · rw [e] at z; exact .inr (.inl z)

/-! ### what is told of a value stays -/
theorem FzT.mono (hf : ∀ a, W.fz a → W'.fz a) (hk : ∀ a o, W.fz a → H a = some o → H' a = some o) {a : Addr} {vs : List V} (h : FzT p W H a vs) : FzT p W' H' a vs := by
  rcases h with ⟨h1, h2⟩ | h
  · exact .inl ⟨hf _ h1, hk _ _ h1 h2⟩
  · exact .inr h
theorem FzL.mono (hf : ∀ a, W.fz a → W'.fz a) (hk : ∀ a o, W.fz a → H a = some o → H' a = some o) {a : Addr} {vs : List V} (h : FzL p W H a vs) : FzL p W' H' a vs := by
  rcases h with ⟨h1, h2 | ⟨o, h2⟩⟩ | h
  · exact .inl ⟨hf _ h1, .inl (hk _ _ h1 h2)⟩
  · exact .inl ⟨hf _ h1, .inr ⟨o, hk _ _ h1 h2⟩⟩
  · exact .inr h
section
variable (hm : ∀ n, n < W.nxt → W'.mu n = W.mu n) (hn : W.nxt ≤ W'.nxt) (hf : ∀ a, W.fz a → W'.fz a) (hk : ∀ a o, W.fz a → H a = some o → H' a = some o)
include hm hn hf hk
mutual
theorem Rep.mono' : ∀ {t : T} {v : V}, Rep p W H t v → Rep p W' H' t v
  | _, _, .non => .non
  | _, _, .bl b => .bl b
  | _, _, .int i => .int i
  | _, _, .str x => .str x
  | _, _, .tup h r => .tup (h.mono hf hk) (Reps.mono' r)
  | _, _, .lst h1 h2 r => .lst (hf _ h1) (hk _ _ h1 h2) (Reps.mono' r)
  | _, _, .scr h r => .scr (h.mono hf hk) (Reps.mono' r)
  | _, _, .dicK h1 h2 r => .dicK (hf _ h1) (hk _ _ h1 h2) (RepK.mono' r)
  | _, _, .dicE h1 h2 h3 h4 r h5 => .dicE (hf _ h1) (hk _ _ h1 h2) h3 h4 (RepE.mono' r) h5
  | _, _, .ins h1 h2 r => .ins (hf _ h1) (hk _ _ h1 h2) (RepF.mono' r)
  | _, _, .loc (n := n) h => by
    rw [← hm n h]
    exact .loc (Nat.lt_of_lt_of_le h hn)
  | _, _, .gl g => .gl g
theorem Reps.mono' : ∀ {ts : List T} {vs : List V}, Reps p W H ts vs → Reps p W' H' ts vs
  | _, _, .nil => .nil
  | _, _, .cons h r => .cons (Rep.mono' h) (Reps.mono' r)
theorem RepF.mono' : ∀ {fs : List (Nat × T)} {gs : List (Str × V)}, RepF p W H fs gs → RepF p W' H' fs gs
  | _, _, .nil => .nil
  | _, _, .cons h r => .cons (Rep.mono' h) (RepF.mono' r)
theorem RepK.mono' : ∀ {kvs : List (T × T)} {ks : List (Key × V)}, RepK p W H kvs ks → RepK p W' H' kvs ks
  | _, _, .nil => .nil
  | _, _, .cons e h r => .cons e (Rep.mono' h) (RepK.mono' r)
theorem RepE.mono' : ∀ {kvs : List (T × T)} {ks : List (NestedKey × Addr × V)}, RepE p W H kvs ks → RepE p W' H' kvs ks
  | _, _, .nil => .nil
  | _, _, .cons e d h1 h2 r => .cons e d (Rep.mono' h1) (Rep.mono' h2) (RepE.mono' r)
end
end
theorem Ext.fzk (R : RelS p W H S) (x : Ext W S H W' S' H') : ∀ a o, W.fz a → H a = some o → H' a = some o := fun a o hf h => x.keep a o h fun n hn e => (R.key hn).2.1 (by rw [e]; exact hf)
theorem Rep.mono (R : RelS p W H S) (x : Ext W S H W' S' H') {t : T} {v : V} (h : Rep p W H t v) : Rep p W' H' t v := Rep.mono' x.mu x.nxt x.fz (x.fzk R) h
theorem Reps.mono (R : RelS p W H S) (x : Ext W S H W' S' H') {t : List T} {v : List V} (h : Reps p W H t v) : Reps p W' H' t v := Reps.mono' x.mu x.nxt x.fz (x.fzk R) h
theorem RepF.mono (R : RelS p W H S) (x : Ext W S H W' S' H') {t : List (Nat × T)} {v : List (Str × V)} (h : RepF p W H t v) : RepF p W' H' t v := RepF.mono' x.mu x.nxt x.fz (x.fzk R) h

/-! ### lists of values -/
theorem Reps.length : ∀ {ts : List T} {vs : List V}, Reps p W H ts vs → ts.length = vs.length
  | _, _, .nil => rfl
  | _, _, .cons _ r => by simp [Reps.length r]
theorem Reps.append : ∀ {ts us : List T} {vs ws : List V}, Reps p W H ts vs → Reps p W H us ws → Reps p W H (ts ++ us) (vs ++ ws)
  | _, _, _, _, .nil, h => h
  | _, _, _, _, .cons a r, h => .cons a (Reps.append r h)
theorem Reps.get : ∀ {ts : List T} {vs : List V} {i : Nat} {t : T}, Reps p W H ts vs → ts[i]? = some t → ∃ v, vs[i]? = some v ∧ Rep p W H t v
  | _, _, _, _, .nil, h => by simp at h
  | _, _, 0, _, .cons a _, h => by simp at h; subst h; exact ⟨_, rfl, a⟩
  | _, _, i + 1, _, .cons _ r, h => by
    obtain ⟨v, h1, h2⟩ := Reps.get r (i := i) (by simpa using h)
    exact ⟨v, by simpa using h1, h2⟩
theorem Reps.get' : ∀ {ts : List T} {vs : List V} {i : Nat} {v : V}, Reps p W H ts vs → vs[i]? = some v → ∃ t, ts[i]? = some t ∧ Rep p W H t v
  | _, _, _, _, .nil, h => by simp at h
  | _, _, 0, _, .cons a _, h => by simp at h; subst h; exact ⟨_, rfl, a⟩
  | _, _, i + 1, _, .cons _ r, h => by
    obtain ⟨v, h1, h2⟩ := Reps.get' r (i := i) (by simpa using h)
    exact ⟨v, by simpa using h1, h2⟩
theorem Reps.set : ∀ {ts : List T} {vs : List V} {t : T} {v : V} (i : Nat), Reps p W H ts vs → Rep p W H t v → Reps p W H (ts.set i t) (vs.set i v)
  | _, _, _, _, _, .nil, _ => .nil
  | _, _, _, _, 0, .cons _ r, h => .cons h r
  | _, _, _, _, i + 1, .cons a r, h => .cons a (Reps.set i r h)
theorem Reps.take : ∀ {ts : List T} {vs : List V} (i : Nat), Reps p W H ts vs → Reps p W H (ts.take i) (vs.take i)
  | _, _, 0, _ => .nil
  | _, _, _ + 1, .nil => .nil
  | _, _, i + 1, .cons a r => .cons a (Reps.take i r)
theorem Reps.drop : ∀ {ts : List T} {vs : List V} (i : Nat), Reps p W H ts vs → Reps p W H (ts.drop i) (vs.drop i)
  | _, _, 0, r => r
  | _, _, _ + 1, .nil => .nil
  | _, _, i + 1, .cons _ r => Reps.drop i r
theorem Reps.reverse : ∀ {ts : List T} {vs : List V}, Reps p W H ts vs → Reps p W H ts.reverse vs.reverse
  | _, _, .nil => .nil
  | _, _, .cons a r => by
    rw [List.reverse_cons, List.reverse_cons]
    exact (Reps.reverse r).append (.cons a .nil)
theorem Reps.snoc {ts : List T} {vs : List V} {t : T} {v : V} (h : Reps p W H ts vs) (r : Rep p W H t v) : Reps p W H (ts ++ [t]) (vs ++ [v]) := h.append (.cons r .nil)
theorem Reps.dropLast {ts : List T} {vs : List V} (h : Reps p W H ts vs) : Reps p W H ts.dropLast vs.dropLast := by
  rw [List.dropLast_eq_take, List.dropLast_eq_take, h.length]
  exact h.take _
theorem Reps.erase : ∀ {ts : List T} {vs : List V} (i : Nat), Reps p W H ts vs → Reps p W H (ts.eraseIdx i) (vs.eraseIdx i)
  | _, _, _, .nil => .nil
  | _, _, 0, .cons _ r => r
  | _, _, i + 1, .cons a r => .cons a (Reps.erase i r)
theorem FzT.sq {a : Addr} {vs : List V} (h : FzT p W H a vs) : SqT p.K H a vs := by
  rcases h with ⟨_, h⟩ | h
  · exact .inl (.inl h)
  · rcases h with h | h
    · rcases h with h | ⟨o, h⟩ <;> cases h
    · exact .inr h
theorem FzL.sq {a : Addr} {vs : List V} (h : FzL p W H a vs) : SqL p.K H a vs := by
  rcases h with ⟨_, h⟩ | h
  · exact .inl h
  · rcases h with h | h
    · rcases h with h | ⟨o, h⟩ <;> cases h
    · exact .inr h

/-! ### steps of the store -/
/-- a new object that never changes -/
def Wd.put (W : Wd) (a : Addr) : Wd := ⟨W.nxt, W.mu, fun b => W.fz b ∨ b = a⟩
/-- a new numbered object -/
def Wd.add (W : Wd) (a : Addr) : Wd := ⟨W.nxt + 1, fun n => if n = W.nxt then a else W.mu n, W.fz⟩

theorem upd_keep {a : Addr} {o : HO} (h : H a = none) : ∀ b u, H b = some u → upd H a o b = some u := fun b u e => by
  rw [upd_ne (ne_of_none e h)]; exact e
theorem upd_there {a : Addr} {o : HO} : ∀ b, H b ≠ none → upd H a o b ≠ none := fun b e => by
  by_cases hb : b = a
  · subst hb; rw [upd_same]; exact fun z => nomatch z
  · rw [upd_ne hb]; exact e
theorem RepO.mono' (hm : ∀ n, n < W.nxt → W'.mu n = W.mu n) (hn : W.nxt ≤ W'.nxt) (hf : ∀ a, W.fz a → W'.fz a) (hk : ∀ a o, W.fz a → H a = some o → H' a = some o) {a : Addr} {o : Ob} (ha : ∀ o, H a = some o → H' a = some o)
    (h : RepO p W H a o) : RepO p W' H' a o := by
  cases h with
  | lst e r => exact .lst (ha _ e) (Reps.mono' hm hn hf hk r)
  | dicK e r => exact .dicK (ha _ e) (RepK.mono' hm hn hf hk r)
  | dicE e h1 h2 r h3 => exact .dicE (ha _ e) h1 h2 (RepE.mono' hm hn hf hk r) h3
  | ins e r => exact .ins (ha _ e) (RepF.mono' hm hn hf hk r)
theorem Ext.new {a : Addr} {o : HO} (h : H a = none) : Ext W S H (W.put a) S (upd H a o) :=
  ⟨fun _ _ => rfl, Nat.le_refl _, fun _ z => .inl z, fun b u e _ => upd_keep h b u e, upd_there, fun _ z => .inl z, fun b z => z.elim .inl fun q => .inr (.inl (by rw [q]; exact h))⟩
theorem RelS.new (R : RelS p W H S) {a : Addr} {o : HO} (h : H a = none) : RelS p (W.put a) (upd H a o) S where
  nxt := R.nxt
  ob := fun n u hn => by
    obtain ⟨r, nf, l⟩ := R.ob n u hn
    refine ⟨RepO.mono' (W := W) (W' := W.put a) (fun _ _ => rfl) (Nat.le_refl _) (fun _ z => .inl z) (fun b u _ e => upd_keep h b u e) (fun u e => upd_keep h _ u e) r, ?_, l⟩
    rintro (z | z)
    · exact nf z
    · exact (R.key (List.mem_map.mpr ⟨_, hn, rfl⟩)).2.2 (by rw [show W.mu n = a from z]; exact h)
  nd := R.nd
  inj := R.inj
  fzs := fun b z => by
    rcases z with z | z
    · exact upd_there b (R.fzs b z)
    · rw [z, upd_same]; exact fun q => nomatch q
theorem keep_there (hk : ∀ b u, H b = some u → H' b = some u) : ∀ b, H b ≠ none → H' b ≠ none := fun b z e => by
  cases q : H b with
  | none => exact z q
  | some u => rw [hk b u q] at e; cases e
/-- nothing but an untracked place changes -/
theorem RelS.grow (R : RelS p W H S) (hk : ∀ b u, H b = some u → H' b = some u) : RelS p W H' S where
  nxt := R.nxt
  ob := fun n u hn => by
    obtain ⟨r, nf, l⟩ := R.ob n u hn
    exact ⟨RepO.mono' (W := W) (W' := W) (fun _ _ => rfl) (Nat.le_refl _) (fun _ z => z) (fun b u _ e => hk b u e) (fun u e => hk _ u e) r, nf, l⟩
  nd := R.nd
  inj := R.inj
  fzs := fun b z e => by
    cases q : H b with
    | none => exact R.fzs b z q
    | some u => rw [hk b u q] at e; cases e
theorem Ext.grow (hk : ∀ b u, H b = some u → H' b = some u) : Ext W S H W S H' :=
  ⟨fun _ _ => rfl, Nat.le_refl _, fun _ z => z, fun b u e _ => hk b u e, keep_there hk, fun _ z => .inl z, fun _ z => .inl z⟩
/-- a new numbered object -/
theorem Ext.add (R : RelS p W H S) {a : Addr} {o : Ob} (h : H a = none) (hk : ∀ b u, H b = some u → H' b = some u) : Ext W S H (W.add a) (S.add o) H' :=
  ⟨fun n hn => if_neg (Nat.ne_of_lt hn), Nat.le_succ _, fun _ z => z, fun b u e _ => hk b u e, keep_there hk, fun n z => by
    rcases List.mem_cons.mp (show n ∈ S.nxt :: S.keys from z) with e | z
    · refine .inr ?_
      show H (if n = W.nxt then a else W.mu n) = none
      rw [if_pos (e.trans R.nxt)]; exact h
    · exact .inl z, fun _ z => .inl z⟩
theorem RelS.add (R : RelS p W H S) {a : Addr} {o : Ob} (h : H a = none) (hk : ∀ b u, H b = some u → H' b = some u) (r : RepO p (W.add a) H' a o) : RelS p (W.add a) H' (S.add o) where
  nxt := by show S.nxt + 1 = W.nxt + 1; rw [R.nxt]
  ob := fun n u hn => by
    rcases List.mem_cons.mp (show (n, u) ∈ (S.nxt, o) :: S.obs from hn) with e | hn
    · cases e
      have em : (W.add a).mu S.nxt = a := if_pos R.nxt
      rw [em]
      refine ⟨r, fun z => R.fzs a z h, ?_⟩
      show S.nxt < W.nxt + 1
      rw [R.nxt]; exact Nat.lt_succ_self _
    · obtain ⟨r, nf, l⟩ := R.ob n u hn
      have em : (W.add a).mu n = W.mu n := if_neg (Nat.ne_of_lt l)
      rw [em]
      refine ⟨RepO.mono' (W := W) (W' := W.add a) (fun n hn => if_neg (Nat.ne_of_lt hn)) (Nat.le_succ _) (fun _ z => z) (fun b u _ e => hk b u e) (fun u e => hk _ u e) r, nf, Nat.lt_succ_of_lt l⟩
  nd := by
    show (S.nxt :: S.keys).Nodup
    refine List.nodup_cons.mpr ⟨fun z => ?_, R.nd⟩
    have := (R.key z).1
    rw [R.nxt] at this
    exact absurd this (Nat.lt_irrefl _)
  inj := fun n m hn hm e => by
    have key : ∀ k, k ∈ S.keys → (W.add a).mu k = W.mu k := fun k hk => if_neg (Nat.ne_of_lt (R.key hk).1)
    have em : (W.add a).mu S.nxt = a := if_pos R.nxt
    rcases List.mem_cons.mp (show n ∈ S.nxt :: S.keys from hn) with e1 | hn <;> rcases List.mem_cons.mp (show m ∈ S.nxt :: S.keys from hm) with e2 | hm
    · rw [e1, e2]
    · rw [e1, em, key m hm] at e
      exact absurd h (by rw [e]; exact (R.key hm).2.2)
    · rw [e2, em, key n hn] at e
      exact absurd h (by rw [← e]; exact (R.key hn).2.2)
    · rw [key n hn, key m hm] at e
      exact R.inj n m hn hm e
  fzs := fun b z e => by
    cases q : H b with
    | none => exact R.fzs b z q
    | some u => rw [hk b u q] at e; cases e
theorem Sto.get_mem {n : Nat} {o : Ob} (h : S.get n = some o) : (n, o) ∈ S.obs := getL_mem h
theorem Sto.get_key {n : Nat} {o : Ob} (h : S.get n = some o) : n ∈ S.keys := List.mem_map.mpr ⟨_, getL_mem h, rfl⟩
theorem RelS.get (R : RelS p W H S) {n : Nat} {o : Ob} (h : S.get n = some o) : RepO p W H (W.mu n) o := (R.ob n o (Sto.get_mem h)).1
theorem Sto.keys_set (n : Nat) (o : Ob) : (S.set n o).keys = S.keys := setL_keys _ _ _
/-- a numbered object is written -/
theorem Ext.set {n : Nat} {o : Ob} {ho : HO} (hn : n ∈ S.keys) : Ext W S H W (S.set n o) (upd H (W.mu n) ho) :=
  ⟨fun _ _ => rfl, Nat.le_refl _, fun _ z => z, fun b u e hb => by rw [upd_ne (Ne.symm (hb n hn))]; exact e, upd_there, fun m z => .inl (by rw [Sto.keys_set] at z; exact z), fun _ z => .inl z⟩
theorem RelS.set (R : RelS p W H S) {n : Nat} {o : Ob} {ho : HO} (hn : n ∈ S.keys) (r : RepO p W (upd H (W.mu n) ho) (W.mu n) o) : RelS p W (upd H (W.mu n) ho) (S.set n o) where
  nxt := R.nxt
  ob := fun m u hm => by
    rcases setL_mem R.nd (show (m, u) ∈ setL S.obs n o from hm) with ⟨e1, e2⟩ | ⟨ne, hm⟩
    · subst e1; subst e2
      exact ⟨r, (R.key hn).2.1, (R.key hn).1⟩
    · obtain ⟨r', nf, l⟩ := R.ob m u hm
      have nem : W.mu m ≠ W.mu n := fun e => ne (R.inj m n (List.mem_map.mpr ⟨_, hm, rfl⟩) hn e)
      refine ⟨RepO.mono' (W := W) (W' := W) (fun _ _ => rfl) (Nat.le_refl _) (fun _ z => z) (fun b u hf e => ?_) (fun u e => by rw [upd_ne nem]; exact e) r', nf, l⟩
      rw [upd_ne fun z => (R.key hn).2.1 (by rw [← z]; exact hf)]
      exact e
  nd := by rw [Sto.keys_set]; exact R.nd
  inj := by rw [Sto.keys_set]; exact R.inj
  fzs := fun b z => upd_there b (R.fzs b z)
/-- the values stay through such a write -/
theorem Rep.set (R : RelS p W H S) {n : Nat} {ho : HO} (hn : n ∈ S.keys) {t : T} {v : V} (r : Rep p W H t v) : Rep p W (upd H (W.mu n) ho) t v :=
  Rep.mono R (Ext.set (o := .lst []) hn) r
theorem Reps.setH (R : RelS p W H S) {n : Nat} {ho : HO} (hn : n ∈ S.keys) {t : List T} {v : List V} (r : Reps p W H t v) : Reps p W (upd H (W.mu n) ho) t v :=
  Reps.mono R (Ext.set (o := .lst []) hn) r
/-- fewer objects are known -/
theorem RelS.sub (R : RelS p W H S) (hn : S'.nxt = S.nxt) (hs : S'.obs.Sublist S.obs) : RelS p W H S' where
  nxt := hn.trans R.nxt
  ob := fun n o h => R.ob n o (hs.subset h)
  nd := R.nd.sublist (hs.map _)
  inj := fun n m h1 h2 => R.inj n m ((hs.map _).subset h1) ((hs.map _).subset h2)
  fzs := R.fzs
theorem Ext.sub (hs : S'.obs.Sublist S.obs) : Ext W S H W S' H :=
  ⟨fun _ _ => rfl, Nat.le_refl _, fun _ z => z, fun _ _ e _ => e, fun _ z => z, fun n z => .inl ((hs.map _).subset z), fun _ z => .inl z⟩
/-- a numbered object is frozen: it leaves the store -/
theorem RelS.frz (R : RelS p W H S) {n : Nat} (hn : n ∈ S.keys) : RelS p (W.put (W.mu n)) H (S.del n) where
  nxt := R.nxt
  ob := fun m o h => by
    have hm : (m, o) ∈ S.obs := delL_sub.subset h
    obtain ⟨r, nf, l⟩ := R.ob m o hm
    refine ⟨RepO.mono' (W := W) (W' := W.put (W.mu n)) (fun _ _ => rfl) (Nat.le_refl _) (fun _ z => .inl z) (fun _ _ _ e => e) (fun _ e => e) r, ?_, l⟩
    rintro (z | z)
    · exact nf z
    · have e : m = n := R.inj m n (List.mem_map.mpr ⟨_, hm, rfl⟩) hn z
      subst e
      exact delL_not R.nd (List.mem_map.mpr ⟨_, h, rfl⟩)
  nd := R.nd.sublist (delL_sub.map _)
  inj := fun a b h1 h2 => R.inj a b ((delL_sub.map _).subset h1) ((delL_sub.map _).subset h2)
  fzs := fun b z => by
    rcases z with z | z
    · exact R.fzs b z
    · rw [z]; exact (R.key hn).2.2
theorem Ext.frz {n : Nat} (hn : n ∈ S.keys) : Ext W S H (W.put (W.mu n)) (S.del n) H :=
  ⟨fun _ _ => rfl, Nat.le_refl _, fun _ z => .inl z, fun _ _ e _ => e, fun _ z => z, fun n z => .inl ((delL_sub.map _).subset z), fun b z => z.elim .inl fun q => .inr (.inr ⟨n, hn, q.symm⟩)⟩
/-- what is told of values stays from W, H to W', H' -/
structure Lat (W : Wd) (H : Hp) (W' : Wd) (H' : Hp) : Prop where
  mu : ∀ n, n < W.nxt → W'.mu n = W.mu n
  nxt : W.nxt ≤ W'.nxt
  fz : ∀ a, W.fz a → W'.fz a
  keep : ∀ a o, W.fz a → H a = some o → H' a = some o
theorem Lat.refl : Lat W H W H := ⟨fun _ _ => rfl, Nat.le_refl _, fun _ h => h, fun _ _ _ h => h⟩
theorem Lat.trans (a : Lat W H W' H') (b : Lat W' H' W'' H'') : Lat W H W'' H'' := ⟨fun n h => (b.mu n (Nat.lt_of_lt_of_le h a.nxt)).trans (a.mu n h), Nat.le_trans a.nxt b.nxt, fun x h => b.fz x (a.fz x h), fun x o f h => b.keep x o (a.fz x f) (a.keep x o f h)⟩
theorem Ext.lat (R : RelS p W H S) (x : Ext W S H W' S' H') : Lat W H W' H' := ⟨x.mu, x.nxt, x.fz, x.fzk R⟩
theorem Rep.lat (l : Lat W H W' H') {t : T} {v : V} (h : Rep p W H t v) : Rep p W' H' t v := Rep.mono' l.mu l.nxt l.fz l.keep h
theorem Reps.lat (l : Lat W H W' H') {t : List T} {v : List V} (h : Reps p W H t v) : Reps p W' H' t v := Reps.mono' l.mu l.nxt l.fz l.keep h
end
end Pi
set_option Elab.async false
set_option linter.all false
set_option autoImplicit false
set_option maxRecDepth 100000
set_option maxHeartbeats 1000000
/-! Pi3: what a run of the plain meaning promises; expressions. -/
namespace Pi
open PySem PySem.Spec PyProof.Rows L2

abbrev EnvT := List (Option T)
abbrev ME := EnvT → M T
abbrev MT := EnvT → M Bool
abbrev MA := EnvT → M (List T)

def Ans {α β : Type} (p : Pm) (E : XK) (R : Wd → Hp → α → β → Prop) (W : Wd) (S : Sto) (H : Hp) (Q : β → Hp → Prop) : Out α → Prop
  | .ok t S' => ∀ W' H' v, Ext W S H W' S' H' → RelS p W' H' S' → R W' H' t v → Q v H'
  | .exc c fs S' => ∀ W' H' d gs, Ext W S H W' S' H' → RelS p W' H' S' → H' d = some (.xd gs) → RepF p W' H' fs gs → E (.ref (p.cls c)) (some d) H'
  | .no => False
/-- a Bool is told as it is -/
abbrev BoolR : Wd → Hp → Bool → Bool → Prop := fun _ _ b c => b = c
structure EnvR (p : Pm) (W : Wd) (H : Hp) (env : EnvT) (σ : St) : Prop where
  len : env.length = σ.length
  get : ∀ (i : Nat) (t : T), env[i]? = some (some t) → ∃ v, σ[i]? = some (some v) ∧ Rep p W H t v
structure Rl (p : Pm) (W : Wd) (env : EnvT) (S : Sto) (σ : St) (H : Hp) : Prop where
  sto : RelS p W H S
  env : EnvR p W H env σ
abbrev pm (X : Cx) (tb : Tb) : Pm := ⟨X.prog, X.w, X.K, tb⟩

def tG {α β : Type} (p : Pm) (Wx : WX) (R : Wd → Hp → α → β → Prop) (m : EnvT → M α) : St → Hp → (β → Hp → Prop) → Prop := fun σ H Q =>
  ∃ W env S, Rl p W env S σ H ∧ Ans p (fun c d H' => Wx c d σ H') R W S H Q (m env S)
abbrev tE (p : Pm) (Wx : WX) (m : ME) : TE := tG p Wx (Rep p) m
abbrev tT (p : Pm) (Wx : WX) (m : MT) : TT := tG p Wx BoolR m
abbrev tAr (p : Pm) (Wx : WX) (m : MA) : TA := tG p Wx (Reps p) m
abbrev QE (X : Cx) (tb : Tb) (Wx : WX) (e : Expr) (m : ME) : Prop := PE X e (tE (pm X tb) Wx m)
abbrev QT (X : Cx) (tb : Tb) (Wx : WX) (e : Expr) (m : MT) : Prop := PT X e (tT (pm X tb) Wx m)
abbrev QA (X : Cx) (tb : Tb) (Wx : WX) (es : List Expr) (m : MA) : Prop := PA X es (tAr (pm X tb) Wx m)

theorem PE.imp {X : Cx} {e : Expr} {t t' : TE} (h : PE X e t) (i : ∀ σ H Q, t' σ H Q → t σ H Q) : PE X e t' := ⟨fun pins s σ H Q I q => h.run pins s σ H Q I (i σ H Q q)⟩
theorem PT.imp {X : Cx} {e : Expr} {t t' : TT} (h : PT X e t) (i : ∀ σ H Q, t' σ H Q → t σ H Q) : PT X e t' := ⟨fun pins s σ H Q I q => h.run pins s σ H Q I (i σ H Q q)⟩
theorem PW.imp {X : Cx} {e : Expr} {t t' : TT} (h : PW X e t) (i : ∀ σ H Q, t' σ H Q → t σ H Q) : PW X e t' := ⟨fun wh pins s σ H Q I q => h.run wh pins s σ H Q I (i σ H Q q)⟩
theorem PA.imp {X : Cx} {e : List Expr} {t t' : TA} (h : PA X e t) (i : ∀ σ H Q, t' σ H Q → t σ H Q) : PA X e t' := ⟨fun pos pins s σ H Q I q => h.run pos pins s σ H Q I (i σ H Q q)⟩
theorem PS.imp {X : Cx} {e : Stmt} {t t' : TS} (h : PS X e t) (i : ∀ D σ H, t' D σ H → t D σ H) : PS X e t' := ⟨fun pins s σ H D I q => h.run pins s σ H D I (i D σ H q)⟩

section
variable {α β γ δ : Type} {p : Pm} {E : XK} {R : Wd → Hp → α → β → Prop} {R2 : Wd → Hp → γ → δ → Prop} {W W' : Wd} {S S' : Sto} {H H' : Hp} {Q Q' : β → Hp → Prop}
theorem Ans.imp {o : Out α} (h : Ans p E R W S H Q o) (hq : ∀ v H', Q v H' → Q' v H') : Ans p E R W S H Q' o := by
  cases o with
  | ok t S' => exact fun W' H' v x r q => hq _ _ (h W' H' v x r q)
  | exc c fs S' => exact h
  | no => exact h
/-- from a later state -/
theorem Ans.later {o : Out α} (R0 : RelS p W H S) (R1 : RelS p W' H' S') (x : Ext W S H W' S' H') (h : Ans p E R W S H Q o) : Ans p E R W' S' H' Q o := by
  cases o with
  | ok t S' => exact fun W'' H'' v y r q => h W'' H'' v (x.trans R0 R1 y) r q
  | exc c fs S' => exact fun W'' H'' d gs y r a b => h W'' H'' d gs (x.trans R0 R1 y) r a b
  | no => exact h
theorem Ans.bind {m : M α} {f : α → M γ} {Q : δ → Hp → Prop} (R0 : RelS p W H S) (h : Ans p E R2 W S H Q (bnd m f S)) :
    Ans p E R W S H (fun v H1 => ∃ W1 S1 t, Ext W S H W1 S1 H1 ∧ RelS p W1 H1 S1 ∧ R W1 H1 t v ∧ Ans p E R2 W1 S1 H1 Q (f t S1)) (m S) := by
  unfold bnd at h
  cases e : m S with
  | ok t S1 =>
    rw [e] at h
    exact fun W1 H1 v x r q => ⟨W1, S1, t, x, r, q, Ans.later R0 r x h⟩
  | exc c fs S1 =>
    rw [e] at h
    exact h
  | no =>
    rw [e] at h
    exact h
theorem Ans.ret_ {t : α} {v : β} (R0 : RelS p W H S) (h : Ans p E R W S H Q (ret t S)) (r : R W H t v) : Q v H := h W H v Ext.refl R0 r
end
section
variable {p : Pm} {W W' : Wd} {S S' : Sto} {H H' : Hp} {env : EnvT} {σ : St}
theorem EnvR.mono (R : RelS p W H S) (x : Ext W S H W' S' H') (h : EnvR p W H env σ) : EnvR p W' H' env σ := ⟨h.len, fun i t e => let ⟨v, a, b⟩ := h.get i t e; ⟨v, a, b.mono R x⟩⟩
theorem Rl.later (R : Rl p W env S σ H) (R1 : RelS p W' H' S') (x : Ext W S H W' S' H') : Rl p W' env S' σ H' := ⟨R1, R.env.mono R.sto x⟩
theorem EnvR.set (h : EnvR p W H env σ) (i : Nat) {t : T} {v : V} (r : Rep p W H t v) : EnvR p W H (setN env i (some t)) (σ.set i (some v)) := by
  rw [setN_eq]
  refine ⟨by simp [h.len], fun j u e => ?_⟩
  by_cases hj : i = j
  · subst hj
    by_cases hl : i < env.length
    · rw [List.getElem?_set_self hl] at e
      cases e
      exact ⟨v, List.getElem?_set_self (by rw [← h.len]; exact hl), r⟩
    · rw [List.getElem?_eq_none (by simpa using hl)] at e; cases e
  · rw [List.getElem?_set_ne hj] at e
    rw [List.getElem?_set_ne hj]
    exact h.get j u e
end

/-! ### names, constants -/
def eVar (i : Nat) : ME := fun env => match nth env i with
  | some (some t) => ret t
  | _ => stuck
def eC (t : T) : ME := fun _ => ret t
section
variable {X : Cx} {tb : Tb} {Wx : WX} {a b c : Expr} {ma mb mc : ME} {pos : Pos}
theorem q_var {i : Nat} {x : Str} (h : PE X (.Name x pos) (tVar i)) : QE X tb Wx (.Name x pos) (eVar i) := by
  refine PE.imp h fun σ H Q ⟨W, env, S, R, q⟩ => ?_
  unfold eVar at q
  rw [nth_eq] at q
  cases e : env[i]? with
  | none => rw [e] at q; exact q.elim
  | some o =>
    cases o with
    | none => rw [e] at q; exact q.elim
    | some t =>
      rw [e] at q
      obtain ⟨v, h1, r⟩ := R.env.get i t e
      exact ⟨v, h1, q.ret_ R.sto r⟩
theorem q_c {e : Expr} {t : T} {v : V} (h : PE X e (tC v)) (r : ∀ W H, Rep (pm X tb) W H t v) : QE X tb Wx e (eC t) :=
  PE.imp h fun σ H Q ⟨W, env, S, R, q⟩ => q.ret_ R.sto (r W H)
theorem q_int {i j} : QE X tb Wx (.Constant (.int i) j pos) (eC (.int i)) := q_c pe_int fun _ _ => .int i
theorem q_bl {i j} : QE X tb Wx (.Constant (.bool i) j pos) (eC (.bl i)) := q_c pe_bl fun _ _ => .bl i
theorem q_non {j} : QE X tb Wx (.Constant .none j pos) (eC .non) := q_c pe_non fun _ _ => .non
theorem q_str {x : Str} {l : List Nat} {j} (h : x = ⟨l.toArray⟩ := by rfl) : QE X tb Wx (.Constant (.str x) j pos) (eC (.str l)) := by
  subst h; exact q_c pe_str fun _ _ => .str l

/-! ### operators -/
/-- a two-place operation on plain values -/
def rO (p : Pm) (Wx : WX) (σ : St) (f : T → T → M T) : R2 := fun x y H Q => ∃ W S t u, RelS p W H S ∧ Rep p W H t x ∧ Rep p W H u y ∧ Ans p (fun c d H' => Wx c d σ H') (Rep p) W S H Q (f t u S)
def eOp (f : T → T → M T) (a b : ME) : ME := fun env => bnd (a env) fun x => bnd (b env) fun y => f x y
/-- what is asked of a rule: it serves the plain operation (which raises nothing) -/
def E0 : XK := fun _ _ _ => False
def rP (p : Pm) (f : T → T → M T) : R2 := fun x y H Q => ∃ W S t u, RelS p W H S ∧ Rep p W H t x ∧ Rep p W H u y ∧ Ans p E0 (Rep p) W S H Q (f t u S)
/-- f raises nothing -/
def NoX2 (f : T → T → M T) : Prop := ∀ t u S c fs S', f t u S ≠ .exc c fs S'
theorem Ans.nox {α β : Type} {p : Pm} {E : XK} {R : Wd → Hp → α → β → Prop} {W : Wd} {S : Sto} {H : Hp} {Q : β → Hp → Prop} {o : Out α} (h : Ans p E R W S H Q o) (n : ∀ c fs S', o ≠ .exc c fs S') : Ans p E0 R W S H Q o := by
  cases o with
  | ok t S' => exact h
  | exc c fs S' => exact absurd rfl (n c fs S')
  | no => exact h
theorem op_reading {f : T → T → M T} (hn : NoX2 f) {σ : St} {H : Hp} {Q : VK} (h : tE (pm X tb) Wx (eOp f ma mb) σ H Q) : tOp (rP (pm X tb) f) (tE (pm X tb) Wx ma) (tE (pm X tb) Wx mb) σ H Q := by
  obtain ⟨W, env, S, R, q⟩ := h
  refine ⟨W, env, S, R, Ans.imp (Ans.bind (R := Rep (pm X tb)) R.sto q) fun x H1 ⟨W1, S1, t, x1, r1, rx, q1⟩ => ?_⟩
  refine ⟨W1, env, S1, R.later r1 x1, Ans.imp (Ans.bind (R := Rep (pm X tb)) r1 q1) fun y H2 ⟨W2, S2, u, x2, r2, ry, q2⟩ => ?_⟩
  exact ⟨W2, S2, t, u, r2, rx.mono r1 x2, ry, q2.nox (hn t u S2)⟩
theorem q_op {op : Operator} {f : T → T → M T} (ho : OpR X (binaryOp op) (rP (pm X tb) f)) (hn : NoX2 f) (ha : QE X tb Wx a ma) (hb : QE X tb Wx b mb) : QE X tb Wx (.BinOp a op b pos) (eOp f ma mb) :=
  PE.imp (pe_op ho ha hb) fun σ H Q h => op_reading hn h
theorem q_cmp {op : CmpOp} {f : T → T → M T} (ho : OpR X (compareOp op) (rP (pm X tb) f)) (hn : NoX2 f) (ha : QE X tb Wx a ma) (hb : QE X tb Wx b mb) (hm : behindInMarks op b = false) : QE X tb Wx (.Compare a [op] [b] pos) (eOp f ma mb) :=
  PE.imp (pe_cmpR ho ha hb hm) fun σ H Q h => op_reading hn h
/-- a test of a value that is a bool -/
def asB : T → M Bool
  | .bl b => ret b
  | _ => stuck
def tB1 (a : ME) : MT := fun env => bnd (a env) asB
theorem test_reading {t : TE} (ht : ∀ σ H Q, tE (pm X tb) Wx ma σ H Q → t σ H Q) {σ : St} {H : Hp} {Q : Bool → Hp → Prop} (h : tT (pm X tb) Wx (tB1 ma) σ H Q) : t σ H fun x H' => ∃ k, x = .bl k ∧ Q k H' := by
  obtain ⟨W, env, S, R, q⟩ := h
  refine ht σ H _ ⟨W, env, S, R, Ans.imp (Ans.bind (R := Rep (pm X tb)) R.sto q) fun x H1 ⟨W1, S1, t, x1, r1, rx, q1⟩ => ?_⟩
  cases rx with
  | bl k => exact ⟨k, rfl, q1.ret_ r1 rfl⟩
  | _ => exact q1.elim
theorem qt_cmp {op : CmpOp} {f : T → T → M T} (ho : OpR X (compareOp op) (rP (pm X tb) f)) (hn : NoX2 f) (ha : QE X tb Wx a ma) (hb : QE X tb Wx b mb) (hm : behindInMarks op b = false) : QT X tb Wx (.Compare a [op] [b] pos) (tB1 (eOp f ma mb)) :=
  PT.imp (pt_cmpR ho ha hb hm) fun σ H Q h => test_reading (fun σ H Q h => op_reading hn h) h
/-- any expression whose value is a bool, as a test -/
theorem qt_val {e : Expr} {m : ME} (h : QE X tb Wx e m) (he : ∀ whole, isTrue e X.env whole = (do let v ← whole; standAt e.pos; holding [v] (truthy v)) := by intro _; rfl) : QT X tb Wx e (tB1 m) :=
  PT.imp (pt_val h he) fun σ H Q q => test_reading (fun _ _ _ z => z) q

/-! ### and, or, not, if -/
def tAnd2 (a b : MT) : MT := fun env => bnd (a env) fun x => match x with
  | true => b env
  | false => ret false
def tOr2 (a b : MT) : MT := fun env => bnd (a env) fun x => match x with
  | true => ret true
  | false => b env
def tNot1 (a : MT) : MT := fun env => bnd (a env) fun x => ret (!x)
/-- a test's meaning, whatever its 'whole' is -/
abbrev QW (X : Cx) (tb : Tb) (Wx : WX) (e : Expr) (m : MT) : Prop := PW X e (tT (pm X tb) Wx m)
variable {na nb : MT} {rest : List Expr}
theorem qw_and1 (ha : QT X tb Wx a na) : QW X tb Wx (.BoolOp .And [a] pos) na := pw_and1 ha
theorem qw_or1 (ha : QT X tb Wx a na) : QW X tb Wx (.BoolOp .Or [a] pos) na := pw_or1 ha
theorem qw_and (ha : QT X tb Wx a na) (hb : QW X tb Wx (.BoolOp .And (b :: rest) pos) nb) : QW X tb Wx (.BoolOp .And (a :: b :: rest) pos) (tAnd2 na nb) := by
  refine PW.imp (pw_and ha hb) fun σ H Q ⟨W, env, S, R, q⟩ => ?_
  refine ⟨W, env, S, R, Ans.imp (Ans.bind (R := BoolR) R.sto q) fun x H1 ⟨W1, S1, t, x1, r1, rx, q1⟩ => ?_⟩
  cases rx
  cases x with
  | true => rw [if_pos rfl]; exact ⟨W1, env, S1, R.later r1 x1, q1⟩
  | false => rw [if_neg Bool.false_ne_true]; exact q1.ret_ r1 rfl
theorem qw_or (ha : QT X tb Wx a na) (hb : QW X tb Wx (.BoolOp .Or (b :: rest) pos) nb) : QW X tb Wx (.BoolOp .Or (a :: b :: rest) pos) (tOr2 na nb) := by
  refine PW.imp (pw_or ha hb) fun σ H Q ⟨W, env, S, R, q⟩ => ?_
  refine ⟨W, env, S, R, Ans.imp (Ans.bind (R := BoolR) R.sto q) fun x H1 ⟨W1, S1, t, x1, r1, rx, q1⟩ => ?_⟩
  cases rx
  cases x with
  | false => rw [if_neg Bool.false_ne_true]; exact ⟨W1, env, S1, R.later r1 x1, q1⟩
  | true => rw [if_pos rfl]; exact q1.ret_ r1 rfl
theorem qt_not (ha : QT X tb Wx a na) : QT X tb Wx (.UnaryOp .Not a pos) (tNot1 na) := by
  refine PT.imp (pt_not ha) fun σ H Q ⟨W, env, S, R, q⟩ => ?_
  refine ⟨W, env, S, R, Ans.imp (Ans.bind (R := BoolR) R.sto q) fun x H1 ⟨W1, S1, t, x1, r1, rx, q1⟩ => ?_⟩
  cases rx
  exact q1.ret_ r1 rfl
/-- .. as values that are bools -/
def eAnd (a b : ME) : ME := fun env => bnd (a env) fun x => match x with
  | .bl true => b env
  | .bl false => ret (.bl false)
  | _ => stuck
def eOr (a b : ME) : ME := fun env => bnd (a env) fun x => match x with
  | .bl true => ret (.bl true)
  | .bl false => b env
  | _ => stuck
def eNot (a : ME) : ME := fun env => bnd (a env) fun x => match x with
  | .bl k => ret (.bl (!k))
  | _ => stuck
theorem q_and (ha : QE X tb Wx a ma) (hb : QE X tb Wx (.BoolOp .And (b :: rest) pos) mb) : QE X tb Wx (.BoolOp .And (a :: b :: rest) pos) (eAnd ma mb) := by
  refine PE.imp (pe_and ha hb) fun σ H Q ⟨W, env, S, R, q⟩ => ?_
  refine ⟨W, env, S, R, Ans.imp (Ans.bind (R := Rep (pm X tb)) R.sto q) fun x H1 ⟨W1, S1, t, x1, r1, rx, q1⟩ => ?_⟩
  cases rx with
  | bl k =>
    refine ⟨k, rfl, ?_⟩
    cases k with
    | true => rw [if_pos rfl]; exact ⟨W1, env, S1, R.later r1 x1, q1⟩
    | false => rw [if_neg Bool.false_ne_true]; exact q1.ret_ r1 (.bl false)
  | _ => exact q1.elim
theorem q_or (ha : QE X tb Wx a ma) (hb : QE X tb Wx (.BoolOp .Or (b :: rest) pos) mb) : QE X tb Wx (.BoolOp .Or (a :: b :: rest) pos) (eOr ma mb) := by
  refine PE.imp (pe_or ha hb) fun σ H Q ⟨W, env, S, R, q⟩ => ?_
  refine ⟨W, env, S, R, Ans.imp (Ans.bind (R := Rep (pm X tb)) R.sto q) fun x H1 ⟨W1, S1, t, x1, r1, rx, q1⟩ => ?_⟩
  cases rx with
  | bl k =>
    refine ⟨k, rfl, ?_⟩
    cases k with
    | false => rw [if_neg Bool.false_ne_true]; exact ⟨W1, env, S1, R.later r1 x1, q1⟩
    | true => rw [if_pos rfl]; exact q1.ret_ r1 (.bl true)
  | _ => exact q1.elim
theorem q_one {op} (h : QE X tb Wx a ma) : QE X tb Wx (.BoolOp op [a] pos) ma := pe_one h
theorem q_not (ha : QE X tb Wx a ma) : QE X tb Wx (.UnaryOp .Not a pos) (eNot ma) := by
  refine PE.imp (pe_not ha) fun σ H Q ⟨W, env, S, R, q⟩ => ?_
  refine ⟨W, env, S, R, Ans.imp (Ans.bind (R := Rep (pm X tb)) R.sto q) fun x H1 ⟨W1, S1, t, x1, r1, rx, q1⟩ => ?_⟩
  cases rx with
  | bl k => exact ⟨k, rfl, q1.ret_ r1 (.bl _)⟩
  | _ => exact q1.elim
def eIf (t : MT) (a b : ME) : ME := fun env => bnd (t env) fun x => match x with
  | true => a env
  | false => b env
theorem q_if (hc : QT X tb Wx c na) (ha : QE X tb Wx a ma) (hb : QE X tb Wx b mb) : QE X tb Wx (.IfExp c a b pos) (eIf na ma mb) := by
  refine PE.imp (pe_ifExp hc ha hb) fun σ H Q ⟨W, env, S, R, q⟩ => ?_
  refine ⟨W, env, S, R, Ans.imp (Ans.bind (R := BoolR) R.sto q) fun x H1 ⟨W1, S1, t, x1, r1, rx, q1⟩ => ?_⟩
  cases rx
  cases x with
  | true => rw [if_pos rfl]; exact ⟨W1, env, S1, R.later r1 x1, q1⟩
  | false => rw [if_neg Bool.false_ne_true]; exact ⟨W1, env, S1, R.later r1 x1, q1⟩
/-- a op1 b op2 c -/
def eChain (f g : T → T → M T) (a b c : ME) : ME := fun env => bnd (a env) fun x => bnd (b env) fun y => bnd (f x y) fun r => match r with
  | .bl true => bnd (c env) fun z => g y z
  | .bl false => ret (.bl false)
  | _ => stuck
/-- an operation by its rule, run from its own reading -/
def rQ (p : Pm) (f : T → T → M T) : R2 := rP p f
theorem chain_reading {f g : T → T → M T} (hf : NoX2 f) (hg : NoX2 g) (kf : ∀ t u S, (∃ r, f t u S = .ok r S) ∨ f t u S = .no) {σ : St} {H : Hp} {Q : VK} (h : tE (pm X tb) Wx (eChain f g ma mb mc) σ H Q) :
    tChain (rP (pm X tb) f) (rP (pm X tb) g) (tE (pm X tb) Wx ma) (tE (pm X tb) Wx mb) (tE (pm X tb) Wx mc) σ H Q := by
  obtain ⟨W, env, S, R, q⟩ := h
  refine ⟨W, env, S, R, Ans.imp (Ans.bind (R := Rep (pm X tb)) R.sto q) fun x H1 ⟨W1, S1, t, x1, r1, rx, q1⟩ => ?_⟩
  refine ⟨W1, env, S1, R.later r1 x1, Ans.imp (Ans.bind (R := Rep (pm X tb)) r1 q1) fun y H2 ⟨W2, S2, u, x2, r2, ry, q2⟩ => ?_⟩
  refine ⟨W2, S2, t, u, r2, rx.mono r1 x2, ry, ?_⟩
  rcases kf t u S2 with ⟨rr, e⟩ | e
  · unfold bnd at q2
    rw [e] at q2 ⊢
    intro W3 H3 z x3 r3 rz
    cases rz with
    | bl k =>
      refine ⟨k, rfl, ?_⟩
      cases k with
      | true =>
        rw [if_pos rfl]
        have q3 : Ans (pm X tb) _ (Rep (pm X tb)) W3 S2 H3 Q (bnd (mc env) (fun z => g u z) S2) := Ans.later r2 r3 x3 q2
        refine ⟨W3, env, S2, ((R.later r1 x1).later r2 x2).later r3 x3, Ans.imp (Ans.bind (R := Rep (pm X tb)) r3 q3) fun z H4 ⟨W4, S4, v, x4, r4, rz, q4⟩ => ?_⟩
        exact ⟨W4, S4, u, v, r4, (ry.mono r2 x3).mono r3 x4, rz, q4.nox (hg u v S4)⟩
      | false =>
        rw [if_neg Bool.false_ne_true]
        exact (Ans.later r2 r3 x3 q2).ret_ r3 (.bl false)
    | _ => exact q2.elim
  · unfold bnd at q2
    rw [e] at q2
    exact q2.elim
theorem q_chain {op op' : CmpOp} {f g : T → T → M T} (ho : OpR X (compareOp op) (rP (pm X tb) f)) (ho' : OpR X (compareOp op') (rP (pm X tb) g)) (hf : NoX2 f) (hg : NoX2 g) (kf : ∀ t u S, (∃ r, f t u S = .ok r S) ∨ f t u S = .no)
    (ha : QE X tb Wx a ma) (hb : QE X tb Wx b mb) (hc : QE X tb Wx c mc) (hm : lastMarks [op, op'] [b, c] = false := by with_unfolding_all rfl) : QE X tb Wx (.Compare a [op, op'] [b, c] pos) (eChain f g ma mb mc) :=
  PE.imp (pe_chain ho ho' ha hb hc hm) fun σ H Q h => chain_reading hf hg kf h
theorem qt_chain {op op' : CmpOp} {f g : T → T → M T} (ho : OpR X (compareOp op) (rP (pm X tb) f)) (ho' : OpR X (compareOp op') (rP (pm X tb) g)) (hf : NoX2 f) (hg : NoX2 g) (kf : ∀ t u S, (∃ r, f t u S = .ok r S) ∨ f t u S = .no)
    (ha : QE X tb Wx a ma) (hb : QE X tb Wx b mb) (hc : QE X tb Wx c mc) (hm : lastMarks [op, op'] [b, c] = false := by with_unfolding_all rfl) : QT X tb Wx (.Compare a [op, op'] [b, c] pos) (tB1 (eChain f g ma mb mc)) :=
  PT.imp (pt_chain ho ho' ha hb hc hm) fun σ H Q h => test_reading (fun σ H Q h => chain_reading hf hg kf h) h

/-! ### argument lists, displays -/
def aNil : MA := fun _ => ret []
def aCons (a : ME) (r : MA) : MA := fun env => bnd (a env) fun x => bnd (r env) fun xs => ret (x :: xs)
variable {es : List Expr} {mr : MA} {e : Expr}
theorem qa_nil : QA X tb Wx [] aNil := PA.imp pa_nil fun σ H Q ⟨W, env, S, R, q⟩ => q.ret_ R.sto .nil
theorem qa_cons (ha : QE X tb Wx e ma) (hr : QA X tb Wx es mr) (hs : starEach (e :: es) X.env = (false, eval e X.env) :: starEach es X.env := by rfl) : QA X tb Wx (e :: es) (aCons ma mr) := by
  refine PA.imp (pa_cons ha hr hs) fun σ H Q ⟨W, env, S, R, q⟩ => ?_
  refine ⟨W, env, S, R, Ans.imp (Ans.bind (R := Rep (pm X tb)) R.sto q) fun x H1 ⟨W1, S1, t, x1, r1, rx, q1⟩ => ?_⟩
  refine ⟨W1, env, S1, R.later r1 x1, Ans.imp (Ans.bind (R := Reps (pm X tb)) r1 q1) fun y H2 ⟨W2, S2, u, x2, r2, ry, q2⟩ => ?_⟩
  exact q2.ret_ r2 (.cons (rx.mono r1 x2) ry)
/-- a length within the line -/
def few {α : Type} (xs : List α) : Bool := Nat.ble xs.length 16777216
theorem few_le {α : Type} {xs : List α} (h : few xs = true) : xs.length ≤ sizeLine := by rw [sizeLine_eq]; exact Nat.le_of_ble_eq_true h
def mkTup (xs : List T) : M T := match few xs with
  | true => ret (.tup xs)
  | false => stuck
def mkLst (xs : List T) : M T := match few xs with
  | true => ret (.lst xs)
  | false => stuck
/-- a list that will be changed -/
def mkLoc (xs : List T) : M T := match few xs with
  | true => fun S => .ok (.loc S.nxt) (S.add (.lst xs))
  | false => stuck
def eTup (r : MA) : ME := fun env => bnd (r env) mkTup
def eLst (r : MA) : ME := fun env => bnd (r env) mkLst
def eLoc (r : MA) : ME := fun env => bnd (r env) mkLoc
/-- a new tuple of these values -/
theorem Ans.tup {p : Pm} {E : XK} {W : Wd} {S : Sto} {H : Hp} {Q : VK} {ts : List T} {vs : List V} {a : Addr} (R0 : RelS p W H S) (r : Reps p W H ts vs) (h : Ans p E (Rep p) W S H Q (mkTup ts S)) (ha : H a = none) : vs.length ≤ sizeLine ∧ Q (.ref a) (upd H a (.tup vs)) := by
  unfold mkTup at h
  cases e : few ts with
  | false => rw [e] at h; exact h.elim
  | true =>
    rw [e] at h
    refine ⟨by rw [← r.length]; exact few_le e, h (W.put a) _ _ (Ext.new ha) (R0.new ha) (.tup (.inl ⟨.inr rfl, upd_same⟩) (r.mono R0 (Ext.new ha)))⟩
theorem Ans.lst {p : Pm} {E : XK} {W : Wd} {S : Sto} {H : Hp} {Q : VK} {ts : List T} {vs : List V} {a : Addr} (R0 : RelS p W H S) (r : Reps p W H ts vs) (h : Ans p E (Rep p) W S H Q (mkLst ts S)) (ha : H a = none) : vs.length ≤ sizeLine ∧ Q (.ref a) (upd H a (.lst vs)) := by
  unfold mkLst at h
  cases e : few ts with
  | false => rw [e] at h; exact h.elim
  | true =>
    rw [e] at h
    refine ⟨by rw [← r.length]; exact few_le e, h (W.put a) _ _ (Ext.new ha) (R0.new ha) (.lst (.inr rfl) upd_same (r.mono R0 (Ext.new ha)))⟩
theorem Ans.loc {p : Pm} {E : XK} {W : Wd} {S : Sto} {H : Hp} {Q : VK} {ts : List T} {vs : List V} {a : Addr} (R0 : RelS p W H S) (r : Reps p W H ts vs) (h : Ans p E (Rep p) W S H Q (mkLoc ts S)) (ha : H a = none) : vs.length ≤ sizeLine ∧ Q (.ref a) (upd H a (.lst vs)) := by
  unfold mkLoc at h
  cases e : few ts with
  | false => rw [e] at h; exact h.elim
  | true =>
    rw [e] at h
    have x : Ext W S H (W.add a) (S.add (.lst ts)) (upd H a (.lst vs)) := Ext.add R0 ha (upd_keep ha)
    have rel : RelS p (W.add a) (upd H a (.lst vs)) (S.add (.lst ts)) := R0.add ha (upd_keep ha) (.lst upd_same (r.mono R0 x))
    refine ⟨by rw [← r.length]; exact few_le e, h (W.add a) _ _ x rel ?_⟩
    have em : (W.add a).mu S.nxt = a := if_pos R0.nxt
    have z : Rep p (W.add a) (upd H a (.lst vs)) (.loc S.nxt) (.ref ((W.add a).mu S.nxt)) := .loc (show S.nxt < W.nxt + 1 by rw [R0.nxt]; exact Nat.lt_succ_self _)
    rw [em] at z
    exact z
theorem q_tup {k} (h : QA X tb Wx es mr) : QE X tb Wx (.Tuple es k pos) (eTup mr) := by
  refine PE.imp (pe_tup h) fun σ H Q ⟨W, env, S, R, q⟩ => ?_
  refine ⟨W, env, S, R, Ans.imp (Ans.bind (R := Reps (pm X tb)) R.sto q) fun xs H1 ⟨W1, S1, t, x1, r1, rx, q1⟩ => ?_⟩
  have z : xs.length ≤ sizeLine := by
    unfold mkTup at q1
    cases e : few t with
    | false => rw [e] at q1; exact q1.elim
    | true => rw [← rx.length]; exact few_le e
  exact ⟨z, fun a ha => (Ans.tup r1 rx q1 ha).2⟩
theorem q_lst (h : QA X tb Wx es mr) : QE X tb Wx (.List es pos) (eLst mr) := by
  refine PE.imp (pe_lst h) fun σ H Q ⟨W, env, S, R, q⟩ => ?_
  refine ⟨W, env, S, R, Ans.imp (Ans.bind (R := Reps (pm X tb)) R.sto q) fun xs H1 ⟨W1, S1, t, x1, r1, rx, q1⟩ => ?_⟩
  have z : xs.length ≤ sizeLine := by
    unfold mkLst at q1
    cases e : few t with
    | false => rw [e] at q1; exact q1.elim
    | true => rw [← rx.length]; exact few_le e
  exact ⟨z, fun a ha => (Ans.lst r1 rx q1 ha).2⟩
theorem q_loc (h : QA X tb Wx es mr) : QE X tb Wx (.List es pos) (eLoc mr) := by
  refine PE.imp (pe_lst h) fun σ H Q ⟨W, env, S, R, q⟩ => ?_
  refine ⟨W, env, S, R, Ans.imp (Ans.bind (R := Reps (pm X tb)) R.sto q) fun xs H1 ⟨W1, S1, t, x1, r1, rx, q1⟩ => ?_⟩
  have z : xs.length ≤ sizeLine := by
    unfold mkLoc at q1
    cases e : few t with
    | false => rw [e] at q1; exact q1.elim
    | true => rw [← rx.length]; exact few_le e
  exact ⟨z, fun a ha => (Ans.loc r1 rx q1 ha).2⟩
end
end Pi
set_option Elab.async false
set_option linter.all false
set_option autoImplicit false
set_option maxRecDepth 100000
set_option maxHeartbeats 1000000
/-! Pi4: values as data: ==, !=, <, in. -/
namespace Pi
open PySem PySem.Spec PyProof.Rows L2

mutual
def dat : T → PyData
  | .bl b => .bool b
  | .int i => .int i
  | .str x => .str ⟨x.toArray⟩
  | .tup xs => .tuple (dats xs)
  | .lst xs => .list (dats xs)
  | _ => .none
def dats : List T → List PyData
  | [] => []
  | x :: xs => dat x :: dats xs
end
mutual
/-- data, nested at most n deep -/
def isD : T → Nat → Bool
  | .non, _ => true
  | .bl _, _ => true
  | .int _, _ => true
  | .str _, _ => true
  | .tup xs, n + 1 => isDs xs n
  | .lst xs, n + 1 => isDs xs n
  | _, _ => false
def isDs : List T → Nat → Bool
  | [], _ => true
  | x :: xs, n => isD x n && isDs xs n
end
def iEq : Int → Int → Bool
  | .ofNat a, .ofNat b => Nat.beq a b
  | .negSucc a, .negSucc b => Nat.beq a b
  | _, _ => false
def iLt : Int → Int → Bool
  | .ofNat a, .ofNat b => Nat.blt a b
  | .negSucc a, .negSucc b => Nat.blt b a
  | .negSucc _, .ofNat _ => true
  | .ofNat _, .negSucc _ => false
def iLe : Int → Int → Bool
  | .ofNat a, .ofNat b => Nat.ble a b
  | .negSucc a, .negSucc b => Nat.ble b a
  | .negSucc _, .ofNat _ => true
  | .ofNat _, .negSucc _ => false
theorem iEq_iff (a b : Int) : iEq a b = decide (a = b) := by
  cases a with
  | ofNat a => cases b with
    | ofNat b =>
      show Nat.beq a b = _
      cases e : Nat.beq a b with
      | true => rw [Nat.eq_of_beq_eq_true e]; simp
      | false => exact (decide_eq_false fun z => by
          have z' : a = b := Int.ofNat.inj z
          subst z'; rw [Nat.beq_refl] at e; cases e).symm
    | negSucc b => rfl
  | negSucc a => cases b with
    | ofNat b => rfl
    | negSucc b =>
      show Nat.beq a b = _
      cases e : Nat.beq a b with
      | true => rw [Nat.eq_of_beq_eq_true e]; simp
      | false => exact (decide_eq_false fun z => by
          have z' : a = b := Int.negSucc.inj z
          subst z'; rw [Nat.beq_refl] at e; cases e).symm
theorem iLt_iff (a b : Int) : iLt a b = decide (a < b) := by
  cases a with
  | ofNat a => cases b with
    | ofNat b =>
      show Nat.blt a b = _
      rw [Bool.eq_iff_iff, decide_eq_true_iff]
      show Nat.ble (a + 1) b = true ↔ _
      rw [Nat.ble_eq]; simp only [Int.ofNat_eq_natCast]; omega
    | negSucc b =>
      show false = _
      exact (decide_eq_false (by simp only [Int.ofNat_eq_natCast]; omega)).symm
  | negSucc a => cases b with
    | ofNat b =>
      show true = _
      exact (decide_eq_true (by simp only [Int.ofNat_eq_natCast]; omega)).symm
    | negSucc b =>
      show Nat.blt b a = _
      rw [Bool.eq_iff_iff, decide_eq_true_iff]
      show Nat.ble (b + 1) a = true ↔ _
      rw [Nat.ble_eq]; omega
theorem iLe_iff (a b : Int) : iLe a b = decide (a ≤ b) := by
  cases a with
  | ofNat a => cases b with
    | ofNat b =>
      show Nat.ble a b = _
      rw [Bool.eq_iff_iff, decide_eq_true_iff, Nat.ble_eq]; simp only [Int.ofNat_eq_natCast]; omega
    | negSucc b =>
      show false = _
      exact (decide_eq_false (by simp only [Int.ofNat_eq_natCast]; omega)).symm
  | negSucc a => cases b with
    | ofNat b =>
      show true = _
      exact (decide_eq_true (by simp only [Int.ofNat_eq_natCast]; omega)).symm
    | negSucc b =>
      show Nat.ble b a = _
      rw [Bool.eq_iff_iff, decide_eq_true_iff, Nat.ble_eq]; omega
/-- lists of numbers (texts) -/
def lEq : List Nat → List Nat → Bool
  | [], [] => true
  | a :: r, b :: s => match Nat.beq a b with
    | true => lEq r s
    | false => false
  | _, _ => false
def lLt : List Nat → List Nat → Bool
  | [], [] => false
  | [], _ :: _ => true
  | _ :: _, [] => false
  | a :: r, b :: s => match Nat.blt a b with
    | true => true
    | false => match Nat.beq a b with
      | true => lLt r s
      | false => false
theorem lEq_iff : ∀ a b : List Nat, lEq a b = decide (a = b)
  | [], [] => rfl
  | [], _ :: _ => rfl
  | _ :: _, [] => rfl
  | a :: r, b :: s => by
    unfold lEq
    cases e : Nat.beq a b with
    | true =>
      have := Nat.eq_of_beq_eq_true e
      subst this
      simp only [lEq_iff r s, List.cons.injEq, true_and]
    | false => exact (decide_eq_false fun z => by
        have z' : a = b := (List.cons.inj z).1
        subst z'; rw [Nat.beq_refl] at e; cases e).symm
theorem lLt_iff : ∀ a b : List Nat, lLt a b = decide (a < b)
  | [], [] => rfl
  | [], _ :: _ => by simp [lLt]
  | _ :: _, [] => by simp [lLt]
  | a :: r, b :: s => by
    have ih := lLt_iff r s
    unfold lLt
    cases e : Nat.blt a b with
    | true =>
      have h : a < b := Nat.le_of_ble_eq_true e
      exact (decide_eq_true (List.cons_lt_cons_iff.mpr (.inl h))).symm
    | false =>
      have h : ¬ a < b := fun z => by
        have : Nat.blt a b = true := Nat.ble_eq_true_of_le z
        rw [e] at this; cases this
      cases e2 : Nat.beq a b with
      | true =>
        have := Nat.eq_of_beq_eq_true e2
        subst this
        rw [show (match true with | true => lLt r s | false => false) = lLt r s from rfl, ih]
        rw [Bool.eq_iff_iff, decide_eq_true_iff, decide_eq_true_iff, List.cons_lt_cons_iff]
        constructor
        · exact fun z => .inr ⟨rfl, z⟩
        · rintro (z | z)
          · exact absurd z h
          · exact z.2
      | false =>
        refine (decide_eq_false fun z => ?_).symm
        rcases List.cons_lt_cons_iff.mp z with z | z
        · exact h z
        · rw [z.1, Nat.beq_refl] at e2; cases e2
def b2i (b : Bool) : Int := match b with
  | true => .ofNat 1
  | false => .ofNat 0
def bEq : Bool → Bool → Bool
  | true, b => b
  | false, b => !b
def bLt : Bool → Bool → Bool
  | true, _ => false
  | false, b => b
mutual
/-- == of data -/
def eqv : T → T → Bool
  | .non, .non => true
  | .bl a, .bl b => bEq a b
  | .int a, .int b => iEq a b
  | .bl a, .int b => iEq (b2i a) b
  | .int a, .bl b => iEq a (b2i b)
  | .str a, .str b => lEq a b
  | .tup xs, .tup ys => eqvs xs ys
  | .lst xs, .lst ys => eqvs xs ys
  | _, _ => false
def eqvs : List T → List T → Bool
  | [], [] => true
  | x :: xs, y :: ys => match eqv x y with
    | true => eqvs xs ys
    | false => false
  | _, _ => false
end
theorem beq_int (a b : Int) : (a == b) = decide (a = b) := by
  rw [Bool.eq_iff_iff]; simp
mutual
theorem eqv_dat : ∀ (t u : T) (n m : Nat), isD t n = true → isD u m = true → eqv t u = PyData.eqv (dat t) (dat u)
  | .non, u, _, _, _, hu => by cases u <;> first | rfl | (simp [isD] at hu)
  | .bl b, u, _, _, _, hu => by
    cases u with
    | bl c => cases b <;> cases c <;> rfl
    | int j =>
      simp only [eqv, dat, PyData.eqv]
      rw [iEq_iff]
      cases b <;> exact (beq_int _ _).symm
    | loc => simp [isD] at hu
    | gl => simp [isD] at hu
    | scr => simp [isD] at hu
    | dic => simp [isD] at hu
    | ins => simp [isD] at hu
    | _ => rfl
  | .int i, u, _, _, _, hu => by
    cases u with
    | bl c =>
      simp only [eqv, dat, PyData.eqv]
      rw [iEq_iff]
      cases c <;> exact (beq_int _ _).symm
    | int j =>
      simp only [eqv, dat, PyData.eqv]
      rw [iEq_iff]
      exact (beq_int _ _).symm
    | loc => simp [isD] at hu
    | gl => simp [isD] at hu
    | scr => simp [isD] at hu
    | dic => simp [isD] at hu
    | ins => simp [isD] at hu
    | _ => rfl
  | .str x, u, _, _, _, hu => by
    cases u with
    | str y =>
      simp only [eqv, dat, PyData.eqv]
      rw [lEq_iff, Bool.eq_iff_iff]
      simp
    | loc => simp [isD] at hu
    | gl => simp [isD] at hu
    | scr => simp [isD] at hu
    | dic => simp [isD] at hu
    | ins => simp [isD] at hu
    | _ => rfl
  | .tup xs, u, n, m, ht, hu => by
    cases u with
    | tup ys =>
      cases n with
      | zero => simp [isD] at ht
      | succ n =>
        cases m with
        | zero => simp [isD] at hu
        | succ m =>
          simp only [isD] at ht hu
          simp only [eqv, dat, PyData.eqv]
          exact eqvs_dat xs ys n m ht hu
    | loc => simp [isD] at hu
    | gl => simp [isD] at hu
    | scr => simp [isD] at hu
    | dic => simp [isD] at hu
    | ins => simp [isD] at hu
    | _ => rfl
  | .lst xs, u, n, m, ht, hu => by
    cases u with
    | lst ys =>
      cases n with
      | zero => simp [isD] at ht
      | succ n =>
        cases m with
        | zero => simp [isD] at hu
        | succ m =>
          simp only [isD] at ht hu
          simp only [eqv, dat, PyData.eqv]
          exact eqvs_dat xs ys n m ht hu
    | loc => simp [isD] at hu
    | gl => simp [isD] at hu
    | scr => simp [isD] at hu
    | dic => simp [isD] at hu
    | ins => simp [isD] at hu
    | _ => rfl
  | .dic _, _, _, _, ht, _ => by simp [isD] at ht
  | .ins _ _, _, _, _, ht, _ => by simp [isD] at ht
  | .loc _, _, _, _, ht, _ => by simp [isD] at ht
  | .gl _, _, _, _, ht, _ => by simp [isD] at ht
  | .scr _, _, _, _, ht, _ => by simp [isD] at ht
theorem eqvs_dat : ∀ (t u : List T) (n m : Nat), isDs t n = true → isDs u m = true → eqvs t u = PyData.eqvAll (dats t) (dats u)
  | [], [], _, _, _, _ => rfl
  | [], _ :: _, _, _, _, _ => rfl
  | _ :: _, [], _, _, _, _ => rfl
  | x :: xs, y :: ys, n, m, ht, hu => by
    simp only [isDs, Bool.and_eq_true] at ht hu
    have h1 := eqv_dat x y n m ht.1 hu.1
    have h2 := eqvs_dat xs ys n m ht.2 hu.2
    simp only [eqvs, dats, PyData.eqvAll]
    rw [← h1, ← h2]
    cases eqv x y <;> rfl
end
mutual
theorem isD_plain : ∀ (t : T) (n : Nat), isD t n = true → (dat t).plain = true ∧ (dat t).depth ≤ n
  | .non, _, _ => ⟨rfl, Nat.zero_le _⟩
  | .bl _, _, _ => ⟨rfl, Nat.zero_le _⟩
  | .int _, _, _ => ⟨rfl, Nat.zero_le _⟩
  | .str _, _, _ => ⟨rfl, Nat.zero_le _⟩
  | .tup xs, 0, h => by simp [isD] at h
  | .lst xs, 0, h => by simp [isD] at h
  | .tup xs, n + 1, h => by
    simp only [isD] at h
    obtain ⟨h1, h2⟩ := isDs_plain xs n h
    simp only [dat, PyData.plain, PyData.depth]
    exact ⟨h1, Nat.succ_le_succ h2⟩
  | .lst xs, n + 1, h => by
    simp only [isD] at h
    obtain ⟨h1, h2⟩ := isDs_plain xs n h
    simp only [dat, PyData.plain, PyData.depth]
    exact ⟨h1, Nat.succ_le_succ h2⟩
  | .dic _, _, h => by simp [isD] at h
  | .ins _ _, _, h => by simp [isD] at h
  | .loc _, _, h => by simp [isD] at h
  | .gl _, _, h => by simp [isD] at h
  | .scr _, _, h => by simp [isD] at h
theorem isDs_plain : ∀ (t : List T) (n : Nat), isDs t n = true → PyData.plainAll (dats t) = true ∧ PyData.depthAll (dats t) ≤ n
  | [], _, _ => ⟨rfl, Nat.zero_le _⟩
  | x :: xs, n, h => by
    simp only [isDs, Bool.and_eq_true] at h
    obtain ⟨h1, h2⟩ := isD_plain x n h.1
    obtain ⟨h3, h4⟩ := isDs_plain xs n h.2
    simp only [dats, PyData.plainAll, PyData.depthAll, h1, h3, Bool.and_self, true_and]
    exact Nat.max_le.mpr ⟨h2, h4⟩
end
/-- a mutable list by its content -/
def deref (S : Sto) : T → T
  | .loc n => match S.get n with
    | some (.lst xs) => .lst xs
    | _ => .loc n
  | t => t
section
variable {p : Pm} {W : Wd} {H : Hp} {S : Sto}
mutual
theorem Rep.dp : ∀ {t : T} {v : V} {n : Nat}, Rep p W H t v → isD t n = true → Dp p.K H v (dat t)
  | _, _, _, .non, _ => .non
  | _, _, _, .bl b, _ => .bl b
  | _, _, _, .int i, _ => .int i
  | _, _, _, .str x, _ => .str _
  | _, _, 0, .tup _ _, h => by simp [isD] at h
  | _, _, 0, .lst _ _ _, h => by simp [isD] at h
  | _, _, n + 1, .tup f r, h => by simp only [isD] at h; exact .tup f.sq (Reps.dp r h)
  | _, _, n + 1, .lst f e r, h => by simp only [isD] at h; exact .lst (SqL.of e) (Reps.dp r h)
  | _, _, _, .scr _ _, h => by simp [isD] at h
  | _, _, _, .dicK _ _ _, h => by simp [isD] at h
  | _, _, _, .dicE _ _ _ _ _ _, h => by simp [isD] at h
  | _, _, _, .ins _ _ _, h => by simp [isD] at h
  | _, _, _, .loc _, h => by simp [isD] at h
  | _, _, _, .gl _, h => by simp [isD] at h
theorem Reps.dp : ∀ {t : List T} {v : List V} {n : Nat}, Reps p W H t v → isDs t n = true → DpAll p.K H v (dats t)
  | _, _, _, .nil, _ => .nil
  | _, _, n, .cons a r, h => by
    simp only [isDs, Bool.and_eq_true] at h
    exact .cons (Rep.dp a h.1) (Reps.dp r h.2)
end
theorem Rep.dpS (R : RelS p W H S) {t : T} {v : V} {n : Nat} (r : Rep p W H t v) (h : isD (deref S t) n = true) : Dp p.K H v (dat (deref S t)) := by
  cases r with
  | loc hl =>
    rename_i k
    unfold deref at h ⊢
    dsimp only at h ⊢
    cases e : S.get k with
    | none => rw [e] at h; simp [isD] at h
    | some o =>
      cases o with
      | lst xs =>
        rw [e] at h
        dsimp only at h ⊢
        cases R.get e with
        | lst eh rr =>
          cases n with
          | zero => simp [isD] at h
          | succ n =>
            simp only [isD] at h
            exact .lst (SqL.of eh) (rr.dp h)
      | dic kvs => rw [e] at h; simp [isD] at h
      | ins c fs => rw [e] at h; simp [isD] at h
  | non => exact Rep.dp (p := p) (W := W) (.non) h
  | bl b => exact Rep.dp (p := p) (W := W) (.bl b) h
  | int b => exact Rep.dp (p := p) (W := W) (.int b) h
  | str b => exact Rep.dp (p := p) (W := W) (.str b) h
  | tup f rr => exact Rep.dp (.tup f rr) h
  | lst f e rr => exact Rep.dp (.lst f e rr) h
  | scr f rr => exact Rep.dp (.scr f rr) h
  | dicK f a rr => exact Rep.dp (.dicK f a rr) h
  | dicE f a b c rr d => exact Rep.dp (.dicE f a b c rr d) h
  | ins f a rr => exact Rep.dp (.ins f a rr) h
  | gl g => exact Rep.dp (p := p) (W := W) (.gl g) h
end
/-! ### ==, !=, in, not in -/
def opEq (t u : T) : M T := fun S => match isD (deref S t) 60 && isD (deref S u) 60 with
  | true => .ok (.bl (eqv (deref S t) (deref S u))) S
  | false => .no
def opNe (t u : T) : M T := fun S => match isD (deref S t) 60 && isD (deref S u) 60 with
  | true => .ok (.bl (!eqv (deref S t) (deref S u))) S
  | false => .no
/-- x in a row -/
def inRow (x : T) : List T → Bool
  | [] => false
  | y :: ys => match eqv y x with
    | true => true
    | false => inRow x ys
def rowOf : T → Option (List T)
  | .tup xs => some xs
  | .lst xs => some xs
  | _ => none
section
variable {X : Cx} {tb : Tb}
theorem opEq_nox : NoX2 opEq := fun t u S c fs S' h => by
  unfold opEq at h
  split at h <;> cases h
theorem opNe_nox : NoX2 opNe := fun t u S c fs S' h => by
  unfold opNe at h
  split at h <;> cases h
theorem or_eq (hu : X.A.units + 100 < cLine) : OpR X (compareOp .Eq) (rP (pm X tb) opEq) := by
  intro pins s σ H x y v u Q I rx ry ⟨W, S, t, t', R, r1, r2, q⟩
  unfold opEq at q
  split at q
  · rename_i h
    rw [Bool.and_eq_true] at h
    obtain ⟨as, d1⟩ := Dp.reads I _ x v (r1.dpS R h.1) rx
    obtain ⟨bs, d2⟩ := Dp.reads I _ y u (r2.dpS R h.2) ry
    obtain ⟨p1, l1⟩ := isD_plain _ _ h.1
    obtain ⟨p2, l2⟩ := isD_plain _ _ h.2
    refine SeqAt.eq_plain d1 d2 p1 p2 (by omega) ?_
    rw [← eqv_dat _ _ _ _ h.1 h.2]
    exact ⟨.bl _, H, I, rfl, q.ret_ R (.bl _)⟩
  · exact q.elim
theorem or_ne (hu : X.A.units + 100 < cLine) : OpR X (compareOp .NotEq) (rP (pm X tb) opNe) := by
  intro pins s σ H x y v u Q I rx ry ⟨W, S, t, t', R, r1, r2, q⟩
  unfold opNe at q
  split at q
  · rename_i h
    rw [Bool.and_eq_true] at h
    obtain ⟨as, d1⟩ := Dp.reads I _ x v (r1.dpS R h.1) rx
    obtain ⟨bs, d2⟩ := Dp.reads I _ y u (r2.dpS R h.2) ry
    obtain ⟨p1, l1⟩ := isD_plain _ _ h.1
    obtain ⟨p2, l2⟩ := isD_plain _ _ h.2
    refine SeqAt.ne_plain d1 d2 p1 p2 (by omega) ?_
    rw [← eqv_dat _ _ _ _ h.1 h.2]
    exact ⟨.bl _, H, I, rfl, q.ret_ R (.bl _)⟩
  · exact q.elim
theorem inRow_any (x : T) (n m : Nat) (hx : isD x n = true) : ∀ ys : List T, isDs ys m = true → inRow x ys = (dats ys).any fun y => PyData.eqv y (dat x)
  | [], _ => rfl
  | y :: ys, h => by
    simp only [isDs, Bool.and_eq_true] at h
    have h1 := eqv_dat y x m n h.1 hx
    simp only [inRow, dats, List.any_cons, ← h1, inRow_any x n m hx ys h.2]
    cases eqv y x <;> rfl
/-- x in c for a row c -/
theorem in_row (hu : X.A.units + 100 < cLine) {pins : List (Addr × Obj)} {s : Shared} {σ : St} {H : Hp} {x y : V} {v u : Value} {W : Wd} {S : Sto} {t t' : T} {xs : List T} {Q : Value → Shared → Prop} {E : Value → Shared → Prop} (I : Inv X pins σ H s) (rx : RelV x v) (ry : RelV y u) (R : RelS (pm X tb) W H S) (r1 : Rep (pm X tb) W H t x) (r2 : Rep (pm X tb) W H t' y)
    (e : rowOf (deref S t') = some xs) (h1 : isD (deref S t) 60 = true) (h2 : isDs xs 60 = true) (q : Q (.bool (inRow (deref S t) xs)) s) : wpAny (model X.prog X.w) X.A (compareOp .In v u) Q E s := by
  obtain ⟨as, d1⟩ := Dp.reads I _ x v (r1.dpS R h1) rx
  obtain ⟨p1, l1⟩ := isD_plain _ _ h1
  obtain ⟨p2, l2⟩ := isDs_plain _ _ h2
  rw [inRow_any _ _ _ h1 _ h2] at q
  cases ed : deref S t' with
  | tup ys =>
    rw [ed] at e
    cases e
    have hd : isD (deref S t') 61 = true := by rw [ed]; exact h2
    have d2' := r2.dpS R hd
    rw [ed] at d2'
    obtain ⟨bs, d2⟩ := Dp.reads I _ y u d2' ry
    exact SeqAt.in_tuple_data d2 d1 p2 p1 (by omega) q
  | lst ys =>
    rw [ed] at e
    cases e
    have hd : isD (deref S t') 61 = true := by rw [ed]; exact h2
    have d2' := r2.dpS R hd
    rw [ed] at d2'
    obtain ⟨bs, d2⟩ := Dp.reads I _ y u d2' ry
    exact SeqAt.in_list_data d2 d1 p2 p1 (by omega) q
  | _ => rw [ed] at e; cases e
theorem notIn_row (hu : X.A.units + 100 < cLine) {pins : List (Addr × Obj)} {s : Shared} {σ : St} {H : Hp} {x y : V} {v u : Value} {W : Wd} {S : Sto} {t t' : T} {xs : List T} {Q : Value → Shared → Prop} {E : Value → Shared → Prop} (I : Inv X pins σ H s) (rx : RelV x v) (ry : RelV y u) (R : RelS (pm X tb) W H S) (r1 : Rep (pm X tb) W H t x) (r2 : Rep (pm X tb) W H t' y)
    (e : rowOf (deref S t') = some xs) (h1 : isD (deref S t) 60 = true) (h2 : isDs xs 60 = true) (q : Q (.bool (!inRow (deref S t) xs)) s) : wpAny (model X.prog X.w) X.A (compareOp .NotIn v u) Q E s := by
  obtain ⟨as, d1⟩ := Dp.reads I _ x v (r1.dpS R h1) rx
  obtain ⟨p1, l1⟩ := isD_plain _ _ h1
  obtain ⟨p2, l2⟩ := isDs_plain _ _ h2
  rw [inRow_any _ _ _ h1 _ h2] at q
  cases ed : deref S t' with
  | tup ys =>
    rw [ed] at e
    cases e
    have hd : isD (deref S t') 61 = true := by rw [ed]; exact h2
    have d2' := r2.dpS R hd
    rw [ed] at d2'
    obtain ⟨bs, d2⟩ := Dp.reads I _ y u d2' ry
    exact SeqAt.notIn_tuple_data d2 d1 p2 p1 (by omega) q
  | lst ys =>
    rw [ed] at e
    cases e
    have hd : isD (deref S t') 61 = true := by rw [ed]; exact h2
    have d2' := r2.dpS R hd
    rw [ed] at d2'
    obtain ⟨bs, d2⟩ := Dp.reads I _ y u d2' ry
    exact SeqAt.notIn_list_data d2 d1 p2 p1 (by omega) q
  | _ => rw [ed] at e; cases e
end

/-! ### < -/
mutual
def alk : T → T → Bool
  | .non, .non => true
  | .bl _, .bl _ => true
  | .int _, .int _ => true
  | .str _, .str _ => true
  | .tup xs, .tup ys => alks xs ys
  | .lst xs, .lst ys => alks xs ys
  | _, _ => false
def alks : List T → List T → Bool
  | x :: xs, y :: ys => alk x y && alks xs ys
  | _, _ => true
end
mutual
def ltv : T → T → Bool
  | .int a, .int b => iLt a b
  | .bl a, .bl b => bLt a b
  | .str a, .str b => lLt a b
  | .tup xs, .tup ys => ltvs xs ys
  | .lst xs, .lst ys => ltvs xs ys
  | _, _ => false
def ltvs : List T → List T → Bool
  | [], [] => false
  | [], _ :: _ => true
  | _ :: _, [] => false
  | x :: xs, y :: ys => match eqv x y with
    | true => ltvs xs ys
    | false => ltv x y
end
mutual
theorem alk_dat : ∀ (t u : T), alk t u = true → PySem.W.alike (dat t) (dat u) = true
  | .non, u, h => by cases u <;> first | rfl | (simp [alk] at h)
  | .bl b, u, h => by cases u <;> first | rfl | (simp [alk] at h)
  | .int b, u, h => by cases u <;> first | rfl | (simp [alk] at h)
  | .str b, u, h => by cases u <;> first | rfl | (simp [alk] at h)
  | .tup xs, u, h => by
    cases u with
    | tup ys => simp only [alk] at h; simp only [dat, PySem.W.alike]; exact alks_dat xs ys h
    | _ => simp [alk] at h
  | .lst xs, u, h => by
    cases u with
    | lst ys => simp only [alk] at h; simp only [dat, PySem.W.alike]; exact alks_dat xs ys h
    | _ => simp [alk] at h
  | .dic _, u, h => by cases u <;> simp [alk] at h
  | .ins _ _, u, h => by cases u <;> simp [alk] at h
  | .loc _, u, h => by cases u <;> simp [alk] at h
  | .gl _, u, h => by cases u <;> simp [alk] at h
  | .scr _, u, h => by cases u <;> simp [alk] at h
theorem alks_dat : ∀ (t u : List T), alks t u = true → PySem.W.alikeAll (dats t) (dats u) = true
  | [], _, _ => by simp [dats, PySem.W.alikeAll]
  | _ :: _, [], _ => by simp [dats, PySem.W.alikeAll]
  | x :: xs, y :: ys, h => by
    simp only [alks, Bool.and_eq_true] at h
    simp only [dats, PySem.W.alikeAll, Bool.and_eq_true]
    exact ⟨alk_dat x y h.1, alks_dat xs ys h.2⟩
end
mutual
theorem ltv_dat : ∀ (t u : T) (n m : Nat), isD t n = true → isD u m = true → alk t u = true → ltv t u = PySem.W.dataLt (dat t) (dat u)
  | .non, u, _, _, _, _, h => by
    cases u with
    | non => exact (PySem.W.dataLt_self _).symm
    | _ => simp [alk] at h
  | .bl b, u, _, _, _, _, h => by
    cases u with
    | bl c =>
      simp only [dat]
      rw [PySem.W.dataLt_bool]
      cases b <;> cases c <;> rfl
    | _ => simp [alk] at h
  | .int b, u, _, _, _, _, h => by
    cases u with
    | int c => simp only [dat, ltv]; rw [PySem.W.dataLt_int, iLt_iff]
    | _ => simp [alk] at h
  | .str b, u, _, _, _, _, h => by
    cases u with
    | str c => simp only [dat, ltv]; rw [PySem.W.dataLt_str, lLt_iff]
    | _ => simp [alk] at h
  | .tup xs, u, n, m, h1, h2, h => by
    cases u with
    | tup ys =>
      cases n with
      | zero => simp [isD] at h1
      | succ n =>
        cases m with
        | zero => simp [isD] at h2
        | succ m =>
          simp only [isD] at h1 h2
          simp only [alk] at h
          simp only [dat, ltv]
          rw [PySem.W.dataLt_tuple]
          exact ltvs_dat xs ys n m h1 h2 h
    | _ => simp [alk] at h
  | .lst xs, u, n, m, h1, h2, h => by
    cases u with
    | lst ys =>
      cases n with
      | zero => simp [isD] at h1
      | succ n =>
        cases m with
        | zero => simp [isD] at h2
        | succ m =>
          simp only [isD] at h1 h2
          simp only [alk] at h
          simp only [dat, ltv]
          rw [PySem.W.dataLt_list]
          exact ltvs_dat xs ys n m h1 h2 h
    | _ => simp [alk] at h
  | .dic _, _, _, _, ht, _, _ => by simp [isD] at ht
  | .ins _ _, _, _, _, ht, _, _ => by simp [isD] at ht
  | .loc _, _, _, _, ht, _, _ => by simp [isD] at ht
  | .gl _, _, _, _, ht, _, _ => by simp [isD] at ht
  | .scr _, _, _, _, ht, _, _ => by simp [isD] at ht
theorem ltvs_dat : ∀ (t u : List T) (n m : Nat), isDs t n = true → isDs u m = true → alks t u = true → ltvs t u = PyProof.Rows.lexLt PyProof.Rows.itemOrd (PySem.W.keyToksAll (dats t)) (PySem.W.keyToksAll (dats u))
  | [], [], _, _, _, _, _ => by
    rw [show ltvs [] [] = false from rfl]
    exact (PySem.W.dataLt_self (.list [])).symm
  | [], y :: ys, _, _, _, _, _ => by
    rw [show ltvs [] (y :: ys) = true from rfl]
    simp only [dats, PySem.W.keyToksAll]
    rw [PySem.W.lex_atom (by simp), PySem.W.lex_one]
    rfl
  | x :: xs, [], _, _, _, _, _ => by
    rw [show ltvs (x :: xs) [] = false from rfl]
    simp only [dats, PySem.W.keyToksAll]
    rw [PySem.W.lex_atom (by simp), PySem.W.lex_one]
    rfl
  | x :: xs, y :: ys, n, m, h1, h2, h => by
    simp only [isDs, Bool.and_eq_true] at h1 h2
    simp only [alks, Bool.and_eq_true] at h
    have e := eqv_dat x y n m h1.1 h2.1
    have ha := alk_dat x y h.1
    simp only [ltvs, dats]
    cases q : eqv x y with
    | true =>
      rw [q] at e
      rw [PySem.W.dataLt_all_yes ha e.symm]
      exact ltvs_dat xs ys n m h1.2 h2.2 h.2
    | false =>
      rw [q] at e
      rw [PySem.W.dataLt_all_no ha e.symm]
      exact ltv_dat x y n m h1.1 h2.1 h.1
end
/-- a < b: ints, or alike tuples -/
def opLt (t u : T) : M T := fun S => match t, u with
  | .int a, .int b => .ok (.bl (iLt a b)) S
  | .tup xs, .tup ys => match isDs xs 59 && (isDs ys 59 && alks xs ys) with
    | true => .ok (.bl (ltvs xs ys)) S
    | false => .no
  | _, _ => .no
def opI2 (f : Int → Int → Bool) (t u : T) : M T := fun S => match t, u with
  | .int a, .int b => .ok (.bl (f a b)) S
  | _, _ => .no
abbrev opLe := opI2 iLe
abbrev opGt := opI2 fun a b => iLt b a
abbrev opGe := opI2 fun a b => iLe b a
theorem opI2_nox (f : Int → Int → Bool) : NoX2 (opI2 f) := fun t u S c fs S' h => by
  unfold opI2 at h
  split at h <;> cases h
theorem opI2_kf (f : Int → Int → Bool) : ∀ t u S, (∃ r, opI2 f t u S = .ok r S) ∨ opI2 f t u S = .no := fun t u S => by
  unfold opI2
  split
  · exact .inl ⟨_, rfl⟩
  · exact .inr rfl
theorem opLt_nox : NoX2 opLt := fun t u S c fs S' h => by
  unfold opLt at h
  split at h
  · cases h
  · split at h <;> cases h
  · cases h
section
variable {X : Cx} {tb : Tb}
theorem or_I2 {op : CmpOp} {f : Int → Int → Bool} {g : Int → Int → Bool} (h : OpR X (compareOp op) (rI0 fun i j => .bl (g i j))) (e : ∀ i j, f i j = g i j) : OpR X (compareOp op) (rP (pm X tb) (opI2 f)) := by
  intro pins s σ H x y v u Q I rx ry ⟨W, S, t, t', R, r1, r2, q⟩
  unfold opI2 at q
  split at q
  · cases r1
    cases r2
    exact h pins s σ H _ _ v u Q I rx ry ⟨_, _, rfl, rfl, by show Q (.bl (g _ _)) H; rw [← e]; exact q.ret_ R (.bl _)⟩
  · exact q.elim
theorem or_le : OpR X (compareOp .LtE) (rP (pm X tb) opLe) := or_I2 op_le fun i j => iLe_iff i j
theorem or_gt : OpR X (compareOp .Gt) (rP (pm X tb) opGt) := or_I2 op_gt fun i j => iLt_iff j i
theorem or_ge : OpR X (compareOp .GtE) (rP (pm X tb) opGe) := or_I2 op_ge fun i j => iLe_iff j i
theorem or_ltI : OpR X (compareOp .Lt) (rP (pm X tb) (opI2 iLt)) := or_I2 op_lt fun i j => iLt_iff i j
theorem or_lt (hu : X.A.units + 100 < cLine) : OpR X (compareOp .Lt) (rP (pm X tb) opLt) := by
  intro pins s σ H x y v u Q I rx ry ⟨W, S, t, t', R, r1, r2, q⟩
  unfold opLt at q
  split at q
  · cases r1
    cases r2
    refine op_lt pins s σ H _ _ v u Q I rx ry ⟨_, _, rfl, rfl, ?_⟩
    show Q (.bl (decide (_ < _))) H
    rw [← iLt_iff]; exact q.ret_ R (.bl _)
  · rename_i xs ys
    split at q
    · rename_i h
      rw [Bool.and_eq_true, Bool.and_eq_true] at h
      have i1 : isD (.tup xs) 60 = true := h.1
      have i2 : isD (.tup ys) 60 = true := h.2.1
      have hal : alk (.tup xs) (.tup ys) = true := h.2.2
      obtain ⟨as, d1⟩ := Dp.reads I _ x v (r1.dp i1) rx
      obtain ⟨bs, d2⟩ := Dp.reads I _ y u (r2.dp i2) ry
      obtain ⟨p1, l1⟩ := isD_plain _ _ i1
      obtain ⟨p2, l2⟩ := isD_plain _ _ i2
      refine PySem.W.lt_data d1 d2 (alk_dat _ _ hal) (by simp [dat]) (by omega) ?_
      rw [← ltv_dat _ _ _ _ i1 i2 hal]
      exact ⟨.bl _, H, I, rfl, q.ret_ R (.bl _)⟩
    · exact q.elim
  · exact q.elim
end
end Pi
set_option Elab.async false
set_option linter.all false
set_option autoImplicit false
set_option maxRecDepth 100000
set_option maxHeartbeats 1000000
/-! Pi5: dicts: d[k], k in d, d[k] = v, whatever the keys are (ints and texts; nested tuples). -/
namespace Pi
open PySem PySem.Spec PyProof.Rows L2

def dGet : List (T × T) → T → Option T
  | [], _ => none
  | p :: r, k => match eqv p.1 k with
    | true => some p.2
    | false => dGet r k
def dHas : List (T × T) → T → Bool
  | [], _ => false
  | p :: r, k => match eqv p.1 k with
    | true => true
    | false => dHas r k
def dRep : List (T × T) → T → T → List (T × T)
  | [], _, _ => []
  | p :: r, k, v => match eqv p.1 k with
    | true => (p.1, v) :: dRep r k v
    | false => p :: dRep r k v
def dPut (kvs : List (T × T)) (k v : T) : List (T × T) := match dHas kvs k with
  | true => dRep kvs k v
  | false => kvs ++ [(k, v)]
def isLeaf : T → Bool
  | .int _ => true
  | .str _ => true
  | _ => false
mutual
/-- a key's part, nested at most n deep -/
def isK : T → Nat → Bool
  | .non, _ => true
  | .bl _, _ => true
  | .int _, _ => true
  | .str _, _ => true
  | .tup xs, n + 1 => isKs xs n
  | _, _ => false
def isKs : List T → Nat → Bool
  | [], _ => true
  | x :: xs, n => isK x n && isKs xs n
end
def isTup : T → Bool
  | .tup xs => isKs xs 7
  | _ => false
def leafOk : List (T × T) → Bool
  | [] => true
  | p :: _ => isLeaf p.1
def nestOk : List (T × T) → Bool
  | [] => true
  | p :: _ => match p.1 with
    | .tup _ => true
    | _ => false

mutual
theorem isK_nk : ∀ (t : T) (n : Nat), isK t n = true → ∃ q, t.nk = some q ∧ q.depth ≤ n
  | .non, _, _ => ⟨_, rfl, Nat.zero_le _⟩
  | .bl _, _, _ => ⟨_, rfl, Nat.zero_le _⟩
  | .int _, _, _ => ⟨_, rfl, Nat.zero_le _⟩
  | .str _, _, _ => ⟨_, rfl, Nat.zero_le _⟩
  | .tup xs, 0, h => by simp [isK] at h
  | .tup xs, n + 1, h => by
    simp only [isK] at h
    obtain ⟨qs, e, d⟩ := isKs_nk xs n h
    refine ⟨.tup qs, by simp only [T.nk, e], ?_⟩
    simp only [NestedKey.depth]
    exact Nat.succ_le_succ d
  | .lst _, _, h => by simp [isK] at h
  | .dic _, _, h => by simp [isK] at h
  | .ins _ _, _, h => by simp [isK] at h
  | .loc _, _, h => by simp [isK] at h
  | .gl _, _, h => by simp [isK] at h
  | .scr _, _, h => by simp [isK] at h
theorem isKs_nk : ∀ (t : List T) (n : Nat), isKs t n = true → ∃ q, T.nks t = some q ∧ NestedKey.depthAll q ≤ n
  | [], _, _ => ⟨[], rfl, Nat.zero_le _⟩
  | x :: xs, n, h => by
    simp only [isKs, Bool.and_eq_true] at h
    obtain ⟨q, e, d⟩ := isK_nk x n h.1
    obtain ⟨qs, es, ds⟩ := isKs_nk xs n h.2
    refine ⟨q :: qs, by simp only [T.nks, e, es], ?_⟩
    simp only [NestedKey.depthAll]
    exact Nat.max_le.mpr ⟨d, ds⟩
end
theorem isTup_nk {t : T} (h : isTup t = true) : ∃ xs q, t = .tup xs ∧ t.nk = some q ∧ q.depth ≤ 8 := by
  cases t with
  | tup xs =>
    obtain ⟨q, e, d⟩ := isK_nk (.tup xs) 8 h
    exact ⟨xs, q, rfl, e, d⟩
  | _ => cases h
theorem beq_num (a b : Int) : NestedKey.beq (.num a) (.num b) = decide (a = b) := by simp [NestedKey.beq]
theorem str_mk (a b : List Nat) : decide ((⟨a.toArray⟩ : Str) = ⟨b.toArray⟩) = decide (a = b) := by
  rw [Bool.eq_iff_iff]; simp
mutual
theorem nk_eqv : ∀ (t u : T) (a b : NestedKey), t.nk = some a → u.nk = some b → eqv t u = NestedKey.beq a b
  | .non, u, a, b, h1, h2 => by
    cases h1
    cases u with
    | tup xs => simp only [T.nk] at h2; split at h2 <;> cases h2; rfl
    | _ => simp only [T.nk] at h2; cases h2 <;> rfl
  | .bl x, u, a, b, h1, h2 => by
    simp only [T.nk, Option.some.injEq] at h1
    subst h1
    cases u with
    | bl y => simp only [T.nk, Option.some.injEq] at h2; subst h2; cases x <;> cases y <;> rfl
    | int y =>
      simp only [T.nk, Option.some.injEq] at h2; subst h2
      rw [beq_num]; simp only [eqv]; rw [iEq_iff]; cases x <;> rfl
    | tup xs => simp only [T.nk] at h2; split at h2 <;> cases h2; rfl
    | _ => simp only [T.nk] at h2; cases h2 <;> rfl
  | .int x, u, a, b, h1, h2 => by
    simp only [T.nk, Option.some.injEq] at h1
    subst h1
    cases u with
    | bl y =>
      simp only [T.nk, Option.some.injEq] at h2; subst h2
      rw [beq_num]; simp only [eqv]; rw [iEq_iff]; cases y <;> rfl
    | int y =>
      simp only [T.nk, Option.some.injEq] at h2; subst h2
      rw [beq_num]; simp only [eqv]; rw [iEq_iff]
    | tup xs => simp only [T.nk] at h2; split at h2 <;> cases h2; rfl
    | _ => simp only [T.nk] at h2; cases h2 <;> rfl
  | .str x, u, a, b, h1, h2 => by
    simp only [T.nk, Option.some.injEq] at h1
    subst h1
    cases u with
    | str y =>
      simp only [T.nk, Option.some.injEq] at h2; subst h2
      simp only [eqv, NestedKey.beq]; rw [lEq_iff, str_mk]
    | tup xs => simp only [T.nk] at h2; split at h2 <;> cases h2; rfl
    | _ => simp only [T.nk] at h2; cases h2 <;> rfl
  | .tup xs, u, a, b, h1, h2 => by
    simp only [T.nk] at h1
    split at h1
    · rename_i ks e1
      cases h1
      cases u with
      | tup ys =>
        simp only [T.nk] at h2
        split at h2
        · rename_i ks2 e2
          cases h2
          simp only [eqv, NestedKey.beq]
          exact nks_eqv xs ys ks ks2 e1 e2
        · cases h2
      | _ => simp only [T.nk] at h2; cases h2 <;> rfl
    · cases h1
  | .lst _, _, _, _, h1, _ => by simp [T.nk] at h1
  | .dic _, _, _, _, h1, _ => by simp [T.nk] at h1
  | .ins _ _, _, _, _, h1, _ => by simp [T.nk] at h1
  | .loc _, _, _, _, h1, _ => by simp [T.nk] at h1
  | .gl _, _, _, _, h1, _ => by simp [T.nk] at h1
  | .scr _, _, _, _, h1, _ => by simp [T.nk] at h1
theorem nks_eqv : ∀ (t u : List T) (a b : List NestedKey), T.nks t = some a → T.nks u = some b → eqvs t u = NestedKey.beqAll a b
  | [], [], _, _, h1, h2 => by cases h1; cases h2; rfl
  | [], y :: ys, _, _, h1, h2 => by
    cases h1
    simp only [T.nks] at h2
    split at h2 <;> cases h2
    rfl
  | x :: xs, [], _, _, h1, h2 => by
    cases h2
    simp only [T.nks] at h1
    split at h1 <;> cases h1
    rfl
  | x :: xs, y :: ys, _, _, h1, h2 => by
    simp only [T.nks] at h1 h2
    split at h1
    · rename_i k ks e1 e2
      cases h1
      split at h2
      · rename_i k2 ks2 e3 e4
        cases h2
        have i1 := nk_eqv x y _ _ e1 e3
        have i2 := nks_eqv xs ys _ _ e2 e4
        simp only [eqvs, NestedKey.beqAll, ← i1, ← i2]
        cases eqv x y <;> rfl
      · cases h2
    · cases h1
end
theorem nk_dec {t u : T} {a b : NestedKey} (h1 : t.nk = some a) (h2 : u.nk = some b) : eqv t u = decide (a = b) := by rw [nk_eqv t u a b h1 h2, NestedKey.decide_eq]
theorem lk_dec : ∀ {t u : T} {a b : Key}, t.lk = some a → u.lk = some b → eqv t u = decide (a = b)
  | .int x, .int y, _, _, h1, h2 => by
    cases h1; cases h2
    simp only [eqv]; rw [iEq_iff, Bool.eq_iff_iff]; simp
  | .int x, .str y, _, _, h1, h2 => by cases h1; cases h2; exact (decide_eq_false fun z => nomatch z).symm
  | .str x, .int y, _, _, h1, h2 => by cases h1; cases h2; exact (decide_eq_false fun z => nomatch z).symm
  | .str x, .str y, _, _, h1, h2 => by
    cases h1; cases h2
    simp only [eqv]; rw [lEq_iff, Bool.eq_iff_iff]; simp
  | .non, _, _, _, h1, _ => by simp [T.lk] at h1
  | .bl _, _, _, _, h1, _ => by simp [T.lk] at h1
  | .tup _, _, _, _, h1, _ => by simp [T.lk] at h1
  | .lst _, _, _, _, h1, _ => by simp [T.lk] at h1
  | .dic _, _, _, _, h1, _ => by simp [T.lk] at h1
  | .ins _ _, _, _, _, h1, _ => by simp [T.lk] at h1
  | .loc _, _, _, _, h1, _ => by simp [T.lk] at h1
  | .gl _, _, _, _, h1, _ => by simp [T.lk] at h1
  | .scr _, _, _, _, h1, _ => by simp [T.lk] at h1
  | .int _, .non, _, _, _, h2 => by simp [T.lk] at h2
  | .int _, .bl _, _, _, _, h2 => by simp [T.lk] at h2
  | .int _, .tup _, _, _, _, h2 => by simp [T.lk] at h2
  | .int _, .lst _, _, _, _, h2 => by simp [T.lk] at h2
  | .int _, .dic _, _, _, _, h2 => by simp [T.lk] at h2
  | .int _, .ins _ _, _, _, _, h2 => by simp [T.lk] at h2
  | .int _, .loc _, _, _, _, h2 => by simp [T.lk] at h2
  | .int _, .gl _, _, _, _, h2 => by simp [T.lk] at h2
  | .int _, .scr _, _, _, _, h2 => by simp [T.lk] at h2
  | .str _, .non, _, _, _, h2 => by simp [T.lk] at h2
  | .str _, .bl _, _, _, _, h2 => by simp [T.lk] at h2
  | .str _, .tup _, _, _, _, h2 => by simp [T.lk] at h2
  | .str _, .lst _, _, _, _, h2 => by simp [T.lk] at h2
  | .str _, .dic _, _, _, _, h2 => by simp [T.lk] at h2
  | .str _, .ins _ _, _, _, _, h2 => by simp [T.lk] at h2
  | .str _, .loc _, _, _, _, h2 => by simp [T.lk] at h2
  | .str _, .gl _, _, _, _, h2 => by simp [T.lk] at h2
  | .str _, .scr _, _, _, _, h2 => by simp [T.lk] at h2

section
variable {p : Pm} {W : Wd} {H : Hp} {S : Sto}
/-! ### leaf keys -/
theorem RepK.look {q : Key} {k : T} (hk : k.lk = some q) : ∀ {kvs : List (T × T)} {ks : List (Key × V)}, RepK p W H kvs ks → dHas kvs k = (ks.any fun kv => decide (kv.1 = q)) ∧ ((dGet kvs k = none ∧ valV ks q = none) ∨ ∃ t v, dGet kvs k = some t ∧ valV ks q = some v ∧ Rep p W H t v)
  | _, _, .nil => ⟨rfl, .inl ⟨rfl, rfl⟩⟩
  | _, _, .cons (k := k') (t := t) (v := v) (q := q') e r rr => by
    have ih := RepK.look hk rr
    have d := lk_dec e hk
    simp only [dGet, dHas, List.any_cons]
    by_cases h : q' = q
    · rw [decide_eq_true h] at d
      rw [d]
      refine ⟨by simp [h], .inr ⟨t, v, rfl, valV_pos h, r⟩⟩
    · rw [decide_eq_false h] at d
      rw [d]
      refine ⟨by simpa [h] using ih.1, ?_⟩
      rw [valV_neg h]
      exact ih.2
theorem RepK.repl {q : Key} {k t : T} {v : V} (hk : k.lk = some q) (rv : Rep p W H t v) : ∀ {kvs : List (T × T)} {ks : List (Key × V)}, RepK p W H kvs ks → RepK p W H (dRep kvs k t) (ks.map fun kv => if kv.1 = q then (kv.1, v) else kv)
  | _, _, .nil => .nil
  | _, _, .cons (k := k') (q := q') e r rr => by
    have ih := RepK.repl hk rv rr
    have d := lk_dec e hk
    simp only [dRep, List.map_cons]
    by_cases h : q' = q
    · rw [decide_eq_true h] at d
      rw [d, if_pos h]
      exact .cons e rv ih
    · rw [decide_eq_false h] at d
      rw [d, if_neg h]
      exact .cons e r ih
theorem RepK.snoc {q : Key} {k t : T} {v : V} (hk : k.lk = some q) (rv : Rep p W H t v) : ∀ {kvs : List (T × T)} {ks : List (Key × V)}, RepK p W H kvs ks → RepK p W H (kvs ++ [(k, t)]) (ks ++ [(q, v)])
  | _, _, .nil => .cons hk rv .nil
  | _, _, .cons e r rr => .cons e r (RepK.snoc hk rv rr)
theorem RepK.put {q : Key} {k t : T} {v : V} (hk : k.lk = some q) (rv : Rep p W H t v) {kvs : List (T × T)} {ks : List (Key × V)} (h : RepK p W H kvs ks) : RepK p W H (dPut kvs k t) (putK ks q v) := by
  have e := (h.look hk).1
  unfold dPut putK
  cases d : dHas kvs k with
  | true => rw [d] at e; rw [if_pos e.symm]; exact h.repl hk rv
  | false => rw [d] at e; rw [if_neg (by rw [← e]; exact Bool.false_ne_true)]; exact h.snoc hk rv
theorem RepK.length : ∀ {kvs : List (T × T)} {ks : List (Key × V)}, RepK p W H kvs ks → kvs.length = ks.length
  | _, _, .nil => rfl
  | _, _, .cons _ _ r => by simp [RepK.length r]
theorem RepE.length : ∀ {kvs : List (T × T)} {ks : List (NestedKey × Addr × V)}, RepE p W H kvs ks → kvs.length = ks.length
  | _, _, .nil => rfl
  | _, _, .cons _ _ _ _ r => by simp [RepE.length r]

/-! ### tuple keys -/
abbrev Ent := NestedKey × Addr × V
abbrev EntU := NestedKey × Addr × Value
abbrev PairedE : List Ent → List EntU → Prop := Paired fun (x : Ent) (y : EntU) => x.1 = y.1 ∧ x.2.1 = y.2.1 ∧ RelV x.2.2 y.2.2
def putE (ks : List Ent) (q : NestedKey) (a : Addr) (v : V) : List Ent := if (ks.any fun x => decide (x.1 = q)) = true then ks.map (fun x => if x.1 = q then (x.1, x.2.1, v) else x) else ks ++ [(q, a, v)]
theorem atKey_any {us : List EntU} {q : NestedKey} : (atKey us q).isSome = us.any fun x => decide (x.1 = q) := by
  induction us with
  | nil => rfl
  | cons x xs ih =>
    by_cases h : x.1 = q
    · simp [atKey, h]
    · simpa [atKey, h] using ih
theorem PairedE.any : ∀ {ks : List Ent} {us : List EntU} (q : NestedKey), PairedE ks us → (ks.any fun x => decide (x.1 = q)) = us.any fun x => decide (x.1 = q)
  | _, _, _, .nil => rfl
  | _, _, q, .cons h r => by simp only [List.any_cons, h.1, PairedE.any q r]
theorem RepE.look {q : NestedKey} {k : T} (hk : k.nk = some q) : ∀ {kvs : List (T × T)} {ks : List Ent} {us : List EntU}, RepE p W H kvs ks → PairedE ks us →
    dHas kvs k = (ks.any fun x => decide (x.1 = q)) ∧ ((dGet kvs k = none ∧ atKey us q = none) ∨ ∃ t v b u, dGet kvs k = some t ∧ atKey us q = some (b, u) ∧ Rep p W H t v ∧ RelV v u)
  | _, _, _, .nil, .nil => ⟨rfl, .inl ⟨rfl, rfl⟩⟩
  | _, _, _, .cons (k := k') (t := t) (v := v) (q := q') e _ _ r rr, .cons (b := y) (l₂ := us') hy ry => by
    have ih := RepE.look hk rr ry
    have d := nk_dec e hk
    simp only [dGet, dHas, List.any_cons]
    have e1 : q' = y.1 := hy.1
    by_cases h : q' = q
    · rw [decide_eq_true h] at d
      rw [d]
      refine ⟨by simp [h], .inr ⟨t, v, y.2.1, y.2.2, rfl, ?_, r, hy.2.2⟩⟩
      simp [atKey, ← e1, h]
    · rw [decide_eq_false h] at d
      rw [d]
      refine ⟨by simpa [h] using ih.1, ?_⟩
      have e2 : atKey (y :: us') q = atKey us' q := by
        unfold atKey
        rw [List.find?_cons_of_neg (by simp [← e1, h])]
      rw [e2]
      exact ih.2
theorem RepE.repl {q : NestedKey} {k t : T} {v : V} (hk : k.nk = some q) (rv : Rep p W H t v) : ∀ {kvs : List (T × T)} {ks : List Ent}, RepE p W H kvs ks → RepE p W H (dRep kvs k t) (ks.map fun x => if x.1 = q then (x.1, x.2.1, v) else x)
  | _, _, .nil => .nil
  | _, _, .cons (k := k') (q := q') e dd ra r rr => by
    have ih := RepE.repl hk rv rr
    have d := nk_dec e hk
    simp only [dRep, List.map_cons]
    by_cases h : q' = q
    · rw [decide_eq_true h] at d
      rw [d, if_pos h]
      exact .cons e dd ra rv ih
    · rw [decide_eq_false h] at d
      rw [d, if_neg h]
      exact .cons e dd ra r ih
theorem RepE.snoc {q : NestedKey} {k t : T} {v : V} {a : Addr} (hk : k.nk = some q) (hd : q.depth ≤ 8) (ra : Rep p W H k (.ref a)) (rv : Rep p W H t v) : ∀ {kvs : List (T × T)} {ks : List Ent}, RepE p W H kvs ks → RepE p W H (kvs ++ [(k, t)]) (ks ++ [(q, a, v)])
  | _, _, .nil => .cons hk hd ra rv .nil
  | _, _, .cons e d r1 r2 rr => .cons e d r1 r2 (RepE.snoc hk hd ra rv rr)
theorem RepE.put {q : NestedKey} {k t : T} {v : V} {a : Addr} (hk : k.nk = some q) (hd : q.depth ≤ 8) (ra : Rep p W H k (.ref a)) (rv : Rep p W H t v) {kvs : List (T × T)} {ks : List Ent} (h : RepE p W H kvs ks) (he : dHas kvs k = (ks.any fun x => decide (x.1 = q))) :
    RepE p W H (dPut kvs k t) (putE ks q a v) := by
  unfold dPut putE
  cases d : dHas kvs k with
  | true => rw [d] at he; rw [if_pos he.symm]; exact h.repl hk rv
  | false => rw [d] at he; rw [if_neg (by rw [← he]; exact Bool.false_ne_true)]; exact h.snoc hk hd ra rv
theorem PairedE.repl {q : NestedKey} {v : V} {u : Value} (r : RelV v u) : ∀ {ks : List Ent} {us : List EntU}, PairedE ks us → PairedE (ks.map fun x => if x.1 = q then (x.1, x.2.1, v) else x) (us.map (putAt q u))
  | _, _, .nil => .nil
  | _, _, .cons (a := x) (b := y) h rr => by
    simp only [List.map_cons]
    refine .cons ?_ (PairedE.repl r rr)
    unfold putAt
    by_cases e : x.1 = q
    · rw [if_pos e, if_pos (h.1 ▸ e)]
      exact ⟨h.1, h.2.1, r⟩
    · rw [if_neg e, if_neg (h.1 ▸ e)]
      exact h
theorem PairedE.put {q : NestedKey} {a : Addr} {v : V} {u : Value} (r : RelV v u) {ks : List Ent} {us : List EntU} (h : PairedE ks us) : PairedE (putE ks q a v) (storedH us q a u) := by
  unfold putE storedH
  rw [atKey_any, ← PairedE.any q h]
  split
  · exact PairedE.repl r h
  · exact Paired.snoc h ⟨rfl, rfl, r⟩
theorem putE_len (ks : List Ent) (q : NestedKey) (a : Addr) (v : V) : (putE ks q a v).length ≤ ks.length + 1 := by
  unfold putE
  split
  · rw [List.length_map]; omega
  · simp
theorem PairedE.keys : ∀ {ks : List Ent} {us : List EntU}, PairedE ks us → ks.map (·.1) = us.map (·.1)
  | _, _, .nil => rfl
  | _, _, .cons h r => by simp only [List.map_cons, h.1, PairedE.keys r]

/-- a dict at an address, as a value or as a numbered object -/
def DAt (p : Pm) (W : Wd) (H : Hp) (a : Addr) (kvs : List (T × T)) : Prop :=
  (∃ ks, H a = some (.dK ks) ∧ RepK p W H kvs ks) ∨ ∃ ks, H a = some (DicE p a ks) ∧ (a == sysModules) = false ∧ ks.length ≤ sizeLine ∧ RepE p W H kvs ks ∧ (ks.map (·.1)).Nodup
def dictOf (S : Sto) : T → Option (List (T × T))
  | .dic kvs => some kvs
  | .loc n => match S.get n with
    | some (.dic kvs) => some kvs
    | _ => none
  | _ => none
theorem RepO.dat {a : Addr} {kvs : List (T × T)} (h : RepO p W H a (.dic kvs)) : DAt p W H a kvs := by
  cases h with
  | dicK e r => exact .inl ⟨_, e, r⟩
  | dicE e h1 h2 r h3 => exact .inr ⟨_, e, h1, h2, r, h3⟩
theorem dictOf_at (R : RelS p W H S) {t : T} {v : V} {kvs : List (T × T)} (r : Rep p W H t v) (h : dictOf S t = some kvs) : ∃ a, v = .ref a ∧ DAt p W H a kvs := by
  cases r with
  | dicK f e rr => cases h; exact ⟨_, rfl, .inl ⟨_, e, rr⟩⟩
  | dicE f e h1 h2 rr h3 => cases h; exact ⟨_, rfl, .inr ⟨_, e, h1, h2, rr, h3⟩⟩
  | loc hl =>
    rename_i n
    refine ⟨_, rfl, ?_⟩
    unfold dictOf at h
    dsimp only at h
    cases e : S.get n with
    | none => rw [e] at h; cases h
    | some o =>
      rw [e] at h
      cases o with
      | dic k2 => cases h; exact (R.get e).dat
      | _ => cases h
  | _ => cases h
end
section
variable {X : Cx} {tb : Tb} {pins : List (Addr × Obj)} {σ : St} {H : Hp} {s : Shared} {W : Wd} {S : Sto} {a : Addr} {kvs : List (T × T)}
mutual
theorem nested_is (I : Inv X pins σ H s) : ∀ {t : T} {v : V} {u : Value} {q : NestedKey}, Rep (pm X tb) W H t v → RelV v u → t.nk = some q → NestedIs s.heap q u
  | _, _, _, _, .non, r, h => by cases h; cases r; exact .none
  | _, _, _, _, .bl b, r, h => by cases h; cases r; exact .bool rfl
  | _, _, _, _, .int i, r, h => by cases h; obtain ⟨t, rfl⟩ := r; exact .int _ _
  | _, _, _, _, .str x, r, h => by cases h; obtain ⟨t, rfl⟩ := r; exact .text _ _
  | _, _, _, _, .tup (xs := xs) f rr, r, h => by
    cases r
    simp only [T.nk] at h
    split at h
    · rename_i ks e
      cases h
      obtain ⟨its, rv, ⟨o, ho, hc, n, hd⟩, _⟩ := I.tuple f.sq
      exact .tup ho hc hd (by simpa using nested_all I rr rv e)
    · cases h
  | _, _, _, _, .lst _ _ _, _, h => by simp [T.nk] at h
  | _, _, _, _, .scr _ _, _, h => by simp [T.nk] at h
  | _, _, _, _, .dicK _ _ _, _, h => by simp [T.nk] at h
  | _, _, _, _, .dicE _ _ _ _ _ _, _, h => by simp [T.nk] at h
  | _, _, _, _, .ins _ _ _, _, h => by simp [T.nk] at h
  | _, _, _, _, .loc _, _, h => by simp [T.nk] at h
  | _, _, _, _, .gl _, _, h => by simp [T.nk] at h
theorem nested_all (I : Inv X pins σ H s) : ∀ {t : List T} {v : List V} {u : List Value} {q : List NestedKey}, Reps (pm X tb) W H t v → Vals v u → T.nks t = some q → NestedAll s.heap q u
  | _, _, _, _, .nil, r, h => by cases h; cases r; exact .nil
  | _, _, _, _, .cons a rr, r, h => by
    cases r with
    | cons r1 r2 =>
      simp only [T.nks] at h
      split at h
      · rename_i k ks e1 e2
        cases h
        exact .cons (nested_is I a r1 e1) (nested_all I rr r2 e2)
      · cases h
end
theorem nested_key (I : Inv X pins σ H s) {t : T} {b : Addr} {q : NestedKey} (r : Rep (pm X tb) W H t (.ref b)) (h : t.nk = some q) (hd : q.depth ≤ 8) : (nestedKind X.prog X.w).is s.heap q b := ⟨nested_is (u := .ref b) I r rfl h, hd⟩
theorem keys_all (I : Inv X pins σ H s) : ∀ {kvs : List (T × T)} {ks : List Ent} {us : List EntU}, RepE (pm X tb) W H kvs ks → PairedE ks us → ∀ x ∈ us, (nestedKind X.prog X.w).is s.heap x.1 x.2.1
  | _, _, _, .nil, .nil, x, hx => by cases hx
  | _, _, _, .cons e d ra _ rr, .cons (b := y) hy ry, x, hx => by
    rcases List.mem_cons.mp hx with z | z
    · subst z
      have := nested_key I ra e d
      rw [← hy.1, ← hy.2.1]
      exact this
    · exact keys_all I rr ry x z
/-- as a dict of tuple keys -/
theorem nest_view (I : Inv X pins σ H s) (d : DAt (pm X tb) W H a kvs) (h : nestOk kvs = true) : ∃ ks us, RepE (pm X tb) W H kvs ks ∧ PairedE ks us ∧ s.heap.DictOfH (nestedKind X.prog X.w) a us ∧ (a == sysModules) = false ∧ ks.length ≤ sizeLine ∧ Mut (H a) := by
  rcases d with ⟨ks, e, r⟩ | ⟨ks, e, h1, h2, r, h3⟩
  · cases r with
    | nil =>
      obtain ⟨z, hs, vs, rel, o, es, ep, ho, hx, hd, _, hp, _⟩ := dk_of I.hok e
      cases rel
      have hes : es.toList = [] := by
        have := hp.length
        simpa using this
      exact ⟨[], [], .nil, .nil, ⟨o, es, ep, ho, hx, hd, by rw [hes]; rfl, (fun _ hx => nomatch hx), List.nodup_nil⟩, hs, Nat.zero_le _, by rw [e]; trivial⟩
    | @cons k _ _ _ _ _ e1 _ _ =>
      cases k <;> first | (simp [nestOk] at h; done) | (simp [T.lk] at e1; done)
  · obtain ⟨⟨us, pr, o, es, ep, ho, hx, hd, he⟩, _⟩ := (show ObjOk X.prog X.w H s.heap a (DicE (pm X tb) a ks) from I.hok a _ e)
    exact ⟨ks, us, r, pr, ⟨o, es, ep, ho, hx, hd, he, keys_all I r pr, by rw [← PairedE.keys pr]; exact h3⟩, h1, h2, by rw [e]; trivial⟩
/-- as a dict of ints and texts -/
theorem leaf_view (I : Inv X pins σ H s) (d : DAt (pm X tb) W H a kvs) (h : leafOk kvs = true) : ∃ ks vs, RepK (pm X tb) W H kvs ks ∧ KV ks vs ∧ s.heap.DictOf (mixKind X.prog X.w) a vs ∧ (a == sysModules) = false ∧ ks.length ≤ sizeLine ∧ Mut (H a) := by
  rcases d with ⟨ks, e, r⟩ | ⟨ks, e, h1, h2, r, h3⟩
  · obtain ⟨z, hs, vs, rel, dd⟩ := dk_of I.hok e
    exact ⟨ks, vs, r, rel, dd, hs, z, by rw [e]; trivial⟩
  · cases r with
    | nil =>
      obtain ⟨⟨us, pr, o, es, ep, ho, hx, hd, he⟩, _⟩ := (show ObjOk X.prog X.w H s.heap a (DicE (pm X tb) a []) from I.hok a _ e)
      cases pr
      have hes : es = #[] := by
        have : es.toList = [] := he
        simpa using this
      subst hes
      refine ⟨[], [], .nil, .nil, ⟨o, #[], ep, ho, hx, hd, ?_, ?_, List.nodup_nil⟩, h1, Nat.zero_le _, by rw [e]; trivial⟩
      · first
          | exact fun _ hx => absurd hx (by simp)
          | (intro e he; simp at he)
          | simp [KeysOf]
      · exact .nil
    | @cons k _ _ _ _ _ _ e1 _ ra _ _ =>
      cases k <;> first | (simp [leafOk, isLeaf] at h; done) | (cases ra; done)
theorem dicE_ok {p : Pm} {H : Hp} {h : Heap} {ks : List Ent} {us : List EntU} (pr : PairedE ks us) (d : h.DictOfH (nestedKind p.P p.w) a us) : ObjOk p.P p.w H h a (DicE p a ks) := by
  obtain ⟨o, es, ep, ho, hx, hd, he, _, _⟩ := d
  refine ⟨⟨us, pr, o, es, ep, ho, hx, hd, he⟩, ⟨o, ho⟩, fun h1 h2 x k => ?_⟩
  obtain ⟨us, pr, o, es, ep, ho, hx, hd, he⟩ := x
  exact ⟨us, pr, o, es, ep, k o ho, hx, hd, he⟩
end

/-! ### the operations -/
/-- whether a key fits the keys that are there -/
def fits (kvs : List (T × T)) (k : T) : Bool := match isLeaf k with
  | true => leafOk kvs
  | false => isTup k && nestOk kvs
def opDGet (d k : T) : M T := fun S => match dictOf S d with
  | some kvs => match fits kvs k with
    | true => match dGet kvs k with
      | some v => .ok v S
      | none => .no
    | false => .no
  | none => .no
def opDIn (d k : T) : M Bool := fun S => match dictOf S d with
  | some kvs => match fits kvs k with
    | true => .ok (dHas kvs k) S
    | false => .no
  | none => .no
def opDSet (d k v : T) : M Unit := fun S => match d with
  | .loc n => match S.get n with
    | some (.dic kvs) => match fits kvs k && few (v :: kvs.map (·.2)) with
      | true => .ok () (S.set n (.dic (dPut kvs k v)))
      | false => .no
    | _ => .no
  | _ => .no
section
variable {X : Cx} {tb : Tb} {pins : List (Addr × Obj)} {σ : St} {H : Hp} {s : Shared} {W : Wd} {S : Sto} {a : Addr} {kvs : List (T × T)} {E : Value → Shared → Prop}
theorem leaf_key {k : T} {x : V} {u : Value} (h : isLeaf k = true) (r : Rep (pm X tb) W H k x) (rx : RelV x u) : ∃ q, k.lk = some q ∧ RelV (kV q) u := by
  cases r with
  | int i => exact ⟨.inl i, rfl, rx⟩
  | str y => exact ⟨.inr _, rfl, rx⟩
  | _ => cases h
theorem room_nest {A : Around} (hu : A.units + 100 < cLine) : (nestedKind X.prog X.w).room A.in1 := by
  show A.units + 1 + 8 < cLine
  omega
/-- d[k], there -/
theorem run_dget (hu : X.A.units + 100 < cLine) (I : Inv X pins σ H s) (R : RelS (pm X tb) W H S) {d k t : T} {x y : V} {v u : Value} {Q : Value → Shared → Prop} (rd : Rep (pm X tb) W H d x) (rk : Rep (pm X tb) W H k y) (rx : RelV x v) (ry : RelV y u)
    (e : dictOf S d = some kvs) (f : fits kvs k = true) (g : dGet kvs k = some t) (h : ∀ w' z s', Inv X pins σ H s' → Rep (pm X tb) W H t z → RelV z w' → Q w' s') : s.TypeIs v "dict" ∧ wpAny (model X.prog X.w) X.A (getItem v u) Q E s := by
  obtain ⟨a, rfl, da⟩ := dictOf_at R rd e
  cases rx
  unfold fits at f
  cases hl : isLeaf k with
  | true =>
    rw [hl] at f
    obtain ⟨ks, vs, rk2, kv, dd, hs, hz, _⟩ := leaf_view I da f
    obtain ⟨q, hq, rq⟩ := leaf_key hl rk ry
    refine ⟨dd.typeIs, ?_⟩
    rcases (rk2.look hq).2 with ⟨z, _⟩ | ⟨t', z, e1, e2, r⟩
    · rw [z] at g; cases g
    · rw [g] at e1; cases e1
      obtain ⟨w', hw, rw'⟩ := RelO.some_of (v := z) (o := valueAt vs q) (by rw [← e2]; exact kv.val q)
      exact wpAny_getItem_of (kV_is rq) dd.mapOf hw (h w' z _ (I.tok _) r rw')
  | false =>
    rw [hl] at f
    rw [show (match false with | true => leafOk kvs | false => isTup k && nestOk kvs) = (isTup k && nestOk kvs) from rfl, Bool.and_eq_true] at f
    obtain ⟨xs, q, rfl, hq, hd⟩ := isTup_nk f.1
    obtain ⟨ks, us, rk2, pr, dd, hs, hz, _⟩ := nest_view I da f.2
    cases rk with
    | tup ft rt =>
      cases ry
      refine ⟨dd.typeIs, ?_⟩
      rcases (rk2.look hq pr).2 with ⟨z, _⟩ | ⟨t', z, b, w', e1, e2, r, rw'⟩
      · rw [z] at g; cases g
      · rw [g] at e1; cases e1
        exact wpAny_getItem_heap (room_nest hu) (nested_key I (.tup ft rt) hq hd) dd e2 (h _ z _ (I.tok _) r rw')
theorem run_din (hu : X.A.units + 100 < cLine) (I : Inv X pins σ H s) (R : RelS (pm X tb) W H S) {d k : T} {x y : V} {v u : Value} {Q : Value → Shared → Prop} (rd : Rep (pm X tb) W H d x) (rk : Rep (pm X tb) W H k y) (rx : RelV x v) (ry : RelV y u)
    (e : dictOf S d = some kvs) (f : fits kvs k = true) : ((∀ s', Inv X pins σ H s' → Q (.bool (dHas kvs k)) s') → wpAny (model X.prog X.w) X.A (compareOp .In u v) Q E s) ∧ ((∀ s', Inv X pins σ H s' → Q (.bool (!dHas kvs k)) s') → wpAny (model X.prog X.w) X.A (compareOp .NotIn u v) Q E s) := by
  obtain ⟨a, rfl, da⟩ := dictOf_at R rd e
  cases rx
  unfold fits at f
  cases hl : isLeaf k with
  | true =>
    rw [hl] at f
    obtain ⟨ks, vs, rk2, kv, dd, hs, hz, _⟩ := leaf_view I da f
    obtain ⟨q, hq, rq⟩ := leaf_key hl rk ry
    have eb : dHas kvs k = (valueAt vs q).isSome := by rw [(rk2.look hq).1, valV_any, (kv.val q).isSome_eq]
    rw [eb]
    exact ⟨fun h => wpAny_in_of (kV_is rq) hs dd.mapOf (h _ (I.tok _)), fun h => wpAny_notIn_of (kV_is rq) hs dd.mapOf (h _ (I.tok _))⟩
  | false =>
    rw [hl] at f
    rw [show (match false with | true => leafOk kvs | false => isTup k && nestOk kvs) = (isTup k && nestOk kvs) from rfl, Bool.and_eq_true] at f
    obtain ⟨xs, q, rfl, hq, hd⟩ := isTup_nk f.1
    obtain ⟨ks, us, rk2, pr, dd, hs, hz, _⟩ := nest_view I da f.2
    cases rk with
    | tup ft rt =>
      cases ry
      have eb : dHas kvs (.tup xs) = (atKey us q).isSome := by rw [(rk2.look hq pr).1, atKey_any, PairedE.any q pr]
      rw [eb]
      exact ⟨fun h => wpAny_in_heap (room_nest hu) (nested_key I (.tup ft rt) hq hd) hs dd (h _ (I.tok _)), fun h => wpAny_notIn_heap (room_nest hu) (nested_key I (.tup ft rt) hq hd) hs dd (h _ (I.tok _))⟩
/-- d[k] = v -/
theorem run_dset (hu : X.A.units + 100 < cLine) (I : Inv X pins σ H s) (R : RelS (pm X tb) W H S) {n : Nat} {k t : T} {y z : V} {u r : Value} {Q : Unit → Shared → Prop} (rk : Rep (pm X tb) W H k y) (rt : Rep (pm X tb) W H t z) (ry : RelV y u) (rz : RelV z r)
    (e : S.get n = some (.dic kvs)) (f : fits kvs k = true) (hsz : kvs.length + 1 ≤ sizeLine)
    (h : ∀ s' ho, Inv X pins σ (upd H (W.mu n) ho) s' → RelS (pm X tb) W (upd H (W.mu n) ho) (S.set n (.dic (dPut kvs k t))) → Q () s') : wpAny (model X.prog X.w) X.A (setItem (.ref (W.mu n)) u r) Q E s := by
  have da := (R.get e).dat
  have hn := Sto.get_key e
  unfold fits at f
  cases hl : isLeaf k with
  | true =>
    rw [hl] at f
    obtain ⟨ks, vs, rk2, kv, dd, hs, hz, mu⟩ := leaf_view I da f
    obtain ⟨q, hq, rq⟩ := leaf_key hl rk ry
    have hz' : vs.length ≤ sizeLine := by rw [← kv.length]; exact hz
    have hlen := rk2.length
    refine wpAny_setItem_pairs (hsz := hz') (kV_is rq) dd fun h' dd' hs' => ?_
    have he : ∃ q, h'.get? (W.mu n) = some q := by obtain ⟨o, _, _, ho, _⟩ := dd'; exact ⟨o, ho⟩
    refine h _ (.dK (putK ks q z)) (d_write I mu hs' he (dk_new (by have := length_putK ks q z; omega) hs (kv.put q rz) dd')) (R.set hn (.dicK upd_same ?_))
    have r2 : RepK (pm X tb) W (upd H (W.mu n) (.dK (putK ks q z))) kvs ks := RepK.mono' (fun _ _ => rfl) (Nat.le_refl _) (fun _ w => w) ((Ext.set (W := W) (S := S) (H := H) (o := .lst []) hn).fzk R) rk2
    exact r2.put hq (rt.set R hn)
  | false =>
    rw [hl] at f
    rw [show (match false with | true => leafOk kvs | false => isTup k && nestOk kvs) = (isTup k && nestOk kvs) from rfl, Bool.and_eq_true] at f
    obtain ⟨xs, q, rfl, hq, hd⟩ := isTup_nk f.1
    obtain ⟨ks, us, rk2, pr, dd, hs, hz, mu⟩ := nest_view I da f.2
    have hlen := rk2.length
    have hlen2 := pr.length
    cases rk with
    | @tup b _ _ ft rt' =>
      cases ry
      refine wpAny_setItem_heap (room_nest hu) (nested_key I (.tup ft rt') hq hd) dd (fun h' dd' hs' => ?_) (by omega)
      have he : ∃ q, h'.get? (W.mu n) = some q := by obtain ⟨o, _, _, ho, _⟩ := dd'; exact ⟨o, ho⟩
      have pr' : PairedE (putE ks q b z) (storedH us q b r) := PairedE.put rz pr
      refine h _ (DicE (pm X tb) (W.mu n) (putE ks q b z)) (d_write I mu hs' he (dicE_ok (p := pm X tb) pr' dd')) (R.set hn (.dicE upd_same hs (by have := putE_len ks q b z; omega) ?_ ?_))
      · have x := (Ext.set (W := W) (S := S) (H := H) (o := .lst []) (ho := DicE (pm X tb) (W.mu n) (putE ks q b z)) hn)
        have r2 : RepE (pm X tb) W (upd H (W.mu n) (DicE (pm X tb) (W.mu n) (putE ks q b z))) kvs ks := RepE.mono' (fun _ _ => rfl) (Nat.le_refl _) (fun _ w => w) (x.fzk R) rk2
        exact r2.put hq hd ((Rep.tup ft rt').mono R x) (rt.mono R x) (rk2.look hq pr).1
      · rw [PairedE.keys pr']
        obtain ⟨_, _, _, _, _, _, _, _, nd⟩ := dd'
        exact nd
end
end Pi
set_option Elab.async false
set_option linter.all false
set_option autoImplicit false
set_option maxRecDepth 100000
set_option maxHeartbeats 1000000
/-! Pi6: arithmetic, joining, in, is, subscripts, slices, attributes. -/
namespace Pi
open PySem PySem.Spec PyProof.Rows L2

section
variable {p : Pm} {W : Wd} {H : Hp} {S : Sto}
theorem row_tup (R : RelS p W H S) {t : T} {v : V} {xs : List T} (r : Rep p W H t v) (h : deref S t = .tup xs) : t = .tup xs ∧ ∃ a vs, v = .ref a ∧ SqT p.K H a vs ∧ Reps p W H xs vs := by
  have e : t = .tup xs := by
    cases t with
    | loc n =>
      unfold deref at h
      dsimp only at h
      split at h <;> cases h
    | _ => exact h
  subst e
  cases r with
  | tup f rr => exact ⟨rfl, _, _, rfl, f.sq, rr⟩
theorem row_lst (R : RelS p W H S) {t : T} {v : V} {xs : List T} (r : Rep p W H t v) (h : deref S t = .lst xs) : ∃ a vs, v = .ref a ∧ H a = some (.lst vs) ∧ Reps p W H xs vs := by
  cases r with
  | lst f e rr => cases h; exact ⟨_, _, rfl, e, rr⟩
  | loc hl =>
    rename_i n
    unfold deref at h
    dsimp only at h
    cases e : S.get n with
    | none => rw [e] at h; cases h
    | some o =>
      rw [e] at h
      cases o with
      | lst ys =>
        cases h
        cases R.get e with
        | lst eh rr => exact ⟨_, _, rfl, eh, rr⟩
      | dic _ => cases h
      | ins _ _ => cases h
  | _ => cases h
end

/-! ### numbers -/
def small64 : Int → Bool
  | .ofNat n => Nat.blt n 18446744073709551616
  | .negSucc n => Nat.blt (n + 1) 18446744073709551616
theorem small64_ok {i : Int} (h : small64 i = true) : -(2 ^ 64) < i ∧ i < 2 ^ 64 := by
  cases i with
  | ofNat n =>
    have h : Nat.ble (n + 1) 18446744073709551616 = true := h
    have := Nat.le_of_ble_eq_true h
    simp only [Int.ofNat_eq_natCast]
    omega
  | negSucc n =>
    have h : Nat.ble (n + 1 + 1) 18446744073709551616 = true := h
    have := Nat.le_of_ble_eq_true h
    omega
def iPow : Int → Nat → Int
  | .ofNat a, n => .ofNat (Nat.pow a n)
  | .negSucc a, n => (Int.negSucc a) ^ n
theorem iPow_eq (i : Int) (n : Nat) : iPow i n = i ^ n := by
  cases i with
  | ofNat a =>
    show ((a ^ n : Nat) : Int) = (a : Int) ^ n
    exact Int.natCast_pow a n
  | negSucc a => rfl
def posI : Int → Bool
  | .ofNat (_ + 1) => true
  | _ => false
theorem posI_ok {i : Int} (h : posI i = true) : 0 < i := by
  cases i with
  | ofNat n => cases n with
    | zero => cases h
    | succ n => simp only [Int.ofNat_eq_natCast]; omega
  | negSucc n => cases h
def opAdd (t u : T) : M T := fun S => match t, u with
  | .int a, .int b => .ok (.int (Int.add a b)) S
  | .int a, .bl b => .ok (.int (Int.add a (b2i b))) S
  | .tup xs, .tup ys => mkTup (xs ++ ys) S
  | t, u => match deref S t, deref S u with
    | .lst xs, .lst ys => mkLst (xs ++ ys) S
    | _, _ => .no
def opSub (t u : T) : M T := fun S => match t, u with
  | .int a, .int b => .ok (.int (Int.sub a b)) S
  | _, _ => .no
def opMul (t u : T) : M T := fun S => match t, u with
  | .int a, .int b => match small64 a || small64 b with
    | true => .ok (.int (Int.mul a b)) S
    | false => .no
  | _, _ => .no
def opDiv (t u : T) : M T := fun S => match t, u with
  | .int a, .int b => match posI b && iLt b (.ofNat 1073741824) with
    | true => .ok (.int (Int.ediv a b)) S
    | false => .no
  | _, _ => .no
def opMod (t u : T) : M T := fun S => match t, u with
  | .int a, .int b => match posI b with
    | true => .ok (.int (Int.emod a b)) S
    | false => .no
  | _, _ => .no
def opPow (t u : T) : M T := fun S => match t, u with
  | .int a, .int b => match small64 a && (iLe (.ofNat 0) b && iLe b (.ofNat 1000000)) with
    | true => .ok (.int (iPow a b.toNat)) S
    | false => .no
  | _, _ => .no
theorem mkTup_nox (xs : List T) (S : Sto) (c : Nat) (fs : List (Nat × T)) (S' : Sto) : mkTup xs S ≠ .exc c fs S' := fun h => by
  unfold mkTup at h
  cases e : few xs <;> (rw [e] at h; cases h)
theorem mkLst_nox (xs : List T) (S : Sto) (c : Nat) (fs : List (Nat × T)) (S' : Sto) : mkLst xs S ≠ .exc c fs S' := fun h => by
  unfold mkLst at h
  cases e : few xs <;> (rw [e] at h; cases h)
theorem opAdd_nox : NoX2 opAdd := fun t u S c fs S' h => by
  unfold opAdd at h
  split at h
  · cases h
  · cases h
  · exact mkTup_nox _ _ _ _ _ h
  · split at h
    · exact mkLst_nox _ _ _ _ _ h
    · cases h
theorem opSub_nox : NoX2 opSub := fun t u S c fs S' => by
  unfold opSub
  split <;> (try split) <;> exact fun h => nomatch h
theorem opMul_nox : NoX2 opMul := fun t u S c fs S' => by
  unfold opMul
  split <;> (try split) <;> exact fun h => nomatch h
theorem opDiv_nox : NoX2 opDiv := fun t u S c fs S' => by
  unfold opDiv
  split <;> (try split) <;> exact fun h => nomatch h
theorem opMod_nox : NoX2 opMod := fun t u S c fs S' => by
  unfold opMod
  split <;> (try split) <;> exact fun h => nomatch h
theorem opPow_nox : NoX2 opPow := fun t u S c fs S' => by
  unfold opPow
  split <;> (try split) <;> exact fun h => nomatch h
section
variable {X : Cx} {tb : Tb}
theorem mkTup_few {E : XK} {p : Pm} {W : Wd} {S : Sto} {H : Hp} {Q : VK} {xs : List T} (h : Ans p E (Rep p) W S H Q (mkTup xs S)) : few xs = true := by
  unfold mkTup at h
  cases e : few xs with
  | true => rfl
  | false => rw [e] at h; exact h.elim
theorem mkLst_few {E : XK} {p : Pm} {W : Wd} {S : Sto} {H : Hp} {Q : VK} {xs : List T} (h : Ans p E (Rep p) W S H Q (mkLst xs S)) : few xs = true := by
  unfold mkLst at h
  cases e : few xs with
  | true => rfl
  | false => rw [e] at h; exact h.elim
theorem Ans.tup' {E : XK} {p : Pm} {W : Wd} {S : Sto} {H : Hp} {Q : VK} {xs : List T} {v : V} (R : RelS p W H S) (h : Ans p E (Rep p) W S H Q (mkTup xs S)) (r : Rep p W H (.tup xs) v) : Q v H := by
  have := mkTup_few h
  unfold mkTup at h
  rw [this] at h
  exact h.ret_ R r
theorem cat_lists {s : Shared} {A : Around} {E : Value → Shared → Prop} {Q : Value → Shared → Prop} {a b : Addr} {its jts : List Value} (ha : PlainL s.heap a its.toArray) (hb : PlainL s.heap b jts.toArray) (hz : its.length + jts.length ≤ sizeLine)
    (h : Q (.ref s.heap.objs.size) { s with heap := s.heap.push { cls := .type "list", data := .seq (its ++ jts).toArray } }) : wpAny (model X.prog X.w) A (binaryOp .Add (.ref a) (.ref b)) Q E s := by
  obtain ⟨⟨cls, dd, data, sl⟩, n, ho, hc, hd, hs⟩ := ha
  obtain ⟨⟨cls2, dd2, data2, sl2⟩, n2, ho2, hc2, hd2, hs2⟩ := hb
  simp only at hc hs hc2 hs2
  subst hc hs hc2 hs2
  refine concat_meets ⟨_, ho, rfl⟩ ⟨_, ho2, rfl⟩ noFill_list_add seq_list_add PySem.F.slot_list_add PySem.F.entry_list_add (PySem.F.args_list_add_2 _ _) (list_addW a b its.toArray jts.toArray n n2 dd dd2 sl sl2 (by simpa using hz)) ⟨ho, ho2, ?_⟩
  have e : its.toArray ++ jts.toArray = (its ++ jts).toArray := by simp
  rw [e]
  exact h
/-- xs + ys of lists that may be read -/
theorem cat_list {s : Shared} {pins : List (Addr × Obj)} {σ : St} {H : Hp} {Q : VK} {a b : Addr} {xs ys : List V} (I : Inv X pins σ H s) (ha : SqL X.K H a xs) (hb : SqL X.K H b ys) (hz : xs.length + ys.length ≤ sizeLine) (q : ∀ p, H p = none → Q (.ref p) (upd H p (.lst (xs ++ ys)))) :
    wpAny (model X.prog X.w) X.A (binaryOp .Add (.ref a) (.ref b)) (EP X pins σ Q) X.xe s := by
  obtain ⟨its, r1, p1, z1⟩ := I.list ha
  obtain ⟨jts, r2, p2, z2⟩ := I.list hb
  have l1 := r1.length
  have l2 := r2.length
  refine cat_lists p1 p2 (by omega) ?_
  refine ⟨.ref s.heap.objs.size, upd H s.heap.objs.size (.lst (xs ++ ys)), I.laid (t' := s.toks) (fun c u e => Heap.get?_push_of_some _ e) (Nat.le_refl _) ⟨by rw [List.length_append]; exact hz, its ++ jts, 0, r1.append r2, ?_⟩, rfl, q _ (I.hok.fresh (Nat.le_refl _))⟩
  rw [Heap.get?_push_size _ rfl]
theorem or_add : OpR X (binaryOp .Add) (rP (pm X tb) opAdd) := by
  intro pins s σ H x y v u Q I rx ry ⟨W, S, t, t', R, r1, r2, q⟩
  unfold opAdd at q
  split at q
  · cases r1
    cases r2
    exact op_add pins s σ H _ _ v u Q I rx ry ⟨_, _, rfl, rfl, q.ret_ R (.int _)⟩
  · rename_i a b
    cases r1
    cases r2
    refine op_add_ib pins s σ H _ _ v u Q I rx ry ⟨_, _, rfl, rfl, ?_⟩
    have e : a + PyProof.Rows.b2i b = Int.add a (b2i b) := by cases b <;> rfl
    rw [e]
    exact q.ret_ R (.int _)
  · rename_i xs ys
    cases r1 with
    | @tup a _ vs f1 rr1 =>
      cases r2 with
      | @tup b _ ws f2 rr2 =>
        have hf := few_le (mkTup_few q)
        have l1 := rr1.length
        have l2 := rr2.length
        rw [List.length_append] at hf
        refine op_catA pins s σ H _ _ v u Q I rx ry ⟨a, b, vs, ws, rfl, rfl, f1.sq, f2.sq, by omega, fun e => ?_, fun _ e => ?_, fun _ _ c hc => (Ans.tup R (rr1.append rr2) q hc).2⟩
        · subst e
          cases rr1
          exact q.tup' R (.tup f2 rr2)
        · subst e
          cases rr2
          rw [List.append_nil] at q
          exact q.tup' R (.tup f1 rr1)
  · split at q
    · rename_i xs ys e1 e2
      obtain ⟨a, vs, rfl, s1, rr1⟩ := row_lst R r1 e1
      obtain ⟨b, ws, rfl, s2, rr2⟩ := row_lst R r2 e2
      cases rx
      cases ry
      have hf := few_le (mkLst_few q)
      have l1 := rr1.length
      have l2 := rr2.length
      rw [List.length_append] at hf
      exact cat_list I (SqL.of s1) (SqL.of s2) (by omega) fun c hc => (Ans.lst R (rr1.append rr2) q hc).2
    · exact q.elim
theorem or_sub : OpR X (binaryOp .Sub) (rP (pm X tb) opSub) := by
  intro pins s σ H x y v u Q I rx ry ⟨W, S, t, t', R, r1, r2, q⟩
  unfold opSub at q
  split at q
  · cases r1
    cases r2
    exact op_sub pins s σ H _ _ v u Q I rx ry ⟨_, _, rfl, rfl, q.ret_ R (.int _)⟩
  · exact q.elim
theorem cmul_of {a b : Int} (h : (small64 a || small64 b) = true) : CMul a b := by
  rw [Bool.or_eq_true] at h
  rcases h with h | h
  · exact .inl (small64_ok h)
  · exact .inr (small64_ok h)
theorem or_mul : OpR X (binaryOp .Mult) (rP (pm X tb) opMul) := by
  intro pins s σ H x y v u Q I rx ry ⟨W, S, t, t', R, r1, r2, q⟩
  unfold opMul at q
  split at q
  · cases r1
    cases r2
    split at q
    · rename_i h
      exact op_mul pins s σ H _ _ v u Q I rx ry ⟨_, _, rfl, rfl, cmul_of h, q.ret_ R (.int _)⟩
    · exact q.elim
  · exact q.elim
theorem or_imul : OpR X (inplaceOp .Mult) (rP (pm X tb) opMul) := by
  intro pins s σ H x y v u Q I rx ry ⟨W, S, t, t', R, r1, r2, q⟩
  unfold opMul at q
  split at q
  · cases r1
    cases r2
    split at q
    · rename_i h
      exact iop_mul pins s σ H _ _ v u Q I rx ry ⟨_, _, rfl, rfl, cmul_of h, q.ret_ R (.int _)⟩
    · exact q.elim
  · exact q.elim
/-- += of ints -/
def opIAdd (t u : T) : M T := fun S => match t, u with
  | .int a, .int b => .ok (.int (Int.add a b)) S
  | _, _ => .no
theorem opIAdd_nox : NoX2 opIAdd := fun t u S c fs S' h => by unfold opIAdd at h; split at h <;> cases h
theorem or_iadd : OpR X (inplaceOp .Add) (rP (pm X tb) opIAdd) := by
  intro pins s σ H x y v u Q I rx ry ⟨W, S, t, t', R, r1, r2, q⟩
  unfold opIAdd at q
  split at q
  · cases r1
    cases r2
    exact iop_add pins s σ H _ _ v u Q I rx ry ⟨_, _, rfl, rfl, q.ret_ R (.int _)⟩
  · exact q.elim
theorem or_div : OpR X (binaryOp .FloorDiv) (rP (pm X tb) opDiv) := by
  intro pins s σ H x y v u Q I rx ry ⟨W, S, t, t', R, r1, r2, q⟩
  unfold opDiv at q
  split at q
  · cases r1
    cases r2
    split at q
    · rename_i h
      rw [Bool.and_eq_true, iLt_iff, decide_eq_true_iff] at h
      exact op_fdiv pins s σ H _ _ v u Q I rx ry ⟨_, _, rfl, rfl, ⟨posI_ok h.1, h.2⟩, q.ret_ R (.int _)⟩
    · exact q.elim
  · exact q.elim
theorem or_mod : OpR X (binaryOp .Mod) (rP (pm X tb) opMod) := by
  intro pins s σ H x y v u Q I rx ry ⟨W, S, t, t', R, r1, r2, q⟩
  unfold opMod at q
  split at q
  · cases r1
    cases r2
    split at q
    · rename_i h
      exact op_mod pins s σ H _ _ v u Q I rx ry ⟨_, _, rfl, rfl, posI_ok h, q.ret_ R (.int _)⟩
    · exact q.elim
  · exact q.elim
theorem or_pow : OpR X (binaryOp .Pow) (rP (pm X tb) opPow) := by
  intro pins s σ H x y v u Q I rx ry ⟨W, S, t, t', R, r1, r2, q⟩
  unfold opPow at q
  split at q
  · cases r1
    cases r2
    split at q
    · rename_i h
      rw [Bool.and_eq_true, Bool.and_eq_true, iLe_iff, iLe_iff, decide_eq_true_iff, decide_eq_true_iff] at h
      have h1 := small64_ok h.1
      refine op_pow pins s σ H _ _ v u Q I rx ry ⟨_, _, rfl, rfl, ⟨h.2.1, h.2.2, by omega⟩, ?_⟩
      show Q (.int (_ ^ _)) H
      rw [← iPow_eq]
      exact q.ret_ R (.int _)
    · exact q.elim
  · exact q.elim
/-- -a -/
def opNeg (t : T) : M T := fun S => match t with
  | .int a => .ok (.int (Int.neg a)) S
  | _ => .no
def eNeg (a : ME) : ME := fun env => bnd (a env) opNeg
theorem q_neg {Wx : WX} {a : Expr} {ma : ME} {pos : Pos} (ha : QE X tb Wx a ma) : QE X tb Wx (.UnaryOp .USub a pos) (eNeg ma) := by
  refine PE.imp (pe_un un_neg ha) fun σ H Q ⟨W, env, S, R, q⟩ => ?_
  refine ⟨W, env, S, R, Ans.imp (Ans.bind (R := Rep (pm X tb)) R.sto q) fun x H1 ⟨W1, S1, t, x1, r1, rx, q1⟩ => ?_⟩
  cases rx with
  | int i => exact ⟨i, rfl, q1.ret_ r1 (.int _)⟩
  | _ => exact q1.elim

/-! ### in, not in -/
def isIn (c x : T) : M Bool := fun S => match dictOf S c with
  | some kvs => match fits kvs x with
    | true => .ok (dHas kvs x) S
    | false => .no
  | none => match rowOf (deref S c) with
    | some xs => match isD (deref S x) 60 && isDs xs 60 with
      | true => .ok (inRow (deref S x) xs) S
      | false => .no
    | none => .no
def opIn (x c : T) : M T := bnd (isIn c x) fun b => ret (.bl b)
def opNotIn (x c : T) : M T := bnd (isIn c x) fun b => ret (.bl (!b))
theorem isIn_kf (c x : T) (S : Sto) : (∃ b, isIn c x S = .ok b S) ∨ isIn c x S = .no := by
  unfold isIn
  split
  · split
    · exact .inl ⟨_, rfl⟩
    · exact .inr rfl
  · split
    · split
      · exact .inl ⟨_, rfl⟩
      · exact .inr rfl
    · exact .inr rfl
theorem opIn_nox : NoX2 opIn := fun t u S c fs S' h => by
  unfold opIn bnd at h
  rcases isIn_kf u t S with ⟨b, e⟩ | e <;> rw [e] at h <;> cases h
theorem opNotIn_nox : NoX2 opNotIn := fun t u S c fs S' h => by
  unfold opNotIn bnd at h
  rcases isIn_kf u t S with ⟨b, e⟩ | e <;> rw [e] at h <;> cases h
theorem or_in (hu : X.A.units + 100 < cLine) : OpR X (compareOp .In) (rP (pm X tb) opIn) := by
  intro pins s σ H x y v u Q I rx ry ⟨W, S, t, t', R, r1, r2, q⟩
  unfold opIn bnd isIn at q
  split at q
  · rename_i b S2 e
    split at e
    · rename_i kvs e2
      split at e
      · rename_i hf
        cases e
        exact (run_din hu I R r2 r1 ry rx e2 hf).1 fun s' I' => ⟨.bl _, H, I', rfl, q.ret_ R (.bl _)⟩
      · cases e
    · split at e
      · rename_i xs e2
        split at e
        · rename_i hd
          cases e
          rw [Bool.and_eq_true] at hd
          exact in_row hu I rx ry R r1 r2 e2 hd.1 hd.2 ⟨.bl _, H, I, rfl, q.ret_ R (.bl _)⟩
        · cases e
      · cases e
  · rename_i e
    rcases isIn_kf t' t S with ⟨b, e'⟩ | e' <;> (unfold isIn at e'; rw [e'] at e; cases e)
  · exact q.elim
theorem or_notIn (hu : X.A.units + 100 < cLine) : OpR X (compareOp .NotIn) (rP (pm X tb) opNotIn) := by
  intro pins s σ H x y v u Q I rx ry ⟨W, S, t, t', R, r1, r2, q⟩
  unfold opNotIn bnd isIn at q
  split at q
  · rename_i b S2 e
    split at e
    · rename_i kvs e2
      split at e
      · rename_i hf
        cases e
        exact (run_din hu I R r2 r1 ry rx e2 hf).2 fun s' I' => ⟨.bl _, H, I', rfl, q.ret_ R (.bl _)⟩
      · cases e
    · split at e
      · rename_i xs e2
        split at e
        · rename_i hd
          cases e
          rw [Bool.and_eq_true] at hd
          exact notIn_row hu I rx ry R r1 r2 e2 hd.1 hd.2 ⟨.bl _, H, I, rfl, q.ret_ R (.bl _)⟩
        · cases e
      · cases e
  · rename_i e
    rcases isIn_kf t' t S with ⟨b, e'⟩ | e' <;> (unfold isIn at e'; rw [e'] at e; cases e)
  · exact q.elim

/-! ### is, is not (None, True, False on the right) -/
def sameB (b : Bool) : T → Bool
  | .bl c => bEq c b
  | _ => false
def isNon : T → Bool
  | .non => true
  | _ => false
def opIs (t u : T) : M T := fun S => match u with
  | .non => .ok (.bl (isNon t)) S
  | .bl b => .ok (.bl (sameB b t)) S
  | _ => .no
def opIsNot (t u : T) : M T := fun S => match u with
  | .non => .ok (.bl (!isNon t)) S
  | .bl b => .ok (.bl (!sameB b t)) S
  | _ => .no
theorem opIs_nox : NoX2 opIs := fun t u S c fs S' h => by unfold opIs at h; split at h <;> cases h
theorem opIsNot_nox : NoX2 opIsNot := fun t u S c fs S' h => by unfold opIsNot at h; split at h <;> cases h
theorem is_bool_gen {M : Model} {A : Around} {E : Value → Shared → Prop} {s : Shared} {Q : Value → Shared → Prop} {x : V} {v : Value} {b : Bool} (r : RelV x v) (h : Q (.bool (decide (x = .bl b))) s) : wpAny M A (compareOp .Is v (.bool b)) Q E s := by
  cases x with
  | non => cases r; exact wpAny_pure h
  | bl c =>
    cases r
    have e : decide (V.bl c = V.bl b) = (Value.bool c == Value.bool b) := by cases c <;> cases b <;> rfl
    rw [e] at h
    exact wpAny_pure h
  | int i => obtain ⟨t, rfl⟩ := r; exact wpAny_pure h
  | str i => obtain ⟨t, rfl⟩ := r; exact wpAny_pure h
  | byt i => obtain ⟨t, rfl⟩ := r; exact wpAny_pure h
  | flt i => obtain ⟨t, rfl⟩ := r; exact wpAny_pure h
  | ref a => cases r; exact wpAny_pure h
  | ty n => cases r; exact wpAny_pure h
theorem isnot_bool_gen {M : Model} {A : Around} {E : Value → Shared → Prop} {s : Shared} {Q : Value → Shared → Prop} {x : V} {v : Value} {b : Bool} (r : RelV x v) (h : Q (.bool (!decide (x = .bl b))) s) : wpAny M A (compareOp .IsNot v (.bool b)) Q E s := by
  cases x with
  | non => cases r; exact wpAny_pure h
  | bl c =>
    cases r
    have e : decide (V.bl c = V.bl b) = (Value.bool c == Value.bool b) := by cases c <;> cases b <;> rfl
    rw [e] at h
    exact wpAny_pure h
  | int i => obtain ⟨t, rfl⟩ := r; exact wpAny_pure h
  | str i => obtain ⟨t, rfl⟩ := r; exact wpAny_pure h
  | byt i => obtain ⟨t, rfl⟩ := r; exact wpAny_pure h
  | flt i => obtain ⟨t, rfl⟩ := r; exact wpAny_pure h
  | ref a => cases r; exact wpAny_pure h
  | ty n => cases r; exact wpAny_pure h
theorem isNon_rep {p : Pm} {W : Wd} {H : Hp} {t : T} {x : V} (r : Rep p W H t x) : isNon t = decide (x = .non) := by
  cases r <;> rfl
theorem sameB_rep {p : Pm} {W : Wd} {H : Hp} {t : T} {x : V} {b : Bool} (r : Rep p W H t x) : sameB b t = decide (x = .bl b) := by
  cases r with
  | bl c => cases c <;> cases b <;> rfl
  | _ => rfl
theorem or_is : OpR X (compareOp .Is) (rP (pm X tb) opIs) := by
  intro pins s σ H x y v u Q I rx ry ⟨W, S, t, t', R, r1, r2, q⟩
  unfold opIs at q
  split at q
  · cases r2
    refine op_isN pins s σ H _ _ v u Q I rx ry ⟨rfl, ?_⟩
    rw [← isNon_rep r1]
    exact q.ret_ R (.bl _)
  · cases r2
    cases ry
    refine is_bool_gen rx ?_
    rw [← sameB_rep r1]
    exact ⟨.bl _, H, I, rfl, q.ret_ R (.bl _)⟩
  · exact q.elim
theorem or_isNot : OpR X (compareOp .IsNot) (rP (pm X tb) opIsNot) := by
  intro pins s σ H x y v u Q I rx ry ⟨W, S, t, t', R, r1, r2, q⟩
  unfold opIsNot at q
  split at q
  · cases r2
    refine op_notN pins s σ H _ _ v u Q I rx ry ⟨rfl, ?_⟩
    rw [← isNon_rep r1]
    exact q.ret_ R (.bl _)
  · cases r2
    cases ry
    refine isnot_bool_gen rx ?_
    rw [← sameB_rep r1]
    exact ⟨.bl _, H, I, rfl, q.ret_ R (.bl _)⟩
  · exact q.elim

/-! ### t[i], d[k] -/
def atT (xs : List T) : Int → Option T
  | .ofNat n => nth xs n
  | .negSucc k => match Nat.ble (k + 1) xs.length with
    | true => nth xs (xs.length - (k + 1))
    | false => none
theorem atT_eq (xs : List T) (i : Int) : atT xs i = atI xs i := by
  cases i with
  | ofNat n =>
    show nth xs n = _
    rw [nth_eq]
    unfold atI ixN
    rw [if_pos (show 0 ≤ Int.ofNat n by simp only [Int.ofNat_eq_natCast]; omega)]
    by_cases h : n < xs.length
    · rw [if_pos (show Int.ofNat n < (xs.length : Int) by simp only [Int.ofNat_eq_natCast]; omega)]
      rfl
    · rw [if_neg (show ¬ Int.ofNat n < (xs.length : Int) by simp only [Int.ofNat_eq_natCast]; omega)]
      exact List.getElem?_eq_none (by omega)
  | negSucc k =>
    show (match Nat.ble (k + 1) xs.length with | true => nth xs (xs.length - (k + 1)) | false => none) = _
    unfold atI ixN
    rw [if_neg (show ¬ 0 ≤ Int.negSucc k by omega)]
    cases e : Nat.ble (k + 1) xs.length with
    | true =>
      have h := Nat.le_of_ble_eq_true e
      rw [if_pos (show -(xs.length : Int) ≤ Int.negSucc k by omega)]
      show nth xs (xs.length - (k + 1)) = xs[(Int.negSucc k + (xs.length : Int)).toNat]?
      rw [nth_eq]
      have : (Int.negSucc k + (xs.length : Int)).toNat = xs.length - (k + 1) := by omega
      rw [this]
    | false =>
      have h : ¬ k + 1 ≤ xs.length := fun z => by
        rw [Nat.ble_eq_true_of_le z] at e; cases e
      rw [if_neg (show ¬ -(xs.length : Int) ≤ Int.negSucc k by omega)]
      rfl
theorem Reps.at {p : Pm} {W : Wd} {H : Hp} {ts : List T} {vs : List V} {i : Int} {t : T} (r : Reps p W H ts vs) (h : atI ts i = some t) : ∃ v, atI vs i = some v ∧ Rep p W H t v := by
  unfold atI at h ⊢
  rw [r.length] at h
  cases e : ixN vs.length i with
  | none => rw [e] at h; cases h
  | some j =>
    rw [e] at h
    exact r.get h
def opIx (t i : T) : M T := fun S => match dictOf S t with
  | some kvs => match fits kvs i with
    | true => match dGet kvs i with
      | some v => .ok v S
      | none => .no
    | false => .no
  | none => match rowOf (deref S t), i with
    | some xs, .int i => match atT xs i with
      | some x => .ok x S
      | none => .no
    | _, _ => .no
theorem opIx_nox : NoX2 opIx := fun t u S c fs S' h => by
  unfold opIx at h
  split at h
  · split at h
    · split at h <;> cases h
    · cases h
  · split at h
    · split at h <;> cases h
    · cases h
theorem ix_any (hu : X.A.units + 100 < cLine) : IxR X (rP (pm X tb) opIx) := by
  intro value slice pins s σ H x y v u Q I rx ry ⟨W, S, t, i, R, r1, r2, q⟩ hs
  unfold opIx at q
  split at q
  · rename_i kvs e
    split at q
    · rename_i hf
      split at q
      · rename_i z hz
        obtain ⟨ty, run⟩ := run_dget (E := X.xe) (Q := EP X pins σ Q) hu I R r1 r2 rx ry e hf hz fun w' z' s' I' rz rw' => ⟨z', H, I', rw', q.ret_ R rz⟩
        exact tail_any (ops := [v, u]) ty PySem.F.slot_dict_getitem.lookup run hs
      · exact q.elim
    · exact q.elim
  · split at q
    · rename_i xs i e
      split at q
      · rename_i z hz
        rw [atT_eq] at hz
        cases r2
        cases ed : deref S t with
        | tup ys =>
          rw [ed] at e
          cases e
          obtain ⟨_, a, vs, rfl, sq, rr⟩ := row_tup R r1 ed
          obtain ⟨w', hw, rw'⟩ := rr.at hz
          exact ix_tup value slice pins s σ H _ _ v u Q I rx ry ⟨a, vs, i, w', rfl, rfl, sq, hw, q.ret_ R rw'⟩ hs
        | lst ys =>
          rw [ed] at e
          cases e
          obtain ⟨a, vs, rfl, sq, rr⟩ := row_lst R r1 ed
          obtain ⟨w', hw, rw'⟩ := rr.at hz
          exact ix_list value slice pins s σ H _ _ v u Q I rx ry ⟨a, vs, i, w', rfl, rfl, SqL.of sq, hw, q.ret_ R rw'⟩ hs
        | _ => rw [ed] at e; cases e
      · exact q.elim
    · exact q.elim
theorem q_ix {Wx : WX} {a b : Expr} {ma mb : ME} {pos : Pos} (hu : X.A.units + 100 < cLine) (ha : QE X tb Wx a ma) (hb : QE X tb Wx b mb) (hs : PlainIx b) : QE X tb Wx (.Subscript a b pos) (eOp opIx ma mb) :=
  PE.imp (pe_ix (ix_any hu) ha hb hs) fun σ H Q h => op_reading opIx_nox h

/-! ### slices -/
def sx (n d : Nat) : Option Int → Nat
  | none => d
  | some (.ofNat k) => min k n
  | some (.negSucc k) => n - (k + 1)
theorem sx_eq (n d : Nat) (o : Option Int) : sx n d o = HT.sIx n d o := by
  cases o with
  | none => rfl
  | some i =>
    cases i with
    | ofNat k => exact (HT.sIx_nat n d k).symm
    | negSucc k =>
      show n - (k + 1) = if Int.negSucc k < 0 then (Int.negSucc k + (n : Int)).toNat else _
      rw [if_pos (by omega)]
      omega
def cutT (xs : List T) (lo hi : Option Int) : List T := (xs.drop (sx xs.length 0 lo)).take (sx xs.length xs.length hi - sx xs.length 0 lo)
theorem Reps.cut {p : Pm} {W : Wd} {H : Hp} {ts : List T} {vs : List V} (lo hi : Option Int) (r : Reps p W H ts vs) : Reps p W H (cutT ts lo hi) (cutV vs lo hi) := by
  unfold cutT cutV
  rw [sx_eq, sx_eq, r.length]
  exact (r.drop _).take _
def opSl (t : T) (lo hi : Option Int) : M T := fun S => match deref S t with
  | .tup xs => mkTup (cutT xs lo hi) S
  | .lst xs => mkLst (cutT xs lo hi) S
  | _ => .no
def asI : T → M Int
  | .int i => ret i
  | _ => stuck
/-- a part of a slice -/
abbrev MO := EnvT → M (Option Int)
def oNone : MO := fun _ => ret none
def oSome (a : ME) : MO := fun env => bnd (a env) fun t => bnd (asI t) fun i => ret (some i)
def eSl (a : ME) (l h : MO) : ME := fun env => bnd (a env) fun t => bnd (l env) fun lo => bnd (h env) fun hi => opSl t lo hi
abbrev OptR : Wd → Hp → Option Int → Option Int → Prop := fun _ _ b c => b = c
abbrev QO (X : Cx) (tb : Tb) (Wx : WX) (e : Option Expr) (m : MO) : Prop := PO X e (tG (pm X tb) Wx OptR m)
theorem PO.imp {e : Option Expr} {t t' : TO} (h : PO X e t) (i : ∀ σ H Q, t' σ H Q → t σ H Q) : PO X e t' := ⟨fun pins s σ H Q I q => h.run pins s σ H Q I (i σ H Q q)⟩
theorem qo_none {Wx : WX} : QO X tb Wx none oNone := PO.imp po_none fun σ H Q ⟨W, env, S, R, q⟩ => q.ret_ R.sto rfl
theorem qo_some {Wx : WX} {e : Expr} {m : ME} (h : QE X tb Wx e m) : QO X tb Wx (some e) (oSome m) := by
  refine PO.imp (po_some h) fun σ H Q ⟨W, env, S, R, q⟩ => ?_
  refine ⟨W, env, S, R, Ans.imp (Ans.bind (R := Rep (pm X tb)) R.sto q) fun x H1 ⟨W1, S1, t, x1, r1, rx, q1⟩ => ?_⟩
  cases rx with
  | int i => exact ⟨i, rfl, q1.ret_ r1 rfl⟩
  | _ => exact q1.elim
theorem cut_whole {xs : List V} {lo hi : Option Int} (h : HT.sIx xs.length 0 lo = 0 ∧ HT.sIx xs.length xs.length hi = xs.length) : cutV xs lo hi = xs := by
  unfold cutV
  rw [h.1, h.2, List.drop_zero, Nat.sub_zero, List.take_length]
theorem cutT_whole {xs : List T} {lo hi : Option Int} (h : HT.sIx xs.length 0 lo = 0 ∧ HT.sIx xs.length xs.length hi = xs.length) : cutT xs lo hi = xs := by
  unfold cutT
  rw [sx_eq, sx_eq, h.1, h.2, List.drop_zero, Nat.sub_zero, List.take_length]
theorem sl_any : SlR X (fun x lo hi H Q => ∃ W S t, RelS (pm X tb) W H S ∧ Rep (pm X tb) W H t x ∧ Ans (pm X tb) E0 (Rep (pm X tb)) W S H Q (opSl t lo hi S)) := by
  have key := SlR.or (sl_tupA (X := X)) (sl_list (X := X))
  rintro pins s σ H x v vl vu lo hi sl Q I rx hs pl pu ⟨W, S, t, R, r, q⟩
  refine key pins s σ H x v vl vu lo hi sl Q I rx hs pl pu ?_
  unfold opSl at q
  split at q
  · rename_i xs ed
    obtain ⟨et, a, vs, rfl, sq, rr⟩ := row_tup R r ed
    refine .inl ⟨a, vs, rfl, sq, fun hw => ?_, fun _ c hc => (Ans.tup R (rr.cut _ _) q hc).2⟩
    rw [cutT_whole (by rw [rr.length]; exact hw)] at q
    subst et
    exact q.tup' R r
  · rename_i xs ed
    obtain ⟨a, vs, rfl, sq, rr⟩ := row_lst R r ed
    exact .inr ⟨a, vs, rfl, SqL.of sq, fun c hc => (Ans.lst R (rr.cut _ _) q hc).2⟩
  · exact q.elim
end
end Pi
set_option Elab.async false
set_option linter.all false
set_option autoImplicit false
set_option maxRecDepth 100000
set_option maxHeartbeats 1000000
/-! Pi7: statements, targets, loops. -/
namespace Pi
open PySem PySem.Spec PyProof.Rows L2

/-- how a suite ends -/
inductive Fl where
  | nx (e : EnvT) | rt (t : T) | bk (e : EnvT) | ct (e : EnvT)
inductive FlV where
  | nx (σ : St) | rt (v : V) | bk (σ : St) | ct (σ : St)
abbrev MS := EnvT → M Fl
inductive FlR (p : Pm) (W : Wd) (H : Hp) : Fl → FlV → Prop
  | nx {e : EnvT} {σ : St} : EnvR p W H e σ → FlR p W H (.nx e) (.nx σ)
  | rt {t : T} {v : V} : Rep p W H t v → FlR p W H (.rt t) (.rt v)
  | bk {e : EnvT} {σ : St} : EnvR p W H e σ → FlR p W H (.bk e) (.bk σ)
  | ct {e : EnvT} {σ : St} : EnvR p W H e σ → FlR p W H (.ct e) (.ct σ)
def QD (D : Ends) : FlV → Hp → Prop
  | .nx σ, H => D.nx σ H
  | .rt v, H => D.rt v H
  | .bk σ, H => D.bk σ H
  | .ct σ, H => D.ct σ H
/-- a wish that no state bears -/
abbrev cw (E : XK) : WX := fun c d _ H => E c d H
def tS (p : Pm) (E : XK) (m : MS) : TS := fun D σ H => ∃ W env S, Rl p W env S σ H ∧ Ans p E (FlR p) W S H (QD D) (m env S)
abbrev QS (X : Cx) (tb : Tb) (E : XK) (st : Stmt) (m : MS) : Prop := PS X st (tS (pm X tb) E m)
abbrev QSs (X : Cx) (tb : Tb) (E : XK) (sts : List Stmt) (m : MS) : Prop := PSs X sts (tS (pm X tb) E m)
theorem PSs.imp {X : Cx} {e : List Stmt} {t t' : TS} (h : PSs X e t) (i : ∀ D σ H, t' D σ H → t D σ H) : PSs X e t' := ⟨fun pins s σ H D I q => h.run pins s σ H D I (i D σ H q)⟩
theorem PG.imp {X : Cx} {e : Expr} {t t' : TG} (h : PG X e t) (i : ∀ v σ H Q, t' v σ H Q → t v σ H Q) : PG X e t' := ⟨fun pins s σ H v u Q I r q => h.run pins s σ H v u Q I r (i v σ H Q q)⟩

section
variable {p : Pm} {E : XK} {W : Wd} {S : Sto} {H : Hp} {D : Ends}
theorem r_nx {e : EnvT} {σ : St} (R : RelS p W H S) (q : Ans p E (FlR p) W S H (QD D) (ret (.nx e) S)) (h : EnvR p W H e σ) : D.nx σ H :=
  show QD D (.nx σ) H from Ans.ret_ (v := FlV.nx σ) R q (FlR.nx h)
theorem r_rt {t : T} {v : V} (R : RelS p W H S) (q : Ans p E (FlR p) W S H (QD D) (ret (.rt t) S)) (h : Rep p W H t v) : D.rt v H :=
  show QD D (.rt v) H from Ans.ret_ (v := FlV.rt v) R q (FlR.rt h)
theorem r_bk {e : EnvT} {σ : St} (R : RelS p W H S) (q : Ans p E (FlR p) W S H (QD D) (ret (.bk e) S)) (h : EnvR p W H e σ) : D.bk σ H :=
  show QD D (.bk σ) H from Ans.ret_ (v := FlV.bk σ) R q (FlR.bk h)
theorem r_ct {e : EnvT} {σ : St} (R : RelS p W H S) (q : Ans p E (FlR p) W S H (QD D) (ret (.ct e) S)) (h : EnvR p W H e σ) : D.ct σ H :=
  show QD D (.ct σ) H from Ans.ret_ (v := FlV.ct σ) R q (FlR.ct h)
end
def sNx : MS := fun env => ret (.nx env)
def sBk : MS := fun env => ret (.bk env)
def sCt : MS := fun env => ret (.ct env)
def sNo : MS := fun _ => stuck
def seqF (b : MS) : Fl → M Fl
  | .nx e => b e
  | .rt t => ret (.rt t)
  | .bk e => ret (.bk e)
  | .ct e => ret (.ct e)
def sSeq (a b : MS) : MS := fun env => bnd (a env) (seqF b)
def sExpr (a : ME) : MS := fun env => bnd (a env) fun _ => ret (.nx env)
def sRet (a : ME) : MS := fun env => bnd (a env) fun t => ret (.rt t)
def sRetN : MS := fun _ => ret (.rt .non)
def sIf (c : MT) (a b : MS) : MS := fun env => bnd (c env) fun x => match x with
  | true => a env
  | false => b env
def sSet (i : Nat) (a : ME) : MS := fun env => bnd (a env) fun t => ret (.nx (setN env i (some t)))
def sPar (i j : Nat) (a b : ME) : MS := fun env => bnd (a env) fun x => bnd (b env) fun y => ret (.nx (setN (setN env i (some x)) j (some y)))
def sPar3 (i j k : Nat) (a b c : ME) : MS := fun env => bnd (a env) fun x => bnd (b env) fun y => bnd (c env) fun z => ret (.nx (setN (setN (setN env i (some x)) j (some y)) k (some z)))
def sAug (i : Nat) (f : T → T → M T) (a : ME) : MS := fun env => match nth env i with
  | some (some x) => bnd (a env) fun y => bnd (f x y) fun z => ret (.nx (setN env i (some z)))
  | _ => stuck
section
variable {X : Cx} {tb : Tb} {E : XK} {a b c e : Expr} {ma mb mc : ME} {nc : MT} {pos pos' : Pos} {st : Stmt} {sts rest : List Stmt} {sa sb : MS}
theorem qss_nil : QSs X tb E [] sNx := PSs.imp pss_nil fun D σ H ⟨W, env, S, R, q⟩ => r_nx (D := D) R.sto q (R.env)
theorem qss_cons (h1 : QS X tb E st sa) (h2 : QSs X tb E rest sb) : QSs X tb E (st :: rest) (sSeq sa sb) := by
  refine PSs.imp (pss_cons h1 h2) fun D σ H ⟨W, env, S, R, q⟩ => ?_
  refine ⟨W, env, S, R, Ans.imp (Ans.bind (R := FlR (pm X tb)) R.sto q) fun x H1 ⟨W1, S1, f, x1, r1, rx, q1⟩ => ?_⟩
  cases rx with
  | nx he => exact ⟨W1, _, S1, ⟨r1, he⟩, q1⟩
  | rt h => exact r_rt (D := D) r1 q1 (h)
  | bk h => exact r_bk (D := D) r1 q1 (h)
  | ct h => exact r_ct (D := D) r1 q1 (h)
theorem qss_one (h : QS X tb E st sa) : QSs X tb E [st] sa := pss_one h
theorem qs_no : QS X tb E st sNo := PS.imp ps_never fun D σ H ⟨W, env, S, R, q⟩ => q
theorem qss_no : QSs X tb E sts sNo := PSs.imp pss_never fun D σ H ⟨W, env, S, R, q⟩ => q
theorem qs_pass : QS X tb E (.Pass pos) sNx := PS.imp ps_pass fun D σ H ⟨W, env, S, R, q⟩ => r_nx (D := D) R.sto q (R.env)
theorem qs_brk : QS X tb E (.Break pos) sBk := PS.imp ps_break fun D σ H ⟨W, env, S, R, q⟩ => r_bk (D := D) R.sto q (R.env)
theorem qs_cnt : QS X tb E (.Continue pos) sCt := PS.imp ps_continue fun D σ H ⟨W, env, S, R, q⟩ => r_ct (D := D) R.sto q (R.env)
theorem qs_expr (h : QE X tb (cw E) e ma) (hs : swapsWith e none pos.line X.env = pure false := by rfl) : QS X tb E (.Expr e pos) (sExpr ma) := by
  refine PS.imp (ps_expr h hs) fun D σ H ⟨W, env, S, R, q⟩ => ?_
  refine ⟨W, env, S, R, Ans.imp (Ans.bind (R := Rep (pm X tb)) R.sto q) fun x H1 ⟨W1, S1, t, x1, r1, rx, q1⟩ => ?_⟩
  exact r_nx (D := D) r1 q1 ((R.env.mono R.sto x1))
theorem qs_ret (h : QE X tb (cw E) e ma) : QS X tb E (.Return (some e) pos) (sRet ma) := by
  refine PS.imp (ps_ret h) fun D σ H ⟨W, env, S, R, q⟩ => ?_
  refine ⟨W, env, S, R, Ans.imp (Ans.bind (R := Rep (pm X tb)) R.sto q) fun x H1 ⟨W1, S1, t, x1, r1, rx, q1⟩ => ?_⟩
  exact r_rt (D := D) r1 q1 (rx)
theorem qs_retN : QS X tb E (.Return none pos) sRetN := PS.imp ps_retN fun D σ H ⟨W, env, S, R, q⟩ => r_rt (D := D) R.sto q (.non)
theorem qs_if {xs ys : List Stmt} (hc : QT X tb (cw E) c nc) (ha : QSs X tb E xs sa) (hb : QSs X tb E ys sb) : QS X tb E (.If c xs ys pos) (sIf nc sa sb) := by
  refine PS.imp (ps_if hc ha hb) fun D σ H ⟨W, env, S, R, q⟩ => ?_
  refine ⟨W, env, S, R, Ans.imp (Ans.bind (R := BoolR) R.sto q) fun x H1 ⟨W1, S1, t, x1, r1, rx, q1⟩ => ?_⟩
  cases rx
  cases x with
  | true => rw [if_pos rfl]; exact ⟨W1, env, S1, R.later r1 x1, q1⟩
  | false => rw [if_neg Bool.false_ne_true]; exact ⟨W1, env, S1, R.later r1 x1, q1⟩
theorem set_reading {te : TE} {i : Nat} (he : ∀ σ H Q, tE (pm X tb) (cw E) ma σ H Q → te σ H Q) (D : Ends) (σ : St) (H : Hp) (h : tS (pm X tb) E (sSet i ma) D σ H) : tAsg te (gName i) D σ H := by
  obtain ⟨W, env, S, R, q⟩ := h
  refine he σ H _ ⟨W, env, S, R, Ans.imp (Ans.bind (R := Rep (pm X tb)) R.sto q) fun x H1 ⟨W1, S1, t, x1, r1, rx, q1⟩ => ?_⟩
  exact r_nx (D := D) r1 q1 (((R.env.mono R.sto x1).set i rx))
theorem qs_set {i : Nat} {x : Str} (hN : X.N.Nodup) (hi : X.N[i]? = some x) (hx : Loc X.env.scope x) (he : QE X tb (cw E) e ma) (hs : swapsWith e (some (.Name x pos')) pos.line X.env = pure false := by rfl)
    (hf : X.fn x = true ∨ X.env.scope.names.lookup x = some .local := by first | exact .inl rfl | exact .inr rfl | assumption) : QS X tb E (.Assign [.Name x pos'] e pos) (sSet i ma) :=
  PS.imp (ps_set hN hi hx he hs hf) fun D σ H h => set_reading (fun _ _ _ z => z) D σ H h
theorem qs_par {i j : Nat} {x y : Str} {px py pt : Pos} {kt k2 pt2} (hc : X.calm = true) (hN : X.N.Nodup) (hi : X.N[i]? = some x) (hj : X.N[j]? = some y) (hij : i ≠ j) (hx : X.env.scope.names.lookup x = some .local) (hy : X.env.scope.names.lookup y = some .local)
    (ha : QE X tb (cw E) a ma) (hb : QE X tb (cw E) b mb) (h : ∀ {ta : TA}, PA X [a, b] ta → PS X (.Assign [.Tuple [.Name x px, .Name y py] kt pt] (.Tuple [a, b] k2 pt2) pos) (tPar i j ta))
    (hs : starEach [a, b] X.env = (false, eval a X.env) :: starEach [b] X.env := by rfl) (hs2 : starEach [b] X.env = (false, eval b X.env) :: starEach [] X.env := by rfl) :
    QS X tb E (.Assign [.Tuple [.Name x px, .Name y py] kt pt] (.Tuple [a, b] k2 pt2) pos) (sPar i j ma mb) := by
  refine PS.imp (h (pa_cons ha (pa_cons hb pa_nil hs2) hs)) fun D σ H ⟨W, env, S, R, q⟩ => ?_
  refine ⟨W, env, S, R, Ans.imp (Ans.bind (R := Rep (pm X tb)) R.sto q) fun x H1 ⟨W1, S1, t, x1, r1, rx, q1⟩ => ?_⟩
  refine ⟨W1, env, S1, R.later r1 x1, Ans.imp (Ans.bind (R := Rep (pm X tb)) r1 q1) fun y H2 ⟨W2, S2, u, x2, r2, ry, q2⟩ => ?_⟩
  exact ⟨x, y, rfl, r_nx (D := D) r2 q2 (((((R.env.mono R.sto x1).mono r1 x2).set i (rx.mono r1 x2)).set j ry))⟩
theorem qs_aug {op : Operator} {f : T → T → M T} {i : Nat} {x : Str} (hN : X.N.Nodup) (hi : X.N[i]? = some x) (hx : Loc X.env.scope x) (ho : OpR X (inplaceOp op) (rP (pm X tb) f)) (hn : NoX2 f) (he : QE X tb (cw E) e ma)
    (hf : X.fn x = true ∨ X.env.scope.names.lookup x = some .local := by first | exact .inl rfl | exact .inr rfl | assumption)
    (h : ∀ {te : TE} {ti : TIp}, PE X e te → PIp X op ti → PS X (.AugAssign (.Name x pos') op e pos) (tAug i te ti)) : QS X tb E (.AugAssign (.Name x pos') op e pos) (sAug i f ma) := by
  refine PS.imp (h he (ti := rP (pm X tb) f) fun pins s σ H x y v u Q I rx ry q => ho pins s σ H x y v u Q I rx ry q) fun D σ H ⟨W, env, S, R, q⟩ => ?_
  unfold sAug at q
  rw [nth_eq] at q
  cases ee : env[i]? with
  | none => rw [ee] at q; exact q.elim
  | some o =>
    cases o with
    | none => rw [ee] at q; exact q.elim
    | some t =>
      rw [ee] at q
      obtain ⟨v, h1, r⟩ := R.env.get i t ee
      refine ⟨v, h1, W, env, S, R, Ans.imp (Ans.bind (R := Rep (pm X tb)) R.sto q) fun y H1 ⟨W1, S1, u, x1, r1, ry, q1⟩ => ?_⟩
      refine ⟨W1, S1, t, u, r1, r.mono R.sto x1, ry, Ans.imp (Ans.nox (Ans.bind (R := Rep (pm X tb)) r1 q1) (hn t u S1)) fun z H2 ⟨W2, S2, w, x2, r2, rz, q2⟩ => ?_⟩
      exact r_nx (D := D) r2 q2 ((((R.env.mono R.sto x1).mono r1 x2).set i rz))
end

/-! ### targets -/
inductive Tg where
  | nm (i : Nat) | tp (is : List Nat)
def setE : List Nat → List T → EnvT → Option EnvT
  | [], [], env => some env
  | i :: is, t :: ts, env => setE is ts (setN env i (some t))
  | _, _, _ => none
def setT : Tg → T → EnvT → Option EnvT
  | .nm i, t, env => some (setN env i (some t))
  | .tp is, t, env => match t with
    | .tup ts => setE is ts env
    | _ => none
def Tg.ix : Tg → List Nat
  | .nm i => [i]
  | .tp is => is
def gNames : List Nat → TGs
  | [] => gNil
  | i :: is => gCons (gName i) (gNames is)
def gOf (K : PySem.W.Frag) : Tg → TG
  | .nm i => gName i
  | .tp is => gTup K is.length (gNames is)
section
variable {p : Pm} {W W' : Wd} {S S' : Sto} {H H' : Hp}
theorem setE_run : ∀ {is : List Nat} {ts : List T} {vs : List V} {env env' : EnvT} {σ : St}, Reps p W H ts vs → EnvR p W H env σ → setE is ts env = some env' →
    ∃ σ', EnvR p W H env' σ' ∧ ts.length = is.length ∧ (∀ Q, Q σ' H → gNames is vs σ H Q) ∧ (∀ j, j ∉ is → σ'[j]? = σ[j]?) ∧ σ'.length = σ.length
  | [], [], _, env, env', σ, .nil, he, h => by
    cases h
    exact ⟨σ, he, rfl, fun Q q => ⟨rfl, q⟩, fun _ _ => rfl, rfl⟩
  | [], _ :: _, _, _, _, _, _, _, h => by cases h
  | _ :: _, [], _, _, _, _, _, _, h => by cases h
  | i :: is, t :: ts, _, env, env', σ, .cons (v := v) r rr, he, h => by
    obtain ⟨σ', a, l, b, c, d⟩ := setE_run rr (he.set i r) h
    refine ⟨σ', a, by simp [l], fun Q q => ⟨v, _, rfl, b Q q⟩, fun j hj => ?_, by rw [d, List.length_set]⟩
    simp only [List.mem_cons, not_or] at hj
    rw [c j hj.2, List.getElem?_set_ne (Ne.symm hj.1)]
theorem setT_run {tg : Tg} {t : T} {v : V} {env env' : EnvT} {σ : St} (r : Rep p W H t v) (he : EnvR p W H env σ) (h : setT tg t env = some env') :
    ∃ σ', EnvR p W H env' σ' ∧ (∀ Q, Q σ' H → gOf p.K tg v σ H Q) ∧ (∀ j, j ∉ tg.ix → σ'[j]? = σ[j]?) ∧ σ'.length = σ.length := by
  cases tg with
  | nm i =>
    cases h
    refine ⟨_, he.set i r, fun Q q => q, fun j hj => ?_, List.length_set⟩
    simp only [Tg.ix, List.mem_singleton] at hj
    rw [List.getElem?_set_ne (Ne.symm hj)]
  | tp is =>
    cases r with
    | tup f rr =>
      obtain ⟨σ', a, l, b, c, d⟩ := setE_run rr he h
      exact ⟨σ', a, fun Q q => ⟨_, _, rfl, f.sq, by rw [← rr.length]; exact l, b Q q⟩, c, d⟩
    | _ => cases h
end
def sAsgT (tg : Tg) (a : ME) : MS := fun env => bnd (a env) fun t => match setT tg t env with
  | some env' => ret (.nx env')
  | none => stuck
theorem qs_asgT {X : Cx} {tb : Tb} {E : XK} {tg : Tg} {target e : Expr} {ma : ME} {pos : Pos} (he : QE X tb (cw E) e ma) (hg : PG X target (gOf X.K tg)) (hs : swapsWithSole [target] e pos.line X.env = pure false := by rfl) (hw : swappedStores [target] e X.env = pure none := by rfl)
    (h1 : (assignEach [target] X.env).map (·.2) = [assign target X.env] := by rfl) : QS X tb E (.Assign [target] e pos) (sAsgT tg ma) := by
  refine PS.imp (ps_asg he hg hs hw h1) fun D σ H ⟨W, env, S, R, q⟩ => ?_
  refine ⟨W, env, S, R, Ans.imp (Ans.bind (R := Rep (pm X tb)) R.sto q) fun x H1 ⟨W1, S1, t, x1, r1, rx, q1⟩ => ?_⟩
  cases e : setT tg t env with
  | none => rw [e] at q1; exact q1.elim
  | some env' =>
    rw [e] at q1
    obtain ⟨σ', he', hq, _⟩ := setT_run rx (R.env.mono R.sto x1) e
    exact hq _ (r_nx (D := D) r1 q1 (he'))

/-! ### while -/
def whF (k : MS) : Fl → M Fl
  | .nx e => k e
  | .ct e => k e
  | .rt t => ret (.rt t)
  | .bk e => ret (.nx e)
def sWhile (c : MT) (b : MS) : Nat → MS
  | 0 => fun _ => stuck
  | n + 1 => fun env => bnd (c env) fun x => match x with
    | true => bnd (b env) (whF (sWhile c b n))
    | false => ret (.nx env)
theorem qs_while {X : Cx} {tb : Tb} {E : XK} {c : Expr} {nc : MT} {body : List Stmt} {sb : MS} {pos : Pos} (n : Nat) (hp : PassesOwn (model X.prog X.w) X.A X.env X.xe) (hc : QT X tb (cw E) c nc) (hb : QSs X tb E body sb) : QS X tb E (.While c body [] pos) (sWhile nc sb n) := by
  refine PS.imp (ps_while hp hc hb) fun D σ H h => ?_
  refine ⟨fun m σ H => tS (pm X tb) E (sWhile nc sb m) D σ H, ⟨n, h⟩, ?_⟩
  rintro m σ H ⟨W, env, S, R, q⟩
  cases m with
  | zero => exact q.elim
  | succ m =>
    refine ⟨W, env, S, R, Ans.imp (Ans.bind (R := BoolR) R.sto q) fun x H1 ⟨W1, S1, t, x1, r1, rx, q1⟩ => ?_⟩
    cases rx
    cases x with
    | false => rw [if_neg Bool.false_ne_true]; exact r_nx (D := D) r1 q1 ((R.env.mono R.sto x1))
    | true =>
      rw [if_pos rfl]
      refine ⟨fun σ' H' => tS (pm X tb) E (sWhile nc sb m) D σ' H', fun σ' H' q => ⟨m, Nat.lt_succ_self _, q⟩, ?_⟩
      refine ⟨W1, env, S1, R.later r1 x1, Ans.imp (Ans.bind (R := FlR (pm X tb)) r1 q1) fun f H2 ⟨W2, S2, u, x2, r2, rf, q2⟩ => ?_⟩
      cases rf with
      | nx he => exact ⟨W2, _, S2, ⟨r2, he⟩, q2⟩
      | ct he => exact ⟨W2, _, S2, ⟨r2, he⟩, q2⟩
      | rt h => exact r_rt (D := D) r2 q2 (h)
      | bk h => exact r_nx (D := D) r2 q2 (h)

/-! ### what is walked -/
/-- J yields these values, while what stays stays -/
structure Wk (p : Pm) (W : Wd) (H : Hp) (ts : List T) (J : It) : Prop where
  go : ∀ W' S H', Lat W H W' H' → RelS p W' H' S → ∀ i t, ts[i]? = some t → J.go i H' ∧ ∀ x H'', J.yld i H' x H'' → ∃ W'', Ext W' S H' W'' S H'' ∧ RelS p W'' H'' S ∧ Rep p W'' H'' t x
  stop : ∀ W' S H', Lat W H W' H' → RelS p W' H' S → J.stop ts.length H'
abbrev MI := EnvT → M (List T)
abbrev tI (p : Pm) (Wx : WX) (m : MI) : TI := fun σ H R => tG p Wx (Wk p) m σ H R
abbrev QI (X : Cx) (tb : Tb) (Wx : WX) (tg it : Expr) (m : MI) : Prop := PI X tg it (tI (pm X tb) Wx m)
theorem PI.imp {X : Cx} {tg e : Expr} {t t' : TI} (h : PI X tg e t) (i : ∀ σ H Q, t' σ H Q → t σ H Q) : PI X tg e t' := ⟨fun pins s σ H Q I q => h.run pins s σ H Q I (i σ H Q q)⟩
def forL (tg : Tg) (b : MS) : List T → MS
  | [] => fun env => ret (.nx env)
  | t :: ts => fun env => match setT tg t env with
    | some env' => bnd (b env') (whF (forL tg b ts))
    | none => stuck
def sFor (mi : MI) (tg : Tg) (b : MS) : MS := fun env => bnd (mi env) fun ts => forL tg b ts env
theorem drop_nil {ts : List T} {i : Nat} (h : ts.length ≤ i) : ts.drop i = [] := List.drop_eq_nil_of_le h
theorem drop_cons {ts : List T} {i : Nat} {t : T} (h : ts[i]? = some t) : ts.drop i = t :: ts.drop (i + 1) := by
  obtain ⟨hl, e⟩ := List.getElem?_eq_some_iff.mp h
  rw [List.drop_eq_getElem_cons hl, e]
theorem qs_for {X : Cx} {tb : Tb} {E : XK} {target iter : Expr} {mi : MI} {tg : Tg} {body : List Stmt} {sb : MS} {pos : Pos} (hp : PassesOwn (model X.prog X.w) X.A X.env X.xe) (hc : X.calm = true) (hi : QI X tb (cw E) target iter mi) (hg : PG X target (gOf X.K tg)) (hb : QSs X tb E body sb)
    (hs : ∀ x, foldedSetIterable iter X.env x = pure x := by intro _; rfl) : QS X tb E (.For target iter body [] pos) (sFor mi tg sb) := by
  refine PS.imp (ps_for hp hc hi hg hb hs) fun D σ H ⟨W, env, S, R, q⟩ => ?_
  refine ⟨W, env, S, R, Ans.imp (Ans.bind (R := Wk (pm X tb)) R.sto q) fun J H1 ⟨W1, S1, ts, x1, r1, wk, q1⟩ => ?_⟩
  refine ⟨fun i m σ H => m = ts.length - i ∧ i ≤ ts.length ∧ ∃ W' env' S', Lat W1 H1 W' H ∧ Rl (pm X tb) W' env' S' σ H ∧ Ans (pm X tb) E (FlR (pm X tb)) W' S' H (QD D) (forL tg sb (ts.drop i) env' S'),
    ⟨_, rfl, Nat.zero_le _, W1, env, S1, Lat.refl, R.later r1 x1, by rw [List.drop_zero]; exact q1⟩, ?_⟩
  rintro i m σ2 H2 ⟨rfl, hi, W2, env2, S2, l2, R2, q2⟩
  by_cases hlt : i < ts.length
  · obtain ⟨t, ht⟩ : ∃ t, ts[i]? = some t := ⟨_, List.getElem?_eq_getElem hlt⟩
    obtain ⟨hgo, hy⟩ := wk.go W2 S2 H2 l2 R2.sto i t ht
    refine .inr ⟨hgo, fun σ' H' => ∃ W' env' S', Lat W1 H1 W' H' ∧ Rl (pm X tb) W' env' S' σ' H' ∧ Ans (pm X tb) E (FlR (pm X tb)) W' S' H' (QD D) (forL tg sb (ts.drop (i + 1)) env' S'),
      fun σ' H' q => ⟨ts.length - (i + 1), by omega, rfl, hlt, q⟩, fun x H3 y => ?_⟩
    obtain ⟨W3, x3, r3, rt⟩ := hy x H3 y
    rw [drop_cons ht] at q2
    unfold forL at q2
    cases ee : setT tg t env2 with
    | none => rw [ee] at q2; exact q2.elim
    | some env3 =>
      rw [ee] at q2
      obtain ⟨σ3, he3, hq3, _⟩ := setT_run rt (R2.env.mono R2.sto x3) ee
      refine hq3 _ ?_
      have q3 : Ans (pm X tb) E (FlR (pm X tb)) W3 S2 H3 (QD D) (bnd (sb env3) (whF (forL tg sb (ts.drop (i + 1)))) S2) := Ans.later R2.sto r3 x3 q2
      refine ⟨W3, env3, S2, ⟨r3, he3⟩, Ans.imp (Ans.bind (R := FlR (pm X tb)) r3 q3) fun f H4 ⟨W4, S4, u, x4, r4, rf, q4⟩ => ?_⟩
      have l4 : Lat W1 H1 W4 H4 := (l2.trans (x3.lat R2.sto)).trans (x4.lat r3)
      cases rf with
      | nx he => exact ⟨W4, _, S4, l4, ⟨r4, he⟩, q4⟩
      | ct he => exact ⟨W4, _, S4, l4, ⟨r4, he⟩, q4⟩
      | rt h => exact r_rt (D := D) r4 q4 (h)
      | bk h => exact r_nx (D := D) r4 q4 (h)
  · have e : i = ts.length := by omega
    subst e
    refine .inl ⟨wk.stop W2 S2 H2 l2 R2.sto, ?_⟩
    rw [drop_nil (Nat.le_refl _)] at q2
    exact r_nx (D := D) R2.sto q2 (R2.env)
end Pi
set_option Elab.async false
set_option linter.all false
set_option autoImplicit false
set_option maxRecDepth 100000
set_option maxHeartbeats 1000000
/-! Pi8: what is walked; comprehensions. -/
namespace Pi
open PySem PySem.Spec PyProof.Rows L2

/-! ### sources -/
def rowsOf : T → Option (List T)
  | .tup xs => some xs
  | .lst xs => some xs
  | .scr xs => some xs
  | _ => none
def iSeq (a : ME) : MI := fun env => bnd (a env) fun t => ofO (rowsOf t)
def i62 : Int := 4611686018427387904
def inR (i : Int) : Bool := iLe (Int.neg i62) i && iLt i i62
theorem inR_ok {i : Int} (h : inR i = true) : -(2 ^ 62) ≤ i ∧ i < 2 ^ 62 := by
  unfold inR at h
  rw [Bool.and_eq_true, iLe_iff, iLt_iff, decide_eq_true_iff, decide_eq_true_iff] at h
  unfold i62 at h
  have e1 : Int.neg 4611686018427387904 = -4611686018427387904 := rfl
  rw [e1] at h
  omega
/-- lo, lo + 1, .. -/
def upFrom : Int → Nat → List T
  | _, 0 => []
  | lo, n + 1 => .int lo :: upFrom (Int.add lo 1) n
theorem upFrom_len : ∀ (n : Nat) (lo : Int), (upFrom lo n).length = n
  | 0, _ => rfl
  | n + 1, lo => congrArg Nat.succ (upFrom_len n _)
theorem upFrom_get : ∀ (n : Nat) (lo : Int) (i : Nat) (t : T), (upFrom lo n)[i]? = some t → i < n ∧ t = .int (lo + (i : Int))
  | 0, _, _, _, h => by simp [upFrom] at h
  | n + 1, lo, 0, t, h => by
    simp only [upFrom, List.getElem?_cons_zero, Option.some.injEq] at h
    exact ⟨Nat.succ_pos _, by rw [← h]; simp⟩
  | n + 1, lo, i + 1, t, h => by
    simp only [upFrom, List.getElem?_cons_succ] at h
    obtain ⟨h1, h2⟩ := upFrom_get n _ i t h
    refine ⟨by omega, ?_⟩
    rw [h2]
    have : Int.add lo 1 + (i : Int) = lo + ((i + 1 : Nat) : Int) := by
      show lo + 1 + (i : Int) = _
      omega
    rw [this]
def iRg1 (a : ME) : MI := fun env => bnd (a env) fun t => bnd (asI t) fun j => match inR j with
  | true => ret (upFrom 0 j.toNat)
  | false => stuck
def iRg2 (a b : ME) : MI := fun env => bnd (a env) fun t => bnd (b env) fun u => bnd (asI t) fun i => bnd (asI u) fun j => match inR i && inR j with
  | true => ret (upFrom i (Int.sub j i).toNat)
  | false => stuck
section
variable {X : Cx} {tb : Tb} {Wx : WX} {tg a b : Expr} {ma mb : ME} {pos p : Pos}
/-- a list or a tuple, whichever -/
def iSeqV (K : PySem.W.Frag) (te : TE) : TI := fun σ H R => te σ H fun x H1 => ∃ d, x = .ref d ∧ (((∃ xs, SqL K H1 d xs) ∧ R (Itl K d) H1) ∨ ((∃ xs, SqT K H1 d xs) ∧ R (Itt K d) H1))
theorem pi_seqV {te : TE} (h : PE X a te) : PI X tg a (iSeqV X.K te) := by
  refine ⟨fun pins s σ H R I hw => thn (h.run pins s σ H _ I hw) fun v s1 ⟨x, H1, I1, rx, d, ex, q⟩ => ?_⟩
  subst ex
  cases rx
  rcases q with ⟨⟨xs, sq⟩, q⟩ | ⟨⟨xs, sq⟩, q⟩
  · obtain ⟨its, rv, pl, _⟩ := I1.list sq
    exact wpAny_pyIter_list pl.isList ⟨s1.heap.objs.size, [s1.heap.objs.size], _, _, H1, rfl, I1.kept (t' := s1.toks) fun b o e => Heap.get?_push_of_some _ e, turn_list d _, ⟨_, Heap.get?_push_size _ rfl, rfl, rfl⟩,
      fun b hb => by rw [List.mem_singleton.mp hb]; exact I1.fpOk (Nat.le_refl _) (I1.hok.fresh (Nat.le_refl _)), q⟩
  · obtain ⟨its, rv, pl, _⟩ := I1.tuple sq
    exact wpAny_pyIter_tuple (show s1.heap.IsTuple d its.toArray from pl) ⟨s1.heap.objs.size, [s1.heap.objs.size], _, _, H1, rfl, I1.kept (t' := s1.toks) fun b o e => Heap.get?_push_of_some _ e, turn_tuple d _, ⟨_, Heap.get?_push_size _ rfl, rfl, rfl⟩,
      fun b hb => by rw [List.mem_singleton.mp hb]; exact I1.fpOk (Nat.le_refl _) (I1.hok.fresh (Nat.le_refl _)), q⟩
end

section
variable {p : Pm} {W : Wd} {H : Hp}
theorem wk_lst {d : Addr} {xs : List T} {vs : List V} (f : FzL p W H d vs) (r : Reps p W H xs vs) : Wk p W H xs (Itl p.K d) where
  go := fun W' S H' l R i t ht => by
    have f' : SqL p.K H' d vs := (f.mono l.fz l.keep).sq
    obtain ⟨v, hv, rv⟩ := (r.lat l).get ht
    refine ⟨⟨vs, v, f', hv⟩, fun x H'' y => ?_⟩
    obtain ⟨e, y⟩ := y
    subst e
    have e2 := y vs f'
    rw [hv] at e2
    cases e2
    exact ⟨W', Ext.refl, R, rv⟩
  stop := fun W' S H' l R => ⟨vs, (f.mono l.fz l.keep).sq, by rw [r.length]; exact Nat.le_refl _⟩
theorem wk_tup {d : Addr} {xs : List T} {vs : List V} (f : FzT p W H d vs) (r : Reps p W H xs vs) : Wk p W H xs (Itt p.K d) where
  go := fun W' S H' l R i t ht => by
    have f' : SqT p.K H' d vs := (f.mono l.fz l.keep).sq
    obtain ⟨v, hv, rv⟩ := (r.lat l).get ht
    refine ⟨⟨vs, v, f', hv⟩, fun x H'' y => ?_⟩
    obtain ⟨e, y⟩ := y
    subst e
    have e2 := y vs f'
    rw [hv] at e2
    cases e2
    exact ⟨W', Ext.refl, R, rv⟩
  stop := fun W' S H' l R => ⟨vs, (f.mono l.fz l.keep).sq, by rw [r.length]; exact Nat.le_refl _⟩
theorem wk_rng (lo : Int) (n : Nat) : Wk p W H (upFrom lo n) (Itr lo n) where
  go := fun W' S H' l R i t ht => by
    obtain ⟨h1, h2⟩ := upFrom_get n lo i t ht
    refine ⟨h1, fun x H'' y => ?_⟩
    obtain ⟨e, y⟩ := y
    subst e
    subst y
    rw [h2]
    exact ⟨W', Ext.refl, R, .int _⟩
  stop := fun W' S H' l R => by
    show n ≤ (upFrom lo n).length
    rw [upFrom_len]; exact Nat.le_refl _
end
section
variable {X : Cx} {tb : Tb} {Wx : WX} {tg a b : Expr} {ma mb : ME} {pos p : Pos}
theorem qi_seq (h : QE X tb Wx a ma) : QI X tb Wx tg a (iSeq ma) := by
  refine PI.imp (pi_seqV h) fun σ H Q ⟨W, env, S, R, q⟩ => ?_
  refine ⟨W, env, S, R, Ans.imp (Ans.bind (R := Rep (pm X tb)) R.sto q) fun x H1 ⟨W1, S1, t, x1, r1, rx, q1⟩ => ?_⟩
  cases rx with
  | tup f rr => exact ⟨_, rfl, .inr ⟨⟨_, f.sq⟩, q1.ret_ r1 (wk_tup f rr)⟩⟩
  | lst f e rr => exact ⟨_, rfl, .inl ⟨⟨_, SqL.of e⟩, q1.ret_ r1 (wk_lst (.inl ⟨f, .inl e⟩) rr)⟩⟩
  | scr f rr => exact ⟨_, rfl, .inl ⟨⟨_, f.sq⟩, q1.ret_ r1 (wk_lst f rr)⟩⟩
  | _ => exact q1.elim
theorem asI_bind {γ δ : Type} {p : Pm} {E : XK} {R2 : Wd → Hp → γ → δ → Prop} {W : Wd} {S : Sto} {H : Hp} {Q : δ → Hp → Prop} {t : T} {x : V} {f : Int → M γ} (rx : Rep p W H t x) (h : Ans p E R2 W S H Q (bnd (asI t) f S)) : ∃ i, t = .int i ∧ x = .int i ∧ Ans p E R2 W S H Q (f i S) := by
  cases rx with
  | int i => exact ⟨i, rfl, rfl, h⟩
  | _ => exact h.elim
theorem qi_rg1 (hg : Gl X "range") (hm : X.mg "range" = none) (h : QE X tb Wx a ma) (hs : starEach [a] X.env = [(false, eval a X.env)] := by rfl) : QI X tb Wx tg (.Call (.Name "range" p) [a] [] pos) (iRg1 ma) := by
  refine PI.imp (pi_range1 hg hm (pa_cons h pa_nil hs) hs) fun σ H Q ⟨W, env, S, R, q⟩ => ?_
  refine ⟨W, env, S, R, Ans.imp (Ans.bind (R := Rep (pm X tb)) R.sto q) fun x H1 ⟨W1, S1, t, x1, r1, rx, q1⟩ => ?_⟩
  obtain ⟨i, rfl, rfl, q2⟩ := asI_bind rx q1
  cases e : inR i with
  | false => rw [e] at q2; exact q2.elim
  | true =>
    rw [e] at q2
    obtain ⟨h1, h2⟩ := inR_ok e
    exact ⟨i, rfl, h1, h2, q2.ret_ r1 (wk_rng 0 i.toNat)⟩
theorem qi_rg2 (hg : Gl X "range") (hm : X.mg "range" = none) (ha : QE X tb Wx a ma) (hb : QE X tb Wx b mb) (hs : starEach [a, b] X.env = [(false, eval a X.env), (false, eval b X.env)] := by rfl) (hs2 : starEach [b] X.env = [(false, eval b X.env)] := by rfl) :
    QI X tb Wx tg (.Call (.Name "range" p) [a, b] [] pos) (iRg2 ma mb) := by
  refine PI.imp (pi_range2 hg hm (pa_cons ha (pa_cons hb pa_nil hs2) (by rw [hs, hs2])) hs hs2) fun σ H Q ⟨W, env, S, R, q⟩ => ?_
  refine ⟨W, env, S, R, Ans.imp (Ans.bind (R := Rep (pm X tb)) R.sto q) fun x H1 ⟨W1, S1, t, x1, r1, rx, q1⟩ => ?_⟩
  refine ⟨W1, env, S1, R.later r1 x1, Ans.imp (Ans.bind (R := Rep (pm X tb)) r1 q1) fun y H2 ⟨W2, S2, u, x2, r2, ry, q2⟩ => ?_⟩
  obtain ⟨i, rfl, rfl, q3⟩ := asI_bind (rx.mono r1 x2) q2
  obtain ⟨j, rfl, rfl, q4⟩ := asI_bind ry q3
  cases e : inR i && inR j with
  | false => rw [e] at q4; exact q4.elim
  | true =>
    rw [e] at q4
    rw [Bool.and_eq_true] at e
    obtain ⟨h1, h2⟩ := inR_ok e.1
    obtain ⟨h3, h4⟩ := inR_ok e.2
    exact ⟨i, j, rfl, ⟨h1, h2, h3, h4⟩, q4.ret_ r2 (wk_rng i (j - i).toNat)⟩
end

/-! ### comprehensions: the new list stands at D, known to no one else -/
structure Off (p : Pm) (W : Wd) (S : Sto) (H : Hp) (D : Addr) (acc : List V) : Prop where
  rel : RelS p W H S
  dat : H D = some (.lst acc)
  nk : ∀ n, n ∈ S.keys → W.mu n ≠ D
  nf : ¬ W.fz D
def hide (D : Addr) (H : Hp) : Hp := fun b => if b = D then none else H b
theorem hide_ne {D b : Addr} {H : Hp} (h : b ≠ D) : hide D H b = H b := if_neg h
theorem hide_at {D : Addr} {H : Hp} : hide D H D = none := if_pos rfl
theorem hide_upd {D : Addr} {H : Hp} {o : HO} : hide D (upd H D o) = hide D H := by
  funext b
  by_cases h : b = D
  · rw [h, hide_at, hide_at]
  · rw [hide_ne h, hide_ne h, upd_ne h]
theorem hide_none {D : Addr} {H : Hp} (h : H D = none) : hide D H = H := by
  funext b
  by_cases hb : b = D
  · rw [hb, hide_at, h]
  · rw [hide_ne hb]
section
variable {p : Pm} {W W' : Wd} {S S' : Sto} {H H' : Hp} {D : Addr} {acc : List V}
theorem RelS.off (R : RelS p W H S) (nk : ∀ n, n ∈ S.keys → W.mu n ≠ D) (nf : ¬ W.fz D) (hb : ∀ b, b ≠ D → H' b = H b) : RelS p W H' S where
  nxt := R.nxt
  ob := fun n u hn => by
    obtain ⟨r, f, l⟩ := R.ob n u hn
    refine ⟨RepO.mono' (W := W) (W' := W) (fun _ _ => rfl) (Nat.le_refl _) (fun _ z => z) (fun b u hf e => ?_) (fun u e => ?_) r, f, l⟩
    · rw [hb b fun z => nf (by rw [← z]; exact hf)]; exact e
    · rw [hb _ (nk n (List.mem_map.mpr ⟨_, hn, rfl⟩))]; exact e
  nd := R.nd
  inj := R.inj
  fzs := fun b z => by
    rw [hb b fun q => nf (by rw [← q]; exact z)]
    exact R.fzs b z
theorem Off.hid (o : Off p W S H D acc) : RelS p W (hide D H) S := o.rel.off o.nk o.nf fun b h => hide_ne h
theorem Off.step (o : Off p W S H D acc) (x : Ext W S H W' S' H') (R : RelS p W' H' S') : Off p W' S' H' D acc where
  rel := R
  dat := x.keep D _ o.dat o.nk
  nk := fun n hn e => by
    rcases x.own n hn with h | h
    · rw [x.mu n (o.rel.key h).1] at e
      exact o.nk n h e
    · rw [e, o.dat] at h; cases h
  nf := fun z => by
    rcases x.fzn D z with h | h | ⟨n, h, e⟩
    · exact o.nf h
    · rw [o.dat] at h; cases h
    · exact o.nk n h e
theorem Off.put (o : Off p W S H D acc) (acc' : List V) : Off p W S (upd H D (.lst acc')) D acc' := ⟨o.rel.off o.nk o.nf fun b h => upd_ne h, upd_same, o.nk, o.nf⟩
theorem Ext.hide (x : Ext W S H W' S' H') : Ext W S (hide D H) W' S' (hide D H') where
  mu := x.mu
  nxt := x.nxt
  fz := x.fz
  keep := fun a o h hn => by
    by_cases e : a = D
    · rw [e, hide_at] at h; cases h
    · rw [hide_ne e] at h ⊢; exact x.keep a o h hn
  there := fun a h => by
    by_cases e : a = D
    · rw [e, hide_at] at h; exact absurd rfl h
    · rw [hide_ne e] at h ⊢; exact x.there a h
  own := fun n h => by
    rcases x.own n h with z | z
    · exact .inl z
    · refine .inr ?_
      by_cases e : W'.mu n = D
      · rw [e, hide_at]
      · rw [hide_ne e]; exact z
  fzn := fun a h => by
    rcases x.fzn a h with z | z | z
    · exact .inl z
    · refine .inr (.inl ?_)
      by_cases e : a = D
      · rw [e, hide_at]
      · rw [hide_ne e]; exact z
    · exact .inr (.inr z)
theorem Lat.hid (nf : ¬ W.fz D) : Lat W (hide D H) W H := ⟨fun _ _ => rfl, Nat.le_refl _, fun _ z => z, fun a o hf h => by
  by_cases e : a = D
  · rw [e] at hf; exact absurd hf nf
  · rwa [hide_ne e] at h⟩
theorem Lat.put (nf : ¬ W.fz D) {o : HO} : Lat W H W (upd H D o) := ⟨fun _ _ => rfl, Nat.le_refl _, fun _ z => z, fun a o hf h => by
  rw [upd_ne fun e => nf (by rw [← e]; exact hf)]
  exact h⟩
theorem EnvR.lat {env : EnvT} {σ : St} (l : Lat W H W' H') (h : EnvR p W H env σ) : EnvR p W' H' env σ := ⟨h.len, fun i t e => let ⟨v, a, b⟩ := h.get i t e; ⟨v, a, b.lat l⟩⟩
theorem Off.of (R : RelS p W (Pi.hide D H) S) (h : H D = some (.lst acc)) : Off p W S H D acc := by
  have nk : ∀ n, n ∈ S.keys → W.mu n ≠ D := fun n hn e => (R.key hn).2.2 (by rw [e, hide_at])
  have nf : ¬ W.fz D := fun z => R.fzs D z hide_at
  exact ⟨R.off nk nf fun b hb => (hide_ne hb).symm, h, nk, nf⟩
theorem Lat.unhide (l : Lat W H W' (Pi.hide D H')) : Lat W H W' H' := ⟨l.mu, l.nxt, l.fz, fun a o hf h => by
  have e := l.keep a o hf h
  by_cases ha : a = D
  · rw [ha, hide_at] at e; cases e
  · rwa [hide_ne ha] at e⟩
/-- what raises is no meaning here -/
def noX {α : Type} (m : M α) : M α := fun S => match m S with
  | .ok a S' => .ok a S'
  | _ => .no
theorem Ans.unmask {α β : Type} {E E' : XK} {R : Wd → Hp → α → β → Prop} {m : M α} {Q : β → Hp → Prop} (h : Ans p E R W S H Q (noX m S)) : Ans p E' R W S H Q (m S) := by
  unfold noX at h
  cases e : m S with
  | ok t S1 => rw [e] at h; exact h
  | exc c fs S1 => rw [e] at h; exact h.elim
  | no => rw [e] at h; exact h.elim
/-- a step, seen with D and without it -/
theorem Ans.off {α β γ δ : Type} {E E' : XK} {R : Wd → Hp → α → β → Prop} {R2 : Wd → Hp → γ → δ → Prop} {m : M α} {f : α → M γ} {Q : δ → Hp → Prop} (o : Off p W S H D acc) (h : Ans p E R2 W S (Pi.hide D H) Q (bnd (noX m) f S)) :
    Ans p E' R W S H (fun v H1 => ∃ W1 S1 t, Ext W S H W1 S1 H1 ∧ Off p W1 S1 H1 D acc ∧ R W1 H1 t v ∧ Ans p E R2 W1 S1 (Pi.hide D H1) Q (f t S1)) (m S) := by
  unfold bnd noX at h
  cases e : m S with
  | ok t S1 =>
    rw [e] at h
    intro W1 H1 v x r q
    have o1 := o.step x r
    exact ⟨W1, S1, t, x, o1, q, Ans.later o.hid o1.hid x.hide h⟩
  | exc c fs S1 => rw [e] at h; exact h.elim
  | no => rw [e] at h; exact h.elim
end

def wipeE (env : EnvT) : List Nat → EnvT
  | [] => env
  | v :: vs => setN (wipeE env vs) v none
theorem EnvR.wipe {p : Pm} {W : Wd} {H : Hp} {env : EnvT} {σ : St} (h : EnvR p W H env σ) : ∀ vs : List Nat, EnvR p W H (wipeE env vs) (wipe σ vs)
  | [] => h
  | v :: vs => by
    have ih := EnvR.wipe h vs
    unfold wipeE L2.wipe
    rw [setN_eq]
    refine ⟨by simp [ih.len], fun j u e => ?_⟩
    by_cases hj : v = j
    · subst hj
      by_cases hl : v < (wipeE env vs).length
      · rw [List.getElem?_set_self hl] at e; cases e
      · rw [List.getElem?_eq_none (by simpa using hl)] at e; cases e
    · rw [List.getElem?_set_ne hj] at e ⊢
      exact ih.get j u e
theorem wipe_get (σ : St) (j : Nat) : ∀ vs : List Nat, (wipe σ vs)[j]? = if j ∈ vs ∧ j < σ.length then some none else σ[j]?
  | [] => by simp [wipe]
  | v :: vs => by
    unfold wipe
    by_cases hj : v = j
    · subst hj
      by_cases hl : v < σ.length
      · rw [List.getElem?_set_self (by rw [wipe_length]; exact hl), if_pos ⟨List.mem_cons_self, hl⟩]
      · rw [List.getElem?_eq_none (by rw [List.length_set, wipe_length]; omega), if_neg (fun z => hl z.2), List.getElem?_eq_none (by omega)]
    · rw [List.getElem?_set_ne hj, wipe_get σ j vs]
      have : (j ∈ v :: vs) = (j ∈ vs) := by
        rw [List.mem_cons, eq_iff_iff]
        exact ⟨fun z => z.elim (fun q => absurd q.symm hj) id, .inr⟩
      simp only [this]
/-- what differs from a wiped state in wiped places alone -/
theorem wipe_back {σ σ' : St} {vs ix : List Nat} (hl : σ'.length = (wipe σ vs).length) (h : ∀ j, j ∉ ix → σ'[j]? = (wipe σ vs)[j]?) (hi : ∀ i, i ∈ ix → i ∈ vs) : wipe σ' vs = wipe σ vs := by
  refine List.ext_getElem? fun j => ?_
  rw [wipe_length] at hl
  rw [wipe_get, hl, wipe_get]
  by_cases hj : j ∈ vs ∧ j < σ.length
  · rw [if_pos hj, if_pos hj]
  · rw [if_neg hj, if_neg hj]
    have h2 := h j
    rw [wipe_get, if_neg hj] at h2
    by_cases hx : j ∈ ix
    · have : ¬ j < σ.length := fun z => hj ⟨hi j hx, z⟩
      rw [List.getElem?_eq_none (by omega), List.getElem?_eq_none (by omega)]
    · exact h2 hx

def lcF (tg : Tg) (c : MT) (e : ME) (env : EnvT) : List T → M (List T)
  | [] => ret []
  | t :: ts => match setT tg t env with
    | some env1 => bnd (noX (c env1)) fun b => match b with
      | true => bnd (noX (e env1)) fun y => bnd (lcF tg c e env ts) fun ys => ret (y :: ys)
      | false => lcF tg c e env ts
    | none => stuck
def cYes : MT := fun _ => ret true
def eLc (mi : MI) (vs : List Nat) (tg : Tg) (c : MT) (e : ME) : ME := fun env => bnd (mi env) fun ts => match few ts with
  | true => bnd (lcF tg c e (wipeE env vs) ts) fun ys => ret (.lst ys)
  | false => stuck
/-- few enough for two loops -/
def few2 (xs : List T) : Bool := Nat.ble xs.length 4096
def lcF2 (tg : Tg) (c : MT) (mi : MI) (vs1 : List Nat) (tg1 : Tg) (c1 : MT) (e : ME) (env : EnvT) : List T → M (List T)
  | [] => ret []
  | t :: ts => match setT tg t env with
    | some env1 => bnd (noX (c env1)) fun b => match b with
      | true => bnd (noX (mi env1)) fun us => match few2 us with
        | true => bnd (lcF tg1 c1 e (wipeE env1 vs1) us) fun ys => bnd (lcF2 tg c mi vs1 tg1 c1 e env ts) fun zs => ret (ys ++ zs)
        | false => stuck
      | false => lcF2 tg c mi vs1 tg1 c1 e env ts
    | none => stuck
def eLc2 (mi : MI) (vs : List Nat) (tg : Tg) (c : MT) (mi1 : MI) (vs1 : List Nat) (tg1 : Tg) (c1 : MT) (e : ME) : ME := fun env => bnd (mi env) fun ts => match few2 ts with
  | true => bnd (lcF2 tg c mi1 vs1 tg1 c1 e (wipeE env vs) ts) fun ys => ret (.lst ys)
  | false => stuck
abbrev QTs (X : Cx) (tb : Tb) (E : XK) (ifs : List Expr) (m : MT) : Prop := PTs X ifs (tT (pm X tb) (cw E) m)
theorem PTs.imp {X : Cx} {e : List Expr} {t t' : TT} (h : PTs X e t) (i : ∀ σ H Q, t' σ H Q → t σ H Q) : PTs X e t' := ⟨fun pins s σ H Q I q => h.run pins s σ H Q I (i σ H Q q)⟩
theorem qts_nil {X : Cx} {tb : Tb} {E : XK} : QTs X tb E [] cYes := PTs.imp pts_nil fun σ H Q ⟨W, env, S, R, q⟩ => q.ret_ R.sto rfl
theorem qts_one {X : Cx} {tb : Tb} {E : XK} {c : Expr} {m : MT} (h : QT X tb (cw E) c m) : QTs X tb E [c] m := pts_one h

section
variable {p : Pm} {E : XK} {W1 : Wd} {H1 : Hp} {ts : List T} {J : It} {D : Addr}
theorem Lat.hid' {W : Wd} {H : Hp} (nf : ¬ W.fz D) : Lat W H W (Pi.hide D H) := ⟨fun _ _ => rfl, Nat.le_refl _, fun _ z => z, fun a ob hf h => by
  rw [hide_ne fun z => nf (by rw [← z]; exact hf)]
  exact h⟩
/-- one loop of a comprehension, told once for both forms -/
theorem lc_walk {tg : Tg} {c : MT} {e : ME} {env : EnvT} {σw : St} {vs : List Nat} {C : List V → Hp → Prop} {Done : Hp → Prop} {W0 : Wd} {S0 : Sto} {H0 : Hp} {acc0 : List V} (wk : Wk p W1 H1 ts J) (hw : wipe σw vs = σw) (he : EnvR p W1 H1 env σw) (hi : ∀ i, i ∈ tg.ix → i ∈ vs)
    (o0 : Off p W0 S0 H0 D acc0) (l0 : Lat W1 H1 W0 H0) (hcap : acc0.length + ts.length ≤ sizeLine) (q0 : Ans p E (Reps p) W0 S0 (Pi.hide D H0) (fun ys G => C (acc0 ++ ys) G) (lcF tg c e env ts S0))
    (hd : ∀ zs W S H, Off p W S H D zs → Lat W1 H1 W H → zs.length ≤ acc0.length + ts.length → C zs (Pi.hide D H) → Done H) :
    ∃ I : Nat → Nat → Hp → Prop, (∃ m, I 0 m H0) ∧ ∀ i m H, I i m H → (J.stop i H ∧ Done H) ∨ (J.go i H ∧ ∃ Nx : Hp → Prop, (∀ H', Nx H' → ∃ m', m' < m ∧ I (i + 1) m' H') ∧ ∀ x H', J.yld i H x H' → gOf p.K tg x σw H' fun σ2 H2 => wipe σ2 vs = σw ∧
      tT p (cw E0) c σ2 H2 fun b H3 => if b = true then tE p (cw E0) e σ2 H3 fun y H4 => ∃ acc, H4 D = some (.lst acc) ∧ acc.length < sizeLine ∧ Nx (upd H4 D (.lst (acc ++ [y]))) else Nx H3) := by
  let Inv' : Nat → Hp → Prop := fun i H => ∃ W S acc, Off p W S H D acc ∧ Lat W1 H1 W H ∧ acc.length ≤ acc0.length + i ∧ Ans p E (Reps p) W S (Pi.hide D H) (fun ys G => C (acc ++ ys) G) (lcF tg c e env (ts.drop i) S)
  refine ⟨fun i m H => m = ts.length - i ∧ i ≤ ts.length ∧ Inv' i H, ⟨_, rfl, Nat.zero_le _, W0, S0, acc0, o0, l0, Nat.le_refl _, by rw [List.drop_zero]; exact q0⟩, ?_⟩
  rintro i m H ⟨rfl, hil, W, S, acc, o, l, hz, q⟩
  by_cases hlt : i < ts.length
  · obtain ⟨t, ht⟩ : ∃ t, ts[i]? = some t := ⟨_, List.getElem?_eq_getElem hlt⟩
    obtain ⟨hgo, hy⟩ := wk.go W S H l o.rel i t ht
    refine .inr ⟨hgo, Inv' (i + 1), fun H' q => ⟨ts.length - (i + 1), by omega, rfl, hlt, q⟩, fun x H2 y => ?_⟩
    obtain ⟨W2, x2, r2, rt⟩ := hy x H2 y
    have o2 := o.step x2 r2
    have l2 : Lat W1 H1 W2 H2 := l.trans (x2.lat o.rel)
    have q2 := Ans.later o.hid o2.hid x2.hide q
    rw [drop_cons ht] at q2
    unfold lcF at q2
    cases ee : setT tg t env with
    | none => rw [ee] at q2; exact q2.elim
    | some env2 =>
      rw [ee] at q2
      obtain ⟨σ2, he2, hq2, h3, h4⟩ := setT_run rt (he.lat l2) ee
      refine hq2 _ ⟨?_, ?_⟩
      · rw [← hw] at h3 h4 ⊢
        exact wipe_back h4 h3 hi
      refine ⟨W2, env2, S, ⟨r2, he2⟩, Ans.imp (Ans.off (R := BoolR) o2 q2) fun b H3 ⟨W3, S3, b', x3, o3, rb, q3⟩ => ?_⟩
      have l3 : Lat W1 H1 W3 H3 := l2.trans (x3.lat r2)
      cases rb
      cases b with
      | false =>
        rw [if_neg Bool.false_ne_true]
        exact ⟨W3, S3, acc, o3, l3, by omega, q3⟩
      | true =>
        rw [if_pos rfl]
        refine ⟨W3, env2, S3, ⟨o3.rel, he2.lat (x3.lat r2)⟩, Ans.imp (Ans.off (R := Rep p) o3 q3) fun v H4 ⟨W4, S4, u, x4, o4, ru, q4⟩ => ?_⟩
        have q5 := Ans.bind (R := Reps p) o4.hid q4
        refine ⟨acc, o4.dat, by omega, W4, S4, acc ++ [v], o4.put _, (l3.trans (x4.lat o3.rel)).trans (Lat.put o4.nf), by rw [List.length_append, List.length_singleton]; omega, ?_⟩
        rw [hide_upd]
        refine Ans.imp q5 fun ys G ⟨W5, S5, us, x5, r5, rus, q6⟩ => ?_
        have ru5 : Rep p W5 G u v := (Rep.lat (Lat.hid' o4.nf) ru).mono o4.hid x5
        have q7 := q6.ret_ r5 (.cons ru5 rus)
        rw [List.append_assoc, List.singleton_append]
        exact q7
  · have e1 : i = ts.length := by omega
    subst e1
    refine .inl ⟨wk.stop W S H l o.rel, ?_⟩
    rw [drop_nil (Nat.le_refl _)] at q
    have q2 := q.ret_ o.hid .nil
    rw [List.append_nil] at q2
    exact hd acc W S H o l hz q2
end
section
variable {X : Cx} {tb : Tb} {Wx : WX} {elt target iter target1 iter1 : Expr} {ifs ifs1 : List Expr} {scope : Scope} {own : List (Str × Nat)} {mi mi1 : MI} {tg tg1 : Tg} {c c1 : MT} {e : ME} {pos : Pos}
/-- the reading of a comprehension -/
theorem lc_reading {wi : TI} (hwi : ∀ σ H R, tI (pm X tb) Wx mi σ H R → wi σ H R) (vs : List Nat) (hi : ∀ i, i ∈ tg.ix → i ∈ vs) (σ : St) (H : Hp) (Q : VK) (h : tE (pm X tb) Wx (eLc mi vs tg c e) σ H Q) :
    tLc wi (gOf X.K tg) (tT (pm X tb) (cw E0) c) (tE (pm X tb) (cw E0) e) vs σ H Q := by
  obtain ⟨W, env, S, R, q⟩ := h
  refine hwi σ H _ ⟨W, env, S, R, Ans.imp (Ans.bind (R := Wk (pm X tb)) R.sto q) fun J H1 ⟨W1, S1, ts, x1, r1, wk, q1⟩ => ?_⟩
  intro D hD
  cases hf : few ts with
  | false => rw [hf] at q1; exact q1.elim
  | true =>
    rw [hf] at q1
    have cap := few_le hf
    have e0 : Pi.hide D (upd H1 D (.lst [])) = H1 := by rw [hide_upd, hide_none hD]
    have o0 : Off (pm X tb) W1 S1 (upd H1 D (.lst [])) D [] := Off.of (by rw [e0]; exact r1) upd_same
    have l0 : Lat W1 H1 W1 (upd H1 D (.lst [])) := (Ext.grow (S := S1) (upd_keep hD)).lat r1
    refine lc_walk (E := fun c d H' => Wx c d σ H') (W1 := W1) (H1 := H1) (env := wipeE env vs) (C := fun zs G => ∃ W2 S2 us, RelS (pm X tb) W2 G S2 ∧ Reps (pm X tb) W2 G us zs ∧ Ans (pm X tb) (fun c d H' => Wx c d σ H') (Rep (pm X tb)) W2 S2 G Q (ret (.lst us) S2)) wk ?_ ((R.env.mono R.sto x1).wipe vs) hi o0 l0 (by simpa using cap) ?_ ?_
    · exact wipe_back (ix := []) (vs := vs) (σ := σ) rfl (fun _ _ => rfl) (fun _ z => nomatch z)
    · rw [e0]
      exact Ans.imp (Ans.bind (R := Reps (pm X tb)) r1 q1) fun ys G ⟨W2, S2, us, x2, r2, rus, q2⟩ => ⟨W2, S2, us, r2, rus, q2⟩
    · rintro zs W3 S3 H3 o3 l3 _ ⟨W2, S2, us, r2, rus, q2⟩
      have hh : H3 = upd (Pi.hide D H3) D (.lst zs) := by
        funext b
        by_cases hb : b = D
        · rw [hb, upd_same, o3.dat]
        · rw [upd_ne hb, hide_ne hb]
      rw [hh]
      exact q2 (W2.put D) _ _ (Ext.new hide_at) (r2.new hide_at) (.lst (.inr rfl) upd_same (rus.mono r2 (Ext.new hide_at)))
theorem q_lc (hc : X.calm = true) (hN : X.N.Nodup) (hi : QI X tb Wx target iter mi) (ok : BlkOk X.N X.env.scope scope own) (hx : ∀ i, i ∈ tg.ix → i ∈ own.map (·.2))
    (hg : ∀ (s : Shared) (H : Hp) (C : Addr) (cl : List (Str × Addr)) (fp : List Addr), PG (X.blk s H scope (compEnvC scope cl C X.env) fp) target (gOf X.K tg))
    (ht : ∀ (s : Shared) (H : Hp) (C : Addr) (cl : List (Str × Addr)) (fp : List Addr), QTs (X.blk s H scope (compEnvC scope cl C X.env) fp) tb E0 ifs c)
    (he : ∀ (s : Shared) (H : Hp) (C : Addr) (cl : List (Str × Addr)) (fp : List Addr), QE (X.blk s H scope (compEnvC scope cl C X.env) fp) tb (cw E0) elt e)
    (hs : ∀ x, foldedSetIterable iter X.env x = pure x := by intro _; rfl) : QE X tb Wx (.ListComp elt [⟨target, iter, ifs, 0⟩] scope pos) (eLc mi (own.map (·.2)) tg c e) :=
  PE.imp (pe_lc hc hN hi ok hg ht he hs) fun σ H Q h => lc_reading (fun _ _ _ z => z) _ hx σ H Q h
theorem qs_setLc {E : XK} {i : Nat} {y : Str} {py spos : Pos} (hc : X.calm = true) (hN : X.N.Nodup) (hy : X.N[i]? = some y) (hyl : X.env.scope.names.lookup y = some .local)
    (hsw : swapsWith (.ListComp elt [⟨target, iter, ifs, 0⟩] scope pos) (some (.Name y py)) spos.line X.env = pure true) (hi : QI X tb (cw E) target iter mi) (ok : BlkOk X.N X.env.scope scope own) (hx : ∀ i, i ∈ tg.ix → i ∈ own.map (·.2))
    (hg : ∀ (s : Shared) (H : Hp) (C : Addr) (cl : List (Str × Addr)) (fp : List Addr), PG (X.blk s H scope (compEnvC scope cl C X.env) fp) target (gOf X.K tg))
    (ht : ∀ (s : Shared) (H : Hp) (C : Addr) (cl : List (Str × Addr)) (fp : List Addr), QTs (X.blk s H scope (compEnvC scope cl C X.env) fp) tb E0 ifs c)
    (he : ∀ (s : Shared) (H : Hp) (C : Addr) (cl : List (Str × Addr)) (fp : List Addr), QE (X.blk s H scope (compEnvC scope cl C X.env) fp) tb (cw E0) elt e)
    (hs : ∀ x, foldedSetIterable iter X.env x = pure x := by intro _; rfl) : QS X tb E (.Assign [.Name y py] (.ListComp elt [⟨target, iter, ifs, 0⟩] scope pos) spos) (sSet i (eLc mi (own.map (·.2)) tg c e)) :=
  PS.imp (ps_setLc hc hN hy hyl hsw hi ok hg ht he hs) fun D σ H h => set_reading (fun σ H Q z => lc_reading (fun _ _ _ z => z) _ hx σ H Q z) D σ H h
/-- two loops -/
theorem few2_le {xs : List T} (h : few2 xs = true) : xs.length ≤ 4096 := Nat.le_of_ble_eq_true h
theorem wipe_wipe (σ : St) (vs : List Nat) : wipe (wipe σ vs) vs = wipe σ vs := wipe_back (ix := []) (vs := vs) (σ := σ) rfl (fun _ _ => rfl) (fun _ z => nomatch z)
theorem lc2_reading {wi : TI} (hwi : ∀ σ H R, tI (pm X tb) Wx mi σ H R → wi σ H R) (vs vs1 : List Nat) (hi : ∀ i, i ∈ tg.ix → i ∈ vs) (hi1 : ∀ i, i ∈ tg1.ix → i ∈ vs1) (σ : St) (H : Hp) (Q : VK) (h : tE (pm X tb) Wx (eLc2 mi vs tg c mi1 vs1 tg1 c1 e) σ H Q) :
    tLc2 wi (gOf X.K tg) (tT (pm X tb) (cw E0) c) (tI (pm X tb) (cw E0) mi1) (gOf X.K tg1) (tT (pm X tb) (cw E0) c1) (tE (pm X tb) (cw E0) e) vs vs1 σ H Q := by
  obtain ⟨W, env, S, R, q⟩ := h
  refine hwi σ H _ ⟨W, env, S, R, Ans.imp (Ans.bind (R := Wk (pm X tb)) R.sto q) fun J H1 ⟨W1, S1, ts, x1, r1, wk, q1⟩ => ?_⟩
  intro D hD
  cases hf : few2 ts with
  | false => rw [hf] at q1; exact q1.elim
  | true =>
    rw [hf] at q1
    have cap := few2_le hf
    have e0 : Pi.hide D (upd H1 D (.lst [])) = H1 := by rw [hide_upd, hide_none hD]
    have o0 : Off (pm X tb) W1 S1 (upd H1 D (.lst [])) D [] := Off.of (by rw [e0]; exact r1) upd_same
    have l0 : Lat W1 H1 W1 (upd H1 D (.lst [])) := (Ext.grow (S := S1) (upd_keep hD)).lat r1
    let E : XK := fun c d H' => Wx c d σ H'
    let C : List V → Hp → Prop := fun zs G => ∃ W2 S2 us, RelS (pm X tb) W2 G S2 ∧ Reps (pm X tb) W2 G us zs ∧ Ans (pm X tb) E (Rep (pm X tb)) W2 S2 G Q (ret (.lst us) S2)
    let Inv' : Nat → Hp → Prop := fun i H => ∃ W S acc, Off (pm X tb) W S H D acc ∧ Lat W1 H1 W H ∧ acc.length ≤ i * 4096 ∧ Ans (pm X tb) E (Reps (pm X tb)) W S (Pi.hide D H) (fun ys G => C (acc ++ ys) G) (lcF2 tg c mi1 vs1 tg1 c1 e (wipeE env vs) (ts.drop i) S)
    have he : EnvR (pm X tb) W1 H1 (wipeE env vs) (wipe σ vs) := (R.env.mono R.sto x1).wipe vs
    refine ⟨fun i m H => m = ts.length - i ∧ i ≤ ts.length ∧ Inv' i H, ⟨_, rfl, Nat.zero_le _, W1, S1, [], o0, l0, Nat.zero_le _, ?_⟩, ?_⟩
    · rw [e0, List.drop_zero]
      exact Ans.imp (Ans.bind (R := Reps (pm X tb)) r1 q1) fun ys G ⟨W2, S2, us, x2, r2, rus, q2⟩ => ⟨W2, S2, us, r2, rus, q2⟩
    rintro i m H ⟨rfl, hil, W, S, acc, o, l, hz, q⟩
    by_cases hlt : i < ts.length
    · obtain ⟨t, ht⟩ : ∃ t, ts[i]? = some t := ⟨_, List.getElem?_eq_getElem hlt⟩
      obtain ⟨hgo, hy⟩ := wk.go W S H l o.rel i t ht
      refine .inr ⟨hgo, Inv' (i + 1), fun H' q => ⟨ts.length - (i + 1), by omega, rfl, hlt, q⟩, fun x H2 y => ?_⟩
      obtain ⟨W2, x2, r2, rt⟩ := hy x H2 y
      have o2 := o.step x2 r2
      have l2 : Lat W1 H1 W2 H2 := l.trans (x2.lat o.rel)
      have q2 := Ans.later o.hid o2.hid x2.hide q
      rw [drop_cons ht] at q2
      unfold lcF2 at q2
      cases ee : setT tg t (wipeE env vs) with
      | none => rw [ee] at q2; exact q2.elim
      | some env2 =>
        rw [ee] at q2
        obtain ⟨σ2, he2, hq2, h3, h4⟩ := setT_run rt (he.lat l2) ee
        refine hq2 _ ⟨wipe_back h4 h3 hi, ?_⟩
        refine ⟨W2, env2, S, ⟨r2, he2⟩, Ans.imp (Ans.off (R := BoolR) o2 q2) fun b H3 ⟨W3, S3, b', x3, o3, rb, q3⟩ => ?_⟩
        have l3 : Lat W1 H1 W3 H3 := l2.trans (x3.lat r2)
        cases rb
        cases b with
        | false =>
          rw [if_neg Bool.false_ne_true]
          exact ⟨W3, S3, acc, o3, l3, by omega, q3⟩
        | true =>
          rw [if_pos rfl]
          refine ⟨W3, env2, S3, ⟨o3.rel, he2.lat (x3.lat r2)⟩, Ans.imp (Ans.off (R := Wk (pm X tb)) o3 q3) fun J1 H4 ⟨W4, S4, us, x4, o4, wk1, q4⟩ => ?_⟩
          have l4 : Lat W1 H1 W4 H4 := l3.trans (x4.lat o3.rel)
          cases hf1 : few2 us with
          | false => rw [hf1] at q4; exact q4.elim
          | true =>
            rw [hf1] at q4
            have cap1 := few2_le hf1
            have hline : sizeLine = 16777216 := sizeLine_eq
            refine lc_walk (E := E) (W1 := W4) (H1 := H4) (env := wipeE env2 vs1) (acc0 := acc) (Done := Inv' (i + 1)) (vs := vs1)
              (C := fun zs G => ∃ W2 S2, RelS (pm X tb) W2 G S2 ∧ Lat W4 (Pi.hide D H4) W2 G ∧ Ans (pm X tb) E (Reps (pm X tb)) W2 S2 G (fun ys G => C (zs ++ ys) G) (lcF2 tg c mi1 vs1 tg1 c1 e (wipeE env vs) (ts.drop (i + 1)) S2)) wk1 (wipe_wipe _ _)
              (((he2.lat (x3.lat r2)).lat (x4.lat o3.rel)).wipe vs1) hi1 o4 Lat.refl (by omega) ?_ ?_
            · refine Ans.imp (Ans.bind (R := Reps (pm X tb)) o4.hid q4) fun ys G ⟨W5, S5, vs5, x5, r5, rvs, q5⟩ => ⟨W5, S5, r5, x5.lat o4.hid, ?_⟩
              refine Ans.imp (Ans.bind (R := Reps (pm X tb)) r5 q5) fun zs G2 ⟨W6, S6, vs6, x6, r6, rzs, q6⟩ => ?_
              rw [List.append_assoc]
              have q7 := Ans.ret_ (v := ys ++ zs) r6 q6 ((rvs.mono r5 x6).append rzs)
              exact q7
            · rintro zs W7 S7 H7 o7 l7 hz7 ⟨W8, S8, r8, l8, q8⟩
              have l9 : Lat W1 H1 W8 H7 := (l4.trans (Lat.hid' o4.nf)).trans l8.unhide
              refine ⟨W8, S8, zs, Off.of r8 o7.dat, l9, ?_, q8⟩
              have := Nat.add_mul i 1 4096
              omega
    · have e1 : i = ts.length := by omega
      subst e1
      refine .inl ⟨wk.stop W S H l o.rel, ?_⟩
      rw [drop_nil (Nat.le_refl _)] at q
      obtain ⟨W2, S2, us, r2, rus, q2⟩ := q.ret_ o.hid .nil
      rw [List.append_nil] at rus
      have hh : H = upd (Pi.hide D H) D (.lst acc) := by
        funext b
        by_cases hb : b = D
        · rw [hb, upd_same, o.dat]
        · rw [upd_ne hb, hide_ne hb]
      rw [hh]
      exact q2 (W2.put D) _ _ (Ext.new hide_at) (r2.new hide_at) (.lst (.inr rfl) upd_same (rus.mono r2 (Ext.new hide_at)))
theorem q_lc2 {vs1 : List Nat} (hc : X.calm = true) (hN : X.N.Nodup) (hi : QI X tb Wx target iter mi) (ok : BlkOk X.N X.env.scope scope own) (hv : ∀ i ∈ vs1, i ∈ own.map (·.2)) (hx : ∀ i, i ∈ tg.ix → i ∈ own.map (·.2)) (hx1 : ∀ i, i ∈ tg1.ix → i ∈ vs1)
    (hg : ∀ (s : Shared) (H : Hp) (C : Addr) (cl : List (Str × Addr)) (fp : List Addr), PG (X.blk s H scope (compEnvC scope cl C X.env) fp) target (gOf X.K tg))
    (ht : ∀ (s : Shared) (H : Hp) (C : Addr) (cl : List (Str × Addr)) (fp : List Addr), QTs (X.blk s H scope (compEnvC scope cl C X.env) fp) tb E0 ifs c)
    (hi1 : ∀ (s : Shared) (H : Hp) (C : Addr) (cl : List (Str × Addr)) (fp : List Addr), QI (X.blk s H scope (compEnvC scope cl C X.env) fp) tb (cw E0) target1 iter1 mi1)
    (hg1 : ∀ (s : Shared) (H : Hp) (C : Addr) (cl : List (Str × Addr)) (fp : List Addr), PG (X.blk s H scope (compEnvC scope cl C X.env) fp) target1 (gOf X.K tg1))
    (ht1 : ∀ (s : Shared) (H : Hp) (C : Addr) (cl : List (Str × Addr)) (fp : List Addr), QTs (X.blk s H scope (compEnvC scope cl C X.env) fp) tb E0 ifs1 c1)
    (he : ∀ (s : Shared) (H : Hp) (C : Addr) (cl : List (Str × Addr)) (fp : List Addr), QE (X.blk s H scope (compEnvC scope cl C X.env) fp) tb (cw E0) elt e)
    (hs : ∀ x, foldedSetIterable iter X.env x = pure x := by intro _; rfl) (hs1 : ∀ env x, foldedSetIterable iter1 env x = pure x := by intro _ _; rfl) :
    QE X tb Wx (.ListComp elt [⟨target, iter, ifs, 0⟩, ⟨target1, iter1, ifs1, 0⟩] scope pos) (eLc2 mi (own.map (·.2)) tg c mi1 vs1 tg1 c1 e) :=
  PE.imp (pe_lc2 hc hN hi ok hv hg ht hi1 hg1 ht1 he hs hs1) fun σ H Q h => lc2_reading (fun _ _ _ z => z) _ _ hx hx1 σ H Q h
theorem qs_setLc2 {E : XK} {i : Nat} {y : Str} {py spos : Pos} {vs1 : List Nat} (hc : X.calm = true) (hN : X.N.Nodup) (hy : X.N[i]? = some y) (hyl : X.env.scope.names.lookup y = some .local)
    (hsw : swapsWith (.ListComp elt [⟨target, iter, ifs, 0⟩, ⟨target1, iter1, ifs1, 0⟩] scope pos) (some (.Name y py)) spos.line X.env = pure true) (hi : QI X tb (cw E) target iter mi) (ok : BlkOk X.N X.env.scope scope own) (hv : ∀ i ∈ vs1, i ∈ own.map (·.2)) (hx : ∀ i, i ∈ tg.ix → i ∈ own.map (·.2)) (hx1 : ∀ i, i ∈ tg1.ix → i ∈ vs1)
    (hg : ∀ (s : Shared) (H : Hp) (C : Addr) (cl : List (Str × Addr)) (fp : List Addr), PG (X.blk s H scope (compEnvC scope cl C X.env) fp) target (gOf X.K tg))
    (ht : ∀ (s : Shared) (H : Hp) (C : Addr) (cl : List (Str × Addr)) (fp : List Addr), QTs (X.blk s H scope (compEnvC scope cl C X.env) fp) tb E0 ifs c)
    (hi1 : ∀ (s : Shared) (H : Hp) (C : Addr) (cl : List (Str × Addr)) (fp : List Addr), QI (X.blk s H scope (compEnvC scope cl C X.env) fp) tb (cw E0) target1 iter1 mi1)
    (hg1 : ∀ (s : Shared) (H : Hp) (C : Addr) (cl : List (Str × Addr)) (fp : List Addr), PG (X.blk s H scope (compEnvC scope cl C X.env) fp) target1 (gOf X.K tg1))
    (ht1 : ∀ (s : Shared) (H : Hp) (C : Addr) (cl : List (Str × Addr)) (fp : List Addr), QTs (X.blk s H scope (compEnvC scope cl C X.env) fp) tb E0 ifs1 c1)
    (he : ∀ (s : Shared) (H : Hp) (C : Addr) (cl : List (Str × Addr)) (fp : List Addr), QE (X.blk s H scope (compEnvC scope cl C X.env) fp) tb (cw E0) elt e)
    (hs : ∀ x, foldedSetIterable iter X.env x = pure x := by intro _; rfl) (hs1 : ∀ env x, foldedSetIterable iter1 env x = pure x := by intro _ _; rfl) :
    QS X tb E (.Assign [.Name y py] (.ListComp elt [⟨target, iter, ifs, 0⟩, ⟨target1, iter1, ifs1, 0⟩] scope pos) spos) (sSet i (eLc2 mi (own.map (·.2)) tg c mi1 vs1 tg1 c1 e)) :=
  PS.imp (ps_setLc2 hc hN hy hyl hsw hi ok hv hg ht hi1 hg1 ht1 he hs hs1) fun D σ H h => set_reading (fun σ H Q z => lc2_reading (fun _ _ _ z => z) _ _ hx hx1 σ H Q z) D σ H h
end
end Pi
set_option Elab.async false
set_option linter.all false
set_option autoImplicit false
set_option maxRecDepth 100000
set_option maxHeartbeats 1000000
/-! Pi9: built-in functions. -/
namespace Pi
open PySem PySem.Spec PyProof.Rows L2

/-- a call of one value -/
def rC1 (p : Pm) (f : T → M T) : List V → Hp → VK → Prop := fun xs H Q => ∃ x, xs = [x] ∧ ∃ W S t, RelS p W H S ∧ Rep p W H t x ∧ Ans p E0 (Rep p) W S H Q (f t S)
def rC2 (p : Pm) (f : T → T → M T) : List V → Hp → VK → Prop := fun xs H Q => ∃ x y, xs = [x, y] ∧ ∃ W S t u, RelS p W H S ∧ Rep p W H t x ∧ Rep p W H u y ∧ Ans p E0 (Rep p) W S H Q (f t u S)
theorem CallR.imp {X : Cx} {f : Value} {r r' : List V → Hp → VK → Prop} (h : CallR X f r) (i : ∀ xs H Q, r' xs H Q → r xs H Q) : CallR X f r' := fun pins s σ H xs us Q I rv q => h pins s σ H xs us Q I rv (i xs H Q q)
def eF1 (f : T → M T) (a : ME) : ME := fun env => bnd (a env) (noX1 f)
where noX1 (f : T → M T) : T → M T := fun t => noX (f t)
def eF2 (f : T → T → M T) (a b : ME) : ME := fun env => bnd (a env) fun x => bnd (b env) fun y => noX (f x y)
section
variable {X : Cx} {tb : Tb} {Wx : WX} {a b : Expr} {ma mb : ME} {pos p : Pos} {x : Str} {id : String}
theorem f1_reading {f : T → M T} {σ : St} {H : Hp} {Q : VK} (h : tE (pm X tb) Wx (eF1 f ma) σ H Q) : tCB (rC1 (pm X tb) f) (tCons (tE (pm X tb) Wx ma) tNil) σ H Q := by
  obtain ⟨W, env, S, R, q⟩ := h
  refine ⟨W, env, S, R, Ans.imp (Ans.bind (R := Rep (pm X tb)) R.sto q) fun v H1 ⟨W1, S1, t, x1, r1, rx, q1⟩ => ?_⟩
  exact ⟨v, rfl, W1, S1, t, r1, rx, Ans.unmask q1⟩
theorem f2_reading {f : T → T → M T} {σ : St} {H : Hp} {Q : VK} (h : tE (pm X tb) Wx (eF2 f ma mb) σ H Q) : tCB (rC2 (pm X tb) f) (tCons (tE (pm X tb) Wx ma) (tCons (tE (pm X tb) Wx mb) tNil)) σ H Q := by
  obtain ⟨W, env, S, R, q⟩ := h
  refine ⟨W, env, S, R, Ans.imp (Ans.bind (R := Rep (pm X tb)) R.sto q) fun v H1 ⟨W1, S1, t, x1, r1, rx, q1⟩ => ?_⟩
  refine ⟨W1, env, S1, R.later r1 x1, Ans.imp (Ans.bind (R := Rep (pm X tb)) r1 q1) fun y H2 ⟨W2, S2, u, x2, r2, ry, q2⟩ => ?_⟩
  exact ⟨v, y, rfl, W2, S2, t, u, r2, rx.mono r1 x2, ry, Ans.unmask q2⟩
theorem q_b1 {f : T → M T} (hc : CallR X (.builtin id) (rC1 (pm X tb) f)) (hg : Gl X x) (hm : X.mg x = none) (hv : bootBuiltins x = some (.builtin id)) (ha : QE X tb Wx a ma) (hn : x ≠ "__name__" := by decide) (hdb : (x == ("__debug__" : Str)) = false := by decide)
    (hs : starEach [a] X.env = (false, eval a X.env) :: starEach [] X.env := by rfl) : QE X tb Wx (.Call (.Name x p) [a] [] pos) (eF1 f ma) :=
  PE.imp (pe_callB hc hg hm hv (pa_cons ha pa_nil hs) hn hdb hs) fun σ H Q h => f1_reading h
theorem q_b2 {f : T → T → M T} (hc : CallR X (.builtin id) (rC2 (pm X tb) f)) (hg : Gl X x) (hm : X.mg x = none) (hv : bootBuiltins x = some (.builtin id)) (ha : QE X tb Wx a ma) (hb : QE X tb Wx b mb) (hn : x ≠ "__name__" := by decide) (hdb : (x == ("__debug__" : Str)) = false := by decide)
    (hs : starEach [a, b] X.env = (false, eval a X.env) :: starEach [b] X.env := by rfl) (hs2 : starEach [b] X.env = (false, eval b X.env) :: starEach [] X.env := by rfl) : QE X tb Wx (.Call (.Name x p) [a, b] [] pos) (eF2 f ma mb) :=
  PE.imp (pe_callB hc hg hm hv (pa_cons ha (pa_cons hb pa_nil hs2) hs) hn hdb hs (by rw [hs2]; rfl)) fun σ H Q h => f2_reading h
theorem q_t1 {f : T → M T} (hc : CallR X (.type id) (rC1 (pm X tb) f)) (hg : Gl X x) (hm : X.mg x = none) (hv : bootBuiltins x = some (.type id)) (ha : QE X tb Wx a ma) (hn : x ≠ "__name__" := by decide) (hdb : (x == ("__debug__" : Str)) = false := by decide)
    (hs : starEach [a] X.env = (false, eval a X.env) :: starEach [] X.env := by rfl) : QE X tb Wx (.Call (.Name x p) [a] [] pos) (eF1 f ma) :=
  PE.imp (pe_callTy hc hg hm hv (pa_cons ha pa_nil hs) hn hdb hs) fun σ H Q h => f1_reading h
end

/-! ### len, abs, int, min, max, all, any -/
def lenI {α : Type} (xs : List α) : T := .int (.ofNat xs.length)
def opLen (t : T) : M T := fun S => match deref S t with
  | .tup xs => .ok (lenI xs) S
  | .lst xs => .ok (lenI xs) S
  | .scr xs => .ok (lenI xs) S
  | .str x => match few x with
    | true => .ok (lenI x) S
    | false => .no
  | _ => .no
def iAbs : Int → Int
  | .ofNat n => .ofNat n
  | .negSucc n => .ofNat (n + 1)
def opAbs (t : T) : M T := fun S => match t with
  | .int i => .ok (.int (iAbs i)) S
  | _ => .no
def opInt (t : T) : M T := fun S => match t with
  | .int i => .ok (.int i) S
  | .bl b => .ok (.int (b2i b)) S
  | _ => .no
def opMin2 (t u : T) : M T := fun S => match t, u with
  | .int i, .int j => match iLt j i with
    | true => .ok (.int j) S
    | false => .ok (.int i) S
  | _, _ => .no
def opMax2 (t u : T) : M T := fun S => match t, u with
  | .int i, .int j => match iLt i j with
    | true => .ok (.int j) S
    | false => .ok (.int i) S
  | _, _ => .no
/-- bools alone -/
def bls : List T → Option (List Bool)
  | [] => some []
  | .bl b :: r => match bls r with
    | some bs => some (b :: bs)
    | none => none
  | _ => none
def numsOf : List T → Option (List Int)
  | [] => some []
  | .int b :: r => match numsOf r with
    | some bs => some (b :: bs)
    | none => none
  | _ => none
def allB : List Bool → Bool
  | [] => true
  | true :: r => allB r
  | false :: _ => false
def anyB : List Bool → Bool
  | [] => false
  | true :: _ => true
  | false :: r => anyB r
theorem allB_eq : ∀ bs : List Bool, allB bs = bs.all id
  | [] => rfl
  | true :: r => by simp [allB, allB_eq r]
  | false :: r => by simp [allB]
theorem anyB_eq : ∀ bs : List Bool, anyB bs = bs.any id
  | [] => rfl
  | true :: r => by simp [anyB]
  | false :: r => by simp [anyB, anyB_eq r]
def lstOf : T → Option (List T)
  | .lst xs => some xs
  | _ => none
def opAll (t : T) : M T := fun S => match lstOf (deref S t) with
  | some xs => match bls xs with
    | some bs => .ok (.bl (allB bs)) S
    | none => .no
  | none => .no
def opAny (t : T) : M T := fun S => match lstOf (deref S t) with
  | some xs => match bls xs with
    | some bs => .ok (.bl (anyB bs)) S
    | none => .no
  | none => .no
def maxL : Int → List Int → Int
  | m, [] => m
  | m, x :: r => match iLt m x with
    | true => maxL x r
    | false => maxL m r
def minL : Int → List Int → Int
  | m, [] => m
  | m, x :: r => match iLt x m with
    | true => minL x r
    | false => minL m r
def opMaxI (t : T) : M T := fun S => match lstOf (deref S t) with
  | some xs => match numsOf xs with
    | some (n :: ns) => .ok (.int (maxL n ns)) S
    | _ => .no
  | none => .no
def opMinI (t : T) : M T := fun S => match lstOf (deref S t) with
  | some xs => match numsOf xs with
    | some (n :: ns) => .ok (.int (minL n ns)) S
    | _ => .no
  | none => .no
def sumL : List Int → Int
  | [] => 0
  | x :: r => Int.add x (sumL r)
def opSumI (t : T) : M T := fun S => match lstOf (deref S t) with
  | some xs => match numsOf xs with
    | some ns => .ok (.int (sumL ns)) S
    | none => .no
  | none => .no
theorem maxL_ok : ∀ (r : List Int) (m : Int), maxL m r ∈ m :: r ∧ ∀ y, y ∈ m :: r → y ≤ maxL m r
  | [], m => ⟨List.mem_cons_self, fun y h => by rw [List.mem_singleton.mp h]; exact Int.le_refl _⟩
  | x :: r, m => by
    unfold maxL
    cases e : iLt m x with
    | true =>
      rw [iLt_iff, decide_eq_true_iff] at e
      obtain ⟨h1, h2⟩ := maxL_ok r x
      refine ⟨List.mem_cons_of_mem _ h1, fun y h => ?_⟩
      rcases List.mem_cons.mp h with z | z
      · rw [z]; exact Int.le_trans (Int.le_of_lt e) (h2 x List.mem_cons_self)
      · exact h2 y z
    | false =>
      rw [iLt_iff, decide_eq_false_iff_not] at e
      obtain ⟨h1, h2⟩ := maxL_ok r m
      refine ⟨?_, fun y h => ?_⟩
      · rcases List.mem_cons.mp h1 with z | z
        · rw [z]; exact List.mem_cons_self
        · exact List.mem_cons_of_mem _ (List.mem_cons_of_mem _ z)
      · rcases List.mem_cons.mp h with z | z
        · exact h2 y (by rw [z]; exact List.mem_cons_self)
        · rcases List.mem_cons.mp z with q | q
          · rw [q]; exact Int.le_trans (Int.not_lt.mp e) (h2 m List.mem_cons_self)
          · exact h2 y (List.mem_cons_of_mem _ q)
theorem minL_ok : ∀ (r : List Int) (m : Int), minL m r ∈ m :: r ∧ ∀ y, y ∈ m :: r → minL m r ≤ y
  | [], m => ⟨List.mem_cons_self, fun y h => by rw [List.mem_singleton.mp h]; exact Int.le_refl _⟩
  | x :: r, m => by
    unfold minL
    cases e : iLt x m with
    | true =>
      rw [iLt_iff, decide_eq_true_iff] at e
      obtain ⟨h1, h2⟩ := minL_ok r x
      refine ⟨List.mem_cons_of_mem _ h1, fun y h => ?_⟩
      rcases List.mem_cons.mp h with z | z
      · rw [z]; exact Int.le_trans (h2 x List.mem_cons_self) (Int.le_of_lt e)
      · exact h2 y z
    | false =>
      rw [iLt_iff, decide_eq_false_iff_not] at e
      obtain ⟨h1, h2⟩ := minL_ok r m
      refine ⟨?_, fun y h => ?_⟩
      · rcases List.mem_cons.mp h1 with z | z
        · rw [z]; exact List.mem_cons_self
        · exact List.mem_cons_of_mem _ (List.mem_cons_of_mem _ z)
      · rcases List.mem_cons.mp h with z | z
        · exact h2 y (by rw [z]; exact List.mem_cons_self)
        · rcases List.mem_cons.mp z with q | q
          · rw [q]; exact Int.le_trans (h2 m List.mem_cons_self) (Int.not_lt.mp e)
          · exact h2 y (List.mem_cons_of_mem _ q)
theorem sumL_eq : ∀ ns : List Int, sumL ns = ns.sum
  | [] => rfl
  | x :: r => by rw [List.sum_cons, ← sumL_eq r]; rfl
section
variable {p : Pm} {W : Wd} {S : Sto} {H : Hp}
theorem row_scr (R : RelS p W H S) {t : T} {v : V} {xs : List T} (r : Rep p W H t v) (h : deref S t = .scr xs) : ∃ a vs, v = .ref a ∧ SqL p.K H a vs ∧ Reps p W H xs vs := by
  cases r with
  | scr f rr => cases h; exact ⟨_, _, rfl, f.sq, rr⟩
  | loc hl =>
    unfold deref at h
    dsimp only at h
    split at h <;> cases h
  | _ => cases h
theorem bls_vals : ∀ {xs : List T} {bs : List Bool} {vs : List V}, Reps p W H xs vs → bls xs = some bs → vs = bs.map V.bl
  | [], _, _, .nil, h => by cases h; rfl
  | t :: r, bs, _, .cons a rr, h => by
    cases a with
    | bl b =>
      unfold bls at h
      cases e : bls r with
      | none => rw [e] at h; cases h
      | some cs =>
        rw [e] at h
        cases h
        rw [bls_vals rr e]
        rfl
    | _ => cases h
theorem ints_vals : ∀ {xs : List T} {bs : List Int} {vs : List V}, Reps p W H xs vs → numsOf xs = some bs → vs = bs.map V.int
  | [], _, _, .nil, h => by cases h; rfl
  | t :: r, bs, _, .cons a rr, h => by
    cases a with
    | int b =>
      unfold numsOf at h
      cases e : numsOf r with
      | none => rw [e] at h; cases h
      | some cs =>
        rw [e] at h
        cases h
        rw [ints_vals rr e]
        rfl
    | _ => cases h
theorem lst_of (R : RelS p W H S) {t : T} {v : V} {xs : List T} (r : Rep p W H t v) (h : lstOf (deref S t) = some xs) : ∃ a vs, v = .ref a ∧ SqL p.K H a vs ∧ Reps p W H xs vs := by
  cases ed : deref S t with
  | lst ys =>
    rw [ed] at h
    cases h
    obtain ⟨a, vs, e1, e2, rr⟩ := row_lst R r ed
    exact ⟨a, vs, e1, SqL.of e2, rr⟩
  | _ => rw [ed] at h; cases h
end
section
variable {X : Cx} {tb : Tb}
theorem cr_len : CallR X (.builtin "len") (rC1 (pm X tb) opLen) := by
  refine CallR.imp call_len ?_
  rintro xs H Q ⟨x, rfl, W, S, t, R, r, q⟩
  unfold opLen at q
  split at q
  · rename_i ys ed
    obtain ⟨_, a, vs, rfl, sq, rr⟩ := row_tup R r ed
    refine ⟨_, vs.length, rfl, .inr ⟨vs, sq, rfl⟩, ?_⟩
    have := q.ret_ (v := .int (vs.length : Int)) R (by rw [← rr.length]; exact .int _)
    exact this
  · rename_i ys ed
    obtain ⟨a, vs, rfl, sq, rr⟩ := row_lst R r ed
    refine ⟨_, vs.length, rfl, .inl ⟨vs, SqL.of sq, rfl⟩, ?_⟩
    have := q.ret_ (v := .int (vs.length : Int)) R (by rw [← rr.length]; exact .int _)
    exact this
  · rename_i ys ed
    obtain ⟨a, vs, rfl, sq, rr⟩ := row_scr R r ed
    refine ⟨_, vs.length, rfl, .inl ⟨vs, sq, rfl⟩, ?_⟩
    have := q.ret_ (v := .int (vs.length : Int)) R (by rw [← rr.length]; exact .int _)
    exact this
  · rename_i y ed
    have et : t = .str y := by
      cases t with
      | loc n =>
        unfold deref at ed
        dsimp only at ed
        split at ed <;> cases ed
      | _ => exact ed
    subst et
    cases r
    split at q
    · rename_i hf
      have hl : (⟨y.toArray⟩ : Str).length = y.length := rfl
      refine ⟨_, y.length, rfl, ⟨by rw [hl]; exact few_le hf, hl.symm⟩, ?_⟩
      have := q.ret_ (v := .int (y.length : Int)) R (.int _)
      exact this
    · exact q.elim
  · exact q.elim
theorem iAbs_eq (i : Int) : iAbs i = if i < 0 then -i else i := by
  cases i with
  | ofNat n => rw [if_neg (by simp only [Int.ofNat_eq_natCast]; omega)]; rfl
  | negSucc n => rw [if_pos (by omega)]; rfl
theorem cr_abs : CallR X (.builtin "abs") (rC1 (pm X tb) opAbs) := by
  refine CallR.imp call_abs ?_
  rintro xs H Q ⟨x, rfl, W, S, t, R, r, q⟩
  unfold opAbs at q
  split at q
  · cases r
    refine ⟨_, rfl, ?_⟩
    rw [← iAbs_eq]
    exact q.ret_ R (.int _)
  · exact q.elim
theorem cr_int : CallR X (.type "int") (rC1 (pm X tb) opInt) := by
  refine CallR.imp call_int1 ?_
  rintro xs H Q ⟨x, rfl, W, S, t, R, r, q⟩
  unfold opInt at q
  split at q
  · cases r
    exact .inl ⟨_, rfl, q.ret_ R (.int _)⟩
  · rename_i b
    cases r
    refine .inr ⟨b, rfl, ?_⟩
    have : (if b = true then (1 : Int) else 0) = b2i b := by cases b <;> rfl
    rw [this]
    exact q.ret_ R (.int _)
  · exact q.elim
theorem cr_min2 (hc : X.calm = true) : CallR X (.builtin "min") (rC2 (pm X tb) opMin2) := by
  refine CallR.imp (call_min2 hc) ?_
  rintro xs H Q ⟨x, y, rfl, W, S, t, u, R, r1, r2, q⟩
  unfold opMin2 at q
  split at q
  · rename_i i j
    cases r1
    cases r2
    refine ⟨i, j, rfl, ?_⟩
    split at q
    · rename_i e
      rw [iLt_iff, decide_eq_true_iff] at e
      rw [if_pos e]
      exact q.ret_ R (.int _)
    · rename_i e
      rw [iLt_iff, decide_eq_false_iff_not] at e
      rw [if_neg e]
      exact q.ret_ R (.int _)
  · exact q.elim
theorem cr_max2 (hc : X.calm = true) : CallR X (.builtin "max") (rC2 (pm X tb) opMax2) := by
  refine CallR.imp (call_max2 hc) ?_
  rintro xs H Q ⟨x, y, rfl, W, S, t, u, R, r1, r2, q⟩
  unfold opMax2 at q
  split at q
  · rename_i i j
    cases r1
    cases r2
    refine ⟨i, j, rfl, ?_⟩
    split at q
    · rename_i e
      rw [iLt_iff, decide_eq_true_iff] at e
      rw [if_pos (show j > i from e)]
      exact q.ret_ R (.int _)
    · rename_i e
      rw [iLt_iff, decide_eq_false_iff_not] at e
      rw [if_neg (show ¬ j > i from e)]
      exact q.ret_ R (.int _)
  · exact q.elim
theorem cr_allT (hc : X.calm = true) : CallR X (.builtin "all") (rC1 (pm X tb) opAll) := by
  refine CallR.imp (cr_all hc) ?_
  rintro xs H Q ⟨x, rfl, W, S, t, R, r, q⟩
  unfold opAll at q
  split at q
  · rename_i ys ed
    obtain ⟨a, vs, rfl, sq, rr⟩ := lst_of R r ed
    split at q
    · rename_i bs eb
      have ev := bls_vals rr eb
      subst ev
      refine ⟨a, bs, rfl, sq, ?_⟩
      rw [← allB_eq]
      exact q.ret_ R (.bl _)
    · exact q.elim
  · exact q.elim
theorem cr_anyT (hc : X.calm = true) : CallR X (.builtin "any") (rC1 (pm X tb) opAny) := by
  refine CallR.imp (cr_any hc) ?_
  rintro xs H Q ⟨x, rfl, W, S, t, R, r, q⟩
  unfold opAny at q
  split at q
  · rename_i ys ed
    obtain ⟨a, vs, rfl, sq, rr⟩ := lst_of R r ed
    split at q
    · rename_i bs eb
      have ev := bls_vals rr eb
      subst ev
      refine ⟨a, bs, rfl, sq, ?_⟩
      rw [← anyB_eq]
      exact q.ret_ R (.bl _)
    · exact q.elim
  · exact q.elim
theorem cr_maxI (hc : X.calm = true) : CallR X (.builtin "max") (rC1 (pm X tb) opMaxI) := by
  refine CallR.imp (cr_max hc) ?_
  rintro xs H Q ⟨x, rfl, W, S, t, R, r, q⟩
  unfold opMaxI at q
  split at q
  · rename_i ys ed
    obtain ⟨a, vs, rfl, sq, rr⟩ := lst_of R r ed
    split at q
    · rename_i n ns eb
      have ev := ints_vals rr eb
      subst ev
      refine ⟨a, n :: ns, rfl, sq, Nat.succ_pos _, fun m hm hy => ?_⟩
      obtain ⟨h1, h2⟩ := maxL_ok ns n
      have e : m = maxL n ns := Int.le_antisymm (h2 m hm) (hy _ h1)
      rw [e]
      exact q.ret_ R (.int _)
    · exact q.elim
  · exact q.elim
theorem cr_minI (hc : X.calm = true) : CallR X (.builtin "min") (rC1 (pm X tb) opMinI) := by
  refine CallR.imp (cr_min hc) ?_
  rintro xs H Q ⟨x, rfl, W, S, t, R, r, q⟩
  unfold opMinI at q
  split at q
  · rename_i ys ed
    obtain ⟨a, vs, rfl, sq, rr⟩ := lst_of R r ed
    split at q
    · rename_i n ns eb
      have ev := ints_vals rr eb
      subst ev
      refine ⟨a, n :: ns, rfl, sq, Nat.succ_pos _, fun m hm hy => ?_⟩
      obtain ⟨h1, h2⟩ := minL_ok ns n
      have e : m = minL n ns := Int.le_antisymm (hy _ h1) (h2 m hm)
      rw [e]
      exact q.ret_ R (.int _)
    · exact q.elim
  · exact q.elim
theorem cr_sumI (hc : X.calm = true) : CallR X (.builtin "sum") (rC1 (pm X tb) opSumI) := by
  refine CallR.imp (cr_sum hc) ?_
  rintro xs H Q ⟨x, rfl, W, S, t, R, r, q⟩
  unfold opSumI at q
  split at q
  · rename_i ys ed
    obtain ⟨a, vs, rfl, sq, rr⟩ := lst_of R r ed
    split at q
    · rename_i ns eb
      have ev := ints_vals rr eb
      subst ev
      refine ⟨a, ns, rfl, sq, ?_⟩
      rw [← sumL_eq]
      exact q.ret_ R (.int _)
    · exact q.elim
  · exact q.elim

/-! ### list(x), tuple(x) -/
def opTuple (t : T) : M T := fun S => match deref S t with
  | .tup xs => mkTup xs S
  | .lst xs => mkTup xs S
  | .scr xs => mkTup xs S
  | _ => .no
/-- list(x): a list that stays -/
def opList (t : T) : M T := fun S => match rowsOf (deref S t) with
  | some xs => mkLst xs S
  | none => .no
/-- list(x): a list that will be changed -/
def opListM (t : T) : M T := fun S => match rowsOf (deref S t) with
  | some xs => mkLoc xs S
  | none => .no
theorem cr_tuple : CallR X (.type "tuple") (rC1 (pm X tb) opTuple) := by
  refine CallR.imp call_tuple_of ?_
  rintro xs H Q ⟨x, rfl, W, S, t, R, r, q⟩
  unfold opTuple at q
  split at q
  · rename_i ys ed
    obtain ⟨et, a, vs, rfl, sq, rr⟩ := row_tup R r ed
    subst et
    exact ⟨a, vs, rfl, .inr ⟨sq, q.tup' R r⟩⟩
  · rename_i ys ed
    obtain ⟨a, vs, rfl, sq, rr⟩ := row_lst R r ed
    exact ⟨a, vs, rfl, .inl ⟨SqL.of sq, fun l hl => (Ans.tup R rr q hl).2⟩⟩
  · rename_i ys ed
    obtain ⟨a, vs, rfl, sq, rr⟩ := row_scr R r ed
    exact ⟨a, vs, rfl, .inl ⟨sq, fun l hl => (Ans.tup R rr q hl).2⟩⟩
  · exact q.elim
theorem rows_of {p : Pm} {W : Wd} {S : Sto} {H : Hp} (R : RelS p W H S) {t : T} {v : V} {xs : List T} (r : Rep p W H t v) (h : rowsOf (deref S t) = some xs) : ∃ a vs, v = .ref a ∧ (SqL p.K H a vs ∨ SqT p.K H a vs) ∧ Reps p W H xs vs := by
  cases ed : deref S t with
  | lst ys =>
    rw [ed] at h; cases h
    obtain ⟨a, vs, e1, e2, rr⟩ := row_lst R r ed
    exact ⟨a, vs, e1, .inl (SqL.of e2), rr⟩
  | tup ys =>
    rw [ed] at h; cases h
    obtain ⟨_, a, vs, e1, e2, rr⟩ := row_tup R r ed
    exact ⟨a, vs, e1, .inr e2, rr⟩
  | scr ys =>
    rw [ed] at h; cases h
    obtain ⟨a, vs, e1, e2, rr⟩ := row_scr R r ed
    exact ⟨a, vs, e1, .inl e2, rr⟩
  | _ => rw [ed] at h; cases h
theorem cr_list : CallR X (.type "list") (rC1 (pm X tb) opList) := by
  refine CallR.imp call_list_of ?_
  rintro xs H Q ⟨x, rfl, W, S, t, R, r, q⟩
  unfold opList at q
  split at q
  · rename_i ys ed
    obtain ⟨a, vs, rfl, sq, rr⟩ := rows_of R r ed
    exact ⟨a, vs, rfl, sq, fun l hl => (Ans.lst R rr q hl).2⟩
  · exact q.elim
theorem cr_listM : CallR X (.type "list") (rC1 (pm X tb) opListM) := by
  refine CallR.imp call_list_of ?_
  rintro xs H Q ⟨x, rfl, W, S, t, R, r, q⟩
  unfold opListM at q
  split at q
  · rename_i ys ed
    obtain ⟨a, vs, rfl, sq, rr⟩ := rows_of R r ed
    exact ⟨a, vs, rfl, sq, fun l hl => (Ans.loc R rr q hl).2⟩
  · exact q.elim
end
end Pi
set_option Elab.async false
set_option linter.all false
set_option autoImplicit false
set_option maxRecDepth 100000
set_option maxHeartbeats 1000000
/-! Pi10: isinstance; attributes; sorted. -/
namespace Pi
open PySem PySem.Spec PyProof.Rows L2

/-- kinds of values by number; an own class: 100 + its number -/
def nameN : Nat → String
  | 0 => "NoneType"
  | 1 => "bool"
  | 2 => "int"
  | 3 => "str"
  | 4 => "tuple"
  | _ => "list"
def tagN (S : Sto) : T → Option Nat
  | .non => some 0
  | .bl _ => some 1
  | .int _ => some 2
  | .str _ => some 3
  | .tup _ => some 4
  | .lst _ => some 5
  | .ins c _ => some (100 + c)
  | .loc n => match S.get n with
    | some (.lst _) => some 5
    | some (.ins c _) => some (100 + c)
    | _ => none
  | _ => none
def isaN (g c : Nat) : Bool := match Nat.beq g c with
  | true => true
  | false => match Nat.beq g 1 with
    | true => Nat.beq c 2
    | false => false
theorem kit_tab : ∀ g, g < 6 → ∀ c, c < 6 → kitB (nameN g) (nameN c) = some (isaN g c) := by decide +kernel
/-- an own class, for isinstance -/
structure OwnI (K : PySem.W.Frag) (C : Addr) : Prop where
  cl : Cls K C
  ha : PySem.W.findIn K (.ref C) "__class__" = some (some (.builtin "object.__class__"))
  hn : PySem.W.specialIn K (.builtin "object.__class__") "__get__" = some (some (.builtin "getset_descriptor.__get__"))
  tk : PySem.W.takesIn K (.builtin "object.__class__") = some true
  mr : PySem.W.mroIn K C (.type "object") = some true
/-- what is told of the own classes with the numbers below nc -/
structure Own (p : Pm) (nc : Nat) : Prop where
  ins : ∀ c, c < nc → OwnI p.K (p.cls c)
  bi : ∀ c, c < nc → ∀ g, g < 6 → PySem.W.kitOne p.K (.ref (p.cls c)) (.type (nameN g)) = some false
  ib : ∀ c, c < nc → ∀ g, g < 6 → PySem.W.kitOne p.K (.type (nameN g)) (.ref (p.cls c)) = some false
  oo : ∀ c, c < nc → ∀ d, d < nc → PySem.W.kitOne p.K (.ref (p.cls c)) (.ref (p.cls d)) = some (Nat.beq c d)
theorem isa_hi {c g : Nat} (h : g < 6) : isaN (100 + c) g = false := by
  unfold isaN
  have e1 : Nat.beq (100 + c) g = false := by
    cases e : Nat.beq (100 + c) g with
    | false => rfl
    | true => have := Nat.eq_of_beq_eq_true e; omega
  have e2 : Nat.beq (100 + c) 1 = false := by
    cases e : Nat.beq (100 + c) 1 with
    | false => rfl
    | true => have := Nat.eq_of_beq_eq_true e; omega
  rw [e1, e2]
theorem isa_lo {c g : Nat} (h : g < 6) : isaN g (100 + c) = false := by
  unfold isaN
  have e1 : Nat.beq g (100 + c) = false := by
    cases e : Nat.beq g (100 + c) with
    | false => rfl
    | true => have := Nat.eq_of_beq_eq_true e; omega
  have e2 : Nat.beq (100 + c) 2 = false := by
    cases e : Nat.beq (100 + c) 2 with
    | false => rfl
    | true => have := Nat.eq_of_beq_eq_true e; omega
  rw [e1]
  dsimp only
  rw [e2]
  cases Nat.beq g 1 <;> rfl
theorem isa_oo {c d : Nat} : isaN (100 + c) (100 + d) = Nat.beq c d := by
  unfold isaN
  have e3 : Nat.beq (100 + c) (100 + d) = Nat.beq c d := by
    cases e : Nat.beq c d with
    | true => rw [Nat.eq_of_beq_eq_true e]; exact Nat.beq_refl _
    | false =>
      cases e2 : Nat.beq (100 + c) (100 + d) with
      | false => rfl
      | true =>
        have h1 := Nat.eq_of_beq_eq_true e2
        have h2 : c = d := by omega
        rw [h2, Nat.beq_refl] at e; cases e
  have e2 : Nat.beq (100 + c) 1 = false := by
    cases e : Nat.beq (100 + c) 1 with
    | false => rfl
    | true => have := Nat.eq_of_beq_eq_true e; omega
  rw [e3, e2]
  cases Nat.beq c d <;> rfl
/-- a value's type -/
structure Tyd (p : Pm) (nc : Nat) (H : Hp) (x : V) (g : Nat) : Prop where
  ex : ∃ u, TyX p.K H x u ∧ (∀ c, c < 6 → PySem.W.kitOne p.K u (.type (nameN c)) = some (isaN g c)) ∧ ∀ d, d < nc → PySem.W.kitOne p.K u (.ref (p.cls d)) = some (isaN g (100 + d))
section
variable {p : Pm} {nc : Nat} {W : Wd} {S : Sto} {H : Hp}
theorem Tyd.base (o : Own p nc) {x : V} (g : Nat) (hg : g < 6) (h : TyX p.K H x (.type (nameN g))) : Tyd p nc H x g :=
  ⟨_, h, fun c hc => kit_ty (kit_tab g hg c hc), fun d hd => by rw [isa_lo hg]; exact o.ib d hd g hg⟩
theorem Tyd.own (o : Own p nc) {a dx : Addr} {c : Nat} {gs : List (Str × V)} (hc : c < nc) (h : H a = some (.ins (p.cls c) dx gs)) : Tyd p nc H (.ref a) (100 + c) := by
  have i := o.ins c hc
  exact ⟨_, .base (.ins h i.cl i.ha i.hn i.tk i.mr), fun g hg => by rw [isa_hi hg]; exact o.bi c hc g hg, fun d hd => by rw [isa_oo]; exact o.oo c hc d hd⟩
theorem tag_rep (o : Own p nc) (R : RelS p W H S) {t : T} {x : V} {g : Nat} (r : Rep p W H t x) (h : tagN S t = some g) (hb : Nat.blt g (100 + nc) = true) : Tyd p nc H x g := by
  have hb : g < 100 + nc := Nat.le_of_ble_eq_true hb
  cases r with
  | non => cases h; exact .base o 0 (by decide) (.base .non)
  | bl b => cases h; exact .base o 1 (by decide) (.base (.bl b))
  | int i => cases h; exact .base o 2 (by decide) (.base (.int i))
  | str y => cases h; exact .base o 3 (by decide) (.base (.str _))
  | tup f rr =>
    cases h
    refine .base o 4 (by decide) ?_
    rcases f with ⟨_, e⟩ | e
    · exact .base (.tup e)
    · rcases e with e | ⟨ob, its, n, e, c, _⟩
      · rcases e with e | ⟨_, e⟩ <;> cases e
      · exact .kTuple e c
  | lst f e rr => cases h; exact .base o 5 (by decide) (.base (.lst e))
  | ins f e rr =>
    cases h
    exact .own o (by omega) e
  | loc hl =>
    rename_i n
    unfold tagN at h
    dsimp only at h
    cases e : S.get n with
    | none => rw [e] at h; cases h
    | some ob =>
      rw [e] at h
      have ro := R.get e
      cases ob with
      | lst xs =>
        cases h
        cases ro with
        | lst e2 _ => exact .base o 5 (by decide) (.base (.lst e2))
      | ins c fs =>
        cases h
        cases ro with
        | ins e2 _ => exact .own o (by omega) e2
      | dic kvs => cases h
  | _ => cases h
end
def opIsa (nc c : Nat) (t : T) : M T := fun S => match tagN S t with
  | some g => match Nat.blt g (100 + nc) with
    | true => .ok (.bl (isaN g c)) S
    | false => .no
  | none => .no
/-- isinstance(x, (c, d)) -/
def opIsa2 (nc c d : Nat) (t : T) : M T := fun S => match tagN S t with
  | some g => match Nat.blt g (100 + nc) with
    | true => .ok (.bl (match isaN g c with
      | true => true
      | false => isaN g d)) S
    | false => .no
  | none => .no
def eB1 (f : T → M T) (a : ME) : ME := fun env => bnd (a env) f
section
variable {X : Cx} {tb : Tb} {Wx : WX} {a b e1 e2 : Expr} {ma mb : ME} {pos p : Pos} {x : Str} {nc : Nat}
theorem isa_ans {c : Nat} {t : T} {S : Sto} {W : Wd} {H : Hp} {E : XK} {Q : VK} {pp : Pm} {x : V} (o : Own pp nc) (R : RelS pp W H S) (r : Rep pp W H t x) (q : Ans pp E (Rep pp) W S H Q (opIsa nc c t S)) : ∃ g, Tyd pp nc H x g ∧ Q (.bl (isaN g c)) H := by
  unfold opIsa at q
  split at q
  · rename_i g e
    split at q
    · rename_i hb
      exact ⟨g, tag_rep o R r e hb, q.ret_ R (.bl _)⟩
    · exact q.elim
  · exact q.elim
theorem q_isB (c : Nat) (hc : c < 6) (o : Own (pm X tb) nc) (hg : Gl X "isinstance") (hm : X.mg "isinstance" = none) (ha : QE X tb Wx a ma) (hn : PE X e1 (tC (.ty (nameN c))))
    (hs : starEach [a, e1] X.env = (false, eval a X.env) :: starEach [e1] X.env := by rfl) (hs2 : starEach [e1] X.env = (false, eval e1 X.env) :: starEach [] X.env := by rfl) : QE X tb Wx (.Call (.Name "isinstance" p) [a, e1] [] pos) (eB1 (opIsa nc c) ma) := by
  refine PE.imp (pe_callB call_isi hg hm PyProof.Rows.boot_isinstance (pa_cons ha (pa_cons hn pa_nil hs2) hs) (by decide) (by decide) hs (by rw [hs2]; rfl)) fun σ H Q ⟨W, env, S, R, q⟩ => ?_
  refine ⟨W, env, S, R, Ans.imp (Ans.bind (R := Rep (pm X tb)) R.sto q) fun v H1 ⟨W1, S1, t, x1, r1, rx, q1⟩ => ?_⟩
  obtain ⟨g, ⟨u, ty, k1, _⟩, q2⟩ := isa_ans o r1 rx q1
  exact ⟨v, .ty (nameN c), u, _, _, rfl, .ty _, ty, k1 c hc, q2⟩
theorem q_isO (c : Nat) (hc : c < nc) (o : Own (pm X tb) nc) (hg : Gl X "isinstance") (hm : X.mg "isinstance" = none) (ha : QE X tb Wx a ma) (hn : PE X e1 (tC (.ref ((pm X tb).cls c))))
    (hs : starEach [a, e1] X.env = (false, eval a X.env) :: starEach [e1] X.env := by rfl) (hs2 : starEach [e1] X.env = (false, eval e1 X.env) :: starEach [] X.env := by rfl) : QE X tb Wx (.Call (.Name "isinstance" p) [a, e1] [] pos) (eB1 (opIsa nc (100 + c)) ma) := by
  refine PE.imp (pe_callB call_isi hg hm PyProof.Rows.boot_isinstance (pa_cons ha (pa_cons hn pa_nil hs2) hs) (by decide) (by decide) hs (by rw [hs2]; rfl)) fun σ H Q ⟨W, env, S, R, q⟩ => ?_
  refine ⟨W, env, S, R, Ans.imp (Ans.bind (R := Rep (pm X tb)) R.sto q) fun v H1 ⟨W1, S1, t, x1, r1, rx, q1⟩ => ?_⟩
  obtain ⟨g, ⟨u, ty, _, k2⟩, q2⟩ := isa_ans o r1 rx q1
  exact ⟨v, .ref ((pm X tb).cls c), u, _, _, rfl, .own _, ty, k2 c hc, q2⟩
theorem q_isT (c d : Nat) (hc : c < 6) (hd : d < 6) {k : Nat} {tpos : Pos} (o : Own (pm X tb) nc) (hg : Gl X "isinstance") (hm : X.mg "isinstance" = none) (ha : QE X tb Wx a ma) (hn : PE X e1 (tC (.ty (nameN c)))) (hn2 : PE X e2 (tC (.ty (nameN d))))
    (hs : starEach [a, .Tuple [e1, e2] k tpos] X.env = (false, eval a X.env) :: starEach [.Tuple [e1, e2] k tpos] X.env := by rfl) (hs2 : starEach [.Tuple [e1, e2] k tpos] X.env = (false, eval (.Tuple [e1, e2] k tpos) X.env) :: starEach [] X.env := by rfl)
    (hs3 : starEach [e1, e2] X.env = (false, eval e1 X.env) :: starEach [e2] X.env := by rfl) (hs4 : starEach [e2] X.env = (false, eval e2 X.env) :: starEach [] X.env := by rfl) : QE X tb Wx (.Call (.Name "isinstance" p) [a, .Tuple [e1, e2] k tpos] [] pos) (eB1 (opIsa2 nc c d) ma) := by
  refine PE.imp (pe_callB call_isiT hg hm PyProof.Rows.boot_isinstance (pa_cons ha (pa_cons (pe_tup (pa_cons hn (pa_cons hn2 pa_nil hs4) hs3)) pa_nil hs2) hs) (by decide) (by decide) hs (by rw [hs2]; rfl)) fun σ H Q ⟨W, env, S, R, q⟩ => ?_
  refine ⟨W, env, S, R, Ans.imp (Ans.bind (R := Rep (pm X tb)) R.sto q) fun v H1 ⟨W1, S1, t, x1, r1, rx, q1⟩ => ?_⟩
  refine ⟨by show 2 ≤ sizeLine; decide, fun tp htp => ?_⟩
  have x2 : Ext W1 S1 H1 W1 S1 (upd H1 tp (.tup [.ty (nameN c), .ty (nameN d)])) := Ext.grow (upd_keep htp)
  have r2 := r1.grow (upd_keep (o := .tup [.ty (nameN c), .ty (nameN d)]) htp)
  have q2 := Ans.later r1 r2 x2 q1
  unfold opIsa2 at q2
  split at q2
  · rename_i g eg
    split at q2
    · rename_i hb
      obtain ⟨u, ty, k1, _⟩ := tag_rep o r2 (rx.mono r1 x2) eg hb
      refine ⟨v, tp, [.ty (nameN c), .ty (nameN d)], u, [.type (nameN c), .type (nameN d)], _, rfl, upd_same, .cons (.ty _) (.cons (.ty _) .nil), ty, ?_, q2.ret_ r2 (.bl _)⟩
      refine kitAny_cons (k1 c hc) (fun z => ?_) (fun z => by rw [z])
      refine kitAny_cons (k1 d hd) (fun z2 => ?_) (fun z2 => by rw [z, z2])
      rw [z, z2]
      exact kitAny_nil
    · exact q2.elim
  · exact q2.elim

/-! ### attributes -/
def fGet : List (Nat × T) → Nat → Option T
  | [], _ => none
  | p :: r, f => match Nat.beq p.1 f with
    | true => some p.2
    | false => fGet r f
def fPut : List (Nat × T) → Nat → T → List (Nat × T)
  | [], f, t => [(f, t)]
  | p :: r, f, t => match Nat.beq p.1 f with
    | true => (p.1, t) :: r
    | false => p :: fPut r f t
/-- fields are below this number -/
def lowF (nf : Nat) : List (Nat × T) → Bool
  | [] => true
  | p :: r => match Nat.blt p.1 nf with
    | true => lowF nf r
    | false => false
/-- names of fields are apart -/
def Flds (tb : Tb) (nf : Nat) : Prop := ∀ f, f < nf → ∀ g, g < nf → tb.fd f = tb.fd g → f = g
theorem fGet_rep {pp : Pm} {W : Wd} {H : Hp} {nf : Nat} (hf : Flds pp.tb nf) {f : Nat} (h : f < nf) : ∀ {fs : List (Nat × T)} {gs : List (Str × V)} {t : T}, RepF pp W H fs gs → lowF nf fs = true → fGet fs f = some t → ∃ v, gs.lookup (pp.tb.fd f) = some v ∧ Rep pp W H t v
  | [], _, _, .nil, _, e => by cases e
  | (k, u) :: fs, _, t, .cons r rr, hl, e => by
    unfold lowF at hl
    unfold fGet at e
    cases hk : Nat.blt k nf with
    | false => rw [hk] at hl; cases hl
    | true =>
      rw [hk] at hl
      have hk' : k < nf := Nat.le_of_ble_eq_true hk
      cases eb : Nat.beq k f with
      | true =>
        rw [eb] at e
        cases e
        have := Nat.eq_of_beq_eq_true eb
        subst this
        refine ⟨_, ?_, r⟩
        rw [List.lookup_cons_self]
      | false =>
        rw [eb] at e
        obtain ⟨v, h1, h2⟩ := fGet_rep hf h rr hl e
        refine ⟨v, ?_, h2⟩
        have ne : (pp.tb.fd f == pp.tb.fd k) = false := beq_eq_false_iff_ne.mpr fun z => by
          have := hf f h k hk' z
          rw [this, Nat.beq_refl] at eb; cases eb
        simp only [List.lookup, ne]
        exact h1
theorem fPut_rep {pp : Pm} {W : Wd} {H : Hp} {nf : Nat} (hf : Flds pp.tb nf) {f : Nat} (h : f < nf) {t : T} {v : V} (r : Rep pp W H t v) : ∀ {fs : List (Nat × T)} {gs : List (Str × V)}, RepF pp W H fs gs → lowF nf fs = true → RepF pp W H (fPut fs f t) (putF (pp.tb.fd f) v gs)
  | [], _, .nil, _ => .cons r .nil
  | (k, u) :: fs, _, .cons (gs := gs) (v := w) r1 rr, hl => by
    unfold lowF at hl
    cases hk : Nat.blt k nf with
    | false => rw [hk] at hl; cases hl
    | true =>
      rw [hk] at hl
      have hk' : k < nf := Nat.le_of_ble_eq_true hk
      unfold fPut
      show RepF pp W H _ (if pp.tb.fd k = pp.tb.fd f then (pp.tb.fd k, v) :: gs else (pp.tb.fd k, w) :: putF (pp.tb.fd f) v gs)
      cases eb : Nat.beq k f with
      | true =>
        have := Nat.eq_of_beq_eq_true eb
        subst this
        rw [if_pos rfl]
        exact .cons r rr
      | false =>
        rw [if_neg fun z => by
          have := hf k hk' f h z
          rw [this, Nat.beq_refl] at eb; cases eb]
        exact .cons r1 (fPut_rep hf h r rr hl)
theorem RepF.length {pp : Pm} {W : Wd} {H : Hp} : ∀ {fs : List (Nat × T)} {gs : List (Str × V)}, RepF pp W H fs gs → fs.length = gs.length
  | _, _, .nil => rfl
  | _, _, .cons _ r => by simp [RepF.length r]
def insOf (S : Sto) : T → Option (Nat × List (Nat × T))
  | .ins c fs => some (c, fs)
  | .loc n => match S.get n with
    | some (.ins c fs) => some (c, fs)
    | _ => none
  | _ => none
theorem ins_at {pp : Pm} {W : Wd} {H : Hp} {S : Sto} (R : RelS pp W H S) {t : T} {x : V} {c : Nat} {fs : List (Nat × T)} (r : Rep pp W H t x) (h : insOf S t = some (c, fs)) : ∃ a dx gs, x = .ref a ∧ H a = some (.ins (pp.cls c) dx gs) ∧ RepF pp W H fs gs := by
  cases r with
  | ins f e rr => cases h; exact ⟨_, _, _, rfl, e, rr⟩
  | loc hl =>
    rename_i n
    unfold insOf at h
    dsimp only at h
    cases e : S.get n with
    | none => rw [e] at h; cases h
    | some ob =>
      rw [e] at h
      cases ob with
      | ins c fs =>
        cases h
        cases R.get e with
        | ins e2 rr => exact ⟨_, _, _, rfl, e2, rr⟩
      | _ => cases h
  | _ => cases h
/-- what is told of fields: of each own class, none of them is a class's own -/
structure Att (pp : Pm) (nc nf : Nat) : Prop where
  fl : Flds pp.tb nf
  no : ∀ c, c < nc → ∀ f, f < nf → NoAttr pp.K (pp.cls c) (pp.tb.fd f)
def opFld (nc nf f : Nat) (t : T) : M T := fun S => match insOf S t with
  | some (c, fs) => match Nat.blt c nc && lowF nf fs with
    | true => match fGet fs f with
      | some v => .ok v S
      | none => .no
    | false => .no
  | none => .no
theorem q_fld {nf f : Nat} (hf : f < nf) (o : Own (pm X tb) nc) (at_ : Att (pm X tb) nc nf) (ha : QE X tb Wx a ma) (hx : x = tb.fd f) (hb : attributeBase a x X.env (eval a X.env) = eval a X.env := by rfl) : QE X tb Wx (.Attribute a x pos) (eB1 (opFld nc nf f) ma) := by
  subst hx
  refine PE.imp (pe_fld ha hb) fun σ H Q ⟨W, env, S, R, q⟩ => ?_
  refine ⟨W, env, S, R, Ans.imp (Ans.bind (R := Rep (pm X tb)) R.sto q) fun v H1 ⟨W1, S1, t, x1, r1, rx, q1⟩ => ?_⟩
  unfold opFld at q1
  split at q1
  · rename_i c fs e
    split at q1
    · rename_i hc
      rw [Bool.and_eq_true] at hc
      have hcn : c < nc := Nat.le_of_ble_eq_true hc.1
      split at q1
      · rename_i w ew
        obtain ⟨ad, dx, gs, rfl, eh, rf⟩ := ins_at r1 rx e
        obtain ⟨z, hz, rz⟩ := fGet_rep at_.fl hf rf hc.2 ew
        exact ⟨ad, _, dx, gs, z, rfl, eh, (o.ins c hcn).cl, at_.no c hcn f hf, hz, q1.ret_ r1 rz⟩
      · exact q1.elim
    · exact q1.elim
  · exact q1.elim
/-- o.f = v -/
def setFld (nc nf f : Nat) (t v : T) : M Unit := fun S => match t with
  | .loc n => match S.get n with
    | some (.ins c fs) => match Nat.blt c nc && lowF nf fs && Nat.blt fs.length 1000 with
      | true => .ok () (S.set n (.ins c (fPut fs f v)))
      | false => .no
    | _ => .no
  | _ => .no
def sFldS (nc nf f : Nat) (o v : ME) : MS := fun env => bnd (v env) fun y => bnd (o env) fun x => bnd (setFld nc nf f x y) fun _ => ret (.nx env)
theorem qs_fld {E : XK} {nf f : Nat} {tpos : Pos} (hf : f < nf) (o : Own (pm X tb) nc) (at_ : Att (pm X tb) nc nf) (ha : QE X tb (cw E) a ma) (hv : QE X tb (cw E) b mb) (hx : x = tb.fd f) (hs : swapsWith b (some (.Attribute a x tpos)) pos.line X.env = pure false := by rfl) :
    QS X tb E (.Assign [.Attribute a x tpos] b pos) (sFldS nc nf f ma mb) := by
  subst hx
  refine PS.imp (ps_fld ha hv hs) fun D σ H ⟨W, env, S, R, q⟩ => ?_
  refine ⟨W, env, S, R, Ans.imp (Ans.bind (R := Rep (pm X tb)) R.sto q) fun y H1 ⟨W1, S1, u, x1, r1, ry, q1⟩ => ?_⟩
  refine ⟨W1, env, S1, R.later r1 x1, Ans.imp (Ans.bind (R := Rep (pm X tb)) r1 q1) fun v H2 ⟨W2, S2, t, x2, r2, rx, q2⟩ => ?_⟩
  unfold bnd setFld at q2
  cases rx with
  | @loc n hl =>
    dsimp only at q2
    cases e : S2.get n with
    | none => rw [e] at q2; exact q2.elim
    | some ob =>
      cases ob with
      | ins c fs =>
        rw [e] at q2
        dsimp only at q2
        cases hc : Nat.blt c nc && lowF nf fs && Nat.blt fs.length 1000 with
        | false => rw [hc] at q2; exact q2.elim
        | true =>
          rw [hc] at q2
          rw [Bool.and_eq_true, Bool.and_eq_true] at hc
          have hcn : c < nc := Nat.le_of_ble_eq_true hc.1.1
          have hln : fs.length < 1000 := Nat.le_of_ble_eq_true hc.2
          have hk := Sto.get_key e
          cases r2.get e with
          | ins eh rf =>
            rename_i dx gs
            refine ⟨_, _, dx, gs, rfl, eh, (o.ins c hcn).cl, at_.no c hcn f hf, by rw [← rf.length]; exact hln, ?_⟩
            have x3 : Ext W2 S2 H2 W2 (S2.set n (.ins c (fPut fs f u))) (upd H2 (W2.mu n) (.ins ((pm X tb).cls c) dx (putF (tb.fd f) y gs))) := Ext.set hk
            have r3 : RelS (pm X tb) W2 (upd H2 (W2.mu n) (.ins ((pm X tb).cls c) dx (putF (tb.fd f) y gs))) (S2.set n (.ins c (fPut fs f u))) :=
              r2.set hk (.ins upd_same ((fPut_rep at_.fl hf (ry.mono r1 x2) rf hc.1.2).mono r2 (Ext.set (o := .lst []) hk)))
            have q3 := Ans.later r2 r3 x3 q2
            exact r_nx (D := D) r3 q3 (((R.env.mono R.sto x1).mono r1 x2).mono r2 x3)
      | _ => rw [e] at q2; exact q2.elim
  | _ => exact q2.elim
end
end Pi
set_option Elab.async false
set_option linter.all false
set_option autoImplicit false
set_option maxRecDepth 100000
set_option maxHeartbeats 1000000
/-! Pi11: methods of lists, stores, dict displays, freezing, sorted. -/
namespace Pi
open PySem PySem.Spec PyProof.Rows L2

/-! ### freezing -/
def frz (t : T) : M T := fun S => match t with
  | .loc n => match S.get n with
    | some (.lst xs) => .ok (.lst xs) (S.del n)
    | some (.dic kvs) => .ok (.dic kvs) (S.del n)
    | some (.ins c fs) => .ok (.ins c fs) (S.del n)
    | none => .no
  | t => .ok t S
def eFrz (a : ME) : ME := fun env => bnd (a env) frz
section
variable {p : Pm} {W : Wd} {S : Sto} {H : Hp} {E : XK} {Q : VK}
theorem frz_ans {t : T} {x : V} (R : RelS p W H S) (r : Rep p W H t x) (q : Ans p E (Rep p) W S H Q (frz t S)) : Q x H := by
  cases r with
  | @loc n hl =>
    unfold frz at q
    dsimp only at q
    cases e : S.get n with
    | none => rw [e] at q; exact q.elim
    | some ob =>
      have hk := Sto.get_key e
      have ro := R.get e
      have x1 : Ext W S H (W.put (W.mu n)) (S.del n) H := Ext.frz hk
      have r1 : RelS p (W.put (W.mu n)) H (S.del n) := R.frz hk
      rw [e] at q
      cases ob with
      | lst xs => cases ro with
        | lst e2 rr => exact q _ _ _ x1 r1 (.lst (.inr rfl) e2 (rr.mono R x1))
      | dic kvs => cases ro with
        | dicK e2 rr => exact q _ _ _ x1 r1 (.dicK (.inr rfl) e2 (RepK.mono' x1.mu x1.nxt x1.fz (x1.fzk R) rr))
        | dicE e2 h1 h2 rr h3 => exact q _ _ _ x1 r1 (.dicE (.inr rfl) e2 h1 h2 (RepE.mono' x1.mu x1.nxt x1.fz (x1.fzk R) rr) h3)
      | ins c fs => cases ro with
        | ins e2 rr => exact q _ _ _ x1 r1 (.ins (.inr rfl) e2 (rr.mono R x1))
  | non => exact q.ret_ R .non
  | bl b => exact q.ret_ R (.bl b)
  | int i => exact q.ret_ R (.int i)
  | str y => exact q.ret_ R (.str y)
  | tup f rr => exact q.ret_ R (.tup f rr)
  | lst f e rr => exact q.ret_ R (.lst f e rr)
  | scr f rr => exact q.ret_ R (.scr f rr)
  | dicK f e rr => exact q.ret_ R (.dicK f e rr)
  | dicE f e a b rr d => exact q.ret_ R (.dicE f e a b rr d)
  | ins f e rr => exact q.ret_ R (.ins f e rr)
  | gl g => exact q.ret_ R (.gl g)
end
section
variable {X : Cx} {tb : Tb} {Wx : WX} {a b e : Expr} {ma mb : ME} {pos apos cpos : Pos}
theorem q_frz (h : QE X tb Wx a ma) : QE X tb Wx a (eFrz ma) := by
  refine PE.imp h fun σ H Q ⟨W, env, S, R, q⟩ => ?_
  refine ⟨W, env, S, R, Ans.imp (Ans.bind (R := Rep (pm X tb)) R.sto q) fun v H1 ⟨W1, S1, t, x1, r1, rx, q1⟩ => frz_ans r1 rx q1⟩
end

/-! ### methods of lists -/
def chkL (t : T) : M Unit := fun S => match t with
  | .loc n => match S.get n with
    | some (.lst _) => .ok () S
    | _ => .no
  | _ => .no
def opAppend (t u : T) : M T := fun S => match t with
  | .loc n => match S.get n with
    | some (.lst xs) => match few (u :: xs) with
      | true => .ok .non (S.set n (.lst (xs ++ [u])))
      | false => .no
    | _ => .no
  | _ => .no
def opExtend (t u : T) : M T := fun S => match t with
  | .loc n => match S.get n with
    | some (.lst xs) => match rowOf (deref S u) with
      | some ys => match few (xs ++ ys) with
        | true => .ok .non (S.set n (.lst (xs ++ ys)))
        | false => .no
      | none => .no
    | _ => .no
  | _ => .no
/-- the last, and what is ahead of it -/
def cutLast : List T → Option (List T × T)
  | [] => none
  | x :: r => match cutLast r with
    | none => some ([], x)
    | some (ys, z) => some (x :: ys, z)
theorem cutLast_eq : ∀ {xs ys : List T} {z : T}, cutLast xs = some (ys, z) → xs = ys ++ [z]
  | [], _, _, h => by cases h
  | x :: r, ys, z, h => by
    unfold cutLast at h
    cases e : cutLast r with
    | none =>
      rw [e] at h
      cases h
      cases r with
      | nil => rfl
      | cons y s =>
        unfold cutLast at e
        cases e2 : cutLast s with
        | none => rw [e2] at e; cases e
        | some q => rw [e2] at e; cases e
    | some q =>
      rw [e] at h
      obtain ⟨ws, w⟩ := q
      cases h
      rw [cutLast_eq e]
      rfl
def opPop (t : T) : M T := fun S => match t with
  | .loc n => match S.get n with
    | some (.lst xs) => match cutLast xs with
      | some (ys, z) => .ok z (S.set n (.lst ys))
      | none => .no
    | _ => .no
  | _ => .no
def dropAt : List T → Nat → List T
  | [], _ => []
  | _ :: r, 0 => r
  | x :: r, n + 1 => x :: dropAt r n
theorem dropAt_eq : ∀ (xs : List T) (n : Nat), dropAt xs n = xs.eraseIdx n
  | [], _ => by simp [dropAt]
  | _ :: r, 0 => by simp [dropAt]
  | x :: r, n + 1 => by simp [dropAt, dropAt_eq r n]
def opPopAt (t u : T) : M T := fun S => match t with
  | .loc n => match S.get n with
    | some (.lst xs) => match u with
      | .int (.ofNat k) => match nth xs k with
        | some z => match few xs with
          | true => .ok z (S.set n (.lst (dropAt xs k)))
          | false => .no
        | none => .no
      | _ => .no
    | _ => .no
  | _ => .no
def rM1 (p : Pm) (f : T → T → M T) : V → List V → Hp → VK → Prop := fun x xs H Q => ∃ y, xs = [y] ∧ ∃ W S t u, RelS p W H S ∧ Rep p W H t x ∧ Rep p W H u y ∧ Ans p E0 (Rep p) W S H Q (f t u S)
def rM0 (p : Pm) (f : T → M T) : V → List V → Hp → VK → Prop := fun x xs H Q => xs = [] ∧ ∃ W S t, RelS p W H S ∧ Rep p W H t x ∧ Ans p E0 (Rep p) W S H Q (f t S)
def eM1 (f : T → T → M T) (o a : ME) : ME := fun env => bnd (o env) fun x => bnd (chkL x) fun _ => bnd (a env) fun y => noX (f x y)
def eM0 (f : T → M T) (o : ME) : ME := fun env => bnd (o env) fun x => bnd (chkL x) fun _ => noX (f x)
theorem MtR.imp {X : Cx} {id : String} {r r' : V → List V → Hp → VK → Prop} (h : MtR X id r) (i : ∀ x xs H Q, r' x xs H Q → r x xs H Q) : MtR X id r' := fun pins s σ H x xs v us Q I rx rv q => h pins s σ H x xs v us Q I rx rv (i x xs H Q q)
section
variable {p : Pm} {W : Wd} {S : Sto} {H : Hp} {E : XK} {α β : Type} {R2 : Wd → Hp → α → β → Prop} {Q : β → Hp → Prop}
theorem chkL_ans {t : T} {x : V} {f : Unit → M α} (R : RelS p W H S) (r : Rep p W H t x) (q : Ans p E R2 W S H Q (bnd (chkL t) f S)) : tyV p.K "list" x H ∧ Ans p E R2 W S H Q (f () S) := by
  unfold bnd chkL at q
  cases r with
  | @loc n hl =>
    dsimp only at q
    cases e : S.get n with
    | none => rw [e] at q; exact q.elim
    | some ob =>
      rw [e] at q
      cases ob with
      | lst xs =>
        cases R.get e with
        | lst e2 _ => exact ⟨.inl ⟨rfl, _, SqL.of e2⟩, q⟩
      | _ => exact q.elim
  | _ => exact q.elim
end
section
variable {X : Cx} {tb : Tb} {Wx : WX} {o a e : Expr} {mo ma : ME} {pos apos cpos : Pos} {name : Str} {id : String}
theorem q_m1 {f : T → T → M T} (slot : Slot "list" name id) (hty : typeOf (.builtin id) = pure (.type "method_descriptor")) (hm : MtR X id (rM1 (pm X tb) f)) (ho : QE X tb Wx o mo) (ha : QE X tb Wx a ma)
    (hbase : attributeBase o name X.env (eval o X.env) = eval o X.env := by rfl)
    (hfew : ((backTo cpos (starEach [a] X.env)).all (fun x => !x.1) && (backToKw cpos (keywordEach [] X.env)).all (fun x => x.1.isSome)
      && decide (([a] : List Expr).length + ([] : List Keyword).length + (if ([] : List Keyword).isEmpty then 0 else 1) < 30)) = true := by rfl)
    (hline : (apos.endLine == cpos.line) = true := by rfl) (hs : starEach [a] X.env = (false, eval a X.env) :: starEach [] X.env := by rfl) :
    QE X tb Wx (.Call (.Attribute o name apos) [a] [] cpos) (eM1 f mo ma) := by
  refine PE.imp (pe_bm PySem.F.plainAttrs_list slot hty hm ho (pa_cons ha pa_nil hs) hbase hfew hline hs) fun σ H Q ⟨W, env, S, R, q⟩ => ?_
  refine ⟨W, env, S, R, Ans.imp (Ans.bind (R := Rep (pm X tb)) R.sto q) fun v H1 ⟨W1, S1, t, x1, r1, rx, q1⟩ => ?_⟩
  obtain ⟨ty, q2⟩ := chkL_ans r1 rx q1
  refine ⟨ty, W1, env, S1, R.later r1 x1, Ans.imp (Ans.bind (R := Rep (pm X tb)) r1 q2) fun y H2 ⟨W2, S2, u, x2, r2, ry, q3⟩ => ?_⟩
  exact ⟨y, rfl, W2, S2, t, u, r2, rx.mono r1 x2, ry, Ans.unmask q3⟩
theorem q_m0 {f : T → M T} (slot : Slot "list" name id) (hty : typeOf (.builtin id) = pure (.type "method_descriptor")) (hm : MtR X id (rM0 (pm X tb) f)) (ho : QE X tb Wx o mo)
    (hbase : attributeBase o name X.env (eval o X.env) = eval o X.env := by rfl) (hline : (apos.endLine == cpos.line) = true := by rfl) : QE X tb Wx (.Call (.Attribute o name apos) [] [] cpos) (eM0 f mo) := by
  refine PE.imp (pe_bm0 PySem.F.plainAttrs_list slot hty hm ho hbase hline) fun σ H Q ⟨W, env, S, R, q⟩ => ?_
  refine ⟨W, env, S, R, Ans.imp (Ans.bind (R := Rep (pm X tb)) R.sto q) fun v H1 ⟨W1, S1, t, x1, r1, rx, q1⟩ => ?_⟩
  obtain ⟨ty, q2⟩ := chkL_ans r1 rx q1
  exact ⟨ty, rfl, W1, S1, t, r1, rx, Ans.unmask q2⟩
end
section
variable {X : Cx} {tb : Tb}
/-- a tracked mutable list -/
theorem loc_lst {p : Pm} {W : Wd} {S : Sto} {H : Hp} {n : Nat} {xs : List T} (R : RelS p W H S) (e : S.get n = some (.lst xs)) : ∃ vs, H (W.mu n) = some (.lst vs) ∧ Reps p W H xs vs := by
  cases R.get e with
  | lst e2 rr => exact ⟨_, e2, rr⟩
theorem set_lst {p : Pm} {W : Wd} {S : Sto} {H : Hp} {n : Nat} {xs ys : List T} {ws : List V} (R : RelS p W H S) (e : S.get n = some (.lst xs)) (r : Reps p W H ys ws) :
    Ext W S H W (S.set n (.lst ys)) (upd H (W.mu n) (.lst ws)) ∧ RelS p W (upd H (W.mu n) (.lst ws)) (S.set n (.lst ys)) :=
  ⟨Ext.set (Sto.get_key e), R.set (Sto.get_key e) (.lst upd_same (r.setH R (Sto.get_key e)))⟩
theorem mt_app : MtR X "list.append" (rM1 (pm X tb) opAppend) := by
  refine MtR.imp mt_append ?_
  rintro x xs H Q ⟨y, rfl, W, S, t, u, R, rx, ry, q⟩
  unfold opAppend at q
  cases rx with
  | @loc n hl =>
    dsimp only at q
    split at q
    · rename_i zs e
      split at q
      · rename_i hf
        obtain ⟨vs, e2, rr⟩ := loc_lst R e
        have hz := few_le hf
        rw [List.length_cons, rr.length] at hz
        obtain ⟨x3, r3⟩ := set_lst R e (rr.append (.cons ry .nil))
        exact ⟨_, vs, y, rfl, rfl, e2, hz, q _ _ _ x3 r3 .non⟩
      · exact q.elim
    · exact q.elim
  | _ => exact q.elim
theorem ext_tup (l : Addr) (its : Array Value) (n : Nat) (b : Addr) (o : Obj) (its2 : Array Value) (n2 : Nat) (h0 : ¬(!its.isEmpty && Builtin.List.listTooLong (its.size + its2.size)) = true) (h1 : its.size ≤ sizeLine) (h2 : its.size + its2.size ≤ sizeLine + 1)
    (hc : o.cls = .type "tuple") (hd : o.data = .seq its2 n2) : Meets (Builtin.«list.extend» ⟨[.ref l, .ref b], []⟩) (fun _ R s => s.heap.get? l = some { cls := .type "list", dict := none, data := .seq its n, slots := #[] } ∧ s.heap.get? b = some o ∧
      R (.ok (.ret Value.none)) { s with heap := s.heap.update l (Obj.mapSeq fun x => x ++ its2), toks := s.toks }) :=
  .of_wp fun prog w A R s h => by
    obtain ⟨cls, dct, dt, sl⟩ := o
    dsimp only at hc hd
    subst hc hd
    obtain ⟨hp, g, d, tk, os⟩ := s
    obtain ⟨hl, hb, h⟩ := h
    have f2 := AutoSeq1.sub_tuple_tuple
    have f3 := AutoSeq1.sub_list_list
    have f4 := AutoSeq1.sub_tuple_list
    have f5 := AutoSeq1.sub_list_tuple
    have hz' : (its ++ its2).size ≤ sizeLine + 1 := by rw [Array.size_append]; exact h2
    wp_walk using (wpAny_updateSeq hl rfl (hz := h1) (_hz' := hz')), AutoSeq1.wpAny_loadPart' hl, AutoSeq1.wpAny_loadPart' hb
    exact ⟨_, rfl, h⟩
theorem mt_ext : MtR X "list.extend" (rM1 (pm X tb) opExtend) := by
  rintro pins s σ H x xs v us Q I rxv rxs ⟨y, rfl, W, S, t, u, R, rx, ry, q⟩
  unfold opExtend at q
  cases rx with
  | @loc n hl =>
    dsimp only at q
    split at q
    · rename_i zs e
      obtain ⟨vs, e2, rr⟩ := loc_lst R e
      cases ed : deref S u with
      | lst ys =>
        rw [ed] at q
        dsimp only [rowOf] at q
        split at q
        · rename_i hf
          obtain ⟨b, ws, rfl, e3, rr2⟩ := row_lst R ry ed
          have hz := few_le hf
          rw [List.length_append, rr.length, rr2.length] at hz
          obtain ⟨x3, r3⟩ := set_lst R e (rr.append rr2)
          exact mt_extend pins s σ H _ _ v us Q I rxv rxs ⟨_, b, vs, ws, rfl, rfl, e2, e3, hz, q _ _ _ x3 r3 .non⟩
        · exact q.elim
      | tup ys =>
        rw [ed] at q
        dsimp only [rowOf] at q
        split at q
        · rename_i hf
          obtain ⟨_, b, ws, rfl, sq, rr2⟩ := row_tup R ry ed
          have hz := few_le hf
          rw [List.length_append, rr.length, rr2.length] at hz
          obtain ⟨x3, r3⟩ := set_lst R e (rr.append rr2)
          have q2 := q _ _ _ x3 r3 .non
          cases rxv
          obtain ⟨u2, rfl, ru⟩ := rxs.one
          cases ru
          obtain ⟨z, its, nn, rv, hln, ho⟩ := I.lstM e2
          obtain ⟨its2, rv2, ⟨ob, hob, hoc, n2, hod⟩, z2⟩ := I.tuple sq
          have hln2 := rv2.length
          have hsz : its.toArray.size + its2.toArray.size ≤ sizeLine := by rw [List.size_toArray, List.size_toArray]; omega
          have hlong : ¬ (!its.toArray.isEmpty && Builtin.List.listTooLong (its.toArray.size + its2.toArray.size)) = true := by
            rw [notLongL hsz, Bool.and_false]
            exact Bool.false_ne_true
          refine call_meets PySem.F.slot_list_extend ⟨_, ho, rfl⟩ PySem.F.entry_list_extend (PySem.F.args_list_extend_2 _ _) (ext_tup _ its.toArray nn b ob its2.toArray n2 hlong (by rw [List.size_toArray]; omega) (by omega) hoc hod) ⟨ho, hob, ?_⟩
          exact ⟨.non, _, I.lset (its' := its ++ its2) e2 ho (by simp) (rv.append rv2) (by rw [List.length_append]; omega), rfl, q2⟩
        · exact q.elim
      | _ => rw [ed] at q; exact q.elim
    · exact q.elim
  | _ => exact q.elim
theorem mt_popT : MtR X "list.pop" (rM0 (pm X tb) opPop) := by
  refine MtR.imp mt_pop ?_
  rintro x xs H Q ⟨rfl, W, S, t, R, rx, q⟩
  unfold opPop at q
  cases rx with
  | @loc n hl =>
    dsimp only at q
    split at q
    · rename_i zs e
      split at q
      · rename_i ys z ec
        obtain ⟨vs, e2, rr⟩ := loc_lst R e
        have hcut := cutLast_eq ec
        have hlen := rr.length
        have hz : zs[zs.length - 1]? = some z := by rw [hcut]; simp
        have hdl : zs.dropLast = ys := by rw [hcut]; simp
        obtain ⟨w, hw, rw'⟩ := rr.get hz
        have rd : Reps (pm X tb) W H ys vs.dropLast := by rw [← hdl]; exact rr.dropLast
        obtain ⟨x3, r3⟩ := set_lst R e rd
        exact ⟨_, vs, w, rfl, rfl, e2, by rw [← hlen]; exact hw, q _ _ _ x3 r3 (rw'.mono R x3)⟩
      · exact q.elim
    · exact q.elim
  | _ => exact q.elim
theorem ixN_nat {k n : Nat} (h : k < n) : ixN n (Int.ofNat k) = some k := by
  unfold ixN
  rw [if_pos (show (0 : Int) ≤ Int.ofNat k by simp only [Int.ofNat_eq_natCast]; omega), if_pos (show Int.ofNat k < (n : Int) by simp only [Int.ofNat_eq_natCast]; omega)]
  rfl
theorem seqIx_nat {k n : Nat} (h : k < n) : seqIndex? (Int.ofNat k) n = some k := (ixN_seq (ixN_nat h)).1
theorem mt_popAtT : MtR X "list.pop" (rM1 (pm X tb) opPopAt) := by
  refine MtR.imp mt_popAt ?_
  rintro x xs H Q ⟨y, rfl, W, S, t, u, R, rx, ry, q⟩
  unfold opPopAt at q
  cases rx with
  | @loc n hl =>
    dsimp only at q
    split at q
    · rename_i zs e
      split at q
      · rename_i k
        split at q
        · rename_i z ez
          split at q
          · rename_i hf
            cases ry
            rw [nth_eq] at ez
            obtain ⟨vs, e2, rr⟩ := loc_lst R e
            obtain ⟨w, hw, rw'⟩ := rr.get ez
            obtain ⟨hk, _⟩ := List.getElem?_eq_some_iff.mp hw
            have hz := few_le hf
            have hlen := rr.length
            have rd : Reps (pm X tb) W H (dropAt zs k) (vs.eraseIdx k) := by rw [dropAt_eq]; exact rr.erase k
            obtain ⟨x3, r3⟩ := set_lst R e rd
            have hline : sizeLine = 16777216 := sizeLine_eq
            refine ⟨_, vs, Int.ofNat k, k, w, rfl, rfl, e2, by simp only [Int.ofNat_eq_natCast]; omega, by simp only [Int.ofNat_eq_natCast]; omega, seqIx_nat hk, hw, q _ _ _ x3 r3 (rw'.mono R x3)⟩
          · exact q.elim
        · exact q.elim
      · exact q.elim
    · exact q.elim
  | _ => exact q.elim
end

/-! ### o[i] = v -/
def setIx (o i v : T) : M Unit := fun S => match o with
  | .loc n => match S.get n with
    | some (.dic kvs) => match fits kvs i && few (v :: kvs.map (·.2)) with
      | true => .ok () (S.set n (.dic (dPut kvs i v)))
      | false => .no
    | some (.lst xs) => match i with
      | .int (.ofNat k) => match Nat.blt k xs.length with
        | true => .ok () (S.set n (.lst (setN xs k v)))
        | false => .no
      | _ => .no
    | _ => .no
  | _ => .no
def rSet (p : Pm) : TSet := fun o i v H Q => ∃ W S t u w, RelS p W H S ∧ Rep p W H t o ∧ Rep p W H u i ∧ Rep p W H w v ∧ Ans p E0 (fun _ _ (_ : Unit) (_ : Unit) => True) W S H (fun _ H' => Q H') (setIx t u w S)
theorem set_ix {X : Cx} {tb : Tb} (hu : X.A.units + 100 < cLine) : PSet X (rSet (pm X tb)) := by
  rintro pins s σ H o i v ov iv u Q I ro ri rv ⟨W, S, t, t2, w, R, rt, ru, rw', q⟩
  unfold setIx at q
  cases rt with
  | @loc n hl =>
    dsimp only at q
    cases ro
    split at q
    · rename_i kvs e
      split at q
      · rename_i hf
        rw [Bool.and_eq_true] at hf
        have hz := few_le hf.2
        rw [List.length_cons, List.length_map] at hz
        refine run_dset hu I R ru rw' ri rv e hf.1 hz fun s' ho I' R' => ⟨_, I', q W _ () ?_ R' trivial⟩
        exact Ext.set (Sto.get_key e)
      · exact q.elim
    · rename_i xs e
      split at q
      · rename_i k
        split at q
        · rename_i hk
          have hk' : k < xs.length := Nat.le_of_ble_eq_true hk
          cases ru
          obtain ⟨vs, e2, rr⟩ := loc_lst R e
          have hlen := rr.length
          have rd : Reps (pm X tb) W H (setN xs k w) (vs.set k v) := by rw [setN_eq]; exact rr.set k rw'
          obtain ⟨x3, r3⟩ := set_lst R e rd
          exact set_list pins s σ H (.ref (W.mu n)) _ v (.ref (W.mu n)) iv u Q I rfl ri rv ⟨_, vs, Int.ofNat k, k, rfl, rfl, e2, ixN_nat (by omega), q W _ () x3 r3 trivial⟩
        · exact q.elim
      · exact q.elim
    · exact q.elim
  | _ => exact q.elim
def sSetIx (o i v : ME) : MS := fun env => bnd (v env) fun y => bnd (o env) fun x => bnd (i env) fun k => bnd (noX (setIx x k y)) fun _ => ret (.nx env)
theorem qs_setIx {X : Cx} {tb : Tb} {E : XK} {o i v : Expr} {mo mi mv : ME} {pos spos : Pos} (hu : X.A.units + 100 < cLine) (ho : QE X tb (cw E) o mo) (hi : QE X tb (cw E) i mi) (hv : QE X tb (cw E) v mv)
    (ha : ∀ v, assign (.Subscript o i spos) X.env v = (do
      let ov ← holding [v] (eval o X.env)
      let iv ← holding [v, ov] (eval i X.env)
      standAt spos
      holding [v, ov, iv] (setItem ov iv v)
      release [v, ov, iv] []) := by intro _; rfl)
    (hs : swapsWithSole [.Subscript o i spos] v pos.line X.env = pure false := by rfl) (hw : swappedStores [.Subscript o i spos] v X.env = pure none := by rfl)
    (h1 : (assignEach [.Subscript o i spos] X.env).map (·.2) = [assign (.Subscript o i spos) X.env] := by rfl) : QS X tb E (.Assign [.Subscript o i spos] v pos) (sSetIx mo mi mv) := by
  refine PS.imp (ps_asg hv (pg_sub ho hi (set_ix (tb := tb) hu) ha) hs hw h1) fun D σ H ⟨W, env, S, R, q⟩ => ?_
  refine ⟨W, env, S, R, Ans.imp (Ans.bind (R := Rep (pm X tb)) R.sto q) fun y H1 ⟨W1, S1, t, x1, r1, ry, q1⟩ => ?_⟩
  refine ⟨W1, env, S1, R.later r1 x1, Ans.imp (Ans.bind (R := Rep (pm X tb)) r1 q1) fun x H2 ⟨W2, S2, t2, x2, r2, rx, q2⟩ => ?_⟩
  refine ⟨W2, env, S2, (R.later r1 x1).later r2 x2, Ans.imp (Ans.bind (R := Rep (pm X tb)) r2 q2) fun k H3 ⟨W3, S3, t3, x3, r3, rk, q3⟩ => ?_⟩
  refine ⟨W3, S3, t2, t3, t, r3, rx.mono r2 x3, rk, (ry.mono r1 x2).mono r2 x3, ?_⟩
  have q4 := Ans.bind (R := fun _ _ (_ : Unit) (_ : Unit) => True) r3 q3
  exact Ans.unmask (Ans.imp q4 fun _ H4 ⟨W4, S4, _, x4, r4, _, q5⟩ => r_nx (D := D) r4 q5 ((((R.env.mono R.sto x1).mono r1 x2).mono r2 x3).mono r3 x4))

/-! ### dict displays -/
def eD0 : ME := fun _ S => .ok (.loc S.nxt) (S.add (.dic []))
theorem q_d0 {X : Cx} {tb : Tb} {Wx : WX} {pos : Pos} : QE X tb Wx (.Dict [] [] pos) eD0 := by
  refine PE.imp pe_dnewK fun σ H Q ⟨W, env, S, R, q⟩ => fun a ha => ?_
  have x : Ext W S H (W.add a) (S.add (.dic [])) (upd H a (.dK [])) := Ext.add R.sto ha (upd_keep ha)
  have rel : RelS (pm X tb) (W.add a) (upd H a (.dK [])) (S.add (.dic [])) := R.sto.add ha (upd_keep ha) (.dicK upd_same .nil)
  refine q (W.add a) _ _ x rel ?_
  have em : (W.add a).mu S.nxt = a := if_pos R.sto.nxt
  have z : Rep (pm X tb) (W.add a) (upd H a (.dK [])) (.loc S.nxt) (.ref ((W.add a).mu S.nxt)) := .loc (show S.nxt < W.nxt + 1 by rw [R.sto.nxt]; exact Nat.lt_succ_self _)
  rw [em] at z
  exact z
end Pi
set_option Elab.async false
set_option linter.all false
set_option autoImplicit false
set_option maxRecDepth 100000
set_option maxHeartbeats 1000000
/-! Pi12: dict displays, lists of dicts, sorted, enumerate. -/
namespace Pi
open PySem PySem.Spec PyProof.Rows L2

/-! ### {k: v, ..}, the keys ints or texts -/
def mPairs : List (ME × ME) → EnvT → M (List (T × T))
  | [], _ => ret []
  | p :: r, env => bnd (p.1 env) fun k => bnd (p.2 env) fun v => bnd (mPairs r env) fun kvs => ret ((k, v) :: kvs)
def putAll : List (T × T) → List (T × T) → List (T × T)
  | acc, [] => acc
  | acc, p :: r => putAll (dPut acc p.1 p.2) r
def leafKeys : List (T × T) → Bool
  | [] => true
  | p :: r => match isLeaf p.1 with
    | true => leafKeys r
    | false => false
def mkDic (kvs : List (T × T)) : M T := match leafKeys kvs && Nat.ble kvs.length 15 with
  | true => fun S => .ok (.loc S.nxt) (S.add (.dic (putAll [] kvs)))
  | false => stuck
def eDisp (ps : List (ME × ME)) : ME := fun env => bnd (mPairs ps env) mkDic
inductive RepP (p : Pm) (W : Wd) (H : Hp) : List (T × T) → List (V × V) → Prop
  | nil : RepP p W H [] []
  | cons {k v : T} {x y : V} {kvs : List (T × T)} {ps : List (V × V)} : Rep p W H k x → Rep p W H v y → RepP p W H kvs ps → RepP p W H ((k, v) :: kvs) ((x, y) :: ps)
theorem RepP.mono {p : Pm} {W W' : Wd} {S S' : Sto} {H H' : Hp} (R : RelS p W H S) (x : Ext W S H W' S' H') : ∀ {kvs : List (T × T)} {ps : List (V × V)}, RepP p W H kvs ps → RepP p W' H' kvs ps
  | _, _, .nil => .nil
  | _, _, .cons a b r => .cons (a.mono R x) (b.mono R x) (RepP.mono R x r)
theorem mPairs_run {X : Cx} {tb : Tb} {Wx : WX} {σ : St} {env : EnvT} : ∀ {ms : List (ME × ME)} {W : Wd} {S : Sto} {H : Hp} {Q : List (V × V) → Hp → Prop}, Rl (pm X tb) W env S σ H → Ans (pm X tb) (fun c d H' => Wx c d σ H') (RepP (pm X tb)) W S H Q (mPairs ms env S) →
    tPairs (ms.map fun m => (tE (pm X tb) Wx m.1, tE (pm X tb) Wx m.2)) σ H Q
  | [], W, S, H, Q, R, q => q.ret_ R.sto .nil
  | m :: ms, W, S, H, Q, R, q => by
    show tE (pm X tb) Wx m.1 σ H _
    refine ⟨W, env, S, R, Ans.imp (Ans.bind (R := Rep (pm X tb)) R.sto q) fun x H1 ⟨W1, S1, t, x1, r1, rx, q1⟩ => ?_⟩
    refine ⟨W1, env, S1, R.later r1 x1, Ans.imp (Ans.bind (R := Rep (pm X tb)) r1 q1) fun y H2 ⟨W2, S2, u, x2, r2, ry, q2⟩ => ?_⟩
    refine mPairs_run ((R.later r1 x1).later r2 x2) (Ans.imp (Ans.bind (R := RepP (pm X tb)) r2 q2) fun ps H3 ⟨W3, S3, kvs, x3, r3, rp, q3⟩ => ?_)
    exact q3.ret_ r3 (.cons ((rx.mono r1 x2).mono r2 x3) (ry.mono r2 x3) rp)
theorem leaf_pairs {p : Pm} {W : Wd} {H : Hp} : ∀ {kvs : List (T × T)} {ps : List (V × V)}, RepP p W H kvs ps → leafKeys kvs = true → ∃ ks : List (Key × V), ps = ks.map (fun kv => (kV kv.1, kv.2)) ∧ RepK p W H kvs ks ∧ ks.length = kvs.length
  | _, _, .nil, _ => ⟨[], rfl, .nil, rfl⟩
  | _, _, .cons (k := k) a b r, h => by
    unfold leafKeys at h
    dsimp only at h
    cases e : isLeaf k with
    | false => rw [e] at h; cases h
    | true =>
      rw [e] at h
      obtain ⟨ks, e1, e2, e3⟩ := leaf_pairs r h
      cases a with
      | int i => exact ⟨(.inl i, _) :: ks, by rw [e1]; rfl, .cons rfl b e2, by simp [e3]⟩
      | str x => exact ⟨(.inr _, _) :: ks, by rw [e1]; rfl, .cons rfl b e2, by simp [e3]⟩
      | _ => cases e
theorem putAll_rep {p : Pm} {W : Wd} {H : Hp} : ∀ {kvs : List (T × T)} {ks : List (Key × V)} {acc : List (T × T)} {as : List (Key × V)}, RepK p W H acc as → RepK p W H kvs ks → RepK p W H (putAll acc kvs) (mergeK as ks)
  | [], _, acc, as, ra, .nil => ra
  | (k, t) :: kvs, _, acc, as, ra, .cons (q := q) (v := v) (ks := ks) e b r => by
    show RepK p W H (putAll (dPut acc k t) kvs) (mergeK (putK as q v) ks)
    exact putAll_rep (ra.put e b) r
theorem q_disp {X : Cx} {tb : Tb} {Wx : WX} {pos : Pos} {keys : List (Option Expr)} {values : List Expr} {ms : List (ME × ME)} (h : PPs X pos keys values (ms.map fun m => (tE (pm X tb) Wx m.1, tE (pm X tb) Wx m.2))) (hall : keys.all (·.isSome) = true) (hl : keys.length = values.length) (h0 : keys ≠ [])
    (h15 : keys.length ≤ 15) : QE X tb Wx (.Dict keys values pos) (eDisp ms) := by
  refine PE.imp (pe_disp h hall hl h0 h15) fun σ H Q ⟨W, env, S, R, q⟩ => fun a ha => ?_
  have x0 : Ext W S H W S (upd H a (.dK [])) := Ext.grow (upd_keep ha)
  have r0 : RelS (pm X tb) W (upd H a (.dK [])) S := R.sto.grow (upd_keep ha)
  have nk0 : ∀ n, n ∈ S.keys → W.mu n ≠ a := fun n hn e => (R.sto.key hn).2.2 (by rw [e]; exact ha)
  have nf0 : ¬ W.fz a := fun z => R.sto.fzs a z ha
  refine mPairs_run (R.later r0 x0) ?_
  unfold eDisp bnd at q
  cases e : mPairs ms env S with
  | no => rw [e] at q; exact q.elim
  | exc c fs S' => rw [e] at q; exact fun W' H' d gs x r b d' => q W' H' d gs (x0.trans R.sto r0 x) r b d'
  | ok kvs S1 =>
    rw [e] at q
    dsimp only at q
    intro W1 H1 ps x1 r1 rp
    have hd : H1 a = some (.dK []) := x1.keep a _ upd_same nk0
    have nk : ∀ n, n ∈ S1.keys → W1.mu n ≠ a := fun n hn e => by
      rcases x1.own n hn with z | z
      · rw [x1.mu n (r0.key z).1] at e; exact nk0 n z e
      · rw [e, upd_same] at z; cases z
    have nf : ¬ W1.fz a := fun z => by
      rcases x1.fzn a z with q | q | ⟨n, q, e⟩
      · exact nf0 q
      · rw [upd_same] at q; cases q
      · exact nk0 n q e
    have rh : RelS (pm X tb) W1 (Pi.hide a H1) S1 := r1.off nk nf fun b hb => hide_ne hb
    have xh : Ext W S H W1 S1 (Pi.hide a H1) := by
      have := x1.hide (D := a)
      rw [hide_upd, hide_none ha] at this
      exact this
    unfold mkDic at q
    cases hc : leafKeys kvs && Nat.ble kvs.length 15 with
    | false => rw [hc] at q; exact q.elim
    | true =>
      rw [hc] at q
      rw [Bool.and_eq_true] at hc
      obtain ⟨ks, e1, e2, e3⟩ := leaf_pairs rp hc.1
      refine ⟨hd, ks, e1, by rw [e3]; exact Nat.le_of_ble_eq_true hc.2, ?_⟩
      have hk : ∀ b u, Pi.hide a H1 b = some u → upd H1 a (.dK (mergeK [] ks)) b = some u := fun b u hb => by
        by_cases hba : b = a
        · rw [hba, hide_at] at hb; cases hb
        · rw [upd_ne hba]; rwa [hide_ne hba] at hb
      have x2 : Ext W1 S1 (Pi.hide a H1) (W1.add a) (S1.add (.dic (putAll [] kvs))) (upd H1 a (.dK (mergeK [] ks))) := Ext.add rh hide_at hk
      have l2 : Lat W1 H1 (W1.add a) (upd H1 a (.dK (mergeK [] ks))) := (Lat.hid' nf).trans (x2.lat rh)
      have r2 : RelS (pm X tb) (W1.add a) (upd H1 a (.dK (mergeK [] ks))) (S1.add (.dic (putAll [] kvs))) :=
        rh.add hide_at hk (.dicK upd_same (putAll_rep .nil (RepK.mono' l2.mu l2.nxt l2.fz l2.keep e2)))
      refine q (W1.add a) _ _ (xh.trans R.sto rh x2) r2 ?_
      have em : (W1.add a).mu S1.nxt = a := if_pos rh.nxt
      have z : Rep (pm X tb) (W1.add a) (upd H1 a (.dK (mergeK [] ks))) (.loc S1.nxt) (.ref ((W1.add a).mu S1.nxt)) := .loc (show S1.nxt < W1.nxt + 1 by rw [rh.nxt]; exact Nat.lt_succ_self _)
      rw [em] at z
      exact z
theorem vals_by : ∀ {xs : List V} {us : List Value}, xs.length = us.length → (∀ (i : Nat) v u, xs[i]? = some v → us[i]? = some u → RelV v u) → Vals xs us
  | [], [], _, _ => .nil
  | [], _ :: _, h, _ => by simp at h
  | _ :: _, [], h, _ => by simp at h
  | x :: xs, u :: us, h, f => .cons (f 0 x u rfl rfl) (vals_by (by simpa using h) fun i v w a b => f (i + 1) v w (by simpa using a) (by simpa using b))

/-! ### list(d), the keys tuples -/
def keysT : List (T × T) → List T
  | [] => []
  | p :: r => p.1 :: keysT r
/-- list(x), of lists, tuples, dicts: a list that stays -/
def opListA (t : T) : M T := fun S => match rowsOf (deref S t) with
  | some xs => mkLst xs S
  | none => match dictOf S t with
    | some kvs => match nestOk kvs with
      | true => mkLst (keysT kvs) S
      | false => .no
    | none => .no
theorem keysT_rep {p : Pm} {W : Wd} {H : Hp} : ∀ {kvs : List (T × T)} {ks : List Ent}, RepE p W H kvs ks → Reps p W H (keysT kvs) (ks.map fun k => V.ref k.2.1)
  | _, _, .nil => .nil
  | _, _, .cons _ _ a _ r => .cons a (keysT_rep r)
theorem pairedE_get {ks : List Ent} {us : List EntU} (pr : PairedE ks us) : ∀ {i : Nat} {y : EntU}, us[i]? = some y → ∃ k, ks[i]? = some k ∧ k.2.1 = y.2.1 := by
  unfold PairedE at pr
  induction pr with
  | nil => intro i y h; simp at h
  | cons h t ih =>
    intro i y e
    cases i with
    | zero => simp at e; subst e; exact ⟨_, rfl, h.2.1⟩
    | succ i => exact ih (by simpa using e)
theorem cr_listA {X : Cx} {tb : Tb} (hc : X.calm = true) : CallR X (.type "list") (rC1 (pm X tb) opListA) := by
  rintro pins s σ H xs us Q I rv ⟨x, rfl, W, S, t, R, r, q⟩
  unfold opListA at q
  split at q
  · rename_i ys ed
    obtain ⟨a, vs, rfl, sq, rr⟩ := rows_of R r ed
    exact call_list_of pins s σ H _ us Q I rv ⟨a, vs, rfl, sq, fun l hl => (Ans.lst R rr q hl).2⟩
  · split at q
    · rename_i kvs ek
      split at q
      · rename_i hn
        obtain ⟨a, rfl, da⟩ := dictOf_at R r ek
        obtain ⟨ks, us2, rk, pr, dd, hs, hz, _⟩ := nest_view I da hn
        obtain ⟨u, rfl, ru⟩ := vals1 rv
        cases ru
        obtain ⟨es, ep, raw, hsz, hes⟩ := dd.raw
        have hlen := pr.length
        refine PySem.W.kdl_call (PySem.KdlSrc.rawDict hs) (I.ok.hd hc) raw (by omega) fun h' tk acc c k e it => ?_
        have rks := keysT_rep rk
        have hv : Vals (ks.map fun k => V.ref k.2.1) acc.toList := by
          refine vals_by (by
            have e0 : acc.toList.length = acc.size := Array.length_toList
            rw [List.length_map, e0, it.1]; omega) fun i v u hi hu => ?_
          rw [Array.getElem?_toList] at hu
          obtain ⟨hi2, e2⟩ := it.2 i u hu
          obtain ⟨y, hy, ek2, _⟩ := hes i hi2
          obtain ⟨k2, hk2, ek3⟩ := pairedE_get pr hy
          rw [List.getElem?_map, hk2] at hi
          cases hi
          rw [e2, ek2, ← ek3]
          exact rfl
        have hz2 : (ks.map fun k => V.ref k.2.1).length ≤ sizeLine := by rw [List.length_map]; exact hz
        refine ⟨.ref s.heap.objs.size, _, I.laid (t' := tk) k (Nat.le_refl _) (show ObjOk X.prog X.w _ h' _ (.lst (ks.map fun k => V.ref k.2.1)) from ⟨hz2, acc.toList, c, hv, by simpa using e⟩), rfl, (Ans.lst R rks q (I.hok.fresh (Nat.le_refl _))).2⟩
      · exact q.elim
    · exact q.elim
end Pi
set_option Elab.async false
set_option linter.all false
set_option autoImplicit false
set_option maxRecDepth 100000
set_option maxHeartbeats 1000000
/-! Pi13: sorted; enumerate over tuples. -/
namespace Pi
open PySem PySem.Spec PyProof.Rows L2

/-! ### insertion -/
def insB {α : Type} (le : α → α → Bool) (x : α) : List α → List α
  | [] => [x]
  | y :: r => match le x y with
    | true => x :: y :: r
    | false => y :: insB le x r
def sortB {α : Type} (le : α → α → Bool) : List α → List α
  | [] => []
  | x :: r => insB le x (sortB le r)
section
variable {α : Type} {le : α → α → Bool}
theorem insB_mem {x z : α} : ∀ {l : List α}, z ∈ insB le x l → z = x ∨ z ∈ l
  | [], h => .inl (List.mem_singleton.mp h)
  | y :: r, h => by
    unfold insB at h
    cases e : le x y with
    | true =>
      rw [e] at h
      rcases List.mem_cons.mp h with q | q
      · exact .inl q
      · exact .inr q
    | false =>
      rw [e] at h
      rcases List.mem_cons.mp h with q | q
      · exact .inr (by rw [q]; exact List.mem_cons_self)
      · rcases insB_mem q with q | q
        · exact .inl q
        · exact .inr (List.mem_cons_of_mem _ q)
theorem insB_pw (h : PySem.W.TotalLe le) (x : α) : ∀ {l : List α}, l.Pairwise (fun a b => le a b = true) → (insB le x l).Pairwise (fun a b => le a b = true)
  | [], _ => List.pairwise_singleton _ _
  | y :: r, hp => by
    obtain ⟨h1, h2⟩ := List.pairwise_cons.mp hp
    unfold insB
    cases e : le x y with
    | true =>
      refine List.pairwise_cons.mpr ⟨fun z hz => ?_, hp⟩
      rcases List.mem_cons.mp hz with q | q
      · rw [q]; exact e
      · exact h.trans _ _ _ e (h1 z q)
    | false =>
      have hyx : le y x = true := (h.total x y).elim (fun z => by rw [e] at z; cases z) id
      refine List.pairwise_cons.mpr ⟨fun z hz => ?_, insB_pw h x h2⟩
      rcases insB_mem hz with q | q
      · rw [q]; exact hyx
      · exact h1 z q
theorem insB_filter (h : PySem.W.TotalLe le) (c x : α) : ∀ {l : List α}, (insB le x l).filter (PySem.W.sameRank le c) = (x :: l).filter (PySem.W.sameRank le c)
  | [] => rfl
  | y :: r => by
    unfold insB
    cases e : le x y with
    | true => rfl
    | false =>
      have ih := insB_filter h c x (l := r)
      show (y :: insB le x r).filter _ = _
      -- x and y are not both equal to c
      have no : PySem.W.sameRank le c x = true → PySem.W.sameRank le c y = true → False := fun hx hy => by
        unfold PySem.W.sameRank at hx hy
        rw [Bool.and_eq_true] at hx hy
        have := h.trans _ _ _ hx.2 hy.1
        rw [e] at this; cases this
      cases hy : PySem.W.sameRank le c y with
      | false =>
        have hy' : ¬ PySem.W.sameRank le c y = true := by rw [hy]; exact Bool.false_ne_true
        rw [List.filter_cons_of_neg hy', ih]
        cases hx : PySem.W.sameRank le c x with
        | true => rw [List.filter_cons_of_pos hx, List.filter_cons_of_pos hx, List.filter_cons_of_neg hy']
        | false =>
          have hx' : ¬ PySem.W.sameRank le c x = true := by rw [hx]; exact Bool.false_ne_true
          rw [List.filter_cons_of_neg hx', List.filter_cons_of_neg hx', List.filter_cons_of_neg hy']
      | true =>
        have hx' : ¬ PySem.W.sameRank le c x = true := fun z => no z hy
        rw [List.filter_cons_of_pos hy, ih, List.filter_cons_of_neg hx', List.filter_cons_of_neg hx', List.filter_cons_of_pos hy]
theorem sortB_pw (h : PySem.W.TotalLe le) : ∀ l : List α, (sortB le l).Pairwise (fun a b => le a b = true)
  | [] => .nil
  | x :: r => insB_pw h x (sortB_pw h r)
theorem sortB_filter (h : PySem.W.TotalLe le) (c : α) : ∀ l : List α, (sortB le l).filter (PySem.W.sameRank le c) = l.filter (PySem.W.sameRank le c)
  | [] => rfl
  | x :: r => by
    show (insB le x (sortB le r)).filter _ = _
    rw [insB_filter h, List.filter_cons, List.filter_cons, sortB_filter h c r]
theorem sortB_eq (h : PySem.W.TotalLe le) (l : List α) : sortB le l = l.mergeSort le := PySem.W.sort_unique h (sortB_pw h l) fun c => sortB_filter h c l
theorem sortB_mem {z : α} : ∀ {l : List α}, z ∈ sortB le l → z ∈ l
  | [], h => h
  | x :: r, h => by
    rcases insB_mem h with q | q
    · rw [q]; exact List.mem_cons_self
    · exact List.mem_cons_of_mem _ (sortB_mem q)
/-- sorted by pairs, and then the first halves, is the first halves sorted -/
theorem insB_map {β : Type} {le2 : β → β → Bool} (f : β → α) (x : β) : ∀ (l : List β), (∀ y, y ∈ l → le2 x y = le (f x) (f y)) → (insB le2 x l).map f = insB le (f x) (l.map f)
  | [], _ => rfl
  | y :: r, h => by
    have e := h y List.mem_cons_self
    show (match le2 x y with | true => x :: y :: r | false => y :: insB le2 x r).map f = (match le (f x) (f y) with | true => f x :: f y :: r.map f | false => f y :: insB le (f x) (r.map f))
    rw [← e]
    cases le2 x y with
    | true => rfl
    | false =>
      show f y :: (insB le2 x r).map f = _
      rw [insB_map f x r fun z hz => h z (List.mem_cons_of_mem _ hz)]
theorem sortB_map {β : Type} {le2 : β → β → Bool} (f : β → α) : ∀ (l : List β), (∀ x, x ∈ l → ∀ y, y ∈ l → le2 x y = le (f x) (f y)) → (sortB le2 l).map f = sortB le (l.map f)
  | [], _ => rfl
  | x :: r, h => by
    show (insB le2 x (sortB le2 r)).map f = insB le (f x) (sortB le (r.map f))
    rw [insB_map f x _ fun y hy => h x List.mem_cons_self y (List.mem_cons_of_mem _ (sortB_mem hy)), sortB_map f r fun a ha b hb => h a (List.mem_cons_of_mem _ ha) b (List.mem_cons_of_mem _ hb)]
end

/-! ### sorted, of data that are alike -/
def alkTo (x : T) : List T → Bool
  | [] => true
  | y :: r => match alk x y && alk y x with
    | true => alkTo x r
    | false => false
def alkAll : List T → Bool
  | [] => true
  | x :: r => match alk x x && alkTo x r with
    | true => alkAll r
    | false => false
def tupNe : T → Bool
  | .tup (_ :: _) => true
  | _ => false
def plainS : T → Bool
  | .bl _ => true
  | .int _ => true
  | .str _ => true
  | .lst _ => true
  | _ => false
def eachT (f : T → Bool) : List T → Bool
  | [] => true
  | x :: r => match f x with
    | true => eachT f r
    | false => false
theorem eachT_iff {f : T → Bool} : ∀ {l : List T}, eachT f l = true → ∀ x, x ∈ l → f x = true
  | [], _, _, h => by cases h
  | y :: r, h, x, hx => by
    unfold eachT at h
    cases e : f y with
    | false => rw [e] at h; cases h
    | true =>
      rw [e] at h
      rcases List.mem_cons.mp hx with q | q
      · rw [q]; exact e
      · exact eachT_iff h x q
theorem alkTo_iff {x : T} : ∀ {l : List T}, alkTo x l = true → ∀ y, y ∈ l → alk x y = true ∧ alk y x = true
  | [], _, _, h => by cases h
  | z :: r, h, y, hy => by
    unfold alkTo at h
    cases e : alk x z && alk z x with
    | false => rw [e] at h; cases h
    | true =>
      rw [e] at h
      rcases List.mem_cons.mp hy with q | q
      · rw [q]; exact Bool.and_eq_true_iff.mp e
      · exact alkTo_iff h y q
theorem alkAll_iff : ∀ {l : List T}, alkAll l = true → ∀ x, x ∈ l → ∀ y, y ∈ l → alk x y = true
  | [], _, _, hx, _, _ => by cases hx
  | z :: r, h, x, hx, y, hy => by
    unfold alkAll at h
    cases e : alk z z && alkTo z r with
    | false => rw [e] at h; cases h
    | true =>
      rw [e] at h
      obtain ⟨e1, e2⟩ := Bool.and_eq_true_iff.mp e
      rcases List.mem_cons.mp hx with q | q <;> rcases List.mem_cons.mp hy with q2 | q2
      · rw [q, q2]; exact e1
      · rw [q]; exact (alkTo_iff e2 y q2).1
      · rw [q2]; exact (alkTo_iff e2 x q).2
      · exact alkAll_iff h x q y q2
def leT (x y : T) : Bool := !ltv y x
def sortOk (xs : List T) : Bool := few xs && alkAll xs && isDs xs 50 && (eachT tupNe xs || eachT plainS xs)
def opSorted (t : T) : M T := fun S => match rowsOf (deref S t) with
  | some xs => match sortOk xs with
    | true => .ok (.lst (sortB leT xs)) S
    | false => .no
  | none => match dictOf S t with
    | some kvs => match nestOk kvs && sortOk (keysT kvs) with
      | true => .ok (.lst (sortB leT (keysT kvs))) S
      | false => .no
    | none => .no
def opSortedR (t : T) : M T := fun S => match rowsOf (deref S t) with
  | some xs => match sortOk xs with
    | true => .ok (.lst (sortB leT xs)) S
    | false => .no
  | none => .no
theorem isDs_mem {n : Nat} : ∀ {xs : List T}, isDs xs n = true → ∀ x, x ∈ xs → isD x n = true
  | [], _, _, h => by cases h
  | y :: r, h, x, hx => by
    simp only [isDs, Bool.and_eq_true] at h
    rcases List.mem_cons.mp hx with q | q
    · rw [q]; exact h.1
    · exact isDs_mem h.2 x q
section
variable {prog : Program} {w : World} {A : Around} {E : Value → Shared → Prop} {s : Shared} {β : Type} {vs : List Value} {bs : List β} {enc : β → PyData} {R : Value → β → Prop}
open PySem.W in
/-- sorted(x), x a list or a tuple -/
theorem sorted_seq {it : Addr} {ty : String} {o : Obj} {n : Nat} {Q : Value → Shared → Prop} (hT : ty = "list" ∨ ty = "tuple") (ho : s.heap.get? it = some o) (hc : o.cls = .type ty) (hd : o.data = .seq vs.toArray n) (e : EachIs R vs bs) (er : EachIs (fun v b => ∃ as, Reads s.heap v (enc b) as) vs bs)
    (hal : AllAlike (bs.map enc)) (hk : Sortable (bs.map enc)) (hL : bs.length ≤ sizeLine) (hu : ∀ b, b ∈ bs → A.units + 5 + (enc b).depth < cLine)
    (h : ∀ out (h1 h' : Heap) (c : Nat), out.length = bs.length → EachIs R out (bs.mergeSort (dataLe false enc)) → (∀ b o', s.heap.get? b = some o' → h1.get? b = some o') → (∀ b o', h1.get? b = some o' → h'.get? b = some o') → h'.get? h1.objs.size = some (seqObj "list" (List.toArray out) c) → Q (.ref h1.objs.size) { s with heap := h' }) :
    wpAny (model prog w) A (call (.builtin "sorted") [.ref it]) Q E s := by
  have hvs : vs.length ≤ sizeLine := by rw [e.length]; exact hL
  refine Calls.call_function_entry kind_sorted plain_sorted entry_sorted (args_sorted1 _) ?_
  unfold Builtin.«sorted»
  refine wpAny_bind (m := checkCount "sorted" 1 1 _) (wpAny_pure ?_)
  refine wpAny_bind (wpAny_collect_seq it hT ho hc hd (fun h1 k1 => ?_) (by simpa using hvs))
  refine wpAny_bind (wpAny_newList ?_ hvs)
  generalize hg : h1.push (seqObj "list" vs.toArray 0) = h2
  have ho2 : h2.get? h1.objs.size = some (seqObj "list" vs.toArray 0) := by rw [← hg]; exact Heap.get?_push_size _ rfl
  have k2 : ∀ b o', s.heap.get? b = some o' → h2.get? b = some o' := fun b o' z => by rw [← hg]; exact Heap.get?_push_of_some _ (k1 b o' z)
  have lt1 : ∀ b o', s.heap.get? b = some o' → b < h1.objs.size := fun b o' z => Heap.lt_size (k1 b o' z)
  have er' : EachIs (fun v b => ∃ as, Reads (sortingHeap h2 h1.objs.size vs) v (enc b) as) vs bs := er.mono fun _ _ ⟨as, r⟩ => ⟨as, PyProof.Rows.Reads.keeps (fun b o' z => sortingHeap_old (Nat.ne_of_lt (lt1 b o' z)) (k2 b o' z)) r⟩
  show wpAny (model prog w) A.in1 (do
    let _ ← holding [Value.ref h1.objs.size] (call (.builtin "list.sort") [Value.ref h1.objs.size] [])
    PySem.ret (Value.ref h1.objs.size)) _ _ { s with heap := h2 }
  refine wpAny_bind (wpAny_holding (wpAny_call_entry slot_list_sort ⟨_, ho2, rfl⟩ entry_list_sort (list_sort_vals (s := { s with heap := h2 }) (κ := dataKind (sortingHeap h2 h1.objs.size vs) (bs.map enc)) ho2
    (SortsAt.data (s := { s with heap := sortingHeap h2 h1.objs.size vs }) (each_map (R := fun v d => ∃ as, Reads (sortingHeap h2 h1.objs.size vs) v d as) enc er') hal hk (bound_map fun b hb => ?_)) hvs ⟨.none, rfl, ?_⟩) (args_list_sort _)))
  · have := hu b hb
    show A.units + 1 + 1 + (enc b).depth < cLine
    omega
  · refine wpAny_pure ⟨_, rfl, ?_⟩
    obtain ⟨c, hat⟩ := PyProof.Rows.sortedHeap_at (out := (sortVals (dataKind (sortingHeap h2 h1.objs.size vs) (bs.map enc)) false vs vs).toArray) ho2
    refine h _ h1 _ c (by rw [sortVals_length false rfl]; exact e.length) (sortVals_data false e er' hal) k1 (fun b o' z => ?_) hat
    have l1 : b < h1.objs.size := Heap.lt_size z
    have z2 : h2.get? b = some o' := by rw [← hg]; exact Heap.get?_push_of_some _ z
    rw [PyProof.Rows.sortedHeap_old (Nat.ne_of_lt l1) (Heap.lt_size z2)]
    exact z2
end
/-- values in order, by halves -/
theorem each_of {p : Pm} {W : Wd} {H : Hp} {R : Value → T × V → Prop} {f : T × V → Value → Prop} : ∀ {ts : List T} {vs : List V} {us : List Value}, Reps p W H ts vs → Vals vs us → (∀ t v u, t ∈ ts → Rep p W H t v → RelV v u → R u (t, v)) → PySem.W.EachIs R us (ts.zip vs)
  | _, _, _, .nil, .nil, _ => .nil
  | _, _, _, .cons (t := t) a r, .cons b q, h => .cons (h _ _ _ List.mem_cons_self a b) (each_of (f := f) r q fun t v u hm => h t v u (List.mem_cons_of_mem _ hm))
theorem each_rel {R : Value → T × V → Prop} : ∀ {us : List Value} {bs : List (T × V)}, PySem.W.EachIs R us bs → (∀ u b, R u b → RelV b.2 u) → Vals (bs.map (·.2)) us
  | _, _, .nil, _ => .nil
  | _, _, .cons h t, f => .cons (f _ _ h) (each_rel t f)
theorem reps_of {p : Pm} {W : Wd} {H : Hp} : ∀ {bs : List (T × V)}, (∀ b, b ∈ bs → Rep p W H b.1 b.2) → Reps p W H (bs.map (·.1)) (bs.map (·.2))
  | [], _ => .nil
  | b :: r, h => .cons (h b List.mem_cons_self) (reps_of fun c hc => h c (List.mem_cons_of_mem _ hc))
theorem Reps.zip {p : Pm} {W : Wd} {H : Hp} : ∀ {ts : List T} {vs : List V}, Reps p W H ts vs → (ts.zip vs).map (·.1) = ts ∧ (ts.zip vs).map (·.2) = vs ∧ ∀ b, b ∈ ts.zip vs → Rep p W H b.1 b.2 ∧ b.1 ∈ ts
  | _, _, .nil => ⟨rfl, rfl, fun b h => by cases h⟩
  | _, _, .cons (t := t) (v := v) (ts := ts) (vs := vs) a r => by
    obtain ⟨h1, h2, h3⟩ := Reps.zip r
    refine ⟨by show t :: (ts.zip vs).map (·.1) = t :: ts; rw [h1], by show v :: (ts.zip vs).map (·.2) = v :: vs; rw [h2], fun b hb => ?_⟩
    rcases List.mem_cons.mp (show b ∈ (t, v) :: ts.zip vs from hb) with q | q
    · rw [q]; exact ⟨a, List.mem_cons_self⟩
    · exact ⟨(h3 b q).1, List.mem_cons_of_mem _ (h3 b q).2⟩
theorem tup_dat {t : T} (h : tupNe t = true) : ∃ x r, dat t = .tuple (x :: r) := by
  cases t with
  | tup xs => cases xs with
    | nil => cases h
    | cons x r => exact ⟨_, _, rfl⟩
  | _ => cases h
theorem plain_dat {t : T} (h : plainS t = true) : dat t ≠ .none ∧ ∀ xs, dat t ≠ .tuple xs := by
  cases t <;> first | (cases h; done) | exact ⟨(fun z => nomatch z), fun _ z => nomatch z⟩
section
variable {X : Cx} {tb : Tb} {pins : List (Addr × Obj)} {σ : St} {H : Hp} {s : Shared} {W : Wd} {S : Sto}
theorem run_sorted (hu : X.A.units + 100 < cLine) (I : Inv X pins σ H s) (R : RelS (pm X tb) W H S) {a : Addr} {ts : List T} {vs : List V} {us : List Value} {n : Nat} {ty : String} {o : Obj} {E : Value → Shared → Prop} {Q : VK} (hT : ty = "list" ∨ ty = "tuple") (ho : s.heap.get? a = some o) (hc : o.cls = .type ty) (hd : o.data = .seq us.toArray n)
    (rr : Reps (pm X tb) W H ts vs) (rv : Vals vs us) (hk : sortOk ts = true) (q : Ans (pm X tb) E0 (Rep (pm X tb)) W S H Q (ret (T.lst (sortB leT ts)) S)) : wpAny (model X.prog X.w) X.A (call (.builtin "sorted") [.ref a]) (EP X pins σ Q) E s := by
  unfold sortOk at hk
  rw [Bool.and_eq_true, Bool.and_eq_true, Bool.and_eq_true, Bool.or_eq_true] at hk
  obtain ⟨⟨⟨k1, k2⟩, k3⟩, k4⟩ := hk
  obtain ⟨z1, z2, z3⟩ := rr.zip
  have hlen := rr.length
  have hdat : ∀ b, b ∈ ts.zip vs → isD b.1 50 = true := fun b hb => isDs_mem k3 _ (z3 b hb).2
  have hal : PySem.W.AllAlike ((ts.zip vs).map fun b => dat b.1) := fun d hd d' hd' => by
    obtain ⟨b, hb, rfl⟩ := List.mem_map.mp hd
    obtain ⟨c, hcm, rfl⟩ := List.mem_map.mp hd'
    exact alk_dat _ _ (alkAll_iff k2 _ (z3 b hb).2 _ (z3 c hcm).2)
  have hso : PySem.W.Sortable ((ts.zip vs).map fun b => dat b.1) := by
    rcases k4 with k4 | k4
    · refine .inl fun d hd => ?_
      obtain ⟨b, hb, rfl⟩ := List.mem_map.mp hd
      exact tup_dat (eachT_iff k4 _ (z3 b hb).2)
    · refine .inr fun d hd => ?_
      obtain ⟨b, hb, rfl⟩ := List.mem_map.mp hd
      exact plain_dat (eachT_iff k4 _ (z3 b hb).2)
  have hzl : (ts.zip vs).length = ts.length := by rw [List.length_zip, hlen, Nat.min_self]
  refine sorted_seq (enc := fun b => dat b.1) (R := fun u b => RelV b.2 u) hT ho hc hd (each_of (f := fun _ _ => True) rr rv fun t v u _ _ q => q) (each_of (f := fun _ _ => True) rr rv fun t v u ht rt ru => Dp.reads I _ _ _ (rt.dp (isDs_mem k3 t ht)) ru) hal hso
    (by rw [hzl]; exact few_le k1) (fun b hb => ?_) fun out h1 h' c l1 eo kp1 kp2 hat => ?_
  · have := (isD_plain _ _ (hdat b hb)).2
    omega
  · have tot : PySem.W.TotalLe (PySem.W.dataLe false fun b : T × V => dat b.1) := PySem.W.sortLe_total _ _ _
    rw [← sortB_eq tot] at eo
    have hv := each_rel eo fun _ _ z => z
    have hr : Reps (pm X tb) W H ((sortB (PySem.W.dataLe false fun b : T × V => dat b.1) (ts.zip vs)).map (·.1)) ((sortB (PySem.W.dataLe false fun b : T × V => dat b.1) (ts.zip vs)).map (·.2)) :=
      reps_of fun b hb => (z3 b (sortB_mem hb)).1
    have e1 : (sortB (PySem.W.dataLe false fun b : T × V => dat b.1) (ts.zip vs)).map (·.1) = sortB leT ts := by
      rw [sortB_map (le := leT) (·.1) (ts.zip vs) fun x hx y hy => ?_, z1]
      show (!(PySem.W.dataLt (dat y.1) (dat x.1))) = !(ltv y.1 x.1)
      rw [ltv_dat y.1 x.1 50 50 (hdat y hy) (hdat x hx) (alkAll_iff k2 _ (z3 y hy).2 _ (z3 x hx).2)]
    rw [e1] at hr
    have I1 : Inv X pins σ H { s with heap := h1 } := I.kept (t' := s.toks) kp1
    have hf : H h1.objs.size = none := I1.hok.fresh (Nat.le_refl _)
    have hz2 : ((sortB (PySem.W.dataLe false fun b : T × V => dat b.1) (ts.zip vs)).map (·.2)).length ≤ sizeLine := by
      rw [hv.length, l1, hzl]; exact few_le k1
    refine ⟨.ref h1.objs.size, _, I1.laid (t' := s.toks) kp2 (Nat.le_refl _) (show ObjOk X.prog X.w _ h' _ (.lst _) from ⟨hz2, out, c, hv, hat⟩), rfl, ?_⟩
    exact q (W.put h1.objs.size) _ _ (Ext.new hf) (R.new hf) (.lst (.inr rfl) upd_same (hr.mono R (Ext.new hf)))
theorem cr_sortedR (hu : X.A.units + 100 < cLine) : CallR X (.builtin "sorted") (rC1 (pm X tb) opSortedR) := by
  rintro pins s σ H xs us Q I rv ⟨x, rfl, W, S, t, R, r, q⟩
  unfold opSortedR at q
  split at q
  · rename_i ts ed
    split at q
    · rename_i hk
      obtain ⟨a, vs, rfl, sq, rr⟩ := rows_of R r ed
      obtain ⟨u, rfl, ru⟩ := vals1 rv
      cases ru
      rcases sq with sq | sq
      · obtain ⟨its, rv2, ⟨o, nn, ho, hc, hdn, hd⟩, _⟩ := I.list sq
        exact run_sorted hu I R (.inl rfl) ho hc hd rr rv2 hk q
      · obtain ⟨its, rv2, ⟨o, ho, hc, nn, hd⟩, _⟩ := I.tuple sq
        exact run_sorted hu I R (.inr rfl) ho hc hd rr rv2 hk q
    · exact q.elim
  · exact q.elim
end
end Pi
set_option Elab.async false
set_option linter.all false
set_option autoImplicit false
set_option maxRecDepth 100000
set_option maxHeartbeats 1000000
/-! Pi14: enumerate. -/
namespace Pi
open PySem PySem.Spec PyProof.Rows L2

theorem meets_enum1 {v : Value} {o : Obj} {G : Heap → Prop} (B : Begins v o G) :
    Meets (Builtin.«enumerate.__new__» ⟨[.type "enumerate", v], []⟩) (fun _ R s => G s.heap ∧
      R (.ok (.ret (.ref (s.heap.push o).objs.size))) { s with heap := (s.heap.push o).push { cls := .type "enumerate", data := .fields #[.none, .bool false, .ref s.heap.objs.size, rawInt 0, .none, .none] } }) :=
  .of_wp fun prog w A R s h => by
    obtain ⟨hp, g, d, tk, os⟩ := s
    obtain ⟨h1, h⟩ := h
    have hsub := sub_enumerate
    have qi : ∀ {A' : Around} {E : Value → Shared → Prop} {Q : Value → Shared → Prop}, Q (.ref hp.objs.size) ⟨hp.push o, g, d, tk, os⟩ → wpAny (model prog w) A' (pyIter v) Q E ⟨hp, g, d, tk, os⟩ :=
      fun q => B.iter prog w _ _ ⟨hp, g, d, tk, os⟩ _ h1 q
    wp_walk using qi
    refine wpAny_stack_any fun st => wpAny_pure ?_
    split
    · rename_i c _ _ _ _ _
      cases (c == Value.type "enumerate") <;> (wp_walk using qi; exact ⟨_, rfl, h⟩)
    · wp_walk using qi
      exact ⟨_, rfl, h⟩
section
variable {prog : Program} {w : World} {A : Around} {E : Value → Shared → Prop} {s : Shared}
theorem call_enum1 {v : Value} {o : Obj} {G : Heap → Prop} {Q : Value → Shared → Prop} (B : Begins v o G) (hb : G s.heap)
    (h : ∀ h', IsEnum h' (s.heap.objs.size + 1) s.heap.objs.size 0 .none → h'.get? s.heap.objs.size = some o → (∀ b o, s.heap.get? b = some o → h'.get? b = some o) → Q (.ref (s.heap.objs.size + 1)) { s with heap := h' }) :
    wpAny (model prog w) A (call (.type "enumerate") [v]) Q E s := by
  refine callType_new F.called_enumerate (by decide) (F.typeCall_enumerate_1 _) (F.newCall_enumerate_1 _) (fun obj => F.args_object_init_2 obj _) F.entry_enumerate_new (meets_enum1 B) ⟨hb, ?_⟩
  have hz : (s.heap.push o).objs.size = s.heap.objs.size + 1 := Heap.size_push ..
  show _ ∧ _
  rw [hz]
  have he := Heap.get?_push_size (s.heap.push o) (o := { cls := .type "enumerate", data := .fields #[.none, .bool false, .ref s.heap.objs.size, rawInt 0, .none, .none] }) rfl
  rw [hz] at he
  exact ⟨⟨_, he, rfl⟩, h _ he (Heap.get?_push_of_some _ (Heap.get?_push_size _ B.free)) fun b o x => Heap.get?_push_of_some _ (Heap.get?_push_of_some _ x)⟩
end
/-- the tuple at a, each item in a new pair -/
def Itet (K : PySem.W.Frag) (a : Addr) : It :=
  ⟨fun i H => ∃ (xs : List V) (x : V), SqT K H a xs ∧ xs[i]? = some x, fun i H v H' => ∃ D x, v = .ref D ∧ H D = none ∧ H' = upd H D (.tup [.int (i : Nat), x]) ∧ ∀ xs, SqT K H a xs → xs[i]? = some x, fun i H => ∃ xs : List V, SqT K H a xs ∧ i = xs.length⟩
theorem turn_enumT {P : Program} {w : World} {K : PySem.W.Frag} {elts : List Expr} {kk : Nat} {tpos : Pos} (a e it : Addr) :
    Turn P w K (.Tuple elts kk tpos) (Itet K a) [e, it] e (fun i h => (∃ old, IsEnum h e it ((i : Nat) : Int) old) ∧ h.IsTupleIter it a i ∧ e ≠ it) where
  mem := List.mem_cons_self
  obj := fun i h st b hb => by
    obtain ⟨⟨old, he⟩, ⟨o, ho, _, hd⟩, _⟩ := st
    rcases List.mem_cons.mp hb with z | z
    · rw [z]; exact ⟨_, he, fun v q => nomatch q⟩
    · rw [List.mem_singleton.mp z]; exact ⟨o, ho, fun v q => by rw [hd] at q; cases q⟩
  keep := fun i h h' st k => by
    obtain ⟨⟨old, he⟩, hi, hne⟩ := st
    exact ⟨⟨old, k e List.mem_cons_self _ he⟩, hi.at fun o q => k it (List.mem_cons_of_mem _ List.mem_cons_self) o q, hne⟩
  item := by
    intro X hP hw hK hc i pins s σ H E I hf st hg
    subst hP
    subst hw
    subst hK
    obtain ⟨⟨old, he⟩, hit, hne⟩ := st
    obtain ⟨xs, x, hq, hx⟩ := hg
    obtain ⟨its, rv, pt, _⟩ := I.tuple hq
    obtain ⟨u, hu, ru⟩ := rv.get hx
    have hea : e ≠ a := fun z => by
      obtain ⟨o, ho, hoc, _⟩ := pt
      rw [← z, he] at ho
      cases ho
      injection hoc with hoc
      exact absurd hoc (by decide)
    have hia : a ≠ it := fun z => by
      obtain ⟨o, ho, hoc, _⟩ := pt
      obtain ⟨o2, ho2, hoc2, _⟩ := hit
      rw [z, ho2] at ho
      cases ho
      rw [hoc] at hoc2
      injection hoc2 with hoc2
      exact absurd hoc2 (by decide)
    have hel : e < s.heap.objs.size := Heap.lt_size he
    have hil : it < s.heap.objs.size := by obtain ⟨_, q, _⟩ := hit; exact Heap.lt_size q
    have ha : X.A.in1.handled = none := I.ok.hd hc
    have dr := Draws.tuple (prog := X.prog) (w := X.w) ha it a hia its.toArray
    obtain ⟨hjl, hje⟩ := List.getElem?_eq_some_iff.mp hu
    refine wpAny_pyNext_enum_itemD dr he ⟨hit, pt⟩ (by simpa using hjl) hne (by simp [hne, hea]) fun y h' tk hy ho st' hD hsz hk => ?_
    have ey : y = u := by
      have e2 : its[i]? = some y := by simpa using hy
      rw [hu] at e2; cases e2; rfl
    subst ey
    refine ⟨_, rfl, wpAny_letOwnedTupleGo_enum (s := { s with heap := h', toks := tk + 1 }) ho fun h'' he' sb => ?_⟩
    have hD2 : h''.get? s.heap.objs.size = some { cls := .type "tuple", data := .seq #[.int i tk, y] } := (sb.2 _ (Nat.ne_of_gt hel)).trans hD
    have new : ObjOk X.prog X.w (upd H s.heap.objs.size (.tup [.int (i : Nat), x])) h'' s.heap.objs.size (.tup [.int (i : Nat), x]) :=
      ⟨by show 2 ≤ sizeLine; decide, [.int i tk, y], .cons ⟨_, rfl⟩ (.cons ru .nil), ⟨_, hD2, rfl, _, rfl⟩⟩
    have I1 : Inv X pins σ (upd H s.heap.objs.size (.tup [.int (i : Nat), x])) { s with heap := h'', toks := tk + 1 } :=
      I.turnedNew (ch := [e, it]) (fun b ob hb q => (sb.2 b (fun z => hb (by simp [z]))).trans (hk b ob (fun z => hb (by simp [z])) (fun z => hb (by simp [z])) q)) hf (Nat.le_refl _) new
    refine ⟨.ref s.heap.objs.size, _, I1, rfl, ⟨_, x, rfl, I.hok.fresh (Nat.le_refl _), rfl, fun ys hy => by rw [I.tuple_inj hy hq]; exact hx⟩, ⟨⟨y, ?_⟩, st'.1.at fun o q => (sb.2 it (Ne.symm hne)).trans q, hne⟩, fun b hb => ?_⟩
    · have e1 : ((i + 1 : Nat) : Int) = (i : Int) + 1 := by omega
      rw [e1]
      exact he'
    · have hb' : b < s.heap.objs.size := by
        rcases List.mem_cons.mp hb with z | z
        · rw [z]; exact hel
        · rw [List.mem_singleton.mp z]; exact hil
      rw [upd_ne (Nat.ne_of_lt hb')]
      exact (hf b hb).1
  done := by
    intro X hP hw hK hc i pins s σ H E I hf st hg
    subst hP
    subst hw
    subst hK
    obtain ⟨⟨old, he⟩, hit, hne⟩ := st
    obtain ⟨xs, hq, hx⟩ := hg
    obtain ⟨its, rv, pt, _⟩ := I.tuple hq
    have hia : a ≠ it := fun z => by
      obtain ⟨o, ho, hoc, _⟩ := pt
      obtain ⟨o2, ho2, hoc2, _⟩ := hit
      rw [z, ho2] at ho
      cases ho
      rw [hoc] at hoc2
      injection hoc2 with hoc2
      exact absurd hoc2 (by decide)
    have ha : X.A.in1.handled = none := I.ok.hd hc
    obtain ⟨f0, f1, f2, f3, f4, f5⟩ := hf it (List.mem_cons_of_mem _ List.mem_cons_self)
    have dr := Draws.tuple (prog := X.prog) (w := X.w) ha it a hia its.toArray
    have hl := rv.length
    have ei : i = its.toArray.size := by rw [List.size_toArray]; omega
    exact wpAny_pyNext_enum_endD dr he (by rw [← ei]; exact ⟨hit, pt⟩) fun h' eb => ⟨rfl, I.turned (t' := s.toks) (fun b o hb q => eb b o hb q) f0 f1 f3 f4 f5⟩
  self := fun A i s Q E st h => let ⟨⟨_, he⟩, _⟩ := st; wpAny_pyIter_enum he h
/-- a list or a tuple, whichever -/
def iEnumV (K : PySem.W.Frag) (ta : TA) : TI := fun σ H R => ta σ H fun vs H1 => ∃ a, vs = [.ref a] ∧ (((∃ xs, SqL K H1 a xs) ∧ R (Ite K a) H1) ∨ ((∃ xs, SqT K H1 a xs) ∧ R (Itet K a) H1))
theorem pi_enumV {X : Cx} {e : Expr} {ta : TA} {p pos tpos : Pos} {elts : List Expr} {kk : Nat} (hg : Gl X "enumerate") (hm : X.mg "enumerate" = none) (ha : PA X [e] ta) (hs : starEach [e] X.env = [(false, eval e X.env)] := by rfl) :
    PI X (.Tuple elts kk tpos) (.Call (.Name "enumerate" p) [e] [] pos) (iEnumV X.K ta) := by
  refine ⟨fun pins s σ H R I h => ?_⟩
  refine Call_ (ld_blt I hg hm boot_enumerate (PyProof.Rows.callWith_type1 (thn (ha.run pos pins s σ H _ I h) fun us s1 ⟨vs, H1, I1, r1, a, ev, q⟩ => ?_) hs rfl))
  subst ev
  obtain ⟨u, rfl, ru⟩ := vals1 r1
  cases ru
  have fr : ∀ b ∈ [s1.heap.objs.size + 1, s1.heap.objs.size], FpOk X pins H1 b := fun b hb => by
    have hle : s1.heap.objs.size ≤ b := by
      rcases List.mem_cons.mp hb with z | z
      · rw [z]; exact Nat.le_succ _
      · rw [List.mem_singleton.mp z]; exact Nat.le_refl _
    exact I1.fpOk hle (I1.hok.fresh hle)
  rcases q with ⟨⟨xs, sq⟩, q⟩ | ⟨⟨xs, sq⟩, q⟩
  · obtain ⟨its, rv, pl, _⟩ := I1.list sq
    exact call_enumerate_list pl.isList fun h' he hit hsz hk => wpAny_pyIter_enum he ⟨s1.heap.objs.size + 1, [s1.heap.objs.size + 1, s1.heap.objs.size], _, _, H1, rfl, I1.kept (t' := s1.toks) hk, turn_enum a _ _, ⟨⟨.none, he⟩, hit, Nat.succ_ne_self _⟩, fr, q⟩
  · obtain ⟨its, rv, pt, _⟩ := I1.tuple sq
    exact call_enum1 (begins_tuple a its.toArray) pt fun h' he hit hk => wpAny_pyIter_enum he ⟨s1.heap.objs.size + 1, [s1.heap.objs.size + 1, s1.heap.objs.size], _, _, H1, rfl, I1.kept (t' := s1.toks) hk, turn_enumT a _ _, ⟨⟨.none, he⟩, ⟨_, hit, rfl, rfl⟩, Nat.succ_ne_self _⟩, fr, q⟩
def numbered : Nat → List T → List T
  | _, [] => []
  | i, x :: r => .tup [.int (.ofNat i), x] :: numbered (i + 1) r
theorem numbered_len : ∀ (i : Nat) (xs : List T), (numbered i xs).length = xs.length
  | _, [] => rfl
  | i, _ :: r => congrArg Nat.succ (numbered_len (i + 1) r)
theorem numbered_get : ∀ {i j : Nat} {xs : List T} {t : T}, (numbered i xs)[j]? = some t → ∃ x, xs[j]? = some x ∧ t = .tup [.int (((i + j : Nat)) : Int), x]
  | _, _, [], _, h => by simp [numbered] at h
  | i, 0, x :: r, t, h => by
    simp only [numbered, List.getElem?_cons_zero, Option.some.injEq] at h
    exact ⟨x, rfl, h.symm⟩
  | i, j + 1, x :: r, t, h => by
    simp only [numbered, List.getElem?_cons_succ] at h
    obtain ⟨y, h1, h2⟩ := numbered_get h
    refine ⟨y, by simpa using h1, ?_⟩
    rw [h2]
    have : i + 1 + j = i + (j + 1) := by omega
    rw [this]
def iEnumT (a : ME) : MI := fun env => bnd (a env) fun t => match rowsOf t with
  | some xs => ret (numbered 0 xs)
  | none => stuck
section
variable {p : Pm} {W : Wd} {H : Hp}
theorem new_pair {S : Sto} {W' : Wd} {H' : Hp} (R : RelS p W' H' S) {D : Addr} {i : Nat} {x : T} {v : V} (hD : H' D = none) (r : Rep p W' H' x v) :
    ∃ W'', Ext W' S H' W'' S (upd H' D (.tup [.int (i : Nat), v])) ∧ RelS p W'' (upd H' D (.tup [.int (i : Nat), v])) S ∧ Rep p W'' (upd H' D (.tup [.int (i : Nat), v])) (.tup [.int (i : Nat), x]) (.ref D) :=
  ⟨W'.put D, Ext.new hD, R.new hD, .tup (.inl ⟨.inr rfl, upd_same⟩) (.cons (.int _) (.cons (r.mono R (Ext.new hD)) .nil))⟩
theorem wk_enL {d : Addr} {xs : List T} {vs : List V} (f : FzL p W H d vs) (r : Reps p W H xs vs) : Wk p W H (numbered 0 xs) (Ite p.K d) where
  go := fun W' S H' l R i t ht => by
    have f' : SqL p.K H' d vs := (f.mono l.fz l.keep).sq
    obtain ⟨x, hx, rfl⟩ := numbered_get ht
    obtain ⟨v, hv, rv⟩ := (r.lat l).get hx
    refine ⟨⟨vs, v, f', hv⟩, fun y H'' yy => ?_⟩
    obtain ⟨D, v2, rfl, hD, rfl, hh⟩ := yy
    have e2 := hh vs f'
    rw [hv] at e2
    cases e2
    rw [Nat.zero_add]
    exact new_pair R hD rv
  stop := fun W' S H' l R => ⟨vs, (f.mono l.fz l.keep).sq, by rw [numbered_len, r.length]; exact Nat.le_refl _⟩
theorem wk_enT {d : Addr} {xs : List T} {vs : List V} (f : FzT p W H d vs) (r : Reps p W H xs vs) : Wk p W H (numbered 0 xs) (Itet p.K d) where
  go := fun W' S H' l R i t ht => by
    have f' : SqT p.K H' d vs := (f.mono l.fz l.keep).sq
    obtain ⟨x, hx, rfl⟩ := numbered_get ht
    obtain ⟨v, hv, rv⟩ := (r.lat l).get hx
    refine ⟨⟨vs, v, f', hv⟩, fun y H'' yy => ?_⟩
    obtain ⟨D, v2, rfl, hD, rfl, hh⟩ := yy
    have e2 := hh vs f'
    rw [hv] at e2
    cases e2
    rw [Nat.zero_add]
    exact new_pair R hD rv
  stop := fun W' S H' l R => ⟨vs, (f.mono l.fz l.keep).sq, by rw [numbered_len, r.length]⟩
end
theorem qi_enum {X : Cx} {tb : Tb} {Wx : WX} {a : Expr} {ma : ME} {p pos tpos : Pos} {elts : List Expr} {kk : Nat} (hg : Gl X "enumerate") (hm : X.mg "enumerate" = none) (h : QE X tb Wx a ma) (hs : starEach [a] X.env = [(false, eval a X.env)] := by rfl) :
    QI X tb Wx (.Tuple elts kk tpos) (.Call (.Name "enumerate" p) [a] [] pos) (iEnumT ma) := by
  refine PI.imp (pi_enumV hg hm (pa_cons h pa_nil hs) hs) fun σ H Q ⟨W, env, S, R, q⟩ => ?_
  refine ⟨W, env, S, R, Ans.imp (Ans.bind (R := Rep (pm X tb)) R.sto q) fun x H1 ⟨W1, S1, t, x1, r1, rx, q1⟩ => ?_⟩
  cases rx with
  | tup f rr => exact ⟨_, rfl, .inr ⟨⟨_, f.sq⟩, q1.ret_ r1 (wk_enT f rr)⟩⟩
  | lst f e rr => exact ⟨_, rfl, .inl ⟨⟨_, SqL.of e⟩, q1.ret_ r1 (wk_enL (.inl ⟨f, .inl e⟩) rr)⟩⟩
  | scr f rr => exact ⟨_, rfl, .inl ⟨⟨_, f.sq⟩, q1.ret_ r1 (wk_enL f rr)⟩⟩
  | _ => exact q1.elim
end Pi
set_option Elab.async false
set_option linter.all false
set_option autoImplicit false
set_option maxRecDepth 100000
set_option maxHeartbeats 1000000
/-! Pi15: defs and their calls. -/
namespace Pi
open PySem PySem.Spec PyProof.Rows L2

abbrev Df := List T → M T
def rtF : Fl → M T
  | .nx _ => ret .non
  | .rt t => ret t
  | _ => stuck
def padE : Nat → EnvT
  | 0 => []
  | n + 1 => none :: padE n
def startE : List T → Nat → EnvT
  | [], k => padE k
  | t :: ts, k => some t :: startE ts k
/-- what is younger than the entry is forgotten -/
def gone (m : M T) : M T := fun S => match m S with
  | .ok t S' => .ok t (S'.exit S.nxt)
  | .exc c fs S' => .exc c fs S'
  | .no => .no
/-- a def of n parameters, k more slots, by its body -/
def dfn (n k : Nat) (b : MS) : Df := fun ts => match Nat.beq ts.length n with
  | true => bnd (b (startE ts k)) rtF
  | false => stuck
def dfx (n k : Nat) (b : MS) : Df := fun ts => gone (dfn n k b ts)
/-- a def's promise -/
def spD (p : Pm) (d : Df) : Sp := fun vs H Q _ => ∃ W S ts, RelS p W H S ∧ Reps p W H ts vs ∧ Ans p E0 (Rep p) W S H Q (d ts S)
theorem padE_eq : ∀ k, padE k = List.replicate k none
  | 0 => rfl
  | k + 1 => by rw [List.replicate_succ, ← padE_eq k]; rfl
theorem startE_eq : ∀ (ts : List T) (k : Nat), startE ts k = ts.map some ++ List.replicate k none
  | [], k => by rw [startE, padE_eq]; rfl
  | t :: ts, k => by rw [startE, startE_eq ts k]; rfl
section
variable {p : Pm} {W : Wd} {S : Sto} {H : Hp}
theorem startE_env {N : List Str} {ts : List T} {vs : List V} {k : Nat} (r : Reps p W H ts vs) (hk : N.length = vs.length + k) : EnvR p W H (startE ts k) (L2.start N vs) := by
  have hl := r.length
  rw [startE_eq]
  unfold L2.start
  have e : N.length - vs.length = k := by omega
  rw [e]
  refine ⟨by simp [hl], fun i t ht => ?_⟩
  by_cases hi : i < ts.length
  · rw [List.getElem?_append_left (by simpa using hi), List.getElem?_map] at ht
    cases et : ts[i]? with
    | none => rw [et] at ht; cases ht
    | some u =>
      rw [et] at ht
      cases ht
      obtain ⟨v, hv, rv⟩ := r.get et
      exact ⟨v, by rw [List.getElem?_append_left (by simp; omega), List.getElem?_map, hv]; rfl, rv⟩
  · rw [List.getElem?_append_right (by simp; omega)] at ht
    have := List.mem_of_getElem? ht
    rw [List.mem_replicate] at this
    cases this.2
theorem gone_ans {E : XK} {Q : VK} {m : M T} (R : RelS p W H S) (q : Ans p E (Rep p) W S H Q (gone m S)) : Ans p E (Rep p) W S H Q (m S) := by
  unfold gone at q
  cases e : m S with
  | ok t S1 =>
    rw [e] at q
    intro W1 H1 v x r rv
    exact q W1 H1 v (x.trans R r (Ext.sub oldL_sub)) (r.sub rfl oldL_sub) rv
  | exc c fs S1 => rw [e] at q; exact q
  | no => rw [e] at q; exact q
end
section
variable {P : Program} {w : World} {K : PySem.W.Frag} {mg : Str → Option Value} {base : Heap} {tb : Tb} {f : Addr} {fd : FuncData}
theorem spD_len {p : Pm} {n k : Nat} {b : MS} {ps : List Str} (hn : ps.length = n) (vs : List V) (H : Hp) (Q : VK) (E : XK) (h : spD p (dfn n k b) vs H Q E) : vs.length = ps.length := by
  obtain ⟨W, S, ts, R, r, q⟩ := h
  unfold dfn at q
  cases e : Nat.beq ts.length n with
  | false => rw [e] at q; exact q.elim
  | true => rw [← r.length, Nat.eq_of_beq_eq_true e, hn]
/-- THE RULE of a def -/
theorem fn_ok {x qual : Str} {params : Arguments} {body : List Stmt} {scope : Scope} {N ps : List Str} {n k lv : Nat} {b : MS} (F : FunD K x qual params body scope [] [] f fd) (Sc : FnScope N ps scope) (hn : ps.length = n) (hk : N.length = n + k)
    (hb : ∀ (cdv : Value) (A : Around) (outer : List Env) (s : Shared) (H : Hp) (E : XK), Room lv (A.deeper (envOfC qual scope s.heap.objs.size f cdv)) → QSs (cxOf CX0 P w K mg base N qual scope f cdv A outer s H E).nox tb E0 body b) :
    FnOk P w K mg base CX0 (lv + 1) f fd ps (spD ⟨P, w, K, tb⟩ (dfn n k b)) := by
  refine F.ok Sc (fun vs H Q E h => spD_len hn vs H Q E h) fun cdv A outer s H vs Q E hr h => ?_
  refine ⟨_, PSs.nox (hb cdv A outer s H E hr), ?_⟩
  have hl := spD_len hn vs H Q E h
  obtain ⟨W, S, ts, R, r, q⟩ := h
  unfold dfn at q
  cases e : Nat.beq ts.length n with
  | false => rw [e] at q; exact q.elim
  | true =>
    rw [e] at q
    refine ⟨W, startE ts k, S, ⟨R, startE_env r (by omega)⟩, Ans.imp (Ans.bind (R := FlR ⟨P, w, K, tb⟩) R q) fun fl H1 ⟨W1, S1, fl', x1, r1, rf, q1⟩ => ?_⟩
    cases rf with
    | nx he =>
      show Q .non H1
      exact Ans.ret_ (p := ⟨P, w, K, tb⟩) (v := V.non) r1 q1 .non
    | @rt t v h =>
      show Q v H1
      exact Ans.ret_ (p := ⟨P, w, K, tb⟩) (v := v) r1 q1 h
    | bk h => exact q1.elim
    | ct h => exact q1.elim
theorem fn_x {ps : List Str} {n k lv : Nat} {b : MS} (h : FnOk P w K mg base CX0 lv f fd ps (spD ⟨P, w, K, tb⟩ (dfn n k b))) : FnOk P w K mg base CX0 lv f fd ps (spD ⟨P, w, K, tb⟩ (dfx n k b)) :=
  h.imp fun vs H Q E ⟨W, S, ts, R, r, q⟩ => ⟨W, S, ts, R, r, gone_ans R q⟩
end
/-- f(..) -/
def eCall (d : Df) (r : MA) : ME := fun env => bnd (r env) d
section
variable {X : Cx} {tb : Tb} {k : Nat} {f : Addr} {fd : FuncData} {ps : List Str} {d d2 : Df} {x m : Str} {pos apos p : Pos} {o e : Expr} {es : List Expr} {mo : ME} {mr : MA}
theorem call_reading {r : MA} {σ : St} {H : Hp} {Q : VK} (h : tE (pm X tb) (cw E0) (eCall d r) σ H Q) : tCall (spD (pm X tb) d) [] E0 (tAr (pm X tb) (cw E0) r) σ H Q := by
  obtain ⟨W, env, S, R, q⟩ := h
  refine ⟨W, env, S, R, Ans.imp (Ans.bind (R := Reps (pm X tb)) R.sto q) fun vs H1 ⟨W1, S1, ts, x1, r1, rx, q1⟩ => ?_⟩
  rw [List.append_nil]
  exact ⟨W1, S1, ts, r1, rx, q1⟩
theorem q_call (F : FnOk X.prog X.w X.K X.mg X.base CX0 k f fd ps (spD (pm X tb) d)) (hr : Room k X.A) (hg : Gl X x) (hm : X.mg x = some (.ref f)) (hk : PySem.W.keepIn X.K (.ref f) = true) (hb : Binds X.K fd ps []) (ha : QA X tb (cw E0) (e :: es) mr)
    (hdb : (x == ("__debug__" : Str)) = false := by decide) (he : starEach (e :: es) X.env = (false, eval e X.env) :: starEach es X.env := by rfl) (hpl : (backTo pos (starEach es X.env)).any (·.1) = false := by rfl) :
    QE X tb (cw E0) (.Call (.Name x p) (e :: es) [] pos) (eCall d mr) :=
  PE.imp (pe_call F hr hg hm hk hb .nil pass0 ha hdb he hpl) fun σ H Q h => call_reading h
theorem q_call0 (F : FnOk X.prog X.w X.K X.mg X.base CX0 k f fd ps (spD (pm X tb) d)) (hr : Room k X.A) (hg : Gl X x) (hm : X.mg x = some (.ref f)) (hk : PySem.W.keepIn X.K (.ref f) = true) (hb : Binds X.K fd ps [])
    (hdb : (x == ("__debug__" : Str)) = false := by decide) : QE X tb (cw E0) (.Call (.Name x p) [] [] pos) (eCall d aNil) :=
  PE.imp (pe_call0 F hr hg hm hk hb .nil pass0 hdb) fun σ H Q ⟨W, env, S, R, q⟩ => ⟨W, S, [], R.sto, .nil, q⟩

/-! ### methods -/
def chkI (nc nf c : Nat) (t : T) : M Unit := fun S => match insOf S t with
  | some (c2, fs) => match Nat.beq c2 c && lowF nf fs with
    | true => .ok () S
    | false => .no
  | none => .no
def eMeth (nc nf c : Nat) (d : Df) (o : ME) (r : MA) : ME := fun env => bnd (o env) fun x => bnd (chkI nc nf c x) fun _ => bnd (r env) fun xs => d (x :: xs)
theorem no_field {pp : Pm} {W : Wd} {H : Hp} {nf : Nat} {m : Str} (hm : ∀ f, f < nf → (m == pp.tb.fd f) = false) : ∀ {fs : List (Nat × T)} {gs : List (Str × V)}, RepF pp W H fs gs → lowF nf fs = true → gs.lookup m = none
  | [], _, .nil, _ => rfl
  | (k, u) :: fs, _, .cons r rr, h => by
    unfold lowF at h
    cases hk : Nat.blt k nf with
    | false => rw [hk] at h; cases h
    | true =>
      rw [hk] at h
      simp only [List.lookup, hm k (Nat.le_of_ble_eq_true hk)]
      exact no_field hm rr h
theorem q_meth {nc nf c : Nat} {pl : Sem Bool} (F : FnOk X.prog X.w X.K X.mg X.base CX0 k f fd ps (spD (pm X tb) d)) (hr : Room k X.A) (hc : c < nc) (ow : Own (pm X tb) nc) (hm : Meth X.K ((pm X tb).cls c) m f) (hmf : ∀ g, g < nf → (m == tb.fd g) = false) (hb : Binds X.K fd ps [])
    (ho : QE X tb (cw E0) o mo) (ha : QA X tb (cw E0) (e :: es) mr)
    (hst : starEach (e :: es) X.env = (false, eval e X.env) :: starEach es X.env := by rfl) (hpl : (backTo pos (starEach es X.env)).any (·.1) = false := by rfl)
    (ht : eval (.Call (.Attribute o m apos) (e :: es) [] pos) X.env = (do
      let ov ← eval o X.env
      standAt apos.atName
      let (f, first) ← holding [ov] (getMethod ov m pl)
      callWith pos f first (backTo pos (starEach (e :: es) X.env)) (backToKw pos (keywordEach [] X.env))) := by rfl) :
    QE X tb (cw E0) (.Call (.Attribute o m apos) (e :: es) [] pos) (eMeth nc nf c d mo mr) := by
  refine PE.imp (pe_meth ho (ow.ins c hc).cl hm F hr hb .nil pass0 ha hst hpl ht) fun σ H Q ⟨W, env, S, R, q⟩ => ?_
  refine ⟨W, env, S, R, Ans.imp (Ans.bind (R := Rep (pm X tb)) R.sto q) fun v H1 ⟨W1, S1, t, x1, r1, rx, q1⟩ => ?_⟩
  unfold bnd chkI at q1
  cases e1 : insOf S1 t with
  | none => rw [e1] at q1; exact q1.elim
  | some cf =>
    obtain ⟨c2, fs⟩ := cf
    rw [e1] at q1
    dsimp only at q1
    cases e2 : Nat.beq c2 c && lowF nf fs with
    | false => rw [e2] at q1; exact q1.elim
    | true =>
      rw [e2] at q1
      rw [Bool.and_eq_true] at e2
      have ec := Nat.eq_of_beq_eq_true e2.1
      subst ec
      obtain ⟨a, dx, gs, rfl, eh, rf⟩ := ins_at r1 rx e1
      refine ⟨a, dx, gs, rfl, eh, no_field hmf rf e2.2, W1, env, S1, R.later r1 x1, Ans.imp (Ans.bind (R := Reps (pm X tb)) r1 q1) fun vs H2 ⟨W2, S2, ts, x2, r2, rv, q2⟩ => ?_⟩
      rw [List.append_nil]
      exact ⟨W2, S2, t :: ts, r2, .cons (rx.mono r1 x2) rv, q2⟩

/-! ### C(..) -/
def madeF (n : Nat) : T → M T
  | .non => frz (.loc n)
  | _ => stuck
def mkIns (c : Nat) (d : Df) (xs : List T) : M T := fun S => bnd (d (.loc S.nxt :: xs)) (madeF S.nxt) (S.add (.ins c []))
def eMake (c : Nat) (d : Df) (r : MA) : ME := fun env => bnd (r env) (mkIns c d)
theorem q_make {c : Nat} (Mk_ : Mk X.K ((pm X tb).cls c) f) (F : FnOk X.prog X.w X.K X.mg X.base CX0 k f fd ps (spD (pm X tb) d)) (hr : Room (k + 1) X.A) (hg : Gl X x) (hm : X.mg x = some (.ref ((pm X tb).cls c))) (hb : Binds X.K fd ps []) (ha : QA X tb (cw E0) (e :: es) mr)
    (hdb : (x == ("__debug__" : Str)) = false := by decide) (he : starEach (e :: es) X.env = (false, eval e X.env) :: starEach es X.env := by rfl) (hpl : (backTo pos (starEach es X.env)).any (·.1) = false := by rfl) :
    QE X tb (cw E0) (.Call (.Name x p) (e :: es) [] pos) (eMake c d mr) := by
  refine PE.imp (pe_make Mk_ F hr hg hm hb .nil pass0 ha hdb he hpl) fun σ H Q ⟨W, env, S, R, q⟩ => ?_
  refine ⟨W, env, S, R, Ans.imp (Ans.bind (R := Reps (pm X tb)) R.sto q) fun vs H1 ⟨W1, S1, ts, x1, r1, rv, q1⟩ => ?_⟩
  intro a dx ha hdx hne
  rw [List.append_nil]
  have hk : ∀ b u, H1 b = some u → upd (upd H1 dx (.own a)) a (.ins ((pm X tb).cls c) dx []) b = some u := fun b u z => by
    rw [upd_ne (ne_of_none z ha), upd_ne (ne_of_none z hdx)]; exact z
  have x2 : Ext W1 S1 H1 (W1.add a) (S1.add (.ins c [])) (upd (upd H1 dx (.own a)) a (.ins ((pm X tb).cls c) dx [])) := Ext.add r1 ha hk
  have r2 : RelS (pm X tb) (W1.add a) (upd (upd H1 dx (.own a)) a (.ins ((pm X tb).cls c) dx [])) (S1.add (.ins c [])) := r1.add ha hk (.ins upd_same .nil)
  have em : (W1.add a).mu S1.nxt = a := if_pos r1.nxt
  have hlt : S1.nxt < (W1.add a).nxt := by show S1.nxt < W1.nxt + 1; rw [r1.nxt]; exact Nat.lt_succ_self _
  have ra : Rep (pm X tb) (W1.add a) (upd (upd H1 dx (.own a)) a (.ins ((pm X tb).cls c) dx [])) (.loc S1.nxt) (.ref a) := by
    have z : Rep (pm X tb) (W1.add a) (upd (upd H1 dx (.own a)) a (.ins ((pm X tb).cls c) dx [])) (.loc S1.nxt) (.ref ((W1.add a).mu S1.nxt)) := .loc hlt
    rwa [em] at z
  have q2 : Ans (pm X tb) (fun c d H' => cw E0 c d σ H') (Rep (pm X tb)) (W1.add a) (S1.add (.ins c [])) _ Q (bnd (d (.loc S1.nxt :: ts)) (madeF S1.nxt) (S1.add (.ins c []))) := Ans.later r1 r2 x2 q1
  refine ⟨W1.add a, S1.add (.ins c []), .loc S1.nxt :: ts, r2, .cons ra (rv.mono r1 x2), Ans.imp (Ans.bind (R := Rep (pm X tb)) r2 q2) fun v H3 ⟨W3, S3, t, x3, r3, rt, q3⟩ => ?_⟩
  cases rt with
  | non => exact ⟨rfl, frz_ans r3 (ra.mono r2 x3) q3⟩
  | _ => exact q3.elim

/-! ### a name that holds one of two defs -/
def eCallV (i g1 : Nat) (d : Df) (g2 : Nat) (d2 : Df) (r : MA) : ME := fun env => match nth env i with
  | some (some (.gl g)) => match Nat.beq g g1 with
    | true => bnd (r env) d
    | false => match Nat.beq g g2 with
      | true => bnd (r env) d2
      | false => stuck
  | _ => stuck
theorem q_callV {i g1 g2 k1 k2 : Nat} (c1 : C8.CalAt X.prog X.w X.K X.mg X.base k1 ((pm X tb).glo g1) (spD (pm X tb) d)) (c2 : C8.CalAt X.prog X.w X.K X.mg X.base k2 ((pm X tb).glo g2) (spD (pm X tb) d2)) (hr : Room k X.A) (hk1 : k1 ≤ k) (hk2 : k2 ≤ k) (hN : X.N[i]? = some x) (hv : Vis X.env.scope x) (ha : QA X tb (cw E0) (e :: es) mr)
    (hd : (x == ("__debug__" : Str)) = false := by decide) (hcd : (x == ("__classdict__" : Str)) = false := by decide)
    (he : starEach (e :: es) X.env = (false, eval e X.env) :: starEach es X.env := by rfl) (hpl : (backTo pos (starEach es X.env)).any (·.1) = false := by rfl) : QE X tb (cw E0) (.Call (.Name x p) (e :: es) [] pos) (eCallV i g1 d g2 d2 mr) := by
  refine PE.imp (C8.pe_cv c1 c2 hr hk1 hk2 hN hv ha hd hcd he hpl) fun σ H Q ⟨W, env, S, R, q⟩ => ?_
  unfold eCallV at q
  rw [nth_eq] at q
  cases ee : env[i]? with
  | none => rw [ee] at q; exact q.elim
  | some ot =>
    cases ot with
    | none => rw [ee] at q; exact q.elim
    | some t =>
      rw [ee] at q
      obtain ⟨v, h1, r⟩ := R.env.get i t ee
      cases r with
      | gl g =>
        dsimp only at q
        cases e1 : Nat.beq g g1 with
        | true =>
          rw [e1] at q
          have := Nat.eq_of_beq_eq_true e1
          subst this
          refine .inl ⟨h1, W, env, S, R, Ans.imp (Ans.bind (R := Reps (pm X tb)) R.sto q) fun vs H1 ⟨W1, S1, ts, x1, r1, rx, q1⟩ => ⟨W1, S1, ts, r1, rx, q1⟩⟩
        | false =>
          rw [e1] at q
          dsimp only at q
          cases e2 : Nat.beq g g2 with
          | true =>
            rw [e2] at q
            have := Nat.eq_of_beq_eq_true e2
            subst this
            refine .inr ⟨h1, W, env, S, R, Ans.imp (Ans.bind (R := Reps (pm X tb)) R.sto q) fun vs H1 ⟨W1, S1, ts, x1, r1, rx, q1⟩ => ⟨W1, S1, ts, r1, rx, q1⟩⟩
          | false => rw [e2] at q; exact q.elim
      | _ => exact q.elim
/-- names of the module -/
theorem q_gl {Wx : WX} {g : Nat} (hg : Gl X x) (hm : X.mg x = some (.ref ((pm X tb).glo g))) (hd : (x == ("__debug__" : Str)) = false := by decide) : QE X tb Wx (.Name x pos) (eC (.gl g)) :=
  q_c (v := .ref ((pm X tb).glo g)) (pe_glob hg hm rfl hd) fun _ _ => .gl g
theorem q_gi {Wx : WX} {i : Int} (hg : Gl X x) (hm : ∃ t, X.mg x = some (.int i t)) (hd : (x == ("__debug__" : Str)) = false := by decide) : QE X tb Wx (.Name x pos) (eC (.int i)) := by
  obtain ⟨t, hm⟩ := hm
  exact q_c (v := .int i) (pe_glob hg hm ⟨t, rfl⟩ hd) fun _ _ => .int i
/-- a tuple of texts of the written part -/
def strsV (l : List (List Nat)) : List V := l.map fun x => .str ⟨x.toArray⟩
def strsT (l : List (List Nat)) : List T := l.map fun x => .str x
theorem strs_rep {pp : Pm} {W : Wd} {H : Hp} : ∀ l, Reps pp W H (strsT l) (strsV l)
  | [] => .nil
  | x :: r => .cons (.str x) (strs_rep r)
theorem q_gt {Wx : WX} {a : Addr} {l : List (List Nat)} (hg : Gl X x) (hm : X.mg x = some (.ref a)) (ht : SqT X.K (fun _ => none) a (strsV l)) (hd : (x == ("__debug__" : Str)) = false := by decide) : QE X tb Wx (.Name x pos) (eC (.tup (strsT l))) :=
  q_c (v := .ref a) (pe_glob hg hm rfl hd) fun _ _ => .tup (.inr ht) (strs_rep l)
end

/-! ### the end -/
theorem law_sp {p : Pm} {d : Df} {H : Hp} {a : Addr} {ns : List Int} (hS : SqL p.K H a (ns.map V.int)) (h : ∃ S', d [.scr (ns.map T.int)] ⟨0, []⟩ = .ok (.bl true) S') : spD p d [.ref a] H (fun v _ => v = .bl true) fun _ _ _ => False := by
  obtain ⟨S', e⟩ := h
  let W : Wd := ⟨0, fun _ => 0, fun b => b = a ∧ H b ≠ none⟩
  have rel : RelS p W H ⟨0, []⟩ := ⟨rfl, (fun n o h => nomatch h), List.nodup_nil, (fun n m h => nomatch h), fun b z => z.2⟩
  have reps : ∀ ns : List Int, Reps p W H (ns.map T.int) (ns.map V.int) := fun ns => by
    induction ns with
    | nil => exact .nil
    | cons n r ih => exact .cons (.int n) ih
  refine ⟨W, ⟨0, []⟩, [.scr (ns.map T.int)], rel, .cons (.scr ?_ (reps ns)) .nil, ?_⟩
  · rcases hS with (q | ⟨o, q⟩) | q
    · exact .inl ⟨⟨rfl, by rw [q]; exact fun z => nomatch z⟩, .inl q⟩
    · exact .inl ⟨⟨rfl, by rw [q]; exact fun z => nomatch z⟩, .inr ⟨o, q⟩⟩
    · exact .inr (.inr q)
  · rw [e]
    intro W' H' v x r rv
    cases rv
    rfl
end Pi
set_option Elab.async false
set_option linter.all false
set_option autoImplicit false
set_option maxRecDepth 100000
set_option maxHeartbeats 1000000
/-! Pi16: == of a dict and the empty one; small helps. -/
namespace Pi
open PySem PySem.Spec PyProof.Rows L2

def noneIn : List (T × T) → Bool
  | [] => true
  | _ => false
theorem noneIn_len : ∀ ks : List (T × T), (ks.length == 0) = noneIn ks
  | [] => rfl
  | _ :: _ => rfl
def opEqD (t u : T) : M T := fun S => match dictOf S t, dictOf S u with
  | some ks, some [] => match leafOk ks with
    | true => .ok (.bl (noneIn ks)) S
    | false => .no
  | _, _ => .no
theorem opEqD_nox : NoX2 opEqD := fun t u S c fs S' h => by
  unfold opEqD at h
  split at h
  · split at h <;> cases h
  · cases h
theorem or_eqD {X : Cx} {tb : Tb} (hu : X.A.units + 100 < cLine) : OpR X (compareOp .Eq) (rP (pm X tb) opEqD) := by
  intro pins s σ H x y v u Q I rx ry ⟨W, S, t, t', R, r1, r2, q⟩
  unfold opEqD at q
  split at q
  · rename_i ks e1 e2
    split at q
    · rename_i hl
      obtain ⟨a, rfl, da⟩ := dictOf_at R r1 e1
      obtain ⟨b, rfl, db⟩ := dictOf_at R r2 e2
      cases rx
      cases ry
      obtain ⟨k1, v1, rk1, kv1, d1, hs1, hz1, _⟩ := leaf_view I da hl
      obtain ⟨k2, v2, rk2, kv2, d2, hs2, hz2, _⟩ := leaf_view I db rfl
      cases rk2
      cases kv2
      have hlen : v1.length = ks.length := by rw [← kv1.length, ← rk1.length]
      refine PySem.W.rcP_dicts (r := true) hs1 hs2 d1 d2 (by omega) (fun hz => ?_) _ _ ?_
      · have : v1 = [] := List.eq_nil_of_length_eq_zero hz
        subst this
        exact .nil
      · have e : (v1.length == ([] : List (Key × Value)).length && true) = noneIn ks := by
          rw [hlen, Bool.and_true]
          exact noneIn_len ks
        rw [e]
        exact ⟨.bl _, H, I, rfl, q.ret_ R (.bl _)⟩
    · exact q.elim
  · exact q.elim
theorem pass_never {X : Cx} {env : Env} : PassesOwn (model X.prog X.w) X.A env fun _ _ => False := PassesOwn.never
/-! ### calls by CalAt -/
section
variable {X : Cx} {tb : Tb} {k : Nat} {f : Addr} {d : Df} {x m : Str} {pos apos p : Pos} {o e : Expr} {es : List Expr} {mo : ME} {mr : MA}
theorem q_cal (c : C8.CalAt X.prog X.w X.K X.mg X.base k f (spD (pm X tb) d)) (hr : Room k X.A) (hm : X.mg x = some (.ref f)) (ha : QA X tb (cw E0) (e :: es) mr) (hg : Gl X x := by rfl)
    (hdb : (x == ("__debug__" : Str)) = false := by decide) (he : starEach (e :: es) X.env = (false, eval e X.env) :: starEach es X.env := by rfl) (hpl : (backTo pos (starEach es X.env)).any (·.1) = false := by rfl) :
    QE X tb (cw E0) (.Call (.Name x p) (e :: es) [] pos) (eCall d mr) := by
  obtain ⟨fd, ps, F, kp, b⟩ := c.ex
  exact q_call F hr hg hm kp b ha hdb he hpl
theorem q_cal0 (c : C8.CalAt X.prog X.w X.K X.mg X.base k f (spD (pm X tb) d)) (hr : Room k X.A) (hm : X.mg x = some (.ref f)) (hg : Gl X x := by rfl)
    (hdb : (x == ("__debug__" : Str)) = false := by decide) : QE X tb (cw E0) (.Call (.Name x p) [] [] pos) (eCall d aNil) := by
  obtain ⟨fd, ps, F, kp, b⟩ := c.ex
  exact q_call0 F hr hg hm kp b hdb
theorem q_mcal {nc nf c : Nat} {pl : Sem Bool} (cl : C8.CalAt X.prog X.w X.K X.mg X.base k f (spD (pm X tb) d)) (hr : Room k X.A) (hc : c < nc) (ow : Own (pm X tb) nc) (hm : Meth X.K ((pm X tb).cls c) m f) (hmf : ∀ g, g < nf → (m == tb.fd g) = false)
    (ho : QE X tb (cw E0) o mo) (ha : QA X tb (cw E0) (e :: es) mr)
    (hst : starEach (e :: es) X.env = (false, eval e X.env) :: starEach es X.env := by rfl) (hpl : (backTo pos (starEach es X.env)).any (·.1) = false := by rfl)
    (ht : eval (.Call (.Attribute o m apos) (e :: es) [] pos) X.env = (do
      let ov ← eval o X.env
      standAt apos.atName
      let (f, first) ← holding [ov] (getMethod ov m pl)
      callWith pos f first (backTo pos (starEach (e :: es) X.env)) (backToKw pos (keywordEach [] X.env))) := by rfl) :
    QE X tb (cw E0) (.Call (.Attribute o m apos) (e :: es) [] pos) (eMeth nc nf c d mo mr) := by
  obtain ⟨fd, ps, F, kp, b⟩ := cl.ex
  exact q_meth F hr hc ow hm hmf b ho ha hst hpl ht
theorem q_mk {c : Nat} (Mk_ : Mk X.K ((pm X tb).cls c) f) (cl : C8.CalAt X.prog X.w X.K X.mg X.base k f (spD (pm X tb) d)) (hr : Room (k + 1) X.A) (hm : X.mg x = some (.ref ((pm X tb).cls c))) (ha : QA X tb (cw E0) (e :: es) mr) (hg : Gl X x := by rfl)
    (hdb : (x == ("__debug__" : Str)) = false := by decide) (he : starEach (e :: es) X.env = (false, eval e X.env) :: starEach es X.env := by rfl) (hpl : (backTo pos (starEach es X.env)).any (·.1) = false := by rfl) :
    QE X tb (cw E0) (.Call (.Name x p) (e :: es) [] pos) (eMake c d mr) := by
  obtain ⟨fd, ps, F, kp, b⟩ := cl.ex
  exact q_make Mk_ F hr hg hm b ha hdb he hpl
end
section
variable {P : Program} {w : World} {K : PySem.W.Frag} {mg : Str → Option Value} {base : Heap} {tb : Tb} {f : Addr}
theorem cal_up {j k : Nat} {sp : Sp} (c : C8.CalAt P w K mg base j f sp) (h : j ≤ k) : C8.CalAt P w K mg base k f sp := by
  obtain ⟨fd, ps, F, kp, b⟩ := c.ex
  exact ⟨fd, ps, F.mono h, kp, b⟩
/-- a def as CalAt -/
theorem cal_of {x qual : Str} {params : Arguments} {body : List Stmt} {scope : Scope} {N ps : List Str} {n k lv : Nat} {b : MS} (F : ∃ fd, FunD K x qual params body scope [] [] f fd) (Sc : FnScope N ps scope) (hn : ps.length = n) (hk : N.length = n + k)
    (hbd : ∀ (kV doc pm : Value) (an : Option Addr) (cdv ct : Value) (us : List Value), us.length = ps.length → bindArgs (PySem.W.fnOf x qual params body scope .none kV doc pm an cdv ct) ⟨us, []⟩ = pure (ps.zip us))
    (hb : ∀ (cdv : Value) (A : Around) (outer : List Env) (s : Shared) (H : Hp) (E : XK), Room lv (A.deeper (envOfC qual scope s.heap.objs.size f cdv)) → QSs (cxOf CX0 P w K mg base N qual scope f cdv A outer s H E).nox tb E0 body b) :
    C8.CalAt P w K mg base (lv + 1) f (spD ⟨P, w, K, tb⟩ (dfn n k b)) := by
  obtain ⟨fd, F⟩ := F
  exact ⟨fd, ps, fn_ok F Sc hn hk hb, F.kp, F.bindsN hbd⟩
theorem cal_x {n k lv : Nat} {b : MS} (c : C8.CalAt P w K mg base lv f (spD ⟨P, w, K, tb⟩ (dfn n k b))) : C8.CalAt P w K mg base lv f (spD ⟨P, w, K, tb⟩ (dfx n k b)) := by
  obtain ⟨fd, ps, F, kp, b⟩ := c.ex
  exact ⟨fd, ps, fn_x F, kp, b⟩
end
end Pi
set_option Elab.async false
set_option linter.all false
set_option autoImplicit false
set_option maxRecDepth 100000
set_option maxHeartbeats 1000000
/-! Pi17: the source of draws, the same in every law. -/
namespace Pi
open PySem PySem.Spec PyProof.Rows L2

section
variable {env env' : EnvT} {S S1 S2 S3 : Sto} {a b : ME} {c : MT} {x y z : T} {sa sb : MS} {f : T → T → M T}
theorem eOp_ok (h1 : a env S = .ok x S1) (h2 : b env S1 = .ok y S2) (h3 : f x y S2 = .ok z S3) : eOp f a b env S = .ok z S3 := by
  unfold eOp bnd
  rw [h1]
  dsimp only
  rw [h2]
  exact h3
theorem eF1_ok {g : T → M T} (h1 : a env S = .ok x S1) (h2 : g x S1 = .ok y S2) : eF1 g a env S = .ok y S2 := by
  unfold eF1 bnd eF1.noX1 noX
  rw [h1]
  dsimp only
  rw [h2]
theorem tB1_ok {k : Bool} (h : a env S = .ok (.bl k) S1) : tB1 a env S = .ok k S1 := by
  unfold tB1 bnd
  rw [h]
  rfl
theorem sSeq_ok (h : sa env S = .ok (.nx env') S1) : sSeq sa sb env S = sb env' S1 := by
  unfold sSeq bnd
  rw [h]
  rfl
theorem sSeq_rt {t : T} (h : sa env S = .ok (.rt t) S1) : sSeq sa sb env S = .ok (.rt t) S1 := by
  unfold sSeq bnd
  rw [h]
  rfl
theorem sIf_t (h : c env S = .ok true S1) : sIf c sa sb env S = sa env S1 := by
  unfold sIf bnd
  rw [h]
theorem sIf_f (h : c env S = .ok false S1) : sIf c sa sb env S = sb env S1 := by
  unfold sIf bnd
  rw [h]
theorem sSet_ok {i : Nat} (h : a env S = .ok x S1) : sSet i a env S = .ok (.nx (setN env i (some x))) S1 := by
  unfold sSet bnd
  rw [h]
  rfl
theorem sRet_ok (h : a env S = .ok x S1) : sRet a env S = .ok (.rt x) S1 := by
  unfold sRet bnd
  rw [h]
  rfl
theorem bnd_ok {α β : Type} {m : M α} {g : α → M β} {v : α} (h : m S = .ok v S1) : bnd m g S = g v S1 := by
  unfold bnd
  rw [h]
theorem sSetIx_ok {o i : ME} {k : T} (h1 : a env S = .ok z S1) (h2 : o env S1 = .ok x S1) (h3 : i env S1 = .ok k S1) (h4 : setIx x k z S1 = .ok () S2) : sSetIx o i a env S = .ok (.nx env) S2 := by
  unfold sSetIx
  rw [bnd_ok h1, bnd_ok h2, bnd_ok h3]
  unfold bnd noX
  rw [h4]
  rfl
end
theorem mul_r {i j : Int} {S : Sto} (h : small64 j = true) : opMul (T.int i) (T.int j) S = .ok (T.int (Int.mul i j)) S := by
  show (match small64 i || small64 j with | true => Out.ok (T.int (Int.mul i j)) S | false => Out.no) = _
  rw [h, Bool.or_true]
theorem mod_p {i : Int} {k : Nat} {S : Sto} : opMod (.int i) (.int (.ofNat (k + 1))) S = .ok (.int (Int.emod i (.ofNat (k + 1)))) S := rfl
theorem small_of {i : Int} (h0 : 0 ≤ i) (h1 : i < 18446744073709551616) : small64 i = true := by
  cases i with
  | ofNat n =>
    show Nat.ble (n + 1) 18446744073709551616 = true
    refine Nat.ble_eq_true_of_le ?_
    simp only [Int.ofNat_eq_natCast] at h1
    omega
  | negSucc n => omega

def kCells : T := .str [99, 101, 108, 108, 115]
def kAt : T := .str [97, 116]
def kDigits : T := .str [100, 105, 103, 105, 116, 115]
def kCount : T := .str [99, 111, 117, 110, 116]
def kFold : T := .str [102, 111, 108, 100]
/-- the source: cells cs -/
def penO (cs : List Int) (a : Nat) (dg ct fd : Int) : Ob := .dic [(kCells, .lst (cs.map T.int)), (kAt, .int (.ofNat a)), (kDigits, .int dg), (kCount, .int ct), (kFold, .int fd)]
def pg (k : T) : ME := eOp opIx (eVar 0) (eC k)
def bDraw : MS :=
  (sSeq (sSetIx (eVar 0) (eC kCount) (eOp opAdd (pg kCount) (eC (.int 1))))
  (sSeq (sIf (tAnd2 (tB1 (eOp opEq (pg kDigits) (eC (.int 0)))) (tB1 (eOp opLt (pg kAt) (eF1 opLen (pg kCells)))))
  (sSeq (sSet 3 (eOp opIx (pg kCells) (pg kAt)))
  (sSeq (sSetIx (eVar 0) (eC kAt) (eOp opAdd (pg kAt) (eC (.int 1))))
  (sIf (tB1 (eOp opGe (eVar 3) (eOp opPow (eC (.int 10)) (eC (.int 18)))))
  (sSetIx (eVar 0) (eC kDigits) (eOp opSub (eVar 3) (eOp opPow (eC (.int 10)) (eC (.int 18)))))
  (sSetIx (eVar 0) (eC kFold) (eOp opMod (eF1 opInt (eOp opAdd (eOp opMul (pg kFold) (eC (.int 69069))) (eVar 3))) (eC (.int 2147483587)))))))
  sNx)
  (sSeq (sIf (tB1 (eOp opGt (pg kDigits) (eC (.int 0))))
  (sSeq (sSet 4 (eOp opMod (eF1 opInt (pg kDigits)) (eVar 1)))
  (sSeq (sSetIx (eVar 0) (eC kDigits) (eOp opDiv (pg kDigits) (eVar 1)))
  (sRet (eVar 4))))
  sNx)
  (sSeq (sSet 2 (eOp opMod (eF1 opInt (eOp opAdd (eOp opAdd (eOp opMul (pg kFold) (eC (.int 48271))) (eOp opMul (pg kCount) (eC (.int 7919)))) (eC (.int 13)))) (eC (.int 2147483647))))
  (sSeq (sSet 2 (eOp opMod (eF1 opInt (eOp opAdd (eOp opAdd (eOp opMul (eVar 2) (eVar 2)) (eOp opMul (eC (.int 31)) (eVar 2))) (pg kCount))) (eC (.int 2147483629))))
  (sSeq (sSetIx (eVar 0) (eC kFold) (eOp opMod (eF1 opInt (eOp opAdd (eOp opMul (eVar 2) (eC (.int 16807))) (eC (.int 7)))) (eC (.int 2147483647))))
  (sRet (eOp opMod (eF1 opInt (eOp opDiv (eVar 2) (eC (.int 64)))) (eVar 1)))))))))
def bPen : MS :=
  (sSeq (sSet 1 (eC (.int 0)))
  (sSeq (sFor (iSeq (eVar 0)) (.nm 2)
  (sSet 1 (eOp opMod (eF1 opInt (eOp opAdd (eOp opMul (eVar 1) (eC (.int 47))) (eVar 2))) (eC (.int 1000000007)))))
  (sRet (eDisp [((eC kCells), (eF1 opListA (eVar 0))), ((eC kAt), (eC (.int 0))), ((eC kDigits), (eC (.int 0))), ((eC kCount), (eC (.int 0))), ((eC kFold), (eVar 1))]))))
section
variable {cs : List Int} {a n : Nat} {dg ct fd : Int} {e1 e2 e3 e4 : Option T}
/-- the state with the source alone -/
abbrev penS (n : Nat) (cs : List Int) (a : Nat) (dg ct fd : Int) : Sto := ⟨n, [(0, penO cs a dg ct fd)]⟩
abbrev dEnv (e1 e2 e3 e4 : Option T) : EnvT := [some (.loc 0), e1, e2, e3, e4]
theorem g_count : pg kCount (dEnv e1 e2 e3 e4) (penS n cs a dg ct fd) = .ok (.int ct) (penS n cs a dg ct fd) := rfl
theorem g_dig : pg kDigits (dEnv e1 e2 e3 e4) (penS n cs a dg ct fd) = .ok (.int dg) (penS n cs a dg ct fd) := rfl
theorem g_fold : pg kFold (dEnv e1 e2 e3 e4) (penS n cs a dg ct fd) = .ok (.int fd) (penS n cs a dg ct fd) := rfl
theorem g_at : pg kAt (dEnv e1 e2 e3 e4) (penS n cs a dg ct fd) = .ok (.int (.ofNat a)) (penS n cs a dg ct fd) := rfl
theorem g_cells : pg kCells (dEnv e1 e2 e3 e4) (penS n cs a dg ct fd) = .ok (.lst (cs.map T.int)) (penS n cs a dg ct fd) := rfl
theorem s_count {v : Int} : setIx (.loc 0) kCount (.int v) (penS n cs a dg ct fd) = .ok () (penS n cs a dg v fd) := rfl
theorem s_dig {v : Int} : setIx (.loc 0) kDigits (.int v) (penS n cs a dg ct fd) = .ok () (penS n cs a v ct fd) := rfl
theorem s_fold {v : Int} : setIx (.loc 0) kFold (.int v) (penS n cs a dg ct fd) = .ok () (penS n cs a dg ct v) := rfl
theorem s_at {v : Nat} : setIx (.loc 0) kAt (.int (.ofNat v)) (penS n cs a dg ct fd) = .ok () (penS n cs v dg ct fd) := rfl
theorem set_k {m : ME} {k : T} {v : Int} {env : EnvT} {S S' : Sto} (h : m (dEnv e1 e2 e3 e4) S = .ok (.int v) S) (h4 : setIx (.loc 0) k (.int v) S = .ok () S') : sSetIx (eVar 0) (eC k) m (dEnv e1 e2 e3 e4) S = .ok (.nx (dEnv e1 e2 e3 e4)) S' :=
  sSetIx_ok (x := .loc 0) (k := k) h rfl rfl h4
/-- the last part: a number below m, from the mix -/
theorem draw_mix {k : Nat} (hk : Nat.blt (k + 1) 1073741824 = true) : ∃ (r fd' : Int), 0 ≤ r ∧ r < Int.ofNat (k + 1) ∧
  (sSeq (sSet 2 (eOp opMod (eF1 opInt (eOp opAdd (eOp opAdd (eOp opMul (pg kFold) (eC (.int 48271))) (eOp opMul (pg kCount) (eC (.int 7919)))) (eC (.int 13)))) (eC (.int 2147483647))))
  (sSeq (sSet 2 (eOp opMod (eF1 opInt (eOp opAdd (eOp opAdd (eOp opMul (eVar 2) (eVar 2)) (eOp opMul (eC (.int 31)) (eVar 2))) (pg kCount))) (eC (.int 2147483629))))
  (sSeq (sSetIx (eVar 0) (eC kFold) (eOp opMod (eF1 opInt (eOp opAdd (eOp opMul (eVar 2) (eC (.int 16807))) (eC (.int 7)))) (eC (.int 2147483647))))
  (sRet (eOp opMod (eF1 opInt (eOp opDiv (eVar 2) (eC (.int 64)))) (eVar 1)))))) (dEnv (some (.int (.ofNat (k + 1)))) e2 e3 e4) (penS n cs a dg ct fd) = .ok (.rt (.int r)) (penS n cs a dg ct fd') := by
  let b1 : Int := Int.emod (Int.add (Int.add (Int.mul fd 48271) (Int.mul ct 7919)) 13) 2147483647
  have hb1 : 0 ≤ b1 ∧ b1 < 2147483647 := ⟨Int.emod_nonneg _ (by decide), Int.emod_lt_of_pos _ (by decide)⟩
  let b2 : Int := Int.emod (Int.add (Int.add (Int.mul b1 b1) (Int.mul 31 b1)) ct) 2147483629
  let f2 : Int := Int.emod (Int.add (Int.mul b2 16807) 7) 2147483647
  have hm : (0 : Int) < Int.ofNat (k + 1) := by
    simp only [Int.ofNat_eq_natCast]
    omega
  refine ⟨Int.emod (Int.ediv b2 64) (.ofNat (k + 1)), f2, Int.emod_nonneg _ (Int.ne_of_gt hm), Int.emod_lt_of_pos _ hm, ?_⟩
  have m1 : ∀ (i : Int) (S : Sto), opMul (.int i) (.int 48271) S = .ok (.int (Int.mul i 48271)) S := fun i S => mul_r rfl
  have m2 : ∀ (i : Int) (S : Sto), opMul (.int i) (.int 7919) S = .ok (.int (Int.mul i 7919)) S := fun i S => mul_r rfl
  have m3 : ∀ (i : Int) (S : Sto), opMul (.int i) (.int 16807) S = .ok (.int (Int.mul i 16807)) S := fun i S => mul_r rfl
  have m4 : ∀ (S : Sto), opMul (.int b1) (.int b1) S = .ok (.int (Int.mul b1 b1)) S := fun S => mul_r (small_of hb1.1 (by omega))
  have m5 : ∀ (S : Sto), opMul (.int 31) (.int b1) S = .ok (.int (Int.mul 31 b1)) S := fun S => mul_r (small_of hb1.1 (by omega))
  refine (sSeq_ok (sSet_ok (eOp_ok (eF1_ok (g := opInt) (eOp_ok (eOp_ok (eOp_ok g_fold rfl (m1 _ _)) (eOp_ok g_count rfl (m2 _ _)) rfl) rfl rfl) rfl) rfl (z := .int b1) rfl))).trans ?_
  refine (sSeq_ok (sSet_ok (eOp_ok (eF1_ok (g := opInt) (eOp_ok (eOp_ok (eOp_ok (x := .int b1) (y := .int b1) rfl rfl (m4 _)) (eOp_ok (x := .int 31) (y := .int b1) rfl rfl (m5 _)) rfl) (g_count (e2 := some (.int b1))) rfl) rfl) rfl (z := .int b2) rfl))).trans ?_
  refine (sSeq_ok (set_k (e2 := some (.int b2)) (env := []) (eOp_ok (eF1_ok (g := opInt) (eOp_ok (eOp_ok (x := .int b2) rfl rfl (m3 _ _)) rfl rfl) rfl) rfl (z := .int f2) rfl) s_fold)).trans ?_
  exact sRet_ok (eOp_ok (eF1_ok (g := opInt) (x := .int (Int.ediv b2 64)) rfl rfl) (y := .int (.ofNat (k + 1))) rfl rfl)
theorem tAnd2_f {c d : MT} {env : EnvT} {S S1 : Sto} (h : c env S = .ok false S1) : tAnd2 c d env S = .ok false S1 := by
  unfold tAnd2
  rw [bnd_ok h]
  rfl
theorem tAnd2_t {c d : MT} {env : EnvT} {S S1 : Sto} (h : c env S = .ok true S1) : tAnd2 c d env S = d env S1 := by
  unfold tAnd2
  rw [bnd_ok h]
theorem nth_num : ∀ (cs : List Int) (a : Nat), a < cs.length → ∃ c, nth (cs.map T.int) a = some (.int c)
  | [], _, h => by simp at h
  | c :: _, 0, _ => ⟨c, rfl⟩
  | _ :: r, a + 1, h => nth_num r a (by simpa using h)
/-- the middle: a cell may be taken -/
theorem draw_mid : ∃ e3' a' dg' fd',
  (sIf (tAnd2 (tB1 (eOp opEq (pg kDigits) (eC (.int 0)))) (tB1 (eOp opLt (pg kAt) (eF1 opLen (pg kCells)))))
  (sSeq (sSet 3 (eOp opIx (pg kCells) (pg kAt)))
  (sSeq (sSetIx (eVar 0) (eC kAt) (eOp opAdd (pg kAt) (eC (.int 1))))
  (sIf (tB1 (eOp opGe (eVar 3) (eOp opPow (eC (.int 10)) (eC (.int 18)))))
  (sSetIx (eVar 0) (eC kDigits) (eOp opSub (eVar 3) (eOp opPow (eC (.int 10)) (eC (.int 18)))))
  (sSetIx (eVar 0) (eC kFold) (eOp opMod (eF1 opInt (eOp opAdd (eOp opMul (pg kFold) (eC (.int 69069))) (eVar 3))) (eC (.int 2147483587)))))))
  sNx) (dEnv e1 e2 e3 e4) (penS n cs a dg ct fd) = .ok (.nx (dEnv e1 e2 e3' e4)) (penS n cs a' dg' ct fd') := by
  have c1 : tB1 (eOp opEq (pg kDigits) (eC (.int 0))) (dEnv e1 e2 e3 e4) (penS n cs a dg ct fd) = .ok (iEq dg 0) (penS n cs a dg ct fd) := rfl
  have c2 : tB1 (eOp opLt (pg kAt) (eF1 opLen (pg kCells))) (dEnv e1 e2 e3 e4) (penS n cs a dg ct fd) = .ok (iLt (.ofNat a) (.ofNat (cs.map T.int).length)) (penS n cs a dg ct fd) := rfl
  cases h1 : iEq dg 0 with
  | false =>
    rw [h1] at c1
    exact ⟨e3, a, dg, fd, sIf_f (tAnd2_f c1)⟩
  | true =>
    rw [h1] at c1
    cases h2 : iLt (.ofNat a) (.ofNat (cs.map T.int).length) with
    | false =>
      rw [h2] at c2
      exact ⟨e3, a, dg, fd, sIf_f ((tAnd2_t c1).trans c2)⟩
    | true =>
      rw [h2] at c2
      rw [iLt_iff, decide_eq_true_iff] at h2
      simp only [Int.ofNat_eq_natCast, List.length_map] at h2
      obtain ⟨c, hc⟩ := nth_num cs a (by omega)
      have g3 : eOp opIx (pg kCells) (pg kAt) (dEnv e1 e2 e3 e4) (penS n cs a dg ct fd) = .ok (.int c) (penS n cs a dg ct fd) := by
        refine eOp_ok g_cells g_at ?_
        show (match nth (cs.map T.int) a with | some x => Out.ok x (penS n cs a dg ct fd) | none => Out.no) = _
        rw [hc]
      have c3 : ∀ a' : Nat, tB1 (eOp opGe (eVar 3) (eOp opPow (eC (.int 10)) (eC (.int 18)))) (dEnv e1 e2 (some (.int c)) e4) (penS n cs a' dg ct fd) = .ok (iLe (iPow 10 18) c) (penS n cs a' dg ct fd) := fun a' => rfl
      cases h3 : iLe (iPow 10 18) c with
      | true =>
        refine ⟨some (.int c), a + 1, Int.sub c (iPow 10 18), fd, (sIf_t ((tAnd2_t c1).trans c2)).trans ?_⟩
        refine (sSeq_ok (sSet_ok g3)).trans ?_
        refine (sSeq_ok (set_k (e3 := some (.int c)) (env := []) (eOp_ok g_at rfl (z := .int (.ofNat (a + 1))) rfl) s_at)).trans ?_
        refine (sIf_t (by rw [← h3]; exact c3 (a + 1))).trans ?_
        exact set_k (e3 := some (.int c)) (env := []) (eOp_ok (x := .int c) rfl (y := .int (iPow 10 18)) rfl rfl) s_dig
      | false =>
        have m1 : ∀ (i : Int) (S : Sto), opMul (.int i) (.int 69069) S = .ok (.int (Int.mul i 69069)) S := fun i S => mul_r rfl
        refine ⟨some (.int c), a + 1, dg, Int.emod (Int.add (Int.mul fd 69069) c) 2147483587, (sIf_t ((tAnd2_t c1).trans c2)).trans ?_⟩
        refine (sSeq_ok (sSet_ok g3)).trans ?_
        refine (sSeq_ok (set_k (e3 := some (.int c)) (env := []) (eOp_ok g_at rfl (z := .int (.ofNat (a + 1))) rfl) s_at)).trans ?_
        refine (sIf_f (by rw [← h3]; exact c3 (a + 1))).trans ?_
        exact set_k (e3 := some (.int c)) (env := []) (eOp_ok (eF1_ok (g := opInt) (eOp_ok (eOp_ok g_fold rfl (m1 _ _)) (y := .int c) rfl rfl) rfl) rfl rfl) s_fold
/-- a draw -/
theorem draw_ok {k : Nat} (hk : Nat.blt (k + 1) 1073741824 = true) : ∃ (r : Int) (a' : Nat) (dg' ct' fd' : Int), 0 ≤ r ∧ r < Int.ofNat (k + 1) ∧
    dfx 2 3 bDraw [.loc 0, .int (.ofNat (k + 1))] (penS (n + 1) cs a dg ct fd) = .ok (.int r) (penS (n + 1) cs a' dg' ct' fd') := by
  suffices h : ∃ (r : Int) (a' : Nat) (dg' ct' fd' : Int), 0 ≤ r ∧ r < Int.ofNat (k + 1) ∧ bDraw (dEnv (some (.int (.ofNat (k + 1)))) none none none) (penS (n + 1) cs a dg ct fd) = .ok (.rt (.int r)) (penS (n + 1) cs a' dg' ct' fd') by
    obtain ⟨r, a', dg', ct', fd', h0, h1, h2⟩ := h
    refine ⟨r, a', dg', ct', fd', h0, h1, ?_⟩
    show (match bnd (bDraw (dEnv (some (.int (.ofNat (k + 1)))) none none none)) rtF (penS (n + 1) cs a dg ct fd) with | .ok t S' => Out.ok t (S'.exit (n + 1)) | .exc c fs S' => .exc c fs S' | .no => .no) = _
    rw [bnd_ok h2]
    rfl
  have hm : (0 : Int) < Int.ofNat (k + 1) := by
    simp only [Int.ofNat_eq_natCast]
    omega
  unfold bDraw
  have s1 : ∀ {sb : MS}, sSeq (sSetIx (eVar 0) (eC kCount) (eOp opAdd (pg kCount) (eC (.int 1)))) sb (dEnv (some (.int (.ofNat (k + 1)))) none none none) (penS (n + 1) cs a dg ct fd) = sb (dEnv (some (.int (.ofNat (k + 1)))) none none none) (penS (n + 1) cs a dg (Int.add ct 1) fd) :=
    fun {sb} => sSeq_ok (set_k (env := []) (eOp_ok g_count rfl (z := .int (Int.add ct 1)) rfl) s_count)
  rw [s1]
  obtain ⟨e3', a', dg', fd', h2⟩ := draw_mid (n := n + 1) (cs := cs) (a := a) (dg := dg) (ct := Int.add ct 1) (fd := fd) (e1 := some (.int (.ofNat (k + 1)))) (e2 := none) (e3 := none) (e4 := none)
  rw [sSeq_ok h2]
  have c4 : tB1 (eOp opGt (pg kDigits) (eC (.int 0))) (dEnv (some (.int (.ofNat (k + 1)))) none e3' none) (penS (n + 1) cs a' dg' (Int.add ct 1) fd') = .ok (iLt 0 dg') (penS (n + 1) cs a' dg' (Int.add ct 1) fd') := rfl
  cases h3 : iLt 0 dg' with
  | true =>
    rw [h3] at c4
    refine ⟨Int.emod dg' (.ofNat (k + 1)), a', Int.ediv dg' (.ofNat (k + 1)), Int.add ct 1, fd', Int.emod_nonneg _ (Int.ne_of_gt hm), Int.emod_lt_of_pos _ hm, ?_⟩
    have dv : ∀ (i : Int) (S : Sto), opDiv (.int i) (.int (.ofNat (k + 1))) S = .ok (.int (Int.ediv i (.ofNat (k + 1)))) S := fun i S => by
      show (match true && Nat.blt (k + 1) 1073741824 with | true => Out.ok (T.int (Int.ediv i (.ofNat (k + 1)))) S | false => Out.no) = _
      rw [hk]
      rfl
    refine sSeq_rt ((sIf_t c4).trans ?_)
    refine (sSeq_ok (sSet_ok (eOp_ok (eF1_ok (g := opInt) g_dig rfl) (y := .int (.ofNat (k + 1))) rfl (z := .int (Int.emod dg' (.ofNat (k + 1)))) rfl))).trans ?_
    refine (sSeq_ok (set_k (e1 := some (.int (.ofNat (k + 1)))) (e4 := some (.int (Int.emod dg' (.ofNat (k + 1))))) (env := []) (eOp_ok g_dig (y := .int (.ofNat (k + 1))) rfl (dv _ _)) s_dig)).trans ?_
    exact sRet_ok rfl
  | false =>
    rw [h3] at c4
    obtain ⟨r, f2, h5, h6, h7⟩ := draw_mix (n := n + 1) (cs := cs) (a := a') (dg := dg') (ct := Int.add ct 1) (fd := fd') (e2 := none) (e3 := e3') (e4 := none) hk
    exact ⟨r, a', dg', Int.add ct 1, f2, h5, h6, (sSeq_ok (sIf_f c4)).trans h7⟩
/-- the pen -/
theorem fold_ok : ∀ (cs : List Int) (f0 : Int) (e0 e2 : Option T) (S : Sto), ∃ f1 e2', forL (.nm 2) (sSet 1 (eOp opMod (eF1 opInt (eOp opAdd (eOp opMul (eVar 1) (eC (.int 47))) (eVar 2))) (eC (.int 1000000007)))) (cs.map T.int) [e0, some (.int f0), e2] S = .ok (.nx [e0, some (.int f1), e2']) S
  | [], f0, e0, e2, S => ⟨f0, e2, rfl⟩
  | c :: r, f0, e0, e2, S => by
    have m1 : ∀ (i : Int) (S : Sto), opMul (.int i) (.int 47) S = .ok (.int (Int.mul i 47)) S := fun i S => mul_r rfl
    obtain ⟨f1, e2', h⟩ := fold_ok r (Int.emod (Int.add (Int.mul f0 47) c) 1000000007) e0 (some (.int c)) S
    refine ⟨f1, e2', ?_⟩
    show bnd (sSet 1 (eOp opMod (eF1 opInt (eOp opAdd (eOp opMul (eVar 1) (eC (.int 47))) (eVar 2))) (eC (.int 1000000007))) [e0, some (.int f0), some (.int c)]) (whF (forL (.nm 2) _ (r.map T.int))) S = _
    rw [bnd_ok (sSet_ok (eOp_ok (eF1_ok (g := opInt) (eOp_ok (eOp_ok (x := .int f0) rfl rfl (m1 _ _)) (y := .int c) rfl rfl) rfl) rfl (z := .int (Int.emod (Int.add (Int.mul f0 47) c) 1000000007)) rfl))]
    exact h
theorem pen_ok (cs : List Int) (hl : cs.length ≤ 16777216) : ∃ fd, dfn 1 2 bPen [.scr (cs.map T.int)] ⟨0, []⟩ = .ok (.loc 0) (penS 1 cs 0 0 0 fd) := by
  obtain ⟨f1, e2', h⟩ := fold_ok cs 0 (some (.scr (cs.map T.int))) none ⟨0, []⟩
  have hf : few (cs.map T.int) = true := Nat.ble_eq_true_of_le (by rw [List.length_map]; exact hl)
  refine ⟨f1, ?_⟩
  show bnd (bPen [some (.scr (cs.map T.int)), none, none]) rtF ⟨0, []⟩ = _
  have hb : bPen [some (.scr (cs.map T.int)), none, none] ⟨0, []⟩ = .ok (.rt (.loc 0)) (penS 1 cs 0 0 0 f1) := by
    unfold bPen
    refine (sSeq_ok (sSet_ok (x := .int 0) rfl)).trans ?_
    refine (sSeq_ok (S1 := ⟨0, []⟩) (env' := [some (.scr (cs.map T.int)), some (.int f1), e2']) h).trans ?_
    have hl2 : eF1 opListA (eVar 0) [some (.scr (cs.map T.int)), some (.int f1), e2'] ⟨0, []⟩ = .ok (.lst (cs.map T.int)) ⟨0, []⟩ := by
      refine eF1_ok (x := .scr (cs.map T.int)) rfl ?_
      show mkLst (cs.map T.int) _ = _
      unfold mkLst
      rw [hf]
      rfl
    refine sRet_ok (x := .loc 0) ?_
    unfold eDisp
    have hp : mPairs [((eC kCells), (eF1 opListA (eVar 0))), ((eC kAt), (eC (.int 0))), ((eC kDigits), (eC (.int 0))), ((eC kCount), (eC (.int 0))), ((eC kFold), (eVar 1))] [some (.scr (cs.map T.int)), some (.int f1), e2'] ⟨0, []⟩ =
        .ok [(kCells, .lst (cs.map T.int)), (kAt, .int 0), (kDigits, .int 0), (kCount, .int 0), (kFold, .int f1)] ⟨0, []⟩ := by
      exact (bnd_ok (v := kCells) (S1 := ⟨0, []⟩) rfl).trans ((bnd_ok hl2).trans rfl)
    rw [bnd_ok hp]
    rfl
  rw [bnd_ok hb]
  rfl
end
end Pi
set_option Elab.async false
set_option linter.all false
set_option maxRecDepth 100000
set_option maxHeartbeats 0
namespace Lw
open PySem PySem.Spec PyProof.Rows L2 Pi
abbrev St := L2.St
theorem room_hu {k : Nat} {A : Around} (hr : Room k A) : A.units + 100 < cLine := by
  have := hr.un
  omega
def top (i : Nat) : Stmt := PySem.Challenge.pw_oneendless_k71_whole_sayings_of_full_dep.main.body.getD i (.Pass ⟨0, 0, 0, 0⟩)
abbrev s_law : Stmt := top 67
abbrev s_parting_depth : Stmt := top 52
abbrev s_likenesses_by : Stmt := top 26
abbrev s_keeps : Stmt := top 27
abbrev s_Game_lasts : Stmt := inClass (top 51) 3
abbrev s_Game_answer_back : Stmt := inClass (top 51) 2
abbrev s_with_pair : Stmt := top 50
abbrev s_goes_on : Stmt := top 49
abbrev s_Game_answer : Stmt := inClass (top 51) 1
abbrev s_need_looks : Stmt := top 47
abbrev s_Game___init__ : Stmt := inClass (top 51) 0
abbrev s_need_pair : Stmt := top 46
abbrev s_need_small : Stmt := top 45
abbrev s_need_web : Stmt := top 24
abbrev s_barred_by : Stmt := top 21
abbrev s_orders_of : Stmt := top 20
abbrev s_has_barred : Stmt := top 23
abbrev s_as_tuples : Stmt := top 8
abbrev s_is_flat : Stmt := top 22
abbrev s_is_index : Stmt := top 11
abbrev s_is_integer : Stmt := top 10
abbrev s_is_list : Stmt := top 9
abbrev s_need_kinds : Stmt := top 19
abbrev s__law_is : Stmt := top 57
abbrev s__law_depth : Stmt := top 65
abbrev s__law_lasts : Stmt := top 61
abbrev s__law_answers : Stmt := top 62
abbrev s__law_put_pair : Stmt := top 60
abbrev s__law_goes : Stmt := top 59
abbrev s__law_at_least : Stmt := top 64
abbrev s_Parting___init__ : Stmt := inClass (top 44) 0
abbrev s_parting_holds : Stmt := top 53
abbrev s_truth_by : Stmt := top 39
abbrev s_depth_by : Stmt := top 38
abbrev s_parts_of : Stmt := top 37
abbrev s_is_bare : Stmt := top 36
abbrev s_is_fit : Stmt := top 35
abbrev s_within : Stmt := top 34
abbrev s_need_game : Stmt := top 48
abbrev s_is_between : Stmt := top 12
abbrev s__law_says : Stmt := top 58
abbrev s__law_plain_web : Stmt := top 66
abbrev s__law_chain : Stmt := top 63
abbrev s__law_draw : Stmt := top 56
abbrev s_Kinds___init__ : Stmt := inClass (top 17) 0
abbrev s_is_three : Stmt := top 18
abbrev s__law_pen : Stmt := top 55
def h_law : He.DefD := ⟨("law", none), "law", "law", defArgs s_law, defBody s_law, defScope s_law, [], []⟩
def h_parting_depth : He.DefD := ⟨("parting_depth", none), "parting_depth", "parting_depth", defArgs s_parting_depth, defBody s_parting_depth, defScope s_parting_depth, [], []⟩
def h_likenesses_by : He.DefD := ⟨("likenesses_by", none), "likenesses_by", "likenesses_by", defArgs s_likenesses_by, defBody s_likenesses_by, defScope s_likenesses_by, [], []⟩
def h_keeps : He.DefD := ⟨("keeps", none), "keeps", "keeps", defArgs s_keeps, defBody s_keeps, defScope s_keeps, [], []⟩
def h_Game_lasts : He.DefD := ⟨("Game", some "lasts"), "lasts", "Game.lasts", defArgs s_Game_lasts, defBody s_Game_lasts, defScope s_Game_lasts, [], []⟩
def h_Game_answer_back : He.DefD := ⟨("Game", some "answer_back"), "answer_back", "Game.answer_back", defArgs s_Game_answer_back, defBody s_Game_answer_back, defScope s_Game_answer_back, [], []⟩
def h_with_pair : He.DefD := ⟨("with_pair", none), "with_pair", "with_pair", defArgs s_with_pair, defBody s_with_pair, defScope s_with_pair, [], []⟩
def h_goes_on : He.DefD := ⟨("goes_on", none), "goes_on", "goes_on", defArgs s_goes_on, defBody s_goes_on, defScope s_goes_on, [], []⟩
def h_Game_answer : He.DefD := ⟨("Game", some "answer"), "answer", "Game.answer", defArgs s_Game_answer, defBody s_Game_answer, defScope s_Game_answer, [], []⟩
def h_need_looks : He.DefD := ⟨("need_looks", none), "need_looks", "need_looks", defArgs s_need_looks, defBody s_need_looks, defScope s_need_looks, [], []⟩
def h_Game___init__ : He.DefD := ⟨("Game", some "__init__"), "__init__", "Game.__init__", defArgs s_Game___init__, defBody s_Game___init__, defScope s_Game___init__, [], []⟩
def h_need_pair : He.DefD := ⟨("need_pair", none), "need_pair", "need_pair", defArgs s_need_pair, defBody s_need_pair, defScope s_need_pair, [], []⟩
def h_need_small : He.DefD := ⟨("need_small", none), "need_small", "need_small", defArgs s_need_small, defBody s_need_small, defScope s_need_small, [], []⟩
def h_need_web : He.DefD := ⟨("need_web", none), "need_web", "need_web", defArgs s_need_web, defBody s_need_web, defScope s_need_web, [], []⟩
def h_barred_by : He.DefD := ⟨("barred_by", none), "barred_by", "barred_by", defArgs s_barred_by, defBody s_barred_by, defScope s_barred_by, [], []⟩
def h_orders_of : He.DefD := ⟨("orders_of", none), "orders_of", "orders_of", defArgs s_orders_of, defBody s_orders_of, defScope s_orders_of, [], []⟩
def h_has_barred : He.DefD := ⟨("has_barred", none), "has_barred", "has_barred", defArgs s_has_barred, defBody s_has_barred, defScope s_has_barred, [], []⟩
def h_as_tuples : He.DefD := ⟨("as_tuples", none), "as_tuples", "as_tuples", defArgs s_as_tuples, defBody s_as_tuples, defScope s_as_tuples, [], []⟩
def h_is_flat : He.DefD := ⟨("is_flat", none), "is_flat", "is_flat", defArgs s_is_flat, defBody s_is_flat, defScope s_is_flat, [], []⟩
def h_is_index : He.DefD := ⟨("is_index", none), "is_index", "is_index", defArgs s_is_index, defBody s_is_index, defScope s_is_index, [], []⟩
def h_is_integer : He.DefD := ⟨("is_integer", none), "is_integer", "is_integer", defArgs s_is_integer, defBody s_is_integer, defScope s_is_integer, [], []⟩
def h_is_list : He.DefD := ⟨("is_list", none), "is_list", "is_list", defArgs s_is_list, defBody s_is_list, defScope s_is_list, [], []⟩
def h_need_kinds : He.DefD := ⟨("need_kinds", none), "need_kinds", "need_kinds", defArgs s_need_kinds, defBody s_need_kinds, defScope s_need_kinds, [], []⟩
def h__law_is : He.DefD := ⟨("_law_is", none), "_law_is", "_law_is", defArgs s__law_is, defBody s__law_is, defScope s__law_is, [], []⟩
def h__law_depth : He.DefD := ⟨("_law_depth", none), "_law_depth", "_law_depth", defArgs s__law_depth, defBody s__law_depth, defScope s__law_depth, [], []⟩
def h__law_lasts : He.DefD := ⟨("_law_lasts", none), "_law_lasts", "_law_lasts", defArgs s__law_lasts, defBody s__law_lasts, defScope s__law_lasts, [], []⟩
def h__law_answers : He.DefD := ⟨("_law_answers", none), "_law_answers", "_law_answers", defArgs s__law_answers, defBody s__law_answers, defScope s__law_answers, [], []⟩
def h__law_put_pair : He.DefD := ⟨("_law_put_pair", none), "_law_put_pair", "_law_put_pair", defArgs s__law_put_pair, defBody s__law_put_pair, defScope s__law_put_pair, [], []⟩
def h__law_goes : He.DefD := ⟨("_law_goes", none), "_law_goes", "_law_goes", defArgs s__law_goes, defBody s__law_goes, defScope s__law_goes, [], []⟩
def h__law_at_least : He.DefD := ⟨("_law_at_least", none), "_law_at_least", "_law_at_least", defArgs s__law_at_least, defBody s__law_at_least, defScope s__law_at_least, [], []⟩
def h_Parting___init__ : He.DefD := ⟨("Parting", some "__init__"), "__init__", "Parting.__init__", defArgs s_Parting___init__, defBody s_Parting___init__, defScope s_Parting___init__, [], []⟩
def h_parting_holds : He.DefD := ⟨("parting_holds", none), "parting_holds", "parting_holds", defArgs s_parting_holds, defBody s_parting_holds, defScope s_parting_holds, [], []⟩
def h_truth_by : He.DefD := ⟨("truth_by", none), "truth_by", "truth_by", defArgs s_truth_by, defBody s_truth_by, defScope s_truth_by, [], []⟩
def h_depth_by : He.DefD := ⟨("depth_by", none), "depth_by", "depth_by", defArgs s_depth_by, defBody s_depth_by, defScope s_depth_by, [], []⟩
def h_parts_of : He.DefD := ⟨("parts_of", none), "parts_of", "parts_of", defArgs s_parts_of, defBody s_parts_of, defScope s_parts_of, [], []⟩
def h_is_bare : He.DefD := ⟨("is_bare", none), "is_bare", "is_bare", defArgs s_is_bare, defBody s_is_bare, defScope s_is_bare, [], []⟩
def h_is_fit : He.DefD := ⟨("is_fit", none), "is_fit", "is_fit", defArgs s_is_fit, defBody s_is_fit, defScope s_is_fit, [], []⟩
def h_within : He.DefD := ⟨("within", none), "within", "within", defArgs s_within, defBody s_within, defScope s_within, [], []⟩
def h_need_game : He.DefD := ⟨("need_game", none), "need_game", "need_game", defArgs s_need_game, defBody s_need_game, defScope s_need_game, [], []⟩
def h_is_between : He.DefD := ⟨("is_between", none), "is_between", "is_between", defArgs s_is_between, defBody s_is_between, defScope s_is_between, [], []⟩
def h__law_says : He.DefD := ⟨("_law_says", none), "_law_says", "_law_says", defArgs s__law_says, defBody s__law_says, defScope s__law_says, [], []⟩
def h__law_plain_web : He.DefD := ⟨("_law_plain_web", none), "_law_plain_web", "_law_plain_web", defArgs s__law_plain_web, defBody s__law_plain_web, defScope s__law_plain_web, [], []⟩
def h__law_chain : He.DefD := ⟨("_law_chain", none), "_law_chain", "_law_chain", defArgs s__law_chain, defBody s__law_chain, defScope s__law_chain, [], []⟩
def h__law_draw : He.DefD := ⟨("_law_draw", none), "_law_draw", "_law_draw", defArgs s__law_draw, defBody s__law_draw, defScope s__law_draw, [], []⟩
def h_Kinds___init__ : He.DefD := ⟨("Kinds", some "__init__"), "__init__", "Kinds.__init__", defArgs s_Kinds___init__, defBody s_Kinds___init__, defScope s_Kinds___init__, [], []⟩
def h_is_three : He.DefD := ⟨("is_three", none), "is_three", "is_three", defArgs s_is_three, defBody s_is_three, defScope s_is_three, [], []⟩
def h__law_pen : He.DefD := ⟨("_law_pen", none), "_law_pen", "_law_pen", defArgs s__law_pen, defBody s__law_pen, defScope s__law_pen, [], []⟩
def fn : List He.DefD := [h_law, h_parting_depth, h_likenesses_by, h_keeps, h_Game_lasts, h_Game_answer_back, h_with_pair, h_goes_on, h_Game_answer, h_need_looks, h_Game___init__, h_need_pair, h_need_small, h_need_web, h_barred_by, h_orders_of, h_has_barred, h_as_tuples, h_is_flat, h_is_index, h_is_integer, h_is_list, h_need_kinds, h__law_is, h__law_depth, h__law_lasts, h__law_answers, h__law_put_pair, h__law_goes, h__law_at_least, h_Parting___init__, h_parting_holds, h_truth_by, h_depth_by, h_parts_of, h_is_bare, h_is_fit, h_within, h_need_game, h_is_between, h__law_says, h__law_plain_web, h__law_chain, h__law_draw, h_Kinds___init__, h_is_three, h__law_pen]
abbrev nc : Nat := 3
abbrev nf : Nat := 7
def cnL : List PySem.Str := ["Kinds", "Parting", "Game"]
def fdL : List PySem.Str := ["count", "opposite", "barred", "saying", "one", "other", "known"]
def gnL : List PySem.Str := ["_law_plain_web", "_law_chain"]
def tb : Tb := ⟨fun i => cnL.getD i "", fun i => fdL.getD i "", fun i => gnL.getD i ""⟩
def fa : List He.Fa := [.glo "is_integer", .glo "is_list", .glo "is_index", .glo "as_tuples", .glo "is_between", .glo "is_three", .glo "Kinds", .glo "orders_of", .glo "is_flat", .glo "has_barred", .glo "barred_by", .glo "need_kinds", .glo "need_web", .glo "need_small", .glo "need_pair", .glo "need_looks", .glo "BOUND", .glo "MANY", .glo "within", .glo "parts_of", .glo "depth_by", .glo "truth_by", .glo "need_game", .glo "Parting", .glo "is_fit", .glo "is_bare", .glo "_law_goes", .glo "_law_lasts", .glo "_law_put_pair", .glo "_law_answers", .glo "_law_is", .glo "goes_on", .glo "with_pair", .glo "keeps", .glo "Game", .glo "likenesses_by", .glo "_law_pen", .glo "_law_draw", .glo "_law_plain_web", .glo "_law_chain", .glo "_law_says", .glo "parting_holds", .glo "_law_at_least", .glo "_law_depth", .glo "parting_depth", .glo "law", .cls "Kinds", .cls "Parting", .cls "Game", .free "int", .free "list", .free "isinstance", .free "bool", .free "tuple", .free "len", .free "all", .free "enumerate", .free "range", .free "abs", .free "str", .free "max", .free "sorted", .free "min", .int "MOST_KINDS" 4, .int "MOST_BARRED" 40, .int "MOST_POINTS_kinds" 64, .int "MOST_POINTS_games" 8, .int "MOST_LOOKS" 100000, .int "MOST_DEPTH_games" 4, .int "MOST_PARTS" 12, .int "MOST_TUPLES" 60, .int "MOST_DEPTH_sayings" 4, .mkr "Game", .mkr "Kinds", .mkr "Parting", .meth "Game" "lasts", .meth "Game" "answer", .meth "Game" "answer_back"]
def ownC (K : PySem.W.Frag) (c : PySem.Str) : Bool := decide (PySem.W.findIn K (.ref (He.ga K c)) "__class__" = some (some (.builtin "object.__class__"))) &&
  decide (PySem.W.specialIn K (.builtin "object.__class__") "__get__" = some (some (.builtin "getset_descriptor.__get__"))) && decide (PySem.W.takesIn K (.builtin "object.__class__") = some true) &&
  decide (PySem.W.mroIn K (He.ga K c) (.type "object") = some true) && (List.range 6).all (fun g => decide (PySem.W.kitOne K (.ref (He.ga K c)) (.type (nameN g)) = some false) && decide (PySem.W.kitOne K (.type (nameN g)) (.ref (He.ga K c)) = some false)) &&
  (List.range nf).all (fun f => decide (PySem.W.findIn K (.ref (He.ga K c)) (fdL.getD f "") = some none)) && (List.range nc).all fun d => (List.range nc).all fun e => decide (PySem.W.kitOne K (.ref (He.ga K (cnL.getD d ""))) (.ref (He.ga K (cnL.getD e ""))) = some (Nat.beq d e))
def ownB (K : PySem.W.Frag) : Bool := (List.range nc).all fun c => ownC K (cnL.getD c "")
def tupSB (K : PySem.W.Frag) (x : PySem.Str) (l : List (List Nat)) : Bool := He.tupB K x (l.map fun y => .str ⟨y.toArray⟩)
def ex (K : PySem.W.Frag) : Bool := ownB K && tupSB K "BOUND" [[115, 111, 109, 101], [97, 108, 108]] && tupSB K "MANY" [[97, 110, 100], [111, 114]]
structure Cn (P : Program) (w : World) (K : PySem.W.Frag) (mg : PySem.Str → Option Value) : Prop where
  own : Own ⟨P, w, K, tb⟩ nc
  att : Att ⟨P, w, K, tb⟩ nc nf
  g_is_integer : mg "is_integer" = some (.ref (He.ga K "is_integer"))
  g_is_list : mg "is_list" = some (.ref (He.ga K "is_list"))
  g_is_index : mg "is_index" = some (.ref (He.ga K "is_index"))
  g_as_tuples : mg "as_tuples" = some (.ref (He.ga K "as_tuples"))
  g_is_between : mg "is_between" = some (.ref (He.ga K "is_between"))
  g_is_three : mg "is_three" = some (.ref (He.ga K "is_three"))
  g_Kinds : mg "Kinds" = some (.ref (He.ga K "Kinds"))
  g_orders_of : mg "orders_of" = some (.ref (He.ga K "orders_of"))
  g_is_flat : mg "is_flat" = some (.ref (He.ga K "is_flat"))
  g_has_barred : mg "has_barred" = some (.ref (He.ga K "has_barred"))
  g_barred_by : mg "barred_by" = some (.ref (He.ga K "barred_by"))
  g_need_kinds : mg "need_kinds" = some (.ref (He.ga K "need_kinds"))
  g_need_web : mg "need_web" = some (.ref (He.ga K "need_web"))
  g_need_small : mg "need_small" = some (.ref (He.ga K "need_small"))
  g_need_pair : mg "need_pair" = some (.ref (He.ga K "need_pair"))
  g_need_looks : mg "need_looks" = some (.ref (He.ga K "need_looks"))
  g_BOUND : mg "BOUND" = some (.ref (He.ga K "BOUND"))
  g_MANY : mg "MANY" = some (.ref (He.ga K "MANY"))
  g_within : mg "within" = some (.ref (He.ga K "within"))
  g_parts_of : mg "parts_of" = some (.ref (He.ga K "parts_of"))
  g_depth_by : mg "depth_by" = some (.ref (He.ga K "depth_by"))
  g_truth_by : mg "truth_by" = some (.ref (He.ga K "truth_by"))
  g_need_game : mg "need_game" = some (.ref (He.ga K "need_game"))
  g_Parting : mg "Parting" = some (.ref (He.ga K "Parting"))
  g_is_fit : mg "is_fit" = some (.ref (He.ga K "is_fit"))
  g_is_bare : mg "is_bare" = some (.ref (He.ga K "is_bare"))
  g__law_goes : mg "_law_goes" = some (.ref (He.ga K "_law_goes"))
  g__law_lasts : mg "_law_lasts" = some (.ref (He.ga K "_law_lasts"))
  g__law_put_pair : mg "_law_put_pair" = some (.ref (He.ga K "_law_put_pair"))
  g__law_answers : mg "_law_answers" = some (.ref (He.ga K "_law_answers"))
  g__law_is : mg "_law_is" = some (.ref (He.ga K "_law_is"))
  g_goes_on : mg "goes_on" = some (.ref (He.ga K "goes_on"))
  g_with_pair : mg "with_pair" = some (.ref (He.ga K "with_pair"))
  g_keeps : mg "keeps" = some (.ref (He.ga K "keeps"))
  g_Game : mg "Game" = some (.ref (He.ga K "Game"))
  g_likenesses_by : mg "likenesses_by" = some (.ref (He.ga K "likenesses_by"))
  g__law_pen : mg "_law_pen" = some (.ref (He.ga K "_law_pen"))
  g__law_draw : mg "_law_draw" = some (.ref (He.ga K "_law_draw"))
  g__law_plain_web : mg "_law_plain_web" = some (.ref (He.ga K "_law_plain_web"))
  g__law_chain : mg "_law_chain" = some (.ref (He.ga K "_law_chain"))
  g__law_says : mg "_law_says" = some (.ref (He.ga K "_law_says"))
  g_parting_holds : mg "parting_holds" = some (.ref (He.ga K "parting_holds"))
  g__law_at_least : mg "_law_at_least" = some (.ref (He.ga K "_law_at_least"))
  g__law_depth : mg "_law_depth" = some (.ref (He.ga K "_law_depth"))
  g_parting_depth : mg "parting_depth" = some (.ref (He.ga K "parting_depth"))
  n_int : mg "int" = none
  n_list : mg "list" = none
  n_isinstance : mg "isinstance" = none
  n_bool : mg "bool" = none
  n_tuple : mg "tuple" = none
  n_len : mg "len" = none
  n_all : mg "all" = none
  n_enumerate : mg "enumerate" = none
  n_range : mg "range" = none
  n_abs : mg "abs" = none
  n_str : mg "str" = none
  n_max : mg "max" = none
  n_sorted : mg "sorted" = none
  n_min : mg "min" = none
  i_MOST_KINDS : ∃ t, mg "MOST_KINDS" = some (.int 4 t)
  i_MOST_BARRED : ∃ t, mg "MOST_BARRED" = some (.int 40 t)
  i_MOST_POINTS_kinds : ∃ t, mg "MOST_POINTS_kinds" = some (.int 64 t)
  i_MOST_POINTS_games : ∃ t, mg "MOST_POINTS_games" = some (.int 8 t)
  i_MOST_LOOKS : ∃ t, mg "MOST_LOOKS" = some (.int 100000 t)
  i_MOST_DEPTH_games : ∃ t, mg "MOST_DEPTH_games" = some (.int 4 t)
  i_MOST_PARTS : ∃ t, mg "MOST_PARTS" = some (.int 12 t)
  i_MOST_TUPLES : ∃ t, mg "MOST_TUPLES" = some (.int 60 t)
  i_MOST_DEPTH_sayings : ∃ t, mg "MOST_DEPTH_sayings" = some (.int 4 t)
  t_BOUND : SqT K (fun _ => none) (He.ga K "BOUND") (strsV [[115, 111, 109, 101], [97, 108, 108]])
  t_MANY : SqT K (fun _ => none) (He.ga K "MANY") (strsV [[97, 110, 100], [111, 114]])
  mk_Game : Mk K (He.ga K "Game") (He.ma K (He.ga K "Game") "__init__")
  mk_Kinds : Mk K (He.ga K "Kinds") (He.ma K (He.ga K "Kinds") "__init__")
  mk_Parting : Mk K (He.ga K "Parting") (He.ma K (He.ga K "Parting") "__init__")
  me_Game_lasts : Meth K (He.ga K "Game") "lasts" (He.ma K (He.ga K "Game") "lasts")
  me_Game_answer : Meth K (He.ga K "Game") "answer" (He.ma K (He.ga K "Game") "answer")
  me_Game_answer_back : Meth K (He.ga K "Game") "answer_back" (He.ma K (He.ga K "Game") "answer_back")
  f_law : ∃ fd, FunD K "law" "law" (defArgs s_law) (defBody s_law) (defScope s_law) [] [] (He.fAd K ("law", none)) fd
  f_parting_depth : ∃ fd, FunD K "parting_depth" "parting_depth" (defArgs s_parting_depth) (defBody s_parting_depth) (defScope s_parting_depth) [] [] (He.fAd K ("parting_depth", none)) fd
  f_likenesses_by : ∃ fd, FunD K "likenesses_by" "likenesses_by" (defArgs s_likenesses_by) (defBody s_likenesses_by) (defScope s_likenesses_by) [] [] (He.fAd K ("likenesses_by", none)) fd
  f_keeps : ∃ fd, FunD K "keeps" "keeps" (defArgs s_keeps) (defBody s_keeps) (defScope s_keeps) [] [] (He.fAd K ("keeps", none)) fd
  f_Game_lasts : ∃ fd, FunD K "lasts" "Game.lasts" (defArgs s_Game_lasts) (defBody s_Game_lasts) (defScope s_Game_lasts) [] [] (He.fAd K ("Game", some "lasts")) fd
  f_Game_answer_back : ∃ fd, FunD K "answer_back" "Game.answer_back" (defArgs s_Game_answer_back) (defBody s_Game_answer_back) (defScope s_Game_answer_back) [] [] (He.fAd K ("Game", some "answer_back")) fd
  f_with_pair : ∃ fd, FunD K "with_pair" "with_pair" (defArgs s_with_pair) (defBody s_with_pair) (defScope s_with_pair) [] [] (He.fAd K ("with_pair", none)) fd
  f_goes_on : ∃ fd, FunD K "goes_on" "goes_on" (defArgs s_goes_on) (defBody s_goes_on) (defScope s_goes_on) [] [] (He.fAd K ("goes_on", none)) fd
  f_Game_answer : ∃ fd, FunD K "answer" "Game.answer" (defArgs s_Game_answer) (defBody s_Game_answer) (defScope s_Game_answer) [] [] (He.fAd K ("Game", some "answer")) fd
  f_need_looks : ∃ fd, FunD K "need_looks" "need_looks" (defArgs s_need_looks) (defBody s_need_looks) (defScope s_need_looks) [] [] (He.fAd K ("need_looks", none)) fd
  f_Game___init__ : ∃ fd, FunD K "__init__" "Game.__init__" (defArgs s_Game___init__) (defBody s_Game___init__) (defScope s_Game___init__) [] [] (He.fAd K ("Game", some "__init__")) fd
  f_need_pair : ∃ fd, FunD K "need_pair" "need_pair" (defArgs s_need_pair) (defBody s_need_pair) (defScope s_need_pair) [] [] (He.fAd K ("need_pair", none)) fd
  f_need_small : ∃ fd, FunD K "need_small" "need_small" (defArgs s_need_small) (defBody s_need_small) (defScope s_need_small) [] [] (He.fAd K ("need_small", none)) fd
  f_need_web : ∃ fd, FunD K "need_web" "need_web" (defArgs s_need_web) (defBody s_need_web) (defScope s_need_web) [] [] (He.fAd K ("need_web", none)) fd
  f_barred_by : ∃ fd, FunD K "barred_by" "barred_by" (defArgs s_barred_by) (defBody s_barred_by) (defScope s_barred_by) [] [] (He.fAd K ("barred_by", none)) fd
  f_orders_of : ∃ fd, FunD K "orders_of" "orders_of" (defArgs s_orders_of) (defBody s_orders_of) (defScope s_orders_of) [] [] (He.fAd K ("orders_of", none)) fd
  f_has_barred : ∃ fd, FunD K "has_barred" "has_barred" (defArgs s_has_barred) (defBody s_has_barred) (defScope s_has_barred) [] [] (He.fAd K ("has_barred", none)) fd
  f_as_tuples : ∃ fd, FunD K "as_tuples" "as_tuples" (defArgs s_as_tuples) (defBody s_as_tuples) (defScope s_as_tuples) [] [] (He.fAd K ("as_tuples", none)) fd
  f_is_flat : ∃ fd, FunD K "is_flat" "is_flat" (defArgs s_is_flat) (defBody s_is_flat) (defScope s_is_flat) [] [] (He.fAd K ("is_flat", none)) fd
  f_is_index : ∃ fd, FunD K "is_index" "is_index" (defArgs s_is_index) (defBody s_is_index) (defScope s_is_index) [] [] (He.fAd K ("is_index", none)) fd
  f_is_integer : ∃ fd, FunD K "is_integer" "is_integer" (defArgs s_is_integer) (defBody s_is_integer) (defScope s_is_integer) [] [] (He.fAd K ("is_integer", none)) fd
  f_is_list : ∃ fd, FunD K "is_list" "is_list" (defArgs s_is_list) (defBody s_is_list) (defScope s_is_list) [] [] (He.fAd K ("is_list", none)) fd
  f_need_kinds : ∃ fd, FunD K "need_kinds" "need_kinds" (defArgs s_need_kinds) (defBody s_need_kinds) (defScope s_need_kinds) [] [] (He.fAd K ("need_kinds", none)) fd
  f__law_is : ∃ fd, FunD K "_law_is" "_law_is" (defArgs s__law_is) (defBody s__law_is) (defScope s__law_is) [] [] (He.fAd K ("_law_is", none)) fd
  f__law_depth : ∃ fd, FunD K "_law_depth" "_law_depth" (defArgs s__law_depth) (defBody s__law_depth) (defScope s__law_depth) [] [] (He.fAd K ("_law_depth", none)) fd
  f__law_lasts : ∃ fd, FunD K "_law_lasts" "_law_lasts" (defArgs s__law_lasts) (defBody s__law_lasts) (defScope s__law_lasts) [] [] (He.fAd K ("_law_lasts", none)) fd
  f__law_answers : ∃ fd, FunD K "_law_answers" "_law_answers" (defArgs s__law_answers) (defBody s__law_answers) (defScope s__law_answers) [] [] (He.fAd K ("_law_answers", none)) fd
  f__law_put_pair : ∃ fd, FunD K "_law_put_pair" "_law_put_pair" (defArgs s__law_put_pair) (defBody s__law_put_pair) (defScope s__law_put_pair) [] [] (He.fAd K ("_law_put_pair", none)) fd
  f__law_goes : ∃ fd, FunD K "_law_goes" "_law_goes" (defArgs s__law_goes) (defBody s__law_goes) (defScope s__law_goes) [] [] (He.fAd K ("_law_goes", none)) fd
  f__law_at_least : ∃ fd, FunD K "_law_at_least" "_law_at_least" (defArgs s__law_at_least) (defBody s__law_at_least) (defScope s__law_at_least) [] [] (He.fAd K ("_law_at_least", none)) fd
  f_Parting___init__ : ∃ fd, FunD K "__init__" "Parting.__init__" (defArgs s_Parting___init__) (defBody s_Parting___init__) (defScope s_Parting___init__) [] [] (He.fAd K ("Parting", some "__init__")) fd
  f_parting_holds : ∃ fd, FunD K "parting_holds" "parting_holds" (defArgs s_parting_holds) (defBody s_parting_holds) (defScope s_parting_holds) [] [] (He.fAd K ("parting_holds", none)) fd
  f_truth_by : ∃ fd, FunD K "truth_by" "truth_by" (defArgs s_truth_by) (defBody s_truth_by) (defScope s_truth_by) [] [] (He.fAd K ("truth_by", none)) fd
  f_depth_by : ∃ fd, FunD K "depth_by" "depth_by" (defArgs s_depth_by) (defBody s_depth_by) (defScope s_depth_by) [] [] (He.fAd K ("depth_by", none)) fd
  f_parts_of : ∃ fd, FunD K "parts_of" "parts_of" (defArgs s_parts_of) (defBody s_parts_of) (defScope s_parts_of) [] [] (He.fAd K ("parts_of", none)) fd
  f_is_bare : ∃ fd, FunD K "is_bare" "is_bare" (defArgs s_is_bare) (defBody s_is_bare) (defScope s_is_bare) [] [] (He.fAd K ("is_bare", none)) fd
  f_is_fit : ∃ fd, FunD K "is_fit" "is_fit" (defArgs s_is_fit) (defBody s_is_fit) (defScope s_is_fit) [] [] (He.fAd K ("is_fit", none)) fd
  f_within : ∃ fd, FunD K "within" "within" (defArgs s_within) (defBody s_within) (defScope s_within) [] [] (He.fAd K ("within", none)) fd
  f_need_game : ∃ fd, FunD K "need_game" "need_game" (defArgs s_need_game) (defBody s_need_game) (defScope s_need_game) [] [] (He.fAd K ("need_game", none)) fd
  f_is_between : ∃ fd, FunD K "is_between" "is_between" (defArgs s_is_between) (defBody s_is_between) (defScope s_is_between) [] [] (He.fAd K ("is_between", none)) fd
  f__law_says : ∃ fd, FunD K "_law_says" "_law_says" (defArgs s__law_says) (defBody s__law_says) (defScope s__law_says) [] [] (He.fAd K ("_law_says", none)) fd
  f__law_plain_web : ∃ fd, FunD K "_law_plain_web" "_law_plain_web" (defArgs s__law_plain_web) (defBody s__law_plain_web) (defScope s__law_plain_web) [] [] (He.fAd K ("_law_plain_web", none)) fd
  f__law_chain : ∃ fd, FunD K "_law_chain" "_law_chain" (defArgs s__law_chain) (defBody s__law_chain) (defScope s__law_chain) [] [] (He.fAd K ("_law_chain", none)) fd
  f__law_draw : ∃ fd, FunD K "_law_draw" "_law_draw" (defArgs s__law_draw) (defBody s__law_draw) (defScope s__law_draw) [] [] (He.fAd K ("_law_draw", none)) fd
  f_Kinds___init__ : ∃ fd, FunD K "__init__" "Kinds.__init__" (defArgs s_Kinds___init__) (defBody s_Kinds___init__) (defScope s_Kinds___init__) [] [] (He.fAd K ("Kinds", some "__init__")) fd
  f_is_three : ∃ fd, FunD K "is_three" "is_three" (defArgs s_is_three) (defBody s_is_three) (defScope s_is_three) [] [] (He.fAd K ("is_three", none)) fd
  f__law_pen : ∃ fd, FunD K "_law_pen" "_law_pen" (defArgs s__law_pen) (defBody s__law_pen) (defScope s__law_pen) [] [] (He.fAd K ("_law_pen", none)) fd
theorem bt_int : bootBuiltins "int" = some (.type "int") := by kernel_rfl
theorem bt_list : bootBuiltins "list" = some (.type "list") := by kernel_rfl
theorem bt_isinstance : bootBuiltins "isinstance" = some (.builtin "isinstance") := by kernel_rfl
theorem bt_bool : bootBuiltins "bool" = some (.type "bool") := by kernel_rfl
theorem bt_tuple : bootBuiltins "tuple" = some (.type "tuple") := by kernel_rfl
theorem bt_len : bootBuiltins "len" = some (.builtin "len") := by kernel_rfl
theorem bt_all : bootBuiltins "all" = some (.builtin "all") := by kernel_rfl
theorem bt_enumerate : bootBuiltins "enumerate" = some (.type "enumerate") := by kernel_rfl
theorem bt_range : bootBuiltins "range" = some (.type "range") := by kernel_rfl
theorem bt_abs : bootBuiltins "abs" = some (.builtin "abs") := by kernel_rfl
theorem bt_str : bootBuiltins "str" = some (.type "str") := by kernel_rfl
theorem bt_max : bootBuiltins "max" = some (.builtin "max") := by kernel_rfl
theorem bt_sorted : bootBuiltins "sorted" = some (.builtin "sorted") := by kernel_rfl
theorem bt_min : bootBuiltins "min" = some (.builtin "min") := by kernel_rfl
def N__law_pen : List PySem.Str := ["script", "fold", "cell"]
theorem sc__law_pen : FnScope N__law_pen ["script"] (defScope s__law_pen) := ⟨rfl, rfl, rfl, by decide +kernel, rfl, by decide +kernel, by decide +kernel⟩
def b__law_pen : MS :=
  (sSeq (sSet 1 (eC (.int 0)))
  (sSeq (sFor (iSeq (eVar 0)) (.nm 2)
  (sSet 1 (eOp opMod (eF1 opInt (eOp opAdd (eOp opMul (eVar 1) (eC (.int 47))) (eVar 2))) (eC (.int 1000000007)))))
  (sRet (eDisp [((eC (.str [99, 101, 108, 108, 115])), (eF1 opListA (eVar 0))), ((eC (.str [97, 116])), (eC (.int 0))), ((eC (.str [100, 105, 103, 105, 116, 115])), (eC (.int 0))), ((eC (.str [99, 111, 117, 110, 116])), (eC (.int 0))), ((eC (.str [102, 111, 108, 100])), (eVar 1))]))))
def d__law_pen : Df := dfn 1 2 b__law_pen
theorem c__law_pen {P : Program} {w : World} {K : PySem.W.Frag} {mg : PySem.Str → Option Value} {base : Heap} (C : Cn P w K mg) : C8.CalAt P w K mg base 1 (He.fAd K ("_law_pen", none)) (spD ⟨P, w, K, tb⟩ d__law_pen) :=
  cal_of (lv := 0) (N := N__law_pen) (n := 1) (k := 2) (b := b__law_pen) C.f__law_pen sc__law_pen rfl rfl (fun _ _ _ _ _ _ us hl => match us, hl with | [_], _ => rfl) fun cdv A outer s H E hr => by
    have hu := room_hu hr
    exact (qss_cons (qs_set (i := 1) sc__law_pen.nd rfl (by first | exact Or.inl rfl | exact Or.inr rfl) q_int)
  (qss_cons (qs_for (tg := (.nm 2)) PassesOwn.never rfl (qi_seq (q_var (pv 0))) (pg_name (i := 2) sc__law_pen.nd rfl (by first | exact Or.inl rfl | exact Or.inr rfl))
  (qss_one (qs_set (i := 1) sc__law_pen.nd rfl (by first | exact Or.inl rfl | exact Or.inr rfl) (q_op or_mod opMod_nox (q_t1 cr_int rfl C.n_int bt_int (q_op or_add opAdd_nox (q_op or_mul opMul_nox (q_var (pv 1)) q_int) (q_var (pv 2)))) q_int))))
  (qss_one (qs_ret (q_disp (ms := [((eC (.str [99, 101, 108, 108, 115])), (eF1 opListA (eVar 0))), ((eC (.str [97, 116])), (eC (.int 0))), ((eC (.str [100, 105, 103, 105, 116, 115])), (eC (.int 0))), ((eC (.str [99, 111, 117, 110, 116])), (eC (.int 0))), ((eC (.str [102, 111, 108, 100])), (eVar 1))]) (pps_cons (q_str (l := [99, 101, 108, 108, 115])) (q_t1 (cr_listA rfl) rfl C.n_list bt_list (q_var (pv 0))) (pps_cons (q_str (l := [97, 116])) q_int (pps_cons (q_str (l := [100, 105, 103, 105, 116, 115])) q_int (pps_cons (q_str (l := [99, 111, 117, 110, 116])) q_int (pps_cons (q_str (l := [102, 111, 108, 100])) (q_var (pv 1)) pps_nil))))) (by rfl) (by rfl) (fun z => nomatch z) (by decide))))))
def N_is_integer : List PySem.Str := ["value"]
theorem sc_is_integer : FnScope N_is_integer ["value"] (defScope s_is_integer) := ⟨rfl, rfl, rfl, by decide +kernel, rfl, by decide +kernel, by decide +kernel⟩
def b_is_integer : MS :=
  (sRet (eAnd (eB1 (opIsa nc 2) (eVar 0)) (eNot (eB1 (opIsa nc 1) (eVar 0)))))
def d_is_integer : Df := dfx 1 0 b_is_integer
theorem c_is_integer {P : Program} {w : World} {K : PySem.W.Frag} {mg : PySem.Str → Option Value} {base : Heap} (C : Cn P w K mg) : C8.CalAt P w K mg base 1 (He.fAd K ("is_integer", none)) (spD ⟨P, w, K, tb⟩ d_is_integer) :=
  cal_x (cal_of (lv := 0) (N := N_is_integer) (n := 1) (k := 0) (b := b_is_integer) C.f_is_integer sc_is_integer rfl rfl (fun _ _ _ _ _ _ us hl => match us, hl with | [_], _ => rfl) fun cdv A outer s H E hr => by
    have hu := room_hu hr
    exact (qss_one (qs_ret (q_and (q_isB 2 (by decide) C.own rfl C.n_isinstance (q_var (pv 0)) (pe_bltn rfl C.n_int bt_int rfl)) (q_one (q_not (q_isB 1 (by decide) C.own rfl C.n_isinstance (q_var (pv 0)) (pe_bltn rfl C.n_bool bt_bool rfl))))))))
def N_is_between : List PySem.Str := ["value", "low", "high"]
theorem sc_is_between : FnScope N_is_between ["value", "low", "high"] (defScope s_is_between) := ⟨rfl, rfl, rfl, by decide +kernel, rfl, by decide +kernel, by decide +kernel⟩
def b_is_between : MS :=
  (sRet (eAnd (eCall d_is_integer (aCons (eVar 0) aNil)) (eChain opLe opLe (eVar 1) (eVar 0) (eVar 2))))
def d_is_between : Df := dfx 3 0 b_is_between
theorem c_is_between {P : Program} {w : World} {K : PySem.W.Frag} {mg : PySem.Str → Option Value} {base : Heap} (C : Cn P w K mg) : C8.CalAt P w K mg base 2 (He.fAd K ("is_between", none)) (spD ⟨P, w, K, tb⟩ d_is_between) :=
  cal_x (cal_of (lv := 1) (N := N_is_between) (n := 3) (k := 0) (b := b_is_between) C.f_is_between sc_is_between rfl rfl (fun _ _ _ _ _ _ us hl => match us, hl with | [_, _, _], _ => rfl) fun cdv A outer s H E hr => by
    have hu := room_hu hr
    exact (qss_one (qs_ret (q_and (q_cal (c_is_integer C) (hr.mono (by omega)) C.g_is_integer (qa_cons (q_var (pv 0)) qa_nil)) (q_one (q_chain or_le or_le (opI2_nox _) (opI2_nox _) (opI2_kf _) (q_var (pv 1)) (q_var (pv 0)) (q_var (pv 2))))))))
def N_is_list : List PySem.Str := ["value"]
theorem sc_is_list : FnScope N_is_list ["value"] (defScope s_is_list) := ⟨rfl, rfl, rfl, by decide +kernel, rfl, by decide +kernel, by decide +kernel⟩
def b_is_list : MS :=
  (sRet (eB1 (opIsa2 nc 5 4) (eVar 0)))
def d_is_list : Df := dfx 1 0 b_is_list
theorem c_is_list {P : Program} {w : World} {K : PySem.W.Frag} {mg : PySem.Str → Option Value} {base : Heap} (C : Cn P w K mg) : C8.CalAt P w K mg base 1 (He.fAd K ("is_list", none)) (spD ⟨P, w, K, tb⟩ d_is_list) :=
  cal_x (cal_of (lv := 0) (N := N_is_list) (n := 1) (k := 0) (b := b_is_list) C.f_is_list sc_is_list rfl rfl (fun _ _ _ _ _ _ us hl => match us, hl with | [_], _ => rfl) fun cdv A outer s H E hr => by
    have hu := room_hu hr
    exact (qss_one (qs_ret (q_isT 5 4 (by decide) (by decide) C.own rfl C.n_isinstance (q_var (pv 0)) (pe_bltn rfl C.n_list bt_list rfl) (pe_bltn rfl C.n_tuple bt_tuple rfl)))))
def N_is_index : List PySem.Str := ["value", "many"]
theorem sc_is_index : FnScope N_is_index ["value", "many"] (defScope s_is_index) := ⟨rfl, rfl, rfl, by decide +kernel, rfl, by decide +kernel, by decide +kernel⟩
def b_is_index : MS :=
  (sRet (eAnd (eCall d_is_integer (aCons (eVar 0) aNil)) (eChain opLe (opI2 iLt) (eC (.int 0)) (eVar 0) (eVar 1))))
def d_is_index : Df := dfx 2 0 b_is_index
theorem c_is_index {P : Program} {w : World} {K : PySem.W.Frag} {mg : PySem.Str → Option Value} {base : Heap} (C : Cn P w K mg) : C8.CalAt P w K mg base 2 (He.fAd K ("is_index", none)) (spD ⟨P, w, K, tb⟩ d_is_index) :=
  cal_x (cal_of (lv := 1) (N := N_is_index) (n := 2) (k := 0) (b := b_is_index) C.f_is_index sc_is_index rfl rfl (fun _ _ _ _ _ _ us hl => match us, hl with | [_, _], _ => rfl) fun cdv A outer s H E hr => by
    have hu := room_hu hr
    exact (qss_one (qs_ret (q_and (q_cal (c_is_integer C) (hr.mono (by omega)) C.g_is_integer (qa_cons (q_var (pv 0)) qa_nil)) (q_one (q_chain or_le or_ltI (opI2_nox _) (opI2_nox _) (opI2_kf _) q_int (q_var (pv 0)) (q_var (pv 1))))))))
def N_is_three : List PySem.Str := ["value", "count", "one"]
theorem sc_is_three : FnScope N_is_three ["value", "count"] (defScope s_is_three) := ⟨rfl, rfl, rfl, by decide +kernel, rfl, by decide +kernel, by decide +kernel⟩
def b_is_three : MS :=
  (sRet (eAnd (eCall d_is_list (aCons (eVar 0) aNil)) (eAnd (eOp opEq (eF1 opLen (eVar 0)) (eC (.int 3))) (eF1 opAll (eLc (iSeq (eVar 0)) [2] (.nm 2) cYes (eCall d_is_index (aCons (eVar 2) (aCons (eVar 1) aNil))))))))
def d_is_three : Df := dfx 2 1 b_is_three
theorem c_is_three {P : Program} {w : World} {K : PySem.W.Frag} {mg : PySem.Str → Option Value} {base : Heap} (C : Cn P w K mg) : C8.CalAt P w K mg base 3 (He.fAd K ("is_three", none)) (spD ⟨P, w, K, tb⟩ d_is_three) :=
  cal_x (cal_of (lv := 2) (N := N_is_three) (n := 2) (k := 1) (b := b_is_three) C.f_is_three sc_is_three rfl rfl (fun _ _ _ _ _ _ us hl => match us, hl with | [_, _], _ => rfl) fun cdv A outer s H E hr => by
    have hu := room_hu hr
    exact (qss_one (qs_ret (q_and (q_cal (c_is_list C) (hr.mono (by omega)) C.g_is_list (qa_cons (q_var (pv 0)) qa_nil)) (q_and (q_cmp (or_eq hu) opEq_nox (q_b1 cr_len rfl C.n_len bt_len (q_var (pv 0))) q_int (by rfl)) (q_one (q_b1 (cr_allT rfl) rfl C.n_all bt_all (q_lc (own := [("one", 2)]) (tg := (.nm 2)) rfl sc_is_three.nd (qi_seq (q_var (pv 0))) (blkOk_by (N := N_is_three) (sc := (defScope s_is_three)) (own := [("one", 2)]) (by decide +kernel)) (by decide) (fun _ _ _ _ _ => (pg_name (i := 2) sc_is_three.nd rfl (by first | exact Or.inl rfl | exact Or.inr rfl))) (fun _ _ _ _ _ => qts_nil) (fun _ _ _ _ _ => (q_cal (c_is_index C) (hr.mono (by omega)) C.g_is_index (qa_cons (q_var (pv 2)) (qa_cons (q_var (pv 1)) qa_nil))))))))))))
def N_as_tuples : List PySem.Str := ["value", "one"]
theorem sc_as_tuples : FnScope N_as_tuples ["value"] (defScope s_as_tuples) := ⟨rfl, rfl, rfl, by decide +kernel, rfl, by decide +kernel, by decide +kernel⟩
def b_as_tuples (dE : Df) : MS :=
  (sSeq (sIf (tB1 (eB1 (opIsa2 nc 5 4) (eVar 0)))
  (sRet (eF1 opTuple (eLc (iSeq (eVar 0)) [1] (.nm 1) cYes (eCall dE (aCons (eVar 1) aNil)))))
  sNx)
  (sRet (eVar 0)))
def d_as_tuples : Nat → Df
  | 0 => dfx 1 1 sNo
  | n + 1 => dfx 1 1 (b_as_tuples (d_as_tuples n))
theorem s_as_tuples_c {P : Program} {w : World} {K : PySem.W.Frag} {mg : PySem.Str → Option Value} {base : Heap} (C : Cn P w K mg) {dE : Df} {lvE : Nat} (hl : 1 ≤ lvE) (cE : C8.CalAt P w K mg base lvE (He.fAd K ("as_tuples", none)) (spD ⟨P, w, K, tb⟩ dE)) : C8.CalAt P w K mg base (lvE + 1) (He.fAd K ("as_tuples", none)) (spD ⟨P, w, K, tb⟩ (dfx 1 1 (b_as_tuples dE))) :=
  cal_x (cal_of (lv := lvE + 0) (N := N_as_tuples) (n := 1) (k := 1) (b := b_as_tuples dE) C.f_as_tuples sc_as_tuples rfl rfl (fun _ _ _ _ _ _ us hl => match us, hl with | [_], _ => rfl) fun cdv A outer s H E hr => by
    have hu := room_hu hr
    exact (qss_cons (qs_if (qt_val (q_isT 5 4 (by decide) (by decide) C.own rfl C.n_isinstance (q_var (pv 0)) (pe_bltn rfl C.n_list bt_list rfl) (pe_bltn rfl C.n_tuple bt_tuple rfl)))
  (qss_one (qs_ret (q_t1 cr_tuple rfl C.n_tuple bt_tuple (q_lc (own := [("one", 1)]) (tg := (.nm 1)) rfl sc_as_tuples.nd (qi_seq (q_var (pv 0))) (blkOk_by (N := N_as_tuples) (sc := (defScope s_as_tuples)) (own := [("one", 1)]) (by decide +kernel)) (by decide) (fun _ _ _ _ _ => (pg_name (i := 1) sc_as_tuples.nd rfl (by first | exact Or.inl rfl | exact Or.inr rfl))) (fun _ _ _ _ _ => qts_nil) (fun _ _ _ _ _ => (q_cal cE (hr.mono (by omega)) C.g_as_tuples (qa_cons (q_var (pv 1)) qa_nil)))))))
  qss_nil)
  (qss_one (qs_ret (q_var (pv 0))))))
theorem z_as_tuples_c {P : Program} {w : World} {K : PySem.W.Frag} {mg : PySem.Str → Option Value} {base : Heap} (C : Cn P w K mg) : C8.CalAt P w K mg base 1 (He.fAd K ("as_tuples", none)) (spD ⟨P, w, K, tb⟩ (d_as_tuples 0)) :=
  cal_x (cal_of (lv := 0) (N := N_as_tuples) (n := 1) (k := 1) (b := sNo) C.f_as_tuples sc_as_tuples rfl rfl (fun _ _ _ _ _ _ us hl => match us, hl with | [_], _ => rfl) fun cdv A outer s H E hr => qss_no)
theorem c_as_tuples_n {P : Program} {w : World} {K : PySem.W.Frag} {mg : PySem.Str → Option Value} {base : Heap} (C : Cn P w K mg) : ∀ n, C8.CalAt P w K mg base (1 + 1 * n) (He.fAd K ("as_tuples", none)) (spD ⟨P, w, K, tb⟩ (d_as_tuples n))
  | 0 => z_as_tuples_c C
  | n + 1 => cal_up (s_as_tuples_c (lvE := 1 + 1 * n) C (by omega) (c_as_tuples_n C n)) (by omega)
theorem c_as_tuples {P : Program} {w : World} {K : PySem.W.Frag} {mg : PySem.Str → Option Value} {base : Heap} (C : Cn P w K mg) (n : Nat) : C8.CalAt P w K mg base (1 + 1 * n) (He.fAd K ("as_tuples", none)) (spD ⟨P, w, K, tb⟩ (d_as_tuples n)) := c_as_tuples_n C n
def N_Kinds___init__ : List PySem.Str := ["self", "count", "opposite", "barred", "one", "at"]
theorem sc_Kinds___init__ : FnScope N_Kinds___init__ ["self", "count", "opposite", "barred"] (defScope s_Kinds___init__) := ⟨rfl, rfl, rfl, by decide +kernel, rfl, by decide +kernel, by decide +kernel⟩
def b_Kinds___init__ : MS :=
  (sSeq (sIf (tNot1 (tB1 (eCall d_is_between (aCons (eVar 1) (aCons (eC (.int 1)) (aCons (eC (.int 4)) aNil))))))
  sNo
  sNx)
  (sSeq (sIf (tOr2 (tNot1 (tB1 (eCall d_is_list (aCons (eVar 2) aNil)))) (tOr2 (tB1 (eOp opNe (eF1 opLen (eVar 2)) (eVar 1))) (tNot1 (tB1 (eF1 opAll (eLc (iSeq (eVar 2)) [4] (.nm 4) cYes (eCall d_is_index (aCons (eVar 4) (aCons (eVar 1) aNil)))))))))
  sNo
  sNx)
  (sSeq (sIf (tNot1 (tB1 (eF1 opAll (eLc (iEnumT (eVar 2)) [5, 4] (.tp [5, 4]) cYes (eOp opEq (eOp opIx (eVar 2) (eVar 4)) (eVar 5))))))
  sNo
  sNx)
  (sSeq (sIf (tOr2 (tNot1 (tB1 (eCall d_is_list (aCons (eVar 3) aNil)))) (tOr2 (tB1 (eOp opGt (eF1 opLen (eVar 3)) (eC (.int 40)))) (tNot1 (tB1 (eF1 opAll (eLc (iSeq (eVar 3)) [4] (.nm 4) cYes (eCall d_is_three (aCons (eVar 4) (aCons (eVar 1) aNil)))))))))
  sNo
  sNx)
  (sSeq (sFldS nc nf 0 (eVar 0) (eVar 1))
  (sSeq (sFldS nc nf 1 (eVar 0) (eF1 opTuple (eVar 2)))
  (sFldS nc nf 2 (eVar 0) (eCall (d_as_tuples 14) (aCons (eVar 3) aNil)))))))))
def d_Kinds___init__ : Df := dfn 4 2 b_Kinds___init__
theorem c_Kinds___init__ {P : Program} {w : World} {K : PySem.W.Frag} {mg : PySem.Str → Option Value} {base : Heap} (C : Cn P w K mg) : C8.CalAt P w K mg base 16 (He.fAd K ("Kinds", some "__init__")) (spD ⟨P, w, K, tb⟩ d_Kinds___init__) :=
  cal_of (lv := 15) (N := N_Kinds___init__) (n := 4) (k := 2) (b := b_Kinds___init__) C.f_Kinds___init__ sc_Kinds___init__ rfl rfl (fun _ _ _ _ _ _ us hl => match us, hl with | [_, _, _, _], _ => rfl) fun cdv A outer s H E hr => by
    have hu := room_hu hr
    exact (qss_cons (qs_if (qt_not (qt_val (q_cal (c_is_between C) (hr.mono (by omega)) C.g_is_between (qa_cons (q_var (pv 1)) (qa_cons q_int (qa_cons (q_gi rfl C.i_MOST_KINDS) qa_nil))))))
  (qss_one qs_no)
  qss_nil)
  (qss_cons (qs_if (PW.pt (qw_or (qt_not (qt_val (q_cal (c_is_list C) (hr.mono (by omega)) C.g_is_list (qa_cons (q_var (pv 2)) qa_nil)))) (qw_or (qt_cmp (or_ne hu) opNe_nox (q_b1 cr_len rfl C.n_len bt_len (q_var (pv 2))) (q_var (pv 1)) (by rfl)) (qw_or1 (qt_not (qt_val (q_b1 (cr_allT rfl) rfl C.n_all bt_all (q_lc (own := [("one", 4)]) (tg := (.nm 4)) rfl sc_Kinds___init__.nd (qi_seq (q_var (pv 2))) (blkOk_by (N := N_Kinds___init__) (sc := (defScope s_Kinds___init__)) (own := [("one", 4)]) (by decide +kernel)) (by decide) (fun _ _ _ _ _ => (pg_name (i := 4) sc_Kinds___init__.nd rfl (by first | exact Or.inl rfl | exact Or.inr rfl))) (fun _ _ _ _ _ => qts_nil) (fun _ _ _ _ _ => (q_cal (c_is_index C) (hr.mono (by omega)) C.g_is_index (qa_cons (q_var (pv 4)) (qa_cons (q_var (pv 1)) qa_nil))))))))))))
  (qss_one qs_no)
  qss_nil)
  (qss_cons (qs_if (qt_not (qt_val (q_b1 (cr_allT rfl) rfl C.n_all bt_all (q_lc (own := [("at", 5), ("one", 4)]) (tg := (.tp [5, 4])) rfl sc_Kinds___init__.nd (qi_enum rfl C.n_enumerate (q_var (pv 2))) (blkOk_by (N := N_Kinds___init__) (sc := (defScope s_Kinds___init__)) (own := [("at", 5), ("one", 4)]) (by decide +kernel)) (by decide) (fun _ _ _ _ _ => (pg_tup rfl (pgs_cons (pg_name (i := 5) sc_Kinds___init__.nd rfl (by first | exact Or.inl rfl | exact Or.inr rfl)) (pgs_cons (pg_name (i := 4) sc_Kinds___init__.nd rfl (by first | exact Or.inl rfl | exact Or.inr rfl)) pgs_nil)))) (fun _ _ _ _ _ => qts_nil) (fun _ _ _ _ _ => (q_cmp (or_eq hu) opEq_nox (q_ix hu (q_var (pv 2)) (q_var (pv 4)) (fun _ _ => rfl)) (q_var (pv 5)) (by rfl)))))))
  (qss_one qs_no)
  qss_nil)
  (qss_cons (qs_if (PW.pt (qw_or (qt_not (qt_val (q_cal (c_is_list C) (hr.mono (by omega)) C.g_is_list (qa_cons (q_var (pv 3)) qa_nil)))) (qw_or (qt_cmp or_gt (opI2_nox _) (q_b1 cr_len rfl C.n_len bt_len (q_var (pv 3))) (q_gi rfl C.i_MOST_BARRED) (by rfl)) (qw_or1 (qt_not (qt_val (q_b1 (cr_allT rfl) rfl C.n_all bt_all (q_lc (own := [("one", 4)]) (tg := (.nm 4)) rfl sc_Kinds___init__.nd (qi_seq (q_var (pv 3))) (blkOk_by (N := N_Kinds___init__) (sc := (defScope s_Kinds___init__)) (own := [("one", 4)]) (by decide +kernel)) (by decide) (fun _ _ _ _ _ => (pg_name (i := 4) sc_Kinds___init__.nd rfl (by first | exact Or.inl rfl | exact Or.inr rfl))) (fun _ _ _ _ _ => qts_nil) (fun _ _ _ _ _ => (q_cal (c_is_three C) (hr.mono (by omega)) C.g_is_three (qa_cons (q_var (pv 4)) (qa_cons (q_var (pv 1)) qa_nil))))))))))))
  (qss_one qs_no)
  qss_nil)
  (qss_cons (qs_fld (f := 0) (by decide) C.own C.att (q_var (pv 0)) (q_var (pv 1)) rfl)
  (qss_cons (qs_fld (f := 1) (by decide) C.own C.att (q_var (pv 0)) (q_t1 cr_tuple rfl C.n_tuple bt_tuple (q_var (pv 2))) rfl)
  (qss_one (qs_fld (f := 2) (by decide) C.own C.att (q_var (pv 0)) (q_cal (c_as_tuples C 14) (hr.mono (by omega)) C.g_as_tuples (qa_cons (q_var (pv 3)) qa_nil)) rfl))))))))
def N__law_draw : List PySem.Str := ["pen", "many", "blend", "cell", "digit"]
theorem sc__law_draw : FnScope N__law_draw ["pen", "many"] (defScope s__law_draw) := ⟨rfl, rfl, rfl, by decide +kernel, rfl, by decide +kernel, by decide +kernel⟩
def b__law_draw : MS :=
  (sSeq (sSetIx (eVar 0) (eC (.str [99, 111, 117, 110, 116])) (eOp opAdd (eOp opIx (eVar 0) (eC (.str [99, 111, 117, 110, 116]))) (eC (.int 1))))
  (sSeq (sIf (tAnd2 (tB1 (eOp opEq (eOp opIx (eVar 0) (eC (.str [100, 105, 103, 105, 116, 115]))) (eC (.int 0)))) (tB1 (eOp opLt (eOp opIx (eVar 0) (eC (.str [97, 116]))) (eF1 opLen (eOp opIx (eVar 0) (eC (.str [99, 101, 108, 108, 115])))))))
  (sSeq (sSet 3 (eOp opIx (eOp opIx (eVar 0) (eC (.str [99, 101, 108, 108, 115]))) (eOp opIx (eVar 0) (eC (.str [97, 116])))))
  (sSeq (sSetIx (eVar 0) (eC (.str [97, 116])) (eOp opAdd (eOp opIx (eVar 0) (eC (.str [97, 116]))) (eC (.int 1))))
  (sIf (tB1 (eOp opGe (eVar 3) (eOp opPow (eC (.int 10)) (eC (.int 18)))))
  (sSetIx (eVar 0) (eC (.str [100, 105, 103, 105, 116, 115])) (eOp opSub (eVar 3) (eOp opPow (eC (.int 10)) (eC (.int 18)))))
  (sSetIx (eVar 0) (eC (.str [102, 111, 108, 100])) (eOp opMod (eF1 opInt (eOp opAdd (eOp opMul (eOp opIx (eVar 0) (eC (.str [102, 111, 108, 100]))) (eC (.int 69069))) (eVar 3))) (eC (.int 2147483587)))))))
  sNx)
  (sSeq (sIf (tB1 (eOp opGt (eOp opIx (eVar 0) (eC (.str [100, 105, 103, 105, 116, 115]))) (eC (.int 0))))
  (sSeq (sSet 4 (eOp opMod (eF1 opInt (eOp opIx (eVar 0) (eC (.str [100, 105, 103, 105, 116, 115])))) (eVar 1)))
  (sSeq (sSetIx (eVar 0) (eC (.str [100, 105, 103, 105, 116, 115])) (eOp opDiv (eOp opIx (eVar 0) (eC (.str [100, 105, 103, 105, 116, 115]))) (eVar 1)))
  (sRet (eVar 4))))
  sNx)
  (sSeq (sSet 2 (eOp opMod (eF1 opInt (eOp opAdd (eOp opAdd (eOp opMul (eOp opIx (eVar 0) (eC (.str [102, 111, 108, 100]))) (eC (.int 48271))) (eOp opMul (eOp opIx (eVar 0) (eC (.str [99, 111, 117, 110, 116]))) (eC (.int 7919)))) (eC (.int 13)))) (eC (.int 2147483647))))
  (sSeq (sSet 2 (eOp opMod (eF1 opInt (eOp opAdd (eOp opAdd (eOp opMul (eVar 2) (eVar 2)) (eOp opMul (eC (.int 31)) (eVar 2))) (eOp opIx (eVar 0) (eC (.str [99, 111, 117, 110, 116]))))) (eC (.int 2147483629))))
  (sSeq (sSetIx (eVar 0) (eC (.str [102, 111, 108, 100])) (eOp opMod (eF1 opInt (eOp opAdd (eOp opMul (eVar 2) (eC (.int 16807))) (eC (.int 7)))) (eC (.int 2147483647))))
  (sRet (eOp opMod (eF1 opInt (eOp opDiv (eVar 2) (eC (.int 64)))) (eVar 1)))))))))
def d__law_draw : Df := dfx 2 3 b__law_draw
theorem c__law_draw {P : Program} {w : World} {K : PySem.W.Frag} {mg : PySem.Str → Option Value} {base : Heap} (C : Cn P w K mg) : C8.CalAt P w K mg base 1 (He.fAd K ("_law_draw", none)) (spD ⟨P, w, K, tb⟩ d__law_draw) :=
  cal_x (cal_of (lv := 0) (N := N__law_draw) (n := 2) (k := 3) (b := b__law_draw) C.f__law_draw sc__law_draw rfl rfl (fun _ _ _ _ _ _ us hl => match us, hl with | [_, _], _ => rfl) fun cdv A outer s H E hr => by
    have hu := room_hu hr
    exact (qss_cons (qs_setIx hu (q_var (pv 0)) (q_str (l := [99, 111, 117, 110, 116])) (q_op or_add opAdd_nox (q_ix hu (q_var (pv 0)) (q_str (l := [99, 111, 117, 110, 116])) (fun _ _ => rfl)) q_int))
  (qss_cons (qs_if (PW.pt (qw_and (qt_cmp (or_eq hu) opEq_nox (q_ix hu (q_var (pv 0)) (q_str (l := [100, 105, 103, 105, 116, 115])) (fun _ _ => rfl)) q_int (by rfl)) (qw_and1 (qt_cmp (or_lt hu) opLt_nox (q_ix hu (q_var (pv 0)) (q_str (l := [97, 116])) (fun _ _ => rfl)) (q_b1 cr_len rfl C.n_len bt_len (q_ix hu (q_var (pv 0)) (q_str (l := [99, 101, 108, 108, 115])) (fun _ _ => rfl))) (by rfl)))))
  (qss_cons (qs_set (i := 3) sc__law_draw.nd rfl (by first | exact Or.inl rfl | exact Or.inr rfl) (q_ix hu (q_ix hu (q_var (pv 0)) (q_str (l := [99, 101, 108, 108, 115])) (fun _ _ => rfl)) (q_ix hu (q_var (pv 0)) (q_str (l := [97, 116])) (fun _ _ => rfl)) (fun _ _ => rfl)))
  (qss_cons (qs_setIx hu (q_var (pv 0)) (q_str (l := [97, 116])) (q_op or_add opAdd_nox (q_ix hu (q_var (pv 0)) (q_str (l := [97, 116])) (fun _ _ => rfl)) q_int))
  (qss_one (qs_if (qt_cmp or_ge (opI2_nox _) (q_var (pv 3)) (q_op or_pow opPow_nox q_int q_int) (by rfl))
  (qss_one (qs_setIx hu (q_var (pv 0)) (q_str (l := [100, 105, 103, 105, 116, 115])) (q_op or_sub opSub_nox (q_var (pv 3)) (q_op or_pow opPow_nox q_int q_int))))
  (qss_one (qs_setIx hu (q_var (pv 0)) (q_str (l := [102, 111, 108, 100])) (q_op or_mod opMod_nox (q_t1 cr_int rfl C.n_int bt_int (q_op or_add opAdd_nox (q_op or_mul opMul_nox (q_ix hu (q_var (pv 0)) (q_str (l := [102, 111, 108, 100])) (fun _ _ => rfl)) q_int) (q_var (pv 3)))) q_int)))))))
  qss_nil)
  (qss_cons (qs_if (qt_cmp or_gt (opI2_nox _) (q_ix hu (q_var (pv 0)) (q_str (l := [100, 105, 103, 105, 116, 115])) (fun _ _ => rfl)) q_int (by rfl))
  (qss_cons (qs_set (i := 4) sc__law_draw.nd rfl (by first | exact Or.inl rfl | exact Or.inr rfl) (q_op or_mod opMod_nox (q_t1 cr_int rfl C.n_int bt_int (q_ix hu (q_var (pv 0)) (q_str (l := [100, 105, 103, 105, 116, 115])) (fun _ _ => rfl))) (q_var (pv 1))))
  (qss_cons (qs_setIx hu (q_var (pv 0)) (q_str (l := [100, 105, 103, 105, 116, 115])) (q_op or_div opDiv_nox (q_ix hu (q_var (pv 0)) (q_str (l := [100, 105, 103, 105, 116, 115])) (fun _ _ => rfl)) (q_var (pv 1))))
  (qss_one (qs_ret (q_var (pv 4))))))
  qss_nil)
  (qss_cons (qs_set (i := 2) sc__law_draw.nd rfl (by first | exact Or.inl rfl | exact Or.inr rfl) (q_op or_mod opMod_nox (q_t1 cr_int rfl C.n_int bt_int (q_op or_add opAdd_nox (q_op or_add opAdd_nox (q_op or_mul opMul_nox (q_ix hu (q_var (pv 0)) (q_str (l := [102, 111, 108, 100])) (fun _ _ => rfl)) q_int) (q_op or_mul opMul_nox (q_ix hu (q_var (pv 0)) (q_str (l := [99, 111, 117, 110, 116])) (fun _ _ => rfl)) q_int)) q_int)) q_int))
  (qss_cons (qs_set (i := 2) sc__law_draw.nd rfl (by first | exact Or.inl rfl | exact Or.inr rfl) (q_op or_mod opMod_nox (q_t1 cr_int rfl C.n_int bt_int (q_op or_add opAdd_nox (q_op or_add opAdd_nox (q_op or_mul opMul_nox (q_var (pv 2)) (q_var (pv 2))) (q_op or_mul opMul_nox q_int (q_var (pv 2)))) (q_ix hu (q_var (pv 0)) (q_str (l := [99, 111, 117, 110, 116])) (fun _ _ => rfl)))) q_int))
  (qss_cons (qs_setIx hu (q_var (pv 0)) (q_str (l := [102, 111, 108, 100])) (q_op or_mod opMod_nox (q_t1 cr_int rfl C.n_int bt_int (q_op or_add opAdd_nox (q_op or_mul opMul_nox (q_var (pv 2)) q_int) q_int)) q_int))
  (qss_one (qs_ret (q_op or_mod opMod_nox (q_t1 cr_int rfl C.n_int bt_int (q_op or_div opDiv_nox (q_var (pv 2)) q_int)) (q_var (pv 1))))))))))))
def N__law_chain : List PySem.Str := ["many", "i", "k"]
theorem sc__law_chain : FnScope N__law_chain ["many"] (defScope s__law_chain) := ⟨rfl, rfl, rfl, by decide +kernel, rfl, by decide +kernel, by decide +kernel⟩
def b__law_chain : MS :=
  (sRet (eF1 opTuple (eLc (iRg1 (eVar 0)) [1] (.nm 1) cYes (eF1 opTuple (eLc (iRg1 (eVar 0)) [2] (.nm 2) cYes (eIf (tB1 (eOp opEq (eVar 1) (eVar 2))) (eNeg (eC (.int 1))) (eF1 opInt (eOp opEq (eF1 opAbs (eOp opSub (eVar 1) (eVar 2))) (eC (.int 1))))))))))
def d__law_chain : Df := dfx 1 2 b__law_chain
theorem c__law_chain {P : Program} {w : World} {K : PySem.W.Frag} {mg : PySem.Str → Option Value} {base : Heap} (C : Cn P w K mg) : C8.CalAt P w K mg base 1 (He.fAd K ("_law_chain", none)) (spD ⟨P, w, K, tb⟩ d__law_chain) :=
  cal_x (cal_of (lv := 0) (N := N__law_chain) (n := 1) (k := 2) (b := b__law_chain) C.f__law_chain sc__law_chain rfl rfl (fun _ _ _ _ _ _ us hl => match us, hl with | [_], _ => rfl) fun cdv A outer s H E hr => by
    have hu := room_hu hr
    exact (qss_one (qs_ret (q_t1 cr_tuple rfl C.n_tuple bt_tuple (q_lc (own := [("i", 1)]) (tg := (.nm 1)) rfl sc__law_chain.nd (qi_rg1 rfl C.n_range (q_var (pv 0))) (blkOk_by (N := N__law_chain) (sc := (defScope s__law_chain)) (own := [("i", 1)]) (by decide +kernel)) (by decide) (fun _ _ _ _ _ => (pg_name (i := 1) sc__law_chain.nd rfl (by first | exact Or.inl rfl | exact Or.inr rfl))) (fun _ _ _ _ _ => qts_nil) (fun _ _ _ _ _ => (q_t1 cr_tuple rfl C.n_tuple bt_tuple (q_lc (own := [("k", 2)]) (tg := (.nm 2)) rfl sc__law_chain.nd (qi_rg1 rfl C.n_range (q_var (pv 0))) (blkOk_by (N := N__law_chain) (sc := (relS _ (defScope s__law_chain))) (own := [("k", 2)]) (by decide +kernel)) (by decide) (fun _ _ _ _ _ => (pg_name (i := 2) sc__law_chain.nd rfl (by first | exact Or.inl rfl | exact Or.inr rfl))) (fun _ _ _ _ _ => qts_nil) (fun _ _ _ _ _ => (q_if (qt_cmp (or_eq hu) opEq_nox (q_var (pv 1)) (q_var (pv 2)) (by rfl)) (q_neg q_int) (q_t1 cr_int rfl C.n_int bt_int (q_cmp (or_eq hu) opEq_nox (q_b1 cr_abs rfl C.n_abs bt_abs (q_op or_sub opSub_nox (q_var (pv 1)) (q_var (pv 2)))) q_int (by rfl)))))))))))))
def N__law_plain_web : List PySem.Str := ["many", "i", "k"]
theorem sc__law_plain_web : FnScope N__law_plain_web ["many"] (defScope s__law_plain_web) := ⟨rfl, rfl, rfl, by decide +kernel, rfl, by decide +kernel, by decide +kernel⟩
def b__law_plain_web : MS :=
  (sRet (eF1 opTuple (eLc (iRg1 (eVar 0)) [1] (.nm 1) cYes (eF1 opTuple (eLc (iRg1 (eVar 0)) [2] (.nm 2) cYes (eIf (tB1 (eOp opEq (eVar 1) (eVar 2))) (eNeg (eC (.int 1))) (eC (.int 0))))))))
def d__law_plain_web : Df := dfx 1 2 b__law_plain_web
theorem c__law_plain_web {P : Program} {w : World} {K : PySem.W.Frag} {mg : PySem.Str → Option Value} {base : Heap} (C : Cn P w K mg) : C8.CalAt P w K mg base 1 (He.fAd K ("_law_plain_web", none)) (spD ⟨P, w, K, tb⟩ d__law_plain_web) :=
  cal_x (cal_of (lv := 0) (N := N__law_plain_web) (n := 1) (k := 2) (b := b__law_plain_web) C.f__law_plain_web sc__law_plain_web rfl rfl (fun _ _ _ _ _ _ us hl => match us, hl with | [_], _ => rfl) fun cdv A outer s H E hr => by
    have hu := room_hu hr
    exact (qss_one (qs_ret (q_t1 cr_tuple rfl C.n_tuple bt_tuple (q_lc (own := [("i", 1)]) (tg := (.nm 1)) rfl sc__law_plain_web.nd (qi_rg1 rfl C.n_range (q_var (pv 0))) (blkOk_by (N := N__law_plain_web) (sc := (defScope s__law_plain_web)) (own := [("i", 1)]) (by decide +kernel)) (by decide) (fun _ _ _ _ _ => (pg_name (i := 1) sc__law_plain_web.nd rfl (by first | exact Or.inl rfl | exact Or.inr rfl))) (fun _ _ _ _ _ => qts_nil) (fun _ _ _ _ _ => (q_t1 cr_tuple rfl C.n_tuple bt_tuple (q_lc (own := [("k", 2)]) (tg := (.nm 2)) rfl sc__law_plain_web.nd (qi_rg1 rfl C.n_range (q_var (pv 0))) (blkOk_by (N := N__law_plain_web) (sc := (relS _ (defScope s__law_plain_web))) (own := [("k", 2)]) (by decide +kernel)) (by decide) (fun _ _ _ _ _ => (pg_name (i := 2) sc__law_plain_web.nd rfl (by first | exact Or.inl rfl | exact Or.inr rfl))) (fun _ _ _ _ _ => qts_nil) (fun _ _ _ _ _ => (q_if (qt_cmp (or_eq hu) opEq_nox (q_var (pv 1)) (q_var (pv 2)) (by rfl)) (q_neg q_int) q_int))))))))))
def N__law_says : List PySem.Str := ["told", "due"]
theorem sc__law_says : FnScope N__law_says ["told", "due"] (defScope s__law_says) := ⟨rfl, rfl, rfl, by decide +kernel, rfl, by decide +kernel, by decide +kernel⟩
def b__law_says : MS :=
  (sRet (eIf (tB1 (eVar 1)) (eOp opIs (eVar 0) (eC (.bl true))) (eOp opIs (eVar 0) (eC (.bl false)))))
def d__law_says : Df := dfx 2 0 b__law_says
theorem c__law_says {P : Program} {w : World} {K : PySem.W.Frag} {mg : PySem.Str → Option Value} {base : Heap} (C : Cn P w K mg) : C8.CalAt P w K mg base 1 (He.fAd K ("_law_says", none)) (spD ⟨P, w, K, tb⟩ d__law_says) :=
  cal_x (cal_of (lv := 0) (N := N__law_says) (n := 2) (k := 0) (b := b__law_says) C.f__law_says sc__law_says rfl rfl (fun _ _ _ _ _ _ us hl => match us, hl with | [_, _], _ => rfl) fun cdv A outer s H E hr => by
    have hu := room_hu hr
    exact (qss_one (qs_ret (q_if (qt_val (q_var (pv 1))) (q_cmp or_is opIs_nox (q_var (pv 0)) q_bl (by rfl)) (q_cmp or_is opIs_nox (q_var (pv 0)) q_bl (by rfl))))))
def N_need_kinds : List PySem.Str := ["kinds"]
theorem sc_need_kinds : FnScope N_need_kinds ["kinds"] (defScope s_need_kinds) := ⟨rfl, rfl, rfl, by decide +kernel, rfl, by decide +kernel, by decide +kernel⟩
def b_need_kinds : MS :=
  (sSeq (sIf (tNot1 (tB1 (eB1 (opIsa nc (100 + 0)) (eVar 0))))
  sNo
  sNx)
  (sRet (eVar 0)))
def d_need_kinds : Df := dfx 1 0 b_need_kinds
theorem c_need_kinds {P : Program} {w : World} {K : PySem.W.Frag} {mg : PySem.Str → Option Value} {base : Heap} (C : Cn P w K mg) : C8.CalAt P w K mg base 1 (He.fAd K ("need_kinds", none)) (spD ⟨P, w, K, tb⟩ d_need_kinds) :=
  cal_x (cal_of (lv := 0) (N := N_need_kinds) (n := 1) (k := 0) (b := b_need_kinds) C.f_need_kinds sc_need_kinds rfl rfl (fun _ _ _ _ _ _ us hl => match us, hl with | [_], _ => rfl) fun cdv A outer s H E hr => by
    have hu := room_hu hr
    exact (qss_cons (qs_if (qt_not (qt_val (q_isO 0 (by decide) C.own rfl C.n_isinstance (q_var (pv 0)) (pe_glob rfl C.g_Kinds rfl))))
  (qss_one qs_no)
  qss_nil)
  (qss_one (qs_ret (q_var (pv 0))))))
def N_is_flat : List PySem.Str := ["value", "kinds", "many", "i", "k", "row", "one"]
theorem sc_is_flat : FnScope N_is_flat ["value", "kinds"] (defScope s_is_flat) := ⟨rfl, rfl, rfl, by decide +kernel, rfl, by decide +kernel, by decide +kernel⟩
def b_is_flat : MS :=
  (sSeq (sIf (tOr2 (tNot1 (tB1 (eCall d_is_list (aCons (eVar 0) aNil)))) (tB1 (eOp opGt (eF1 opLen (eVar 0)) (eC (.int 64)))))
  (sRet (eC (.bl false)))
  sNx)
  (sSeq (sSet 2 (eF1 opLen (eVar 0)))
  (sSeq (sIf (tNot1 (tB1 (eF1 opAll (eLc (iSeq (eVar 0)) [5] (.nm 5) cYes (eAnd (eCall d_is_list (aCons (eVar 5) aNil)) (eAnd (eOp opEq (eF1 opLen (eVar 5)) (eVar 2)) (eF1 opAll (eLc (iSeq (eVar 5)) [6] (.nm 6) cYes (eCall d_is_integer (aCons (eVar 6) aNil))))))))))
  (sRet (eC (.bl false)))
  sNx)
  (sSeq (sFor (iRg1 (eVar 2)) (.nm 3)
  (sSeq (sIf (tB1 (eOp opNe (eOp opIx (eOp opIx (eVar 0) (eVar 3)) (eVar 3)) (eNeg (eC (.int 1)))))
  (sRet (eC (.bl false)))
  sNx)
  (sFor (iRg1 (eVar 3)) (.nm 4)
  (sIf (tOr2 (tNot1 (tB1 (eCall d_is_index (aCons (eOp opIx (eOp opIx (eVar 0) (eVar 3)) (eVar 4)) (aCons (eB1 (opFld nc nf 0) (eVar 1)) aNil))))) (tB1 (eOp opNe (eOp opIx (eOp opIx (eVar 0) (eVar 4)) (eVar 3)) (eOp opIx (eB1 (opFld nc nf 1) (eVar 1)) (eOp opIx (eOp opIx (eVar 0) (eVar 3)) (eVar 4))))))
  (sRet (eC (.bl false)))
  sNx))))
  (sRet (eC (.bl true)))))))
def d_is_flat : Df := dfx 2 5 b_is_flat
theorem c_is_flat {P : Program} {w : World} {K : PySem.W.Frag} {mg : PySem.Str → Option Value} {base : Heap} (C : Cn P w K mg) : C8.CalAt P w K mg base 3 (He.fAd K ("is_flat", none)) (spD ⟨P, w, K, tb⟩ d_is_flat) :=
  cal_x (cal_of (lv := 2) (N := N_is_flat) (n := 2) (k := 5) (b := b_is_flat) C.f_is_flat sc_is_flat rfl rfl (fun _ _ _ _ _ _ us hl => match us, hl with | [_, _], _ => rfl) fun cdv A outer s H E hr => by
    have hu := room_hu hr
    exact (qss_cons (qs_if (PW.pt (qw_or (qt_not (qt_val (q_cal (c_is_list C) (hr.mono (by omega)) C.g_is_list (qa_cons (q_var (pv 0)) qa_nil)))) (qw_or1 (qt_cmp or_gt (opI2_nox _) (q_b1 cr_len rfl C.n_len bt_len (q_var (pv 0))) (q_gi rfl C.i_MOST_POINTS_kinds) (by rfl)))))
  (qss_one (qs_ret q_bl))
  qss_nil)
  (qss_cons (qs_set (i := 2) sc_is_flat.nd rfl (by first | exact Or.inl rfl | exact Or.inr rfl) (q_b1 cr_len rfl C.n_len bt_len (q_var (pv 0))))
  (qss_cons (qs_if (qt_not (qt_val (q_b1 (cr_allT rfl) rfl C.n_all bt_all (q_lc (own := [("row", 5)]) (tg := (.nm 5)) rfl sc_is_flat.nd (qi_seq (q_var (pv 0))) (blkOk_by (N := N_is_flat) (sc := (defScope s_is_flat)) (own := [("row", 5)]) (by decide +kernel)) (by decide) (fun _ _ _ _ _ => (pg_name (i := 5) sc_is_flat.nd rfl (by first | exact Or.inl rfl | exact Or.inr rfl))) (fun _ _ _ _ _ => qts_nil) (fun _ _ _ _ _ => (q_and (q_cal (c_is_list C) (hr.mono (by omega)) C.g_is_list (qa_cons (q_var (pv 5)) qa_nil)) (q_and (q_cmp (or_eq hu) opEq_nox (q_b1 cr_len rfl C.n_len bt_len (q_var (pv 5))) (q_var (pv 2)) (by rfl)) (q_one (q_b1 (cr_allT rfl) rfl C.n_all bt_all (q_lc (own := [("one", 6)]) (tg := (.nm 6)) rfl sc_is_flat.nd (qi_seq (q_var (pv 5))) (blkOk_by (N := N_is_flat) (sc := (relS _ (defScope s_is_flat))) (own := [("one", 6)]) (by decide +kernel)) (by decide) (fun _ _ _ _ _ => (pg_name (i := 6) sc_is_flat.nd rfl (by first | exact Or.inl rfl | exact Or.inr rfl))) (fun _ _ _ _ _ => qts_nil) (fun _ _ _ _ _ => (q_cal (c_is_integer C) (hr.mono (by omega)) C.g_is_integer (qa_cons (q_var (pv 6)) qa_nil)))))))))))))
  (qss_one (qs_ret q_bl))
  qss_nil)
  (qss_cons (qs_for (tg := (.nm 3)) PassesOwn.never rfl (qi_rg1 rfl C.n_range (q_var (pv 2))) (pg_name (i := 3) sc_is_flat.nd rfl (by first | exact Or.inl rfl | exact Or.inr rfl))
  (qss_cons (qs_if (qt_cmp (or_ne hu) opNe_nox (q_ix hu (q_ix hu (q_var (pv 0)) (q_var (pv 3)) (fun _ _ => rfl)) (q_var (pv 3)) (fun _ _ => rfl)) (q_neg q_int) (by rfl))
  (qss_one (qs_ret q_bl))
  qss_nil)
  (qss_one (qs_for (tg := (.nm 4)) PassesOwn.never rfl (qi_rg1 rfl C.n_range (q_var (pv 3))) (pg_name (i := 4) sc_is_flat.nd rfl (by first | exact Or.inl rfl | exact Or.inr rfl))
  (qss_one (qs_if (PW.pt (qw_or (qt_not (qt_val (q_cal (c_is_index C) (hr.mono (by omega)) C.g_is_index (qa_cons (q_ix hu (q_ix hu (q_var (pv 0)) (q_var (pv 3)) (fun _ _ => rfl)) (q_var (pv 4)) (fun _ _ => rfl)) (qa_cons (q_fld (f := 0) (by decide) C.own C.att (q_var (pv 1)) rfl) qa_nil))))) (qw_or1 (qt_cmp (or_ne hu) opNe_nox (q_ix hu (q_ix hu (q_var (pv 0)) (q_var (pv 4)) (fun _ _ => rfl)) (q_var (pv 3)) (fun _ _ => rfl)) (q_ix hu (q_fld (f := 1) (by decide) C.own C.att (q_var (pv 1)) rfl) (q_ix hu (q_ix hu (q_var (pv 0)) (q_var (pv 3)) (fun _ _ => rfl)) (q_var (pv 4)) (fun _ _ => rfl)) (fun _ _ => rfl)) (by rfl)))))
  (qss_one (qs_ret q_bl))
  qss_nil))))))
  (qss_one (qs_ret q_bl)))))))
def N_has_barred : List PySem.Str := ["web", "barred", "many", "i", "j", "k"]
theorem sc_has_barred : FnScope N_has_barred ["web", "barred"] (defScope s_has_barred) := ⟨rfl, rfl, rfl, by decide +kernel, rfl, by decide +kernel, by decide +kernel⟩
def b_has_barred : MS :=
  (sSeq (sSet 2 (eF1 opLen (eVar 0)))
  (sSeq (sIf (tB1 (eOp opEqD (eVar 1) eD0))
  (sRet (eC (.bl false)))
  sNx)
  (sSeq (sFor (iRg1 (eVar 2)) (.nm 3)
  (sFor (iRg2 (eOp opAdd (eVar 3) (eC (.int 1))) (eVar 2)) (.nm 4)
  (sFor (iRg2 (eOp opAdd (eVar 4) (eC (.int 1))) (eVar 2)) (.nm 5)
  (sIf (tB1 (eOp opIn (eTup (aCons (eOp opIx (eOp opIx (eVar 0) (eVar 3)) (eVar 4)) (aCons (eOp opIx (eOp opIx (eVar 0) (eVar 4)) (eVar 5)) (aCons (eOp opIx (eOp opIx (eVar 0) (eVar 3)) (eVar 5)) aNil)))) (eVar 1)))
  (sRet (eC (.bl true)))
  sNx))))
  (sRet (eC (.bl false))))))
def d_has_barred : Df := dfx 2 4 b_has_barred
theorem c_has_barred {P : Program} {w : World} {K : PySem.W.Frag} {mg : PySem.Str → Option Value} {base : Heap} (C : Cn P w K mg) : C8.CalAt P w K mg base 1 (He.fAd K ("has_barred", none)) (spD ⟨P, w, K, tb⟩ d_has_barred) :=
  cal_x (cal_of (lv := 0) (N := N_has_barred) (n := 2) (k := 4) (b := b_has_barred) C.f_has_barred sc_has_barred rfl rfl (fun _ _ _ _ _ _ us hl => match us, hl with | [_, _], _ => rfl) fun cdv A outer s H E hr => by
    have hu := room_hu hr
    exact (qss_cons (qs_set (i := 2) sc_has_barred.nd rfl (by first | exact Or.inl rfl | exact Or.inr rfl) (q_b1 cr_len rfl C.n_len bt_len (q_var (pv 0))))
  (qss_cons (qs_if (qt_cmp (or_eqD hu) opEqD_nox (q_var (pv 1)) q_d0 (by rfl))
  (qss_one (qs_ret q_bl))
  qss_nil)
  (qss_cons (qs_for (tg := (.nm 3)) PassesOwn.never rfl (qi_rg1 rfl C.n_range (q_var (pv 2))) (pg_name (i := 3) sc_has_barred.nd rfl (by first | exact Or.inl rfl | exact Or.inr rfl))
  (qss_one (qs_for (tg := (.nm 4)) PassesOwn.never rfl (qi_rg2 rfl C.n_range (q_op or_add opAdd_nox (q_var (pv 3)) q_int) (q_var (pv 2))) (pg_name (i := 4) sc_has_barred.nd rfl (by first | exact Or.inl rfl | exact Or.inr rfl))
  (qss_one (qs_for (tg := (.nm 5)) PassesOwn.never rfl (qi_rg2 rfl C.n_range (q_op or_add opAdd_nox (q_var (pv 4)) q_int) (q_var (pv 2))) (pg_name (i := 5) sc_has_barred.nd rfl (by first | exact Or.inl rfl | exact Or.inr rfl))
  (qss_one (qs_if (qt_cmp (or_in hu) opIn_nox (q_tup (qa_cons (q_ix hu (q_ix hu (q_var (pv 0)) (q_var (pv 3)) (fun _ _ => rfl)) (q_var (pv 4)) (fun _ _ => rfl)) (qa_cons (q_ix hu (q_ix hu (q_var (pv 0)) (q_var (pv 4)) (fun _ _ => rfl)) (q_var (pv 5)) (fun _ _ => rfl)) (qa_cons (q_ix hu (q_ix hu (q_var (pv 0)) (q_var (pv 3)) (fun _ _ => rfl)) (q_var (pv 5)) (fun _ _ => rfl)) qa_nil)))) (q_var (pv 1)) (by rfl))
  (qss_one (qs_ret q_bl))
  qss_nil)))))))
  (qss_one (qs_ret q_bl))))))
def N_orders_of : List PySem.Str := ["three", "opposite", "found", "left", "x", "y", "z"]
theorem sc_orders_of : FnScope N_orders_of ["three", "opposite"] (defScope s_orders_of) := ⟨rfl, rfl, rfl, by decide +kernel, rfl, by decide +kernel, by decide +kernel⟩
def b_orders_of : MS :=
  (sSeq (sPar 2 3 eD0 (eLoc (aCons (eVar 0) aNil)))
  (sSeq (sWhile (tB1 (eOp opNe (eVar 3) (eLst aNil)))
  (sSeq (sAsgT (.tp [4, 5, 6]) (eM0 opPop (eVar 3)))
  (sIf (tB1 (eOp opNotIn (eTup (aCons (eVar 4) (aCons (eVar 5) (aCons (eVar 6) aNil)))) (eVar 2)))
  (sSeq (sSetIx (eVar 2) (eTup (aCons (eVar 4) (aCons (eVar 5) (aCons (eVar 6) aNil)))) (eC (.bl true)))
  (sExpr (eM1 opExtend (eVar 3) (eLst (aCons (eTup (aCons (eOp opIx (eVar 1) (eVar 4)) (aCons (eVar 6) (aCons (eVar 5) aNil)))) (aCons (eTup (aCons (eVar 6) (aCons (eOp opIx (eVar 1) (eVar 5)) (aCons (eVar 4) aNil)))) aNil))))))
  sNx)) 4096)
  (sRet (eF1 opListA (eVar 2)))))
def d_orders_of : Df := dfx 2 5 b_orders_of
theorem c_orders_of {P : Program} {w : World} {K : PySem.W.Frag} {mg : PySem.Str → Option Value} {base : Heap} (C : Cn P w K mg) : C8.CalAt P w K mg base 1 (He.fAd K ("orders_of", none)) (spD ⟨P, w, K, tb⟩ d_orders_of) :=
  cal_x (cal_of (lv := 0) (N := N_orders_of) (n := 2) (k := 5) (b := b_orders_of) C.f_orders_of sc_orders_of rfl rfl (fun _ _ _ _ _ _ us hl => match us, hl with | [_, _], _ => rfl) fun cdv A outer s H E hr => by
    have hu := room_hu hr
    exact (qss_cons (qs_par (i := 2) (j := 3) rfl sc_orders_of.nd rfl rfl (by decide) rfl rfl q_d0 (q_loc (qa_cons (q_var (pv 0)) qa_nil)) (fun ha => ps_par rfl sc_orders_of.nd rfl rfl (by decide) rfl rfl ha rfl))
  (qss_cons (qs_while 4096 PassesOwn.never (qt_cmp (or_ne hu) opNe_nox (q_var (pv 3)) (q_lst qa_nil) (by rfl))
  (qss_cons (qs_asgT (tg := (.tp [4, 5, 6])) (q_m0 PySem.F.slot_list_pop PySem.F.type_list_pop mt_popT (q_var (pv 3))) (pg_tup rfl (pgs_cons (pg_name (i := 4) sc_orders_of.nd rfl (by first | exact Or.inl rfl | exact Or.inr rfl)) (pgs_cons (pg_name (i := 5) sc_orders_of.nd rfl (by first | exact Or.inl rfl | exact Or.inr rfl)) (pgs_cons (pg_name (i := 6) sc_orders_of.nd rfl (by first | exact Or.inl rfl | exact Or.inr rfl)) pgs_nil)))))
  (qss_one (qs_if (qt_cmp (or_notIn hu) opNotIn_nox (q_tup (qa_cons (q_var (pv 4)) (qa_cons (q_var (pv 5)) (qa_cons (q_var (pv 6)) qa_nil)))) (q_var (pv 2)) (by rfl))
  (qss_cons (qs_setIx hu (q_var (pv 2)) (q_tup (qa_cons (q_var (pv 4)) (qa_cons (q_var (pv 5)) (qa_cons (q_var (pv 6)) qa_nil)))) q_bl)
  (qss_one (qs_expr (q_m1 PySem.F.slot_list_extend PySem.F.type_list_extend mt_ext (q_var (pv 3)) (q_lst (qa_cons (q_tup (qa_cons (q_ix hu (q_var (pv 1)) (q_var (pv 4)) (fun _ _ => rfl)) (qa_cons (q_var (pv 6)) (qa_cons (q_var (pv 5)) qa_nil)))) (qa_cons (q_tup (qa_cons (q_var (pv 6)) (qa_cons (q_ix hu (q_var (pv 1)) (q_var (pv 5)) (fun _ _ => rfl)) (qa_cons (q_var (pv 4)) qa_nil)))) qa_nil)))))))
  qss_nil))))
  (qss_one (qs_ret (q_t1 (cr_listA rfl) rfl C.n_list bt_list (q_var (pv 2))))))))
def N_barred_by : List PySem.Str := ["kinds", "found", "three", "one"]
theorem sc_barred_by : FnScope N_barred_by ["kinds"] (defScope s_barred_by) := ⟨rfl, rfl, rfl, by decide +kernel, rfl, by decide +kernel, by decide +kernel⟩
def b_barred_by : MS :=
  (sSeq (sSet 1 eD0)
  (sSeq (sFor (iSeq (eB1 (opFld nc nf 2) (eVar 0))) (.nm 2)
  (sFor (iSeq (eCall d_orders_of (aCons (eVar 2) (aCons (eB1 (opFld nc nf 1) (eVar 0)) aNil)))) (.nm 3)
  (sSetIx (eVar 1) (eVar 3) (eC (.bl true)))))
  (sRet (eFrz (eVar 1)))))
def d_barred_by : Df := dfx 1 3 b_barred_by
theorem c_barred_by {P : Program} {w : World} {K : PySem.W.Frag} {mg : PySem.Str → Option Value} {base : Heap} (C : Cn P w K mg) : C8.CalAt P w K mg base 2 (He.fAd K ("barred_by", none)) (spD ⟨P, w, K, tb⟩ d_barred_by) :=
  cal_x (cal_of (lv := 1) (N := N_barred_by) (n := 1) (k := 3) (b := b_barred_by) C.f_barred_by sc_barred_by rfl rfl (fun _ _ _ _ _ _ us hl => match us, hl with | [_], _ => rfl) fun cdv A outer s H E hr => by
    have hu := room_hu hr
    exact (qss_cons (qs_set (i := 1) sc_barred_by.nd rfl (by first | exact Or.inl rfl | exact Or.inr rfl) q_d0)
  (qss_cons (qs_for (tg := (.nm 2)) PassesOwn.never rfl (qi_seq (q_fld (f := 2) (by decide) C.own C.att (q_var (pv 0)) rfl)) (pg_name (i := 2) sc_barred_by.nd rfl (by first | exact Or.inl rfl | exact Or.inr rfl))
  (qss_one (qs_for (tg := (.nm 3)) PassesOwn.never rfl (qi_seq (q_cal (c_orders_of C) (hr.mono (by omega)) C.g_orders_of (qa_cons (q_var (pv 2)) (qa_cons (q_fld (f := 1) (by decide) C.own C.att (q_var (pv 0)) rfl) qa_nil)))) (pg_name (i := 3) sc_barred_by.nd rfl (by first | exact Or.inl rfl | exact Or.inr rfl))
  (qss_one (qs_setIx hu (q_var (pv 1)) (q_var (pv 3)) q_bl)))))
  (qss_one (qs_ret (q_frz (q_var (pv 1))))))))
def N_need_web : List PySem.Str := ["kinds", "web", "what", "told"]
theorem sc_need_web : FnScope N_need_web ["kinds", "web", "what"] (defScope s_need_web) := ⟨rfl, rfl, rfl, by decide +kernel, rfl, by decide +kernel, by decide +kernel⟩
def b_need_web : MS :=
  (sSeq (sIf (tNot1 (tB1 (eCall d_is_flat (aCons (eVar 1) (aCons (eVar 0) aNil)))))
  sNo
  sNx)
  (sSeq (sSet 3 (eCall (d_as_tuples 14) (aCons (eVar 1) aNil)))
  (sSeq (sIf (tB1 (eCall d_has_barred (aCons (eVar 3) (aCons (eCall d_barred_by (aCons (eVar 0) aNil)) aNil))))
  sNo
  sNx)
  (sRet (eVar 3)))))
def d_need_web : Df := dfx 3 1 b_need_web
theorem c_need_web {P : Program} {w : World} {K : PySem.W.Frag} {mg : PySem.Str → Option Value} {base : Heap} (C : Cn P w K mg) : C8.CalAt P w K mg base 16 (He.fAd K ("need_web", none)) (spD ⟨P, w, K, tb⟩ d_need_web) :=
  cal_x (cal_of (lv := 15) (N := N_need_web) (n := 3) (k := 1) (b := b_need_web) C.f_need_web sc_need_web rfl rfl (fun _ _ _ _ _ _ us hl => match us, hl with | [_, _, _], _ => rfl) fun cdv A outer s H E hr => by
    have hu := room_hu hr
    exact (qss_cons (qs_if (qt_not (qt_val (q_cal (c_is_flat C) (hr.mono (by omega)) C.g_is_flat (qa_cons (q_var (pv 1)) (qa_cons (q_var (pv 0)) qa_nil)))))
  (qss_one qs_no)
  qss_nil)
  (qss_cons (qs_set (i := 3) sc_need_web.nd rfl (by first | exact Or.inl rfl | exact Or.inr rfl) (q_cal (c_as_tuples C 14) (hr.mono (by omega)) C.g_as_tuples (qa_cons (q_var (pv 1)) qa_nil)))
  (qss_cons (qs_if (qt_val (q_cal (c_has_barred C) (hr.mono (by omega)) C.g_has_barred (qa_cons (q_var (pv 3)) (qa_cons (q_cal (c_barred_by C) (hr.mono (by omega)) C.g_barred_by (qa_cons (q_var (pv 0)) qa_nil)) qa_nil))))
  (qss_one qs_no)
  qss_nil)
  (qss_one (qs_ret (q_var (pv 3))))))))
def N_need_small : List PySem.Str := ["web"]
theorem sc_need_small : FnScope N_need_small ["web"] (defScope s_need_small) := ⟨rfl, rfl, rfl, by decide +kernel, rfl, by decide +kernel, by decide +kernel⟩
def b_need_small : MS :=
  (sIf (tB1 (eOp opGt (eF1 opLen (eVar 0)) (eC (.int 8))))
  sNo
  sNx)
def d_need_small : Df := dfx 1 0 b_need_small
theorem c_need_small {P : Program} {w : World} {K : PySem.W.Frag} {mg : PySem.Str → Option Value} {base : Heap} (C : Cn P w K mg) : C8.CalAt P w K mg base 1 (He.fAd K ("need_small", none)) (spD ⟨P, w, K, tb⟩ d_need_small) :=
  cal_x (cal_of (lv := 0) (N := N_need_small) (n := 1) (k := 0) (b := b_need_small) C.f_need_small sc_need_small rfl rfl (fun _ _ _ _ _ _ us hl => match us, hl with | [_], _ => rfl) fun cdv A outer s H E hr => by
    have hu := room_hu hr
    exact (qss_one (qs_if (qt_cmp or_gt (opI2_nox _) (q_b1 cr_len rfl C.n_len bt_len (q_var (pv 0))) (q_gi rfl C.i_MOST_POINTS_games) (by rfl))
  (qss_one qs_no)
  qss_nil)))
def N_need_pair : List PySem.Str := ["kinds", "one", "other", "first", "second"]
theorem sc_need_pair : FnScope N_need_pair ["kinds", "one", "other"] (defScope s_need_pair) := ⟨rfl, rfl, rfl, by decide +kernel, rfl, by decide +kernel, by decide +kernel⟩
def b_need_pair : MS :=
  (sSeq (sExpr (eCall d_need_kinds (aCons (eVar 0) aNil)))
  (sSeq (sSet 3 (eCall d_need_web (aCons (eVar 0) (aCons (eVar 1) (aCons (eC (.str [111, 110, 101])) aNil)))))
  (sSeq (sSet 4 (eCall d_need_web (aCons (eVar 0) (aCons (eVar 2) (aCons (eC (.str [111, 116, 104, 101, 114])) aNil)))))
  (sSeq (sExpr (eCall d_need_small (aCons (eVar 3) aNil)))
  (sSeq (sExpr (eCall d_need_small (aCons (eVar 4) aNil)))
  (sRet (eTup (aCons (eVar 3) (aCons (eVar 4) aNil)))))))))
def d_need_pair : Df := dfx 3 2 b_need_pair
theorem c_need_pair {P : Program} {w : World} {K : PySem.W.Frag} {mg : PySem.Str → Option Value} {base : Heap} (C : Cn P w K mg) : C8.CalAt P w K mg base 17 (He.fAd K ("need_pair", none)) (spD ⟨P, w, K, tb⟩ d_need_pair) :=
  cal_x (cal_of (lv := 16) (N := N_need_pair) (n := 3) (k := 2) (b := b_need_pair) C.f_need_pair sc_need_pair rfl rfl (fun _ _ _ _ _ _ us hl => match us, hl with | [_, _, _], _ => rfl) fun cdv A outer s H E hr => by
    have hu := room_hu hr
    exact (qss_cons (qs_expr (q_cal (c_need_kinds C) (hr.mono (by omega)) C.g_need_kinds (qa_cons (q_var (pv 0)) qa_nil)))
  (qss_cons (qs_set (i := 3) sc_need_pair.nd rfl (by first | exact Or.inl rfl | exact Or.inr rfl) (q_cal (c_need_web C) (hr.mono (by omega)) C.g_need_web (qa_cons (q_var (pv 0)) (qa_cons (q_var (pv 1)) (qa_cons (q_str (l := [111, 110, 101])) qa_nil)))))
  (qss_cons (qs_set (i := 4) sc_need_pair.nd rfl (by first | exact Or.inl rfl | exact Or.inr rfl) (q_cal (c_need_web C) (hr.mono (by omega)) C.g_need_web (qa_cons (q_var (pv 0)) (qa_cons (q_var (pv 2)) (qa_cons (q_str (l := [111, 116, 104, 101, 114])) qa_nil)))))
  (qss_cons (qs_expr (q_cal (c_need_small C) (hr.mono (by omega)) C.g_need_small (qa_cons (q_var (pv 3)) qa_nil)))
  (qss_cons (qs_expr (q_cal (c_need_small C) (hr.mono (by omega)) C.g_need_small (qa_cons (q_var (pv 4)) qa_nil)))
  (qss_one (qs_ret (q_tup (qa_cons (q_var (pv 3)) (qa_cons (q_var (pv 4)) qa_nil)))))))))))
def N_need_looks : List PySem.Str := ["one", "other", "depth", "looks", "lap"]
theorem sc_need_looks : FnScope N_need_looks ["one", "other", "depth"] (defScope s_need_looks) := ⟨rfl, rfl, rfl, by decide +kernel, rfl, by decide +kernel, by decide +kernel⟩
def b_need_looks : MS :=
  (sSeq (sSet 3 (eC (.int 1)))
  (sSeq (sFor (iRg1 (eVar 2)) (.nm 4)
  (sAug 3 opMul (eOp opMul (eF1 opLen (eVar 0)) (eF1 opLen (eVar 1)))))
  (sIf (tB1 (eOp opGt (eVar 3) (eC (.int 100000))))
  sNo
  sNx)))
def d_need_looks : Df := dfx 3 2 b_need_looks
theorem c_need_looks {P : Program} {w : World} {K : PySem.W.Frag} {mg : PySem.Str → Option Value} {base : Heap} (C : Cn P w K mg) : C8.CalAt P w K mg base 1 (He.fAd K ("need_looks", none)) (spD ⟨P, w, K, tb⟩ d_need_looks) :=
  cal_x (cal_of (lv := 0) (N := N_need_looks) (n := 3) (k := 2) (b := b_need_looks) C.f_need_looks sc_need_looks rfl rfl (fun _ _ _ _ _ _ us hl => match us, hl with | [_, _, _], _ => rfl) fun cdv A outer s H E hr => by
    have hu := room_hu hr
    exact (qss_cons (qs_set (i := 3) sc_need_looks.nd rfl (by first | exact Or.inl rfl | exact Or.inr rfl) q_int)
  (qss_cons (qs_for (tg := (.nm 4)) PassesOwn.never rfl (qi_rg1 rfl C.n_range (q_var (pv 2))) (pg_name (i := 4) sc_need_looks.nd rfl (by first | exact Or.inl rfl | exact Or.inr rfl))
  (qss_one (qs_aug (i := 3) sc_need_looks.nd rfl (by first | exact Or.inl rfl | exact Or.inr rfl) or_imul opMul_nox (q_op or_mul opMul_nox (q_b1 cr_len rfl C.n_len bt_len (q_var (pv 0))) (q_b1 cr_len rfl C.n_len bt_len (q_var (pv 1)))) (h := fun he ho => ps_aug sc_need_looks.nd rfl (by first | exact Or.inl rfl | exact Or.inr rfl) he ho))))
  (qss_one (qs_if (qt_cmp or_gt (opI2_nox _) (q_var (pv 3)) (q_gi rfl C.i_MOST_LOOKS) (by rfl))
  (qss_one qs_no)
  qss_nil)))))
def N_need_game : List PySem.Str := ["kinds", "one", "other", "d", "first", "second"]
theorem sc_need_game : FnScope N_need_game ["kinds", "one", "other", "d"] (defScope s_need_game) := ⟨rfl, rfl, rfl, by decide +kernel, rfl, by decide +kernel, by decide +kernel⟩
def b_need_game : MS :=
  (sSeq (sAsgT (.tp [4, 5]) (eCall d_need_pair (aCons (eVar 0) (aCons (eVar 1) (aCons (eVar 2) aNil)))))
  (sSeq (sIf (tNot1 (tB1 (eCall d_is_between (aCons (eVar 3) (aCons (eC (.int 0)) (aCons (eC (.int 4)) aNil))))))
  sNo
  sNx)
  (sSeq (sExpr (eCall d_need_looks (aCons (eVar 4) (aCons (eVar 5) (aCons (eVar 3) aNil)))))
  (sRet (eTup (aCons (eVar 4) (aCons (eVar 5) aNil)))))))
def d_need_game : Df := dfx 4 2 b_need_game
theorem c_need_game {P : Program} {w : World} {K : PySem.W.Frag} {mg : PySem.Str → Option Value} {base : Heap} (C : Cn P w K mg) : C8.CalAt P w K mg base 18 (He.fAd K ("need_game", none)) (spD ⟨P, w, K, tb⟩ d_need_game) :=
  cal_x (cal_of (lv := 17) (N := N_need_game) (n := 4) (k := 2) (b := b_need_game) C.f_need_game sc_need_game rfl rfl (fun _ _ _ _ _ _ us hl => match us, hl with | [_, _, _, _], _ => rfl) fun cdv A outer s H E hr => by
    have hu := room_hu hr
    exact (qss_cons (qs_asgT (tg := (.tp [4, 5])) (q_cal (c_need_pair C) (hr.mono (by omega)) C.g_need_pair (qa_cons (q_var (pv 0)) (qa_cons (q_var (pv 1)) (qa_cons (q_var (pv 2)) qa_nil)))) (pg_tup rfl (pgs_cons (pg_name (i := 4) sc_need_game.nd rfl (by first | exact Or.inl rfl | exact Or.inr rfl)) (pgs_cons (pg_name (i := 5) sc_need_game.nd rfl (by first | exact Or.inl rfl | exact Or.inr rfl)) pgs_nil))))
  (qss_cons (qs_if (qt_not (qt_val (q_cal (c_is_between C) (hr.mono (by omega)) C.g_is_between (qa_cons (q_var (pv 3)) (qa_cons q_int (qa_cons (q_gi rfl C.i_MOST_DEPTH_games) qa_nil))))))
  (qss_one qs_no)
  qss_nil)
  (qss_cons (qs_expr (q_cal (c_need_looks C) (hr.mono (by omega)) C.g_need_looks (qa_cons (q_var (pv 4)) (qa_cons (q_var (pv 5)) (qa_cons (q_var (pv 3)) qa_nil)))))
  (qss_one (qs_ret (q_tup (qa_cons (q_var (pv 4)) (qa_cons (q_var (pv 5)) qa_nil)))))))))
def N_within : List PySem.Str := ["value", "n", "count", "head", "right", "part"]
theorem sc_within : FnScope N_within ["value", "n", "count"] (defScope s_within) := ⟨rfl, rfl, rfl, by decide +kernel, rfl, by decide +kernel, by decide +kernel⟩
def b_within : MS :=
  (sSeq (sIf (tOr2 (tNot1 (tB1 (eCall d_is_list (aCons (eVar 0) aNil)))) (tOr2 (tB1 (eOp opEq (eF1 opLen (eVar 0)) (eC (.int 0)))) (tNot1 (tB1 (eB1 (opIsa nc 3) (eOp opIx (eVar 0) (eC (.int 0))))))))
  (sRet (eC .non))
  sNx)
  (sSeq (sSet 3 (eOp opIx (eVar 0) (eC (.int 0))))
  (sSeq (sIf (tB1 (eOp opEq (eVar 3) (eC (.str [107, 105, 110, 100]))))
  (sSeq (sSet 4 (eAnd (eOp opEq (eF1 opLen (eVar 0)) (eC (.int 4))) (eAnd (eCall d_is_index (aCons (eOp opIx (eVar 0) (eC (.int 1))) (aCons (eVar 1) aNil))) (eAnd (eCall d_is_index (aCons (eOp opIx (eVar 0) (eC (.int 2))) (aCons (eVar 1) aNil))) (eCall d_is_index (aCons (eOp opIx (eVar 0) (eC (.int 3))) (aCons (eVar 2) aNil)))))))
  (sRet (eIf (tB1 (eVar 4)) (eLst aNil) (eC .non))))
  sNx)
  (sSeq (sIf (tB1 (eOp opEq (eVar 3) (eC (.str [115, 97, 109, 101]))))
  (sRet (eIf (tAnd2 (tB1 (eOp opEq (eF1 opLen (eVar 0)) (eC (.int 3)))) (tAnd2 (tB1 (eCall d_is_index (aCons (eOp opIx (eVar 0) (eC (.int 1))) (aCons (eVar 1) aNil)))) (tB1 (eCall d_is_index (aCons (eOp opIx (eVar 0) (eC (.int 2))) (aCons (eVar 1) aNil)))))) (eLst aNil) (eC .non)))
  sNx)
  (sSeq (sIf (tB1 (eOp opNe (eF1 opLen (eVar 0)) (eC (.int 2))))
  (sRet (eC .non))
  sNx)
  (sSeq (sIf (tB1 (eOp opEq (eVar 3) (eC (.str [110, 111, 116]))))
  (sRet (eLst (aCons (eTup (aCons (eOp opIx (eVar 0) (eC (.int 1))) (aCons (eVar 1) aNil))) aNil)))
  sNx)
  (sSeq (sIf (tB1 (eOp opIn (eVar 3) (eC (.tup (strsT [[115, 111, 109, 101], [97, 108, 108]])))))
  (sRet (eLst (aCons (eTup (aCons (eOp opIx (eVar 0) (eC (.int 1))) (aCons (eOp opAdd (eVar 1) (eC (.int 1))) aNil))) aNil)))
  sNx)
  (sSeq (sIf (tAnd2 (tB1 (eOp opIn (eVar 3) (eC (.tup (strsT [[97, 110, 100], [111, 114]]))))) (tAnd2 (tB1 (eCall d_is_list (aCons (eOp opIx (eVar 0) (eC (.int 1))) aNil))) (tB1 (eChain opLe opLe (eC (.int 2)) (eF1 opLen (eOp opIx (eVar 0) (eC (.int 1)))) (eC (.int 12))))))
  (sRet (eLc (iSeq (eOp opIx (eVar 0) (eC (.int 1)))) [5] (.nm 5) cYes (eTup (aCons (eVar 5) (aCons (eVar 1) aNil)))))
  sNx)
  (sRet (eC .non))))))))))
def d_within : Df := dfx 3 3 b_within
theorem c_within {P : Program} {w : World} {K : PySem.W.Frag} {mg : PySem.Str → Option Value} {base : Heap} (C : Cn P w K mg) : C8.CalAt P w K mg base 3 (He.fAd K ("within", none)) (spD ⟨P, w, K, tb⟩ d_within) :=
  cal_x (cal_of (lv := 2) (N := N_within) (n := 3) (k := 3) (b := b_within) C.f_within sc_within rfl rfl (fun _ _ _ _ _ _ us hl => match us, hl with | [_, _, _], _ => rfl) fun cdv A outer s H E hr => by
    have hu := room_hu hr
    exact (qss_cons (qs_if (PW.pt (qw_or (qt_not (qt_val (q_cal (c_is_list C) (hr.mono (by omega)) C.g_is_list (qa_cons (q_var (pv 0)) qa_nil)))) (qw_or (qt_cmp (or_eq hu) opEq_nox (q_b1 cr_len rfl C.n_len bt_len (q_var (pv 0))) q_int (by rfl)) (qw_or1 (qt_not (qt_val (q_isB 3 (by decide) C.own rfl C.n_isinstance (q_ix hu (q_var (pv 0)) q_int (fun _ _ => rfl)) (pe_bltn rfl C.n_str bt_str rfl))))))))
  (qss_one (qs_ret q_non))
  qss_nil)
  (qss_cons (qs_set (i := 3) sc_within.nd rfl (by first | exact Or.inl rfl | exact Or.inr rfl) (q_ix hu (q_var (pv 0)) q_int (fun _ _ => rfl)))
  (qss_cons (qs_if (qt_cmp (or_eq hu) opEq_nox (q_var (pv 3)) (q_str (l := [107, 105, 110, 100])) (by rfl))
  (qss_cons (qs_set (i := 4) sc_within.nd rfl (by first | exact Or.inl rfl | exact Or.inr rfl) (q_and (q_cmp (or_eq hu) opEq_nox (q_b1 cr_len rfl C.n_len bt_len (q_var (pv 0))) q_int (by rfl)) (q_and (q_cal (c_is_index C) (hr.mono (by omega)) C.g_is_index (qa_cons (q_ix hu (q_var (pv 0)) q_int (fun _ _ => rfl)) (qa_cons (q_var (pv 1)) qa_nil))) (q_and (q_cal (c_is_index C) (hr.mono (by omega)) C.g_is_index (qa_cons (q_ix hu (q_var (pv 0)) q_int (fun _ _ => rfl)) (qa_cons (q_var (pv 1)) qa_nil))) (q_one (q_cal (c_is_index C) (hr.mono (by omega)) C.g_is_index (qa_cons (q_ix hu (q_var (pv 0)) q_int (fun _ _ => rfl)) (qa_cons (q_var (pv 2)) qa_nil))))))))
  (qss_one (qs_ret (q_if (qt_val (q_var (pv 4))) (q_lst qa_nil) q_non))))
  qss_nil)
  (qss_cons (qs_if (qt_cmp (or_eq hu) opEq_nox (q_var (pv 3)) (q_str (l := [115, 97, 109, 101])) (by rfl))
  (qss_one (qs_ret (q_if (PW.pt (qw_and (qt_cmp (or_eq hu) opEq_nox (q_b1 cr_len rfl C.n_len bt_len (q_var (pv 0))) q_int (by rfl)) (qw_and (qt_val (q_cal (c_is_index C) (hr.mono (by omega)) C.g_is_index (qa_cons (q_ix hu (q_var (pv 0)) q_int (fun _ _ => rfl)) (qa_cons (q_var (pv 1)) qa_nil)))) (qw_and1 (qt_val (q_cal (c_is_index C) (hr.mono (by omega)) C.g_is_index (qa_cons (q_ix hu (q_var (pv 0)) q_int (fun _ _ => rfl)) (qa_cons (q_var (pv 1)) qa_nil)))))))) (q_lst qa_nil) q_non)))
  qss_nil)
  (qss_cons (qs_if (qt_cmp (or_ne hu) opNe_nox (q_b1 cr_len rfl C.n_len bt_len (q_var (pv 0))) q_int (by rfl))
  (qss_one (qs_ret q_non))
  qss_nil)
  (qss_cons (qs_if (qt_cmp (or_eq hu) opEq_nox (q_var (pv 3)) (q_str (l := [110, 111, 116])) (by rfl))
  (qss_one (qs_ret (q_lst (qa_cons (q_tup (qa_cons (q_ix hu (q_var (pv 0)) q_int (fun _ _ => rfl)) (qa_cons (q_var (pv 1)) qa_nil))) qa_nil))))
  qss_nil)
  (qss_cons (qs_if (qt_cmp (or_in hu) opIn_nox (q_var (pv 3)) (q_gt (l := [[115, 111, 109, 101], [97, 108, 108]]) rfl C.g_BOUND C.t_BOUND) (by rfl))
  (qss_one (qs_ret (q_lst (qa_cons (q_tup (qa_cons (q_ix hu (q_var (pv 0)) q_int (fun _ _ => rfl)) (qa_cons (q_op or_add opAdd_nox (q_var (pv 1)) q_int) qa_nil))) qa_nil))))
  qss_nil)
  (qss_cons (qs_if (PW.pt (qw_and (qt_cmp (or_in hu) opIn_nox (q_var (pv 3)) (q_gt (l := [[97, 110, 100], [111, 114]]) rfl C.g_MANY C.t_MANY) (by rfl)) (qw_and (qt_val (q_cal (c_is_list C) (hr.mono (by omega)) C.g_is_list (qa_cons (q_ix hu (q_var (pv 0)) q_int (fun _ _ => rfl)) qa_nil))) (qw_and1 (qt_chain or_le or_le (opI2_nox _) (opI2_nox _) (opI2_kf _) q_int (q_b1 cr_len rfl C.n_len bt_len (q_ix hu (q_var (pv 0)) q_int (fun _ _ => rfl))) (q_gi rfl C.i_MOST_PARTS))))))
  (qss_one (qs_ret (q_lc (own := [("part", 5)]) (tg := (.nm 5)) rfl sc_within.nd (qi_seq (q_ix hu (q_var (pv 0)) q_int (fun _ _ => rfl))) (blkOk_by (N := N_within) (sc := (defScope s_within)) (own := [("part", 5)]) (by decide +kernel)) (by decide) (fun _ _ _ _ _ => (pg_name (i := 5) sc_within.nd rfl (by first | exact Or.inl rfl | exact Or.inr rfl))) (fun _ _ _ _ _ => qts_nil) (fun _ _ _ _ _ => (q_tup (qa_cons (q_var (pv 5)) (qa_cons (q_var (pv 1)) qa_nil)))))))
  qss_nil)
  (qss_one (qs_ret q_non)))))))))))
def N_is_fit : List PySem.Str := ["kinds", "value", "n", "left", "seen", "parts", "one", "letters"]
theorem sc_is_fit : FnScope N_is_fit ["kinds", "value", "n"] (defScope s_is_fit) := ⟨rfl, rfl, rfl, by decide +kernel, rfl, by decide +kernel, by decide +kernel⟩
def b_is_fit : MS :=
  (sSeq (sPar 3 4 (eLoc (aCons (eTup (aCons (eVar 1) (aCons (eVar 2) aNil))) aNil)) (eC (.int 0)))
  (sSeq (sWhile (tB1 (eOp opNe (eVar 3) (eLst aNil)))
  (sSeq (sAsgT (.tp [6, 7]) (eM0 opPop (eVar 3)))
  (sSeq (sAug 4 opIAdd (eC (.int 1)))
  (sSeq (sIf (tOr2 (tB1 (eOp opGt (eVar 4) (eC (.int 60)))) (tB1 (eOp opGt (eVar 7) (eOp opAdd (eVar 2) (eC (.int 4))))))
  (sRet (eC (.bl false)))
  sNx)
  (sSeq (sSet 5 (eCall d_within (aCons (eVar 6) (aCons (eVar 7) (aCons (eB1 (opFld nc nf 0) (eVar 0)) aNil)))))
  (sSeq (sIf (tB1 (eOp opIs (eVar 5) (eC .non)))
  (sRet (eC (.bl false)))
  sNx)
  (sExpr (eM1 opExtend (eVar 3) (eVar 5)))))))) 4096)
  (sRet (eC (.bl true)))))
def d_is_fit : Df := dfx 3 5 b_is_fit
theorem c_is_fit {P : Program} {w : World} {K : PySem.W.Frag} {mg : PySem.Str → Option Value} {base : Heap} (C : Cn P w K mg) : C8.CalAt P w K mg base 4 (He.fAd K ("is_fit", none)) (spD ⟨P, w, K, tb⟩ d_is_fit) :=
  cal_x (cal_of (lv := 3) (N := N_is_fit) (n := 3) (k := 5) (b := b_is_fit) C.f_is_fit sc_is_fit rfl rfl (fun _ _ _ _ _ _ us hl => match us, hl with | [_, _, _], _ => rfl) fun cdv A outer s H E hr => by
    have hu := room_hu hr
    exact (qss_cons (qs_par (i := 3) (j := 4) rfl sc_is_fit.nd rfl rfl (by decide) rfl rfl (q_loc (qa_cons (q_tup (qa_cons (q_var (pv 1)) (qa_cons (q_var (pv 2)) qa_nil))) qa_nil)) q_int (fun ha => ps_par rfl sc_is_fit.nd rfl rfl (by decide) rfl rfl ha rfl))
  (qss_cons (qs_while 4096 PassesOwn.never (qt_cmp (or_ne hu) opNe_nox (q_var (pv 3)) (q_lst qa_nil) (by rfl))
  (qss_cons (qs_asgT (tg := (.tp [6, 7])) (q_m0 PySem.F.slot_list_pop PySem.F.type_list_pop mt_popT (q_var (pv 3))) (pg_tup rfl (pgs_cons (pg_name (i := 6) sc_is_fit.nd rfl (by first | exact Or.inl rfl | exact Or.inr rfl)) (pgs_cons (pg_name (i := 7) sc_is_fit.nd rfl (by first | exact Or.inl rfl | exact Or.inr rfl)) pgs_nil))))
  (qss_cons (qs_aug (i := 4) sc_is_fit.nd rfl (by first | exact Or.inl rfl | exact Or.inr rfl) or_iadd opIAdd_nox q_int (h := fun he ho => ps_aug sc_is_fit.nd rfl (by first | exact Or.inl rfl | exact Or.inr rfl) he ho))
  (qss_cons (qs_if (PW.pt (qw_or (qt_cmp or_gt (opI2_nox _) (q_var (pv 4)) (q_gi rfl C.i_MOST_TUPLES) (by rfl)) (qw_or1 (qt_cmp or_gt (opI2_nox _) (q_var (pv 7)) (q_op or_add opAdd_nox (q_var (pv 2)) (q_gi rfl C.i_MOST_DEPTH_sayings)) (by rfl)))))
  (qss_one (qs_ret q_bl))
  qss_nil)
  (qss_cons (qs_set (i := 5) sc_is_fit.nd rfl (by first | exact Or.inl rfl | exact Or.inr rfl) (q_cal (c_within C) (hr.mono (by omega)) C.g_within (qa_cons (q_var (pv 6)) (qa_cons (q_var (pv 7)) (qa_cons (q_fld (f := 0) (by decide) C.own C.att (q_var (pv 0)) rfl) qa_nil)))))
  (qss_cons (qs_if (qt_cmp or_is opIs_nox (q_var (pv 5)) q_non (by rfl))
  (qss_one (qs_ret q_bl))
  qss_nil)
  (qss_one (qs_expr (q_m1 PySem.F.slot_list_extend PySem.F.type_list_extend mt_ext (q_var (pv 3)) (q_var (pv 5)))))))))))
  (qss_one (qs_ret q_bl)))))
def N_is_bare : List PySem.Str := ["value", "left", "one"]
theorem sc_is_bare : FnScope N_is_bare ["value"] (defScope s_is_bare) := ⟨rfl, rfl, rfl, by decide +kernel, rfl, by decide +kernel, by decide +kernel⟩
def b_is_bare : MS :=
  (sSeq (sSet 1 (eLoc (aCons (eVar 0) aNil)))
  (sSeq (sWhile (tB1 (eOp opNe (eVar 1) (eLst aNil)))
  (sSeq (sSet 2 (eM0 opPop (eVar 1)))
  (sSeq (sIf (tB1 (eB1 (opIsa nc 5) (eVar 2)))
  (sRet (eC (.bl false)))
  sNx)
  (sIf (tB1 (eB1 (opIsa nc 4) (eVar 2)))
  (sExpr (eM1 opExtend (eVar 1) (eVar 2)))
  sNx))) 4096)
  (sRet (eC (.bl true)))))
def d_is_bare : Df := dfx 1 2 b_is_bare
theorem c_is_bare {P : Program} {w : World} {K : PySem.W.Frag} {mg : PySem.Str → Option Value} {base : Heap} (C : Cn P w K mg) : C8.CalAt P w K mg base 1 (He.fAd K ("is_bare", none)) (spD ⟨P, w, K, tb⟩ d_is_bare) :=
  cal_x (cal_of (lv := 0) (N := N_is_bare) (n := 1) (k := 2) (b := b_is_bare) C.f_is_bare sc_is_bare rfl rfl (fun _ _ _ _ _ _ us hl => match us, hl with | [_], _ => rfl) fun cdv A outer s H E hr => by
    have hu := room_hu hr
    exact (qss_cons (qs_set (i := 1) sc_is_bare.nd rfl (by first | exact Or.inl rfl | exact Or.inr rfl) (q_loc (qa_cons (q_var (pv 0)) qa_nil)))
  (qss_cons (qs_while 4096 PassesOwn.never (qt_cmp (or_ne hu) opNe_nox (q_var (pv 1)) (q_lst qa_nil) (by rfl))
  (qss_cons (qs_set (i := 2) sc_is_bare.nd rfl (by first | exact Or.inl rfl | exact Or.inr rfl) (q_m0 PySem.F.slot_list_pop PySem.F.type_list_pop mt_popT (q_var (pv 1))))
  (qss_cons (qs_if (qt_val (q_isB 5 (by decide) C.own rfl C.n_isinstance (q_var (pv 2)) (pe_bltn rfl C.n_list bt_list rfl)))
  (qss_one (qs_ret q_bl))
  qss_nil)
  (qss_one (qs_if (qt_val (q_isB 4 (by decide) C.own rfl C.n_isinstance (q_var (pv 2)) (pe_bltn rfl C.n_tuple bt_tuple rfl)))
  (qss_one (qs_expr (q_m1 PySem.F.slot_list_extend PySem.F.type_list_extend mt_ext (q_var (pv 1)) (q_var (pv 2)))))
  qss_nil)))))
  (qss_one (qs_ret q_bl)))))
def N_parts_of : List PySem.Str := ["saying"]
theorem sc_parts_of : FnScope N_parts_of ["saying"] (defScope s_parts_of) := ⟨rfl, rfl, rfl, by decide +kernel, rfl, by decide +kernel, by decide +kernel⟩
def b_parts_of : MS :=
  (sSeq (sIf (tB1 (eOp opIn (eOp opIx (eVar 0) (eC (.int 0))) (eC (.tup (strsT [[97, 110, 100], [111, 114]])))))
  (sRet (eF1 opListA (eOp opIx (eVar 0) (eC (.int 1)))))
  sNx)
  (sRet (eIf (tB1 (eOp opIn (eOp opIx (eVar 0) (eC (.int 0))) (eTup (aCons (eC (.str [110, 111, 116])) (aCons (eC (.str [115, 111, 109, 101])) (aCons (eC (.str [97, 108, 108])) aNil)))))) (eLst (aCons (eOp opIx (eVar 0) (eC (.int 1))) aNil)) (eLst aNil))))
def d_parts_of : Df := dfx 1 0 b_parts_of
theorem c_parts_of {P : Program} {w : World} {K : PySem.W.Frag} {mg : PySem.Str → Option Value} {base : Heap} (C : Cn P w K mg) : C8.CalAt P w K mg base 1 (He.fAd K ("parts_of", none)) (spD ⟨P, w, K, tb⟩ d_parts_of) :=
  cal_x (cal_of (lv := 0) (N := N_parts_of) (n := 1) (k := 0) (b := b_parts_of) C.f_parts_of sc_parts_of rfl rfl (fun _ _ _ _ _ _ us hl => match us, hl with | [_], _ => rfl) fun cdv A outer s H E hr => by
    have hu := room_hu hr
    exact (qss_cons (qs_if (qt_cmp (or_in hu) opIn_nox (q_ix hu (q_var (pv 0)) q_int (fun _ _ => rfl)) (q_gt (l := [[97, 110, 100], [111, 114]]) rfl C.g_MANY C.t_MANY) (by rfl))
  (qss_one (qs_ret (q_t1 (cr_listA rfl) rfl C.n_list bt_list (q_ix hu (q_var (pv 0)) q_int (fun _ _ => rfl)))))
  qss_nil)
  (qss_one (qs_ret (q_if (qt_cmp (or_in hu) opIn_nox (q_ix hu (q_var (pv 0)) q_int (fun _ _ => rfl)) (q_tup (qa_cons (q_str (l := [110, 111, 116])) (qa_cons (q_str (l := [115, 111, 109, 101])) (qa_cons (q_str (l := [97, 108, 108])) qa_nil)))) (by rfl)) (q_lst (qa_cons (q_ix hu (q_var (pv 0)) q_int (fun _ _ => rfl)) qa_nil)) (q_lst qa_nil))))))
def N_depth_by : List PySem.Str := ["saying", "below", "part"]
theorem sc_depth_by : FnScope N_depth_by ["saying"] (defScope s_depth_by) := ⟨rfl, rfl, rfl, by decide +kernel, rfl, by decide +kernel, by decide +kernel⟩
def b_depth_by (dE : Df) : MS :=
  (sSeq (sSet 1 (eLc (iSeq (eCall d_parts_of (aCons (eVar 0) aNil))) [2] (.nm 2) cYes (eCall dE (aCons (eVar 2) aNil))))
  (sRet (eOp opAdd (eF1 opMaxI (eOp opAdd (eVar 1) (eLst (aCons (eC (.int 0)) aNil)))) (eIf (tB1 (eOp opIn (eOp opIx (eVar 0) (eC (.int 0))) (eC (.tup (strsT [[115, 111, 109, 101], [97, 108, 108]]))))) (eC (.int 1)) (eC (.int 0))))))
def d_depth_by : Nat → Df
  | 0 => dfx 1 2 sNo
  | n + 1 => dfx 1 2 (b_depth_by (d_depth_by n))
theorem s_depth_by_c {P : Program} {w : World} {K : PySem.W.Frag} {mg : PySem.Str → Option Value} {base : Heap} (C : Cn P w K mg) {dE : Df} {lvE : Nat} (hl : 2 ≤ lvE) (cE : C8.CalAt P w K mg base lvE (He.fAd K ("depth_by", none)) (spD ⟨P, w, K, tb⟩ dE)) : C8.CalAt P w K mg base (lvE + 2) (He.fAd K ("depth_by", none)) (spD ⟨P, w, K, tb⟩ (dfx 1 2 (b_depth_by dE))) :=
  cal_x (cal_of (lv := lvE + 1) (N := N_depth_by) (n := 1) (k := 2) (b := b_depth_by dE) C.f_depth_by sc_depth_by rfl rfl (fun _ _ _ _ _ _ us hl => match us, hl with | [_], _ => rfl) fun cdv A outer s H E hr => by
    have hu := room_hu hr
    exact (qss_cons (qs_setLc (i := 1) (own := [("part", 2)]) (tg := (.nm 2)) rfl sc_depth_by.nd rfl rfl (sw_true rfl rfl rfl rfl) (qi_seq (q_cal (c_parts_of C) (hr.mono (by omega)) C.g_parts_of (qa_cons (q_var (pv 0)) qa_nil))) (blkOk_by (N := N_depth_by) (sc := (defScope s_depth_by)) (own := [("part", 2)]) (by decide +kernel)) (by decide) (fun _ _ _ _ _ => (pg_name (i := 2) sc_depth_by.nd rfl (by first | exact Or.inl rfl | exact Or.inr rfl))) (fun _ _ _ _ _ => qts_nil) (fun _ _ _ _ _ => (q_cal cE (hr.mono (by omega)) C.g_depth_by (qa_cons (q_var (pv 2)) qa_nil))))
  (qss_one (qs_ret (q_op or_add opAdd_nox (q_b1 (cr_maxI rfl) rfl C.n_max bt_max (q_op or_add opAdd_nox (q_var (pv 1)) (q_lst (qa_cons q_int qa_nil)))) (q_if (qt_cmp (or_in hu) opIn_nox (q_ix hu (q_var (pv 0)) q_int (fun _ _ => rfl)) (q_gt (l := [[115, 111, 109, 101], [97, 108, 108]]) rfl C.g_BOUND C.t_BOUND) (by rfl)) q_int q_int))))))
theorem z_depth_by_c {P : Program} {w : World} {K : PySem.W.Frag} {mg : PySem.Str → Option Value} {base : Heap} (C : Cn P w K mg) : C8.CalAt P w K mg base 2 (He.fAd K ("depth_by", none)) (spD ⟨P, w, K, tb⟩ (d_depth_by 0)) :=
  cal_x (cal_of (lv := 1) (N := N_depth_by) (n := 1) (k := 2) (b := sNo) C.f_depth_by sc_depth_by rfl rfl (fun _ _ _ _ _ _ us hl => match us, hl with | [_], _ => rfl) fun cdv A outer s H E hr => qss_no)
theorem c_depth_by_n {P : Program} {w : World} {K : PySem.W.Frag} {mg : PySem.Str → Option Value} {base : Heap} (C : Cn P w K mg) : ∀ n, C8.CalAt P w K mg base (2 + 2 * n) (He.fAd K ("depth_by", none)) (spD ⟨P, w, K, tb⟩ (d_depth_by n))
  | 0 => z_depth_by_c C
  | n + 1 => cal_up (s_depth_by_c (lvE := 2 + 2 * n) C (by omega) (c_depth_by_n C n)) (by omega)
theorem c_depth_by {P : Program} {w : World} {K : PySem.W.Frag} {mg : PySem.Str → Option Value} {base : Heap} (C : Cn P w K mg) (n : Nat) : C8.CalAt P w K mg base (2 + 2 * n) (He.fAd K ("depth_by", none)) (spD ⟨P, w, K, tb⟩ (d_depth_by n)) := c_depth_by_n C n
def N_truth_by : List PySem.Str := ["saying", "web", "points", "head", "point", "part"]
theorem sc_truth_by : FnScope N_truth_by ["saying", "web", "points"] (defScope s_truth_by) := ⟨rfl, rfl, rfl, by decide +kernel, rfl, by decide +kernel, by decide +kernel⟩
def b_truth_by (dE : Df) : MS :=
  (sSeq (sSet 3 (eOp opIx (eVar 0) (eC (.int 0))))
  (sSeq (sIf (tB1 (eOp opEq (eVar 3) (eC (.str [107, 105, 110, 100]))))
  (sRet (eOp opEq (eOp opIx (eOp opIx (eVar 1) (eOp opIx (eVar 2) (eOp opIx (eVar 0) (eC (.int 1))))) (eOp opIx (eVar 2) (eOp opIx (eVar 0) (eC (.int 2))))) (eOp opIx (eVar 0) (eC (.int 3)))))
  sNx)
  (sSeq (sIf (tB1 (eOp opEq (eVar 3) (eC (.str [115, 97, 109, 101]))))
  (sRet (eOp opEq (eOp opIx (eVar 2) (eOp opIx (eVar 0) (eC (.int 1)))) (eOp opIx (eVar 2) (eOp opIx (eVar 0) (eC (.int 2))))))
  sNx)
  (sSeq (sIf (tB1 (eOp opEq (eVar 3) (eC (.str [110, 111, 116]))))
  (sRet (eNot (eCall dE (aCons (eOp opIx (eVar 0) (eC (.int 1))) (aCons (eVar 1) (aCons (eVar 2) aNil))))))
  sNx)
  (sSeq (sIf (tB1 (eOp opIn (eVar 3) (eC (.tup (strsT [[97, 110, 100], [111, 114]])))))
  (sSeq (sFor (iSeq (eOp opIx (eVar 0) (eC (.int 1)))) (.nm 5)
  (sIf (tB1 (eOp opEq (eCall dE (aCons (eVar 5) (aCons (eVar 1) (aCons (eVar 2) aNil)))) (eOp opEq (eVar 3) (eC (.str [111, 114])))))
  (sRet (eOp opEq (eVar 3) (eC (.str [111, 114]))))
  sNx))
  (sRet (eOp opEq (eVar 3) (eC (.str [97, 110, 100])))))
  sNx)
  (sSeq (sFor (iRg1 (eF1 opLen (eVar 1))) (.nm 4)
  (sIf (tB1 (eOp opEq (eCall dE (aCons (eOp opIx (eVar 0) (eC (.int 1))) (aCons (eVar 1) (aCons (eOp opAdd (eVar 2) (eTup (aCons (eVar 4) aNil))) aNil)))) (eOp opEq (eVar 3) (eC (.str [115, 111, 109, 101])))))
  (sRet (eOp opEq (eVar 3) (eC (.str [115, 111, 109, 101]))))
  sNx))
  (sRet (eOp opEq (eVar 3) (eC (.str [97, 108, 108]))))))))))
def d_truth_by : Nat → Df
  | 0 => dfx 3 3 sNo
  | n + 1 => dfx 3 3 (b_truth_by (d_truth_by n))
theorem s_truth_by_c {P : Program} {w : World} {K : PySem.W.Frag} {mg : PySem.Str → Option Value} {base : Heap} (C : Cn P w K mg) {dE : Df} {lvE : Nat} (hl : 1 ≤ lvE) (cE : C8.CalAt P w K mg base lvE (He.fAd K ("truth_by", none)) (spD ⟨P, w, K, tb⟩ dE)) : C8.CalAt P w K mg base (lvE + 1) (He.fAd K ("truth_by", none)) (spD ⟨P, w, K, tb⟩ (dfx 3 3 (b_truth_by dE))) :=
  cal_x (cal_of (lv := lvE + 0) (N := N_truth_by) (n := 3) (k := 3) (b := b_truth_by dE) C.f_truth_by sc_truth_by rfl rfl (fun _ _ _ _ _ _ us hl => match us, hl with | [_, _, _], _ => rfl) fun cdv A outer s H E hr => by
    have hu := room_hu hr
    exact (qss_cons (qs_set (i := 3) sc_truth_by.nd rfl (by first | exact Or.inl rfl | exact Or.inr rfl) (q_ix hu (q_var (pv 0)) q_int (fun _ _ => rfl)))
  (qss_cons (qs_if (qt_cmp (or_eq hu) opEq_nox (q_var (pv 3)) (q_str (l := [107, 105, 110, 100])) (by rfl))
  (qss_one (qs_ret (q_cmp (or_eq hu) opEq_nox (q_ix hu (q_ix hu (q_var (pv 1)) (q_ix hu (q_var (pv 2)) (q_ix hu (q_var (pv 0)) q_int (fun _ _ => rfl)) (fun _ _ => rfl)) (fun _ _ => rfl)) (q_ix hu (q_var (pv 2)) (q_ix hu (q_var (pv 0)) q_int (fun _ _ => rfl)) (fun _ _ => rfl)) (fun _ _ => rfl)) (q_ix hu (q_var (pv 0)) q_int (fun _ _ => rfl)) (by rfl))))
  qss_nil)
  (qss_cons (qs_if (qt_cmp (or_eq hu) opEq_nox (q_var (pv 3)) (q_str (l := [115, 97, 109, 101])) (by rfl))
  (qss_one (qs_ret (q_cmp (or_eq hu) opEq_nox (q_ix hu (q_var (pv 2)) (q_ix hu (q_var (pv 0)) q_int (fun _ _ => rfl)) (fun _ _ => rfl)) (q_ix hu (q_var (pv 2)) (q_ix hu (q_var (pv 0)) q_int (fun _ _ => rfl)) (fun _ _ => rfl)) (by rfl))))
  qss_nil)
  (qss_cons (qs_if (qt_cmp (or_eq hu) opEq_nox (q_var (pv 3)) (q_str (l := [110, 111, 116])) (by rfl))
  (qss_one (qs_ret (q_not (q_cal cE (hr.mono (by omega)) C.g_truth_by (qa_cons (q_ix hu (q_var (pv 0)) q_int (fun _ _ => rfl)) (qa_cons (q_var (pv 1)) (qa_cons (q_var (pv 2)) qa_nil)))))))
  qss_nil)
  (qss_cons (qs_if (qt_cmp (or_in hu) opIn_nox (q_var (pv 3)) (q_gt (l := [[97, 110, 100], [111, 114]]) rfl C.g_MANY C.t_MANY) (by rfl))
  (qss_cons (qs_for (tg := (.nm 5)) PassesOwn.never rfl (qi_seq (q_ix hu (q_var (pv 0)) q_int (fun _ _ => rfl))) (pg_name (i := 5) sc_truth_by.nd rfl (by first | exact Or.inl rfl | exact Or.inr rfl))
  (qss_one (qs_if (qt_cmp (or_eq hu) opEq_nox (q_cal cE (hr.mono (by omega)) C.g_truth_by (qa_cons (q_var (pv 5)) (qa_cons (q_var (pv 1)) (qa_cons (q_var (pv 2)) qa_nil)))) (q_cmp (or_eq hu) opEq_nox (q_var (pv 3)) (q_str (l := [111, 114])) (by rfl)) (by rfl))
  (qss_one (qs_ret (q_cmp (or_eq hu) opEq_nox (q_var (pv 3)) (q_str (l := [111, 114])) (by rfl))))
  qss_nil)))
  (qss_one (qs_ret (q_cmp (or_eq hu) opEq_nox (q_var (pv 3)) (q_str (l := [97, 110, 100])) (by rfl)))))
  qss_nil)
  (qss_cons (qs_for (tg := (.nm 4)) PassesOwn.never rfl (qi_rg1 rfl C.n_range (q_b1 cr_len rfl C.n_len bt_len (q_var (pv 1)))) (pg_name (i := 4) sc_truth_by.nd rfl (by first | exact Or.inl rfl | exact Or.inr rfl))
  (qss_one (qs_if (qt_cmp (or_eq hu) opEq_nox (q_cal cE (hr.mono (by omega)) C.g_truth_by (qa_cons (q_ix hu (q_var (pv 0)) q_int (fun _ _ => rfl)) (qa_cons (q_var (pv 1)) (qa_cons (q_op or_add opAdd_nox (q_var (pv 2)) (q_tup (qa_cons (q_var (pv 4)) qa_nil))) qa_nil)))) (q_cmp (or_eq hu) opEq_nox (q_var (pv 3)) (q_str (l := [115, 111, 109, 101])) (by rfl)) (by rfl))
  (qss_one (qs_ret (q_cmp (or_eq hu) opEq_nox (q_var (pv 3)) (q_str (l := [115, 111, 109, 101])) (by rfl))))
  qss_nil)))
  (qss_one (qs_ret (q_cmp (or_eq hu) opEq_nox (q_var (pv 3)) (q_str (l := [97, 108, 108])) (by rfl)))))))))))
theorem z_truth_by_c {P : Program} {w : World} {K : PySem.W.Frag} {mg : PySem.Str → Option Value} {base : Heap} (C : Cn P w K mg) : C8.CalAt P w K mg base 1 (He.fAd K ("truth_by", none)) (spD ⟨P, w, K, tb⟩ (d_truth_by 0)) :=
  cal_x (cal_of (lv := 0) (N := N_truth_by) (n := 3) (k := 3) (b := sNo) C.f_truth_by sc_truth_by rfl rfl (fun _ _ _ _ _ _ us hl => match us, hl with | [_, _, _], _ => rfl) fun cdv A outer s H E hr => qss_no)
theorem c_truth_by_n {P : Program} {w : World} {K : PySem.W.Frag} {mg : PySem.Str → Option Value} {base : Heap} (C : Cn P w K mg) : ∀ n, C8.CalAt P w K mg base (1 + 1 * n) (He.fAd K ("truth_by", none)) (spD ⟨P, w, K, tb⟩ (d_truth_by n))
  | 0 => z_truth_by_c C
  | n + 1 => cal_up (s_truth_by_c (lvE := 1 + 1 * n) C (by omega) (c_truth_by_n C n)) (by omega)
theorem c_truth_by {P : Program} {w : World} {K : PySem.W.Frag} {mg : PySem.Str → Option Value} {base : Heap} (C : Cn P w K mg) (n : Nat) : C8.CalAt P w K mg base (1 + 1 * n) (He.fAd K ("truth_by", none)) (spD ⟨P, w, K, tb⟩ (d_truth_by n)) := c_truth_by_n C n
def N_parting_holds : List PySem.Str := ["kinds", "one", "other", "d", "value", "first", "second"]
theorem sc_parting_holds : FnScope N_parting_holds ["kinds", "one", "other", "d", "value"] (defScope s_parting_holds) := ⟨rfl, rfl, rfl, by decide +kernel, rfl, by decide +kernel, by decide +kernel⟩
def b_parting_holds : MS :=
  (sSeq (sAsgT (.tp [5, 6]) (eCall d_need_game (aCons (eVar 0) (aCons (eVar 1) (aCons (eVar 2) (aCons (eVar 3) aNil))))))
  (sSeq (sIf (tOr2 (tNot1 (tB1 (eB1 (opIsa nc (100 + 1)) (eVar 4)))) (tOr2 (tNot1 (tB1 (eCall d_is_fit (aCons (eVar 0) (aCons (eB1 (opFld nc nf 3) (eVar 4)) (aCons (eC (.int 0)) aNil)))))) (tNot1 (tB1 (eCall d_is_bare (aCons (eB1 (opFld nc nf 3) (eVar 4)) aNil))))))
  (sRet (eC (.bl false)))
  sNx)
  (sSeq (sIf (tB1 (eOp opGt (eCall (d_depth_by 10) (aCons (eB1 (opFld nc nf 3) (eVar 4)) aNil)) (eVar 3)))
  (sRet (eC (.bl false)))
  sNx)
  (sRet (eOp opNe (eCall (d_truth_by 10) (aCons (eB1 (opFld nc nf 3) (eVar 4)) (aCons (eVar 5) (aCons (eTup aNil) aNil)))) (eCall (d_truth_by 10) (aCons (eB1 (opFld nc nf 3) (eVar 4)) (aCons (eVar 6) (aCons (eTup aNil) aNil)))))))))
def d_parting_holds : Df := dfx 5 2 b_parting_holds
theorem c_parting_holds {P : Program} {w : World} {K : PySem.W.Frag} {mg : PySem.Str → Option Value} {base : Heap} (C : Cn P w K mg) : C8.CalAt P w K mg base 23 (He.fAd K ("parting_holds", none)) (spD ⟨P, w, K, tb⟩ d_parting_holds) :=
  cal_x (cal_of (lv := 22) (N := N_parting_holds) (n := 5) (k := 2) (b := b_parting_holds) C.f_parting_holds sc_parting_holds rfl rfl (fun _ _ _ _ _ _ us hl => match us, hl with | [_, _, _, _, _], _ => rfl) fun cdv A outer s H E hr => by
    have hu := room_hu hr
    exact (qss_cons (qs_asgT (tg := (.tp [5, 6])) (q_cal (c_need_game C) (hr.mono (by omega)) C.g_need_game (qa_cons (q_var (pv 0)) (qa_cons (q_var (pv 1)) (qa_cons (q_var (pv 2)) (qa_cons (q_var (pv 3)) qa_nil))))) (pg_tup rfl (pgs_cons (pg_name (i := 5) sc_parting_holds.nd rfl (by first | exact Or.inl rfl | exact Or.inr rfl)) (pgs_cons (pg_name (i := 6) sc_parting_holds.nd rfl (by first | exact Or.inl rfl | exact Or.inr rfl)) pgs_nil))))
  (qss_cons (qs_if (PW.pt (qw_or (qt_not (qt_val (q_isO 1 (by decide) C.own rfl C.n_isinstance (q_var (pv 4)) (pe_glob rfl C.g_Parting rfl)))) (qw_or (qt_not (qt_val (q_cal (c_is_fit C) (hr.mono (by omega)) C.g_is_fit (qa_cons (q_var (pv 0)) (qa_cons (q_fld (f := 3) (by decide) C.own C.att (q_var (pv 4)) rfl) (qa_cons q_int qa_nil)))))) (qw_or1 (qt_not (qt_val (q_cal (c_is_bare C) (hr.mono (by omega)) C.g_is_bare (qa_cons (q_fld (f := 3) (by decide) C.own C.att (q_var (pv 4)) rfl) qa_nil))))))))
  (qss_one (qs_ret q_bl))
  qss_nil)
  (qss_cons (qs_if (qt_cmp or_gt (opI2_nox _) (q_cal (c_depth_by C 10) (hr.mono (by omega)) C.g_depth_by (qa_cons (q_fld (f := 3) (by decide) C.own C.att (q_var (pv 4)) rfl) qa_nil)) (q_var (pv 3)) (by rfl))
  (qss_one (qs_ret q_bl))
  qss_nil)
  (qss_one (qs_ret (q_cmp (or_ne hu) opNe_nox (q_cal (c_truth_by C 10) (hr.mono (by omega)) C.g_truth_by (qa_cons (q_fld (f := 3) (by decide) C.own C.att (q_var (pv 4)) rfl) (qa_cons (q_var (pv 5)) (qa_cons (q_tup qa_nil) qa_nil)))) (q_cal (c_truth_by C 10) (hr.mono (by omega)) C.g_truth_by (qa_cons (q_fld (f := 3) (by decide) C.own C.att (q_var (pv 4)) rfl) (qa_cons (q_var (pv 6)) (qa_cons (q_tup qa_nil) qa_nil)))) (by rfl))))))))
def N_Parting___init__ : List PySem.Str := ["self", "saying"]
theorem sc_Parting___init__ : FnScope N_Parting___init__ ["self", "saying"] (defScope s_Parting___init__) := ⟨rfl, rfl, rfl, by decide +kernel, rfl, by decide +kernel, by decide +kernel⟩
def b_Parting___init__ : MS :=
  (sFldS nc nf 3 (eVar 0) (eCall (d_as_tuples 14) (aCons (eVar 1) aNil)))
def d_Parting___init__ : Df := dfn 2 0 b_Parting___init__
theorem c_Parting___init__ {P : Program} {w : World} {K : PySem.W.Frag} {mg : PySem.Str → Option Value} {base : Heap} (C : Cn P w K mg) : C8.CalAt P w K mg base 16 (He.fAd K ("Parting", some "__init__")) (spD ⟨P, w, K, tb⟩ d_Parting___init__) :=
  cal_of (lv := 15) (N := N_Parting___init__) (n := 2) (k := 0) (b := b_Parting___init__) C.f_Parting___init__ sc_Parting___init__ rfl rfl (fun _ _ _ _ _ _ us hl => match us, hl with | [_, _], _ => rfl) fun cdv A outer s H E hr => by
    have hu := room_hu hr
    exact (qss_one (qs_fld (f := 3) (by decide) C.own C.att (q_var (pv 0)) (q_cal (c_as_tuples C 14) (hr.mono (by omega)) C.g_as_tuples (qa_cons (q_var (pv 1)) qa_nil)) rfl))
def N__law_at_least : List PySem.Str := ["n", "parts", "i", "saying", "lap", "k"]
theorem sc__law_at_least : FnScope N__law_at_least ["n"] (defScope s__law_at_least) := ⟨rfl, rfl, rfl, by decide +kernel, rfl, by decide +kernel, by decide +kernel⟩
def b__law_at_least : MS :=
  (sSeq (sSet 1 (eLoc aNil))
  (sSeq (sFor (iRg1 (eVar 0)) (.nm 2)
  (sExpr (eM1 opExtend (eVar 1) (eLc (iRg1 (eVar 2)) [5] (.nm 5) cYes (eTup (aCons (eC (.str [110, 111, 116])) (aCons (eTup (aCons (eC (.str [115, 97, 109, 101])) (aCons (eVar 5) (aCons (eVar 2) aNil)))) aNil)))))))
  (sSeq (sSet 3 (eIf (tB1 (eOp opGt (eF1 opLen (eVar 1)) (eC (.int 1)))) (eTup (aCons (eC (.str [97, 110, 100])) (aCons (eF1 opTuple (eVar 1)) aNil))) (eOp opIx (eVar 1) (eC (.int 0)))))
  (sSeq (sFor (iRg1 (eVar 0)) (.nm 4)
  (sSet 3 (eTup (aCons (eC (.str [115, 111, 109, 101])) (aCons (eVar 3) aNil)))))
  (sRet (eVar 3))))))
def d__law_at_least : Df := dfx 1 5 b__law_at_least
theorem c__law_at_least {P : Program} {w : World} {K : PySem.W.Frag} {mg : PySem.Str → Option Value} {base : Heap} (C : Cn P w K mg) : C8.CalAt P w K mg base 1 (He.fAd K ("_law_at_least", none)) (spD ⟨P, w, K, tb⟩ d__law_at_least) :=
  cal_x (cal_of (lv := 0) (N := N__law_at_least) (n := 1) (k := 5) (b := b__law_at_least) C.f__law_at_least sc__law_at_least rfl rfl (fun _ _ _ _ _ _ us hl => match us, hl with | [_], _ => rfl) fun cdv A outer s H E hr => by
    have hu := room_hu hr
    exact (qss_cons (qs_set (i := 1) sc__law_at_least.nd rfl (by first | exact Or.inl rfl | exact Or.inr rfl) (q_loc qa_nil))
  (qss_cons (qs_for (tg := (.nm 2)) PassesOwn.never rfl (qi_rg1 rfl C.n_range (q_var (pv 0))) (pg_name (i := 2) sc__law_at_least.nd rfl (by first | exact Or.inl rfl | exact Or.inr rfl))
  (qss_one (qs_expr (q_m1 PySem.F.slot_list_extend PySem.F.type_list_extend mt_ext (q_var (pv 1)) (q_lc (own := [("k", 5)]) (tg := (.nm 5)) rfl sc__law_at_least.nd (qi_rg1 rfl C.n_range (q_var (pv 2))) (blkOk_by (N := N__law_at_least) (sc := (defScope s__law_at_least)) (own := [("k", 5)]) (by decide +kernel)) (by decide) (fun _ _ _ _ _ => (pg_name (i := 5) sc__law_at_least.nd rfl (by first | exact Or.inl rfl | exact Or.inr rfl))) (fun _ _ _ _ _ => qts_nil) (fun _ _ _ _ _ => (q_tup (qa_cons (q_str (l := [110, 111, 116])) (qa_cons (q_tup (qa_cons (q_str (l := [115, 97, 109, 101])) (qa_cons (q_var (pv 5)) (qa_cons (q_var (pv 2)) qa_nil)))) qa_nil)))))))))
  (qss_cons (qs_set (i := 3) sc__law_at_least.nd rfl (by first | exact Or.inl rfl | exact Or.inr rfl) (q_if (qt_cmp or_gt (opI2_nox _) (q_b1 cr_len rfl C.n_len bt_len (q_var (pv 1))) q_int (by rfl)) (q_tup (qa_cons (q_str (l := [97, 110, 100])) (qa_cons (q_t1 cr_tuple rfl C.n_tuple bt_tuple (q_var (pv 1))) qa_nil))) (q_ix hu (q_var (pv 1)) q_int (fun _ _ => rfl))))
  (qss_cons (qs_for (tg := (.nm 4)) PassesOwn.never rfl (qi_rg1 rfl C.n_range (q_var (pv 0))) (pg_name (i := 4) sc__law_at_least.nd rfl (by first | exact Or.inl rfl | exact Or.inr rfl))
  (qss_one (qs_set (i := 3) sc__law_at_least.nd rfl (by first | exact Or.inl rfl | exact Or.inr rfl) (q_tup (qa_cons (q_str (l := [115, 111, 109, 101])) (qa_cons (q_var (pv 3)) qa_nil))))))
  (qss_one (qs_ret (q_var (pv 3)))))))))
def N__law_goes : List PySem.Str := ["one", "other", "pairs", "p", "q", "a", "b"]
theorem sc__law_goes : FnScope N__law_goes ["one", "other", "pairs", "p", "q"] (defScope s__law_goes) := ⟨rfl, rfl, rfl, by decide +kernel, rfl, by decide +kernel, by decide +kernel⟩
def b__law_goes : MS :=
  (sSeq (sFor (iSeq (eVar 2)) (.tp [5, 6])
  (sIf (tOr2 (tB1 (eOp opNe (eOp opEq (eVar 5) (eVar 3)) (eOp opEq (eVar 6) (eVar 4)))) (tAnd2 (tB1 (eOp opNe (eVar 5) (eVar 3))) (tB1 (eOp opNe (eOp opIx (eOp opIx (eVar 0) (eVar 5)) (eVar 3)) (eOp opIx (eOp opIx (eVar 1) (eVar 6)) (eVar 4))))))
  (sRet (eC (.bl false)))
  sNx))
  (sRet (eC (.bl true))))
def d__law_goes : Df := dfx 5 2 b__law_goes
theorem c__law_goes {P : Program} {w : World} {K : PySem.W.Frag} {mg : PySem.Str → Option Value} {base : Heap} (C : Cn P w K mg) : C8.CalAt P w K mg base 1 (He.fAd K ("_law_goes", none)) (spD ⟨P, w, K, tb⟩ d__law_goes) :=
  cal_x (cal_of (lv := 0) (N := N__law_goes) (n := 5) (k := 2) (b := b__law_goes) C.f__law_goes sc__law_goes rfl rfl (fun _ _ _ _ _ _ us hl => match us, hl with | [_, _, _, _, _], _ => rfl) fun cdv A outer s H E hr => by
    have hu := room_hu hr
    exact (qss_cons (qs_for (tg := (.tp [5, 6])) PassesOwn.never rfl (qi_seq (q_var (pv 2))) (pg_tup rfl (pgs_cons (pg_name (i := 5) sc__law_goes.nd rfl (by first | exact Or.inl rfl | exact Or.inr rfl)) (pgs_cons (pg_name (i := 6) sc__law_goes.nd rfl (by first | exact Or.inl rfl | exact Or.inr rfl)) pgs_nil)))
  (qss_one (qs_if (PW.pt (qw_or (qt_cmp (or_ne hu) opNe_nox (q_cmp (or_eq hu) opEq_nox (q_var (pv 5)) (q_var (pv 3)) (by rfl)) (q_cmp (or_eq hu) opEq_nox (q_var (pv 6)) (q_var (pv 4)) (by rfl)) (by rfl)) (qw_or1 (PW.pt (qw_and (qt_cmp (or_ne hu) opNe_nox (q_var (pv 5)) (q_var (pv 3)) (by rfl)) (qw_and1 (qt_cmp (or_ne hu) opNe_nox (q_ix hu (q_ix hu (q_var (pv 0)) (q_var (pv 5)) (fun _ _ => rfl)) (q_var (pv 3)) (fun _ _ => rfl)) (q_ix hu (q_ix hu (q_var (pv 1)) (q_var (pv 6)) (fun _ _ => rfl)) (q_var (pv 4)) (fun _ _ => rfl)) (by rfl))))))))
  (qss_one (qs_ret q_bl))
  qss_nil)))
  (qss_one (qs_ret q_bl))))
def N__law_put_pair : List PySem.Str := ["pairs", "p", "q"]
theorem sc__law_put_pair : FnScope N__law_put_pair ["pairs", "p", "q"] (defScope s__law_put_pair) := ⟨rfl, rfl, rfl, by decide +kernel, rfl, by decide +kernel, by decide +kernel⟩
def b__law_put_pair : MS :=
  (sRet (eIf (tB1 (eOp opIn (eTup (aCons (eVar 1) (aCons (eVar 2) aNil))) (eVar 0))) (eVar 0) (eF1 opTuple (eF1 opSortedR (eOp opAdd (eVar 0) (eTup (aCons (eTup (aCons (eVar 1) (aCons (eVar 2) aNil))) aNil)))))))
def d__law_put_pair : Df := dfx 3 0 b__law_put_pair
theorem c__law_put_pair {P : Program} {w : World} {K : PySem.W.Frag} {mg : PySem.Str → Option Value} {base : Heap} (C : Cn P w K mg) : C8.CalAt P w K mg base 1 (He.fAd K ("_law_put_pair", none)) (spD ⟨P, w, K, tb⟩ d__law_put_pair) :=
  cal_x (cal_of (lv := 0) (N := N__law_put_pair) (n := 3) (k := 0) (b := b__law_put_pair) C.f__law_put_pair sc__law_put_pair rfl rfl (fun _ _ _ _ _ _ us hl => match us, hl with | [_, _, _], _ => rfl) fun cdv A outer s H E hr => by
    have hu := room_hu hr
    exact (qss_one (qs_ret (q_if (qt_cmp (or_in hu) opIn_nox (q_tup (qa_cons (q_var (pv 1)) (qa_cons (q_var (pv 2)) qa_nil))) (q_var (pv 0)) (by rfl)) (q_var (pv 0)) (q_t1 cr_tuple rfl C.n_tuple bt_tuple (q_b1 (cr_sortedR hu) rfl C.n_sorted bt_sorted (q_op or_add opAdd_nox (q_var (pv 0)) (q_tup (qa_cons (q_tup (qa_cons (q_var (pv 1)) (qa_cons (q_var (pv 2)) qa_nil))) qa_nil)))))))))
def N__law_answers : List PySem.Str := ["one", "other", "pairs", "depth", "known", "p", "q"]
theorem sc__law_answers : FnScope N__law_answers ["one", "other", "pairs", "depth", "known"] (defScope s__law_answers) := ⟨rfl, rfl, rfl, by decide +kernel, rfl, by decide +kernel, by decide +kernel⟩
def b__law_answers (dE : Df) : MS :=
  (sSeq (sFor (iRg1 (eF1 opLen (eVar 0))) (.nm 5)
  (sIf (tB1 (eOp opEq (eLc (iRg1 (eF1 opLen (eVar 1))) [6] (.nm 6) (tAnd2 (tB1 (eCall d__law_goes (aCons (eVar 0) (aCons (eVar 1) (aCons (eVar 2) (aCons (eVar 5) (aCons (eVar 6) aNil))))))) (tB1 (eCall dE (aCons (eVar 0) (aCons (eVar 1) (aCons (eCall d__law_put_pair (aCons (eVar 2) (aCons (eVar 5) (aCons (eVar 6) aNil)))) (aCons (eOp opSub (eVar 3) (eC (.int 1))) (aCons (eVar 4) aNil)))))))) (eVar 6)) (eLst aNil)))
  (sRet (eC (.bl false)))
  sNx))
  (sSeq (sFor (iRg1 (eF1 opLen (eVar 1))) (.nm 6)
  (sIf (tB1 (eOp opEq (eLc (iRg1 (eF1 opLen (eVar 0))) [5] (.nm 5) (tAnd2 (tB1 (eCall d__law_goes (aCons (eVar 0) (aCons (eVar 1) (aCons (eVar 2) (aCons (eVar 5) (aCons (eVar 6) aNil))))))) (tB1 (eCall dE (aCons (eVar 0) (aCons (eVar 1) (aCons (eCall d__law_put_pair (aCons (eVar 2) (aCons (eVar 5) (aCons (eVar 6) aNil)))) (aCons (eOp opSub (eVar 3) (eC (.int 1))) (aCons (eVar 4) aNil)))))))) (eVar 5)) (eLst aNil)))
  (sRet (eC (.bl false)))
  sNx))
  (sRet (eC (.bl true)))))
def D__law_answers (dE : Df) : Df := dfx 5 2 (b__law_answers dE)
theorem c__law_answers {P : Program} {w : World} {K : PySem.W.Frag} {mg : PySem.Str → Option Value} {base : Heap} (C : Cn P w K mg) {dE : Df} {lvE : Nat} (cE : C8.CalAt P w K mg base lvE (He.fAd K ("_law_lasts", none)) (spD ⟨P, w, K, tb⟩ dE)) : C8.CalAt P w K mg base (lvE + 2) (He.fAd K ("_law_answers", none)) (spD ⟨P, w, K, tb⟩ (D__law_answers dE)) :=
  cal_x (cal_of (lv := lvE + 1) (N := N__law_answers) (n := 5) (k := 2) (b := b__law_answers dE) C.f__law_answers sc__law_answers rfl rfl (fun _ _ _ _ _ _ us hl => match us, hl with | [_, _, _, _, _], _ => rfl) fun cdv A outer s H E hr => by
    have hu := room_hu hr
    exact (qss_cons (qs_for (tg := (.nm 5)) PassesOwn.never rfl (qi_rg1 rfl C.n_range (q_b1 cr_len rfl C.n_len bt_len (q_var (pv 0)))) (pg_name (i := 5) sc__law_answers.nd rfl (by first | exact Or.inl rfl | exact Or.inr rfl))
  (qss_one (qs_if (qt_cmp (or_eq hu) opEq_nox (q_lc (own := [("q", 6)]) (tg := (.nm 6)) rfl sc__law_answers.nd (qi_rg1 rfl C.n_range (q_b1 cr_len rfl C.n_len bt_len (q_var (pv 1)))) (blkOk_by (N := N__law_answers) (sc := (defScope s__law_answers)) (own := [("q", 6)]) (by decide +kernel)) (by decide) (fun _ _ _ _ _ => (pg_name (i := 6) sc__law_answers.nd rfl (by first | exact Or.inl rfl | exact Or.inr rfl))) (fun _ _ _ _ _ => (qts_one (PW.pt (qw_and (qt_val (q_cal (c__law_goes C) (hr.mono (by omega)) C.g__law_goes (qa_cons (q_var (pv 0)) (qa_cons (q_var (pv 1)) (qa_cons (q_var (pv 2)) (qa_cons (q_var (pv 5)) (qa_cons (q_var (pv 6)) qa_nil))))))) (qw_and1 (qt_val (q_cal cE (hr.mono (by omega)) C.g__law_lasts (qa_cons (q_var (pv 0)) (qa_cons (q_var (pv 1)) (qa_cons (q_cal (c__law_put_pair C) (hr.mono (by omega)) C.g__law_put_pair (qa_cons (q_var (pv 2)) (qa_cons (q_var (pv 5)) (qa_cons (q_var (pv 6)) qa_nil)))) (qa_cons (q_op or_sub opSub_nox (q_var (pv 3)) q_int) (qa_cons (q_var (pv 4)) qa_nil)))))))))))) (fun _ _ _ _ _ => (q_var (pv 6)))) (q_lst qa_nil) (by rfl))
  (qss_one (qs_ret q_bl))
  qss_nil)))
  (qss_cons (qs_for (tg := (.nm 6)) PassesOwn.never rfl (qi_rg1 rfl C.n_range (q_b1 cr_len rfl C.n_len bt_len (q_var (pv 1)))) (pg_name (i := 6) sc__law_answers.nd rfl (by first | exact Or.inl rfl | exact Or.inr rfl))
  (qss_one (qs_if (qt_cmp (or_eq hu) opEq_nox (q_lc (own := [("p", 5)]) (tg := (.nm 5)) rfl sc__law_answers.nd (qi_rg1 rfl C.n_range (q_b1 cr_len rfl C.n_len bt_len (q_var (pv 0)))) (blkOk_by (N := N__law_answers) (sc := (defScope s__law_answers)) (own := [("p", 5)]) (by decide +kernel)) (by decide) (fun _ _ _ _ _ => (pg_name (i := 5) sc__law_answers.nd rfl (by first | exact Or.inl rfl | exact Or.inr rfl))) (fun _ _ _ _ _ => (qts_one (PW.pt (qw_and (qt_val (q_cal (c__law_goes C) (hr.mono (by omega)) C.g__law_goes (qa_cons (q_var (pv 0)) (qa_cons (q_var (pv 1)) (qa_cons (q_var (pv 2)) (qa_cons (q_var (pv 5)) (qa_cons (q_var (pv 6)) qa_nil))))))) (qw_and1 (qt_val (q_cal cE (hr.mono (by omega)) C.g__law_lasts (qa_cons (q_var (pv 0)) (qa_cons (q_var (pv 1)) (qa_cons (q_cal (c__law_put_pair C) (hr.mono (by omega)) C.g__law_put_pair (qa_cons (q_var (pv 2)) (qa_cons (q_var (pv 5)) (qa_cons (q_var (pv 6)) qa_nil)))) (qa_cons (q_op or_sub opSub_nox (q_var (pv 3)) q_int) (qa_cons (q_var (pv 4)) qa_nil)))))))))))) (fun _ _ _ _ _ => (q_var (pv 5)))) (q_lst qa_nil) (by rfl))
  (qss_one (qs_ret q_bl))
  qss_nil)))
  (qss_one (qs_ret q_bl)))))
def N__law_lasts : List PySem.Str := ["one", "other", "pairs", "depth", "known", "key"]
theorem sc__law_lasts : FnScope N__law_lasts ["one", "other", "pairs", "depth", "known"] (defScope s__law_lasts) := ⟨rfl, rfl, rfl, by decide +kernel, rfl, by decide +kernel, by decide +kernel⟩
def b__law_lasts (dE : Df) : MS :=
  (sSeq (sIf (tB1 (eOp opEq (eVar 3) (eC (.int 0))))
  (sRet (eC (.bl true)))
  sNx)
  (sSeq (sSet 5 (eTup (aCons (eVar 2) (aCons (eVar 3) aNil))))
  (sSeq (sIf (tB1 (eOp opNotIn (eVar 5) (eVar 4)))
  (sSetIx (eVar 4) (eVar 5) (eCall (D__law_answers dE) (aCons (eVar 0) (aCons (eVar 1) (aCons (eVar 2) (aCons (eVar 3) (aCons (eVar 4) aNil)))))))
  sNx)
  (sRet (eOp opIx (eVar 4) (eVar 5))))))
def d__law_lasts : Nat → Df
  | 0 => dfx 5 1 sNo
  | n + 1 => dfx 5 1 (b__law_lasts (d__law_lasts n))
theorem s__law_lasts_c {P : Program} {w : World} {K : PySem.W.Frag} {mg : PySem.Str → Option Value} {base : Heap} (C : Cn P w K mg) {dE : Df} {lvE : Nat} (hl : 2 ≤ lvE) (cE : C8.CalAt P w K mg base lvE (He.fAd K ("_law_lasts", none)) (spD ⟨P, w, K, tb⟩ dE)) : C8.CalAt P w K mg base (lvE + 3) (He.fAd K ("_law_lasts", none)) (spD ⟨P, w, K, tb⟩ (dfx 5 1 (b__law_lasts dE))) :=
  cal_x (cal_of (lv := lvE + 2) (N := N__law_lasts) (n := 5) (k := 1) (b := b__law_lasts dE) C.f__law_lasts sc__law_lasts rfl rfl (fun _ _ _ _ _ _ us hl => match us, hl with | [_, _, _, _, _], _ => rfl) fun cdv A outer s H E hr => by
    have hu := room_hu hr
    exact (qss_cons (qs_if (qt_cmp (or_eq hu) opEq_nox (q_var (pv 3)) q_int (by rfl))
  (qss_one (qs_ret q_bl))
  qss_nil)
  (qss_cons (qs_set (i := 5) sc__law_lasts.nd rfl (by first | exact Or.inl rfl | exact Or.inr rfl) (q_tup (qa_cons (q_var (pv 2)) (qa_cons (q_var (pv 3)) qa_nil))))
  (qss_cons (qs_if (qt_cmp (or_notIn hu) opNotIn_nox (q_var (pv 5)) (q_var (pv 4)) (by rfl))
  (qss_one (qs_setIx hu (q_var (pv 4)) (q_var (pv 5)) (q_cal (c__law_answers C cE) (hr.mono (by omega)) C.g__law_answers (qa_cons (q_var (pv 0)) (qa_cons (q_var (pv 1)) (qa_cons (q_var (pv 2)) (qa_cons (q_var (pv 3)) (qa_cons (q_var (pv 4)) qa_nil))))))))
  qss_nil)
  (qss_one (qs_ret (q_ix hu (q_var (pv 4)) (q_var (pv 5)) (fun _ _ => rfl))))))))
theorem z__law_lasts_c {P : Program} {w : World} {K : PySem.W.Frag} {mg : PySem.Str → Option Value} {base : Heap} (C : Cn P w K mg) : C8.CalAt P w K mg base 2 (He.fAd K ("_law_lasts", none)) (spD ⟨P, w, K, tb⟩ (d__law_lasts 0)) :=
  cal_x (cal_of (lv := 1) (N := N__law_lasts) (n := 5) (k := 1) (b := sNo) C.f__law_lasts sc__law_lasts rfl rfl (fun _ _ _ _ _ _ us hl => match us, hl with | [_, _, _, _, _], _ => rfl) fun cdv A outer s H E hr => qss_no)
theorem c__law_lasts_n {P : Program} {w : World} {K : PySem.W.Frag} {mg : PySem.Str → Option Value} {base : Heap} (C : Cn P w K mg) : ∀ n, C8.CalAt P w K mg base (2 + 3 * n) (He.fAd K ("_law_lasts", none)) (spD ⟨P, w, K, tb⟩ (d__law_lasts n))
  | 0 => z__law_lasts_c C
  | n + 1 => cal_up (s__law_lasts_c (lvE := 2 + 3 * n) C (by omega) (c__law_lasts_n C n)) (by omega)
theorem c__law_lasts {P : Program} {w : World} {K : PySem.W.Frag} {mg : PySem.Str → Option Value} {base : Heap} (C : Cn P w K mg) (n : Nat) : C8.CalAt P w K mg base (2 + 3 * n) (He.fAd K ("_law_lasts", none)) (spD ⟨P, w, K, tb⟩ (d__law_lasts n)) := c__law_lasts_n C n
def N__law_depth : List PySem.Str := ["one", "other", "known", "depth"]
theorem sc__law_depth : FnScope N__law_depth ["one", "other"] (defScope s__law_depth) := ⟨rfl, rfl, rfl, by decide +kernel, rfl, by decide +kernel, by decide +kernel⟩
def b__law_depth : MS :=
  (sSeq (sSet 2 eD0)
  (sSeq (sFor (iRg2 (eC (.int 1)) (eC (.int 5))) (.nm 3)
  (sIf (tNot1 (tB1 (eCall (d__law_lasts 6) (aCons (eVar 0) (aCons (eVar 1) (aCons (eTup aNil) (aCons (eVar 3) (aCons (eVar 2) aNil))))))))
  (sRet (eVar 3))
  sNx))
  (sRet (eC .non))))
def d__law_depth : Df := dfx 2 2 b__law_depth
theorem c__law_depth {P : Program} {w : World} {K : PySem.W.Frag} {mg : PySem.Str → Option Value} {base : Heap} (C : Cn P w K mg) : C8.CalAt P w K mg base 21 (He.fAd K ("_law_depth", none)) (spD ⟨P, w, K, tb⟩ d__law_depth) :=
  cal_x (cal_of (lv := 20) (N := N__law_depth) (n := 2) (k := 2) (b := b__law_depth) C.f__law_depth sc__law_depth rfl rfl (fun _ _ _ _ _ _ us hl => match us, hl with | [_, _], _ => rfl) fun cdv A outer s H E hr => by
    have hu := room_hu hr
    exact (qss_cons (qs_set (i := 2) sc__law_depth.nd rfl (by first | exact Or.inl rfl | exact Or.inr rfl) q_d0)
  (qss_cons (qs_for (tg := (.nm 3)) PassesOwn.never rfl (qi_rg2 rfl C.n_range q_int q_int) (pg_name (i := 3) sc__law_depth.nd rfl (by first | exact Or.inl rfl | exact Or.inr rfl))
  (qss_one (qs_if (qt_not (qt_val (q_cal (c__law_lasts C 6) (hr.mono (by omega)) C.g__law_lasts (qa_cons (q_var (pv 0)) (qa_cons (q_var (pv 1)) (qa_cons (q_tup qa_nil) (qa_cons (q_var (pv 3)) (qa_cons (q_var (pv 2)) qa_nil))))))))
  (qss_one (qs_ret (q_var (pv 3))))
  qss_nil)))
  (qss_one (qs_ret q_non)))))
def N__law_is : List PySem.Str := ["told", "due", "at"]
theorem sc__law_is : FnScope N__law_is ["told", "due"] (defScope s__law_is) := ⟨rfl, rfl, rfl, by decide +kernel, rfl, by decide +kernel, by decide +kernel⟩
def b__law_is (dE : Df) : MS :=
  (sSeq (sIf (tB1 (eB1 (opIsa nc 4) (eVar 1)))
  (sSeq (sIf (tOr2 (tNot1 (tB1 (eB1 (opIsa nc 4) (eVar 0)))) (tB1 (eOp opNe (eF1 opLen (eVar 0)) (eF1 opLen (eVar 1)))))
  (sRet (eC (.bl false)))
  sNx)
  (sRet (eOp opEq (eLc (iRg1 (eF1 opLen (eVar 1))) [2] (.nm 2) (tNot1 (tB1 (eCall dE (aCons (eOp opIx (eVar 0) (eVar 2)) (aCons (eOp opIx (eVar 1) (eVar 2)) aNil))))) (eVar 2)) (eLst aNil))))
  sNx)
  (sSeq (sIf (tB1 (eOp opIs (eVar 1) (eC .non)))
  (sRet (eOp opIs (eVar 0) (eC .non)))
  sNx)
  (sSeq (sIf (tB1 (eOp opIs (eVar 1) (eC (.bl true))))
  (sRet (eOp opIs (eVar 0) (eC (.bl true))))
  sNx)
  (sSeq (sIf (tB1 (eOp opIs (eVar 1) (eC (.bl false))))
  (sRet (eOp opIs (eVar 0) (eC (.bl false))))
  sNx)
  (sSeq (sIf (tB1 (eB1 (opIsa nc 3) (eVar 1)))
  (sRet (eAnd (eB1 (opIsa nc 3) (eVar 0)) (eOp opEq (eVar 0) (eVar 1))))
  sNx)
  (sRet (eAnd (eB1 (opIsa nc 2) (eVar 0)) (eAnd (eNot (eB1 (opIsa nc 1) (eVar 0))) (eOp opEq (eVar 0) (eVar 1))))))))))
def d__law_is : Nat → Df
  | 0 => dfx 2 1 sNo
  | n + 1 => dfx 2 1 (b__law_is (d__law_is n))
theorem s__law_is_c {P : Program} {w : World} {K : PySem.W.Frag} {mg : PySem.Str → Option Value} {base : Heap} (C : Cn P w K mg) {dE : Df} {lvE : Nat} (hl : 1 ≤ lvE) (cE : C8.CalAt P w K mg base lvE (He.fAd K ("_law_is", none)) (spD ⟨P, w, K, tb⟩ dE)) : C8.CalAt P w K mg base (lvE + 1) (He.fAd K ("_law_is", none)) (spD ⟨P, w, K, tb⟩ (dfx 2 1 (b__law_is dE))) :=
  cal_x (cal_of (lv := lvE + 0) (N := N__law_is) (n := 2) (k := 1) (b := b__law_is dE) C.f__law_is sc__law_is rfl rfl (fun _ _ _ _ _ _ us hl => match us, hl with | [_, _], _ => rfl) fun cdv A outer s H E hr => by
    have hu := room_hu hr
    exact (qss_cons (qs_if (qt_val (q_isB 4 (by decide) C.own rfl C.n_isinstance (q_var (pv 1)) (pe_bltn rfl C.n_tuple bt_tuple rfl)))
  (qss_cons (qs_if (PW.pt (qw_or (qt_not (qt_val (q_isB 4 (by decide) C.own rfl C.n_isinstance (q_var (pv 0)) (pe_bltn rfl C.n_tuple bt_tuple rfl)))) (qw_or1 (qt_cmp (or_ne hu) opNe_nox (q_b1 cr_len rfl C.n_len bt_len (q_var (pv 0))) (q_b1 cr_len rfl C.n_len bt_len (q_var (pv 1))) (by rfl)))))
  (qss_one (qs_ret q_bl))
  qss_nil)
  (qss_one (qs_ret (q_cmp (or_eq hu) opEq_nox (q_lc (own := [("at", 2)]) (tg := (.nm 2)) rfl sc__law_is.nd (qi_rg1 rfl C.n_range (q_b1 cr_len rfl C.n_len bt_len (q_var (pv 1)))) (blkOk_by (N := N__law_is) (sc := (defScope s__law_is)) (own := [("at", 2)]) (by decide +kernel)) (by decide) (fun _ _ _ _ _ => (pg_name (i := 2) sc__law_is.nd rfl (by first | exact Or.inl rfl | exact Or.inr rfl))) (fun _ _ _ _ _ => (qts_one (qt_not (qt_val (q_cal cE (hr.mono (by omega)) C.g__law_is (qa_cons (q_ix hu (q_var (pv 0)) (q_var (pv 2)) (fun _ _ => rfl)) (qa_cons (q_ix hu (q_var (pv 1)) (q_var (pv 2)) (fun _ _ => rfl)) qa_nil))))))) (fun _ _ _ _ _ => (q_var (pv 2)))) (q_lst qa_nil) (by rfl)))))
  qss_nil)
  (qss_cons (qs_if (qt_cmp or_is opIs_nox (q_var (pv 1)) q_non (by rfl))
  (qss_one (qs_ret (q_cmp or_is opIs_nox (q_var (pv 0)) q_non (by rfl))))
  qss_nil)
  (qss_cons (qs_if (qt_cmp or_is opIs_nox (q_var (pv 1)) q_bl (by rfl))
  (qss_one (qs_ret (q_cmp or_is opIs_nox (q_var (pv 0)) q_bl (by rfl))))
  qss_nil)
  (qss_cons (qs_if (qt_cmp or_is opIs_nox (q_var (pv 1)) q_bl (by rfl))
  (qss_one (qs_ret (q_cmp or_is opIs_nox (q_var (pv 0)) q_bl (by rfl))))
  qss_nil)
  (qss_cons (qs_if (qt_val (q_isB 3 (by decide) C.own rfl C.n_isinstance (q_var (pv 1)) (pe_bltn rfl C.n_str bt_str rfl)))
  (qss_one (qs_ret (q_and (q_isB 3 (by decide) C.own rfl C.n_isinstance (q_var (pv 0)) (pe_bltn rfl C.n_str bt_str rfl)) (q_one (q_cmp (or_eq hu) opEq_nox (q_var (pv 0)) (q_var (pv 1)) (by rfl))))))
  qss_nil)
  (qss_one (qs_ret (q_and (q_isB 2 (by decide) C.own rfl C.n_isinstance (q_var (pv 0)) (pe_bltn rfl C.n_int bt_int rfl)) (q_and (q_not (q_isB 1 (by decide) C.own rfl C.n_isinstance (q_var (pv 0)) (pe_bltn rfl C.n_bool bt_bool rfl))) (q_one (q_cmp (or_eq hu) opEq_nox (q_var (pv 0)) (q_var (pv 1)) (by rfl)))))))))))))
theorem z__law_is_c {P : Program} {w : World} {K : PySem.W.Frag} {mg : PySem.Str → Option Value} {base : Heap} (C : Cn P w K mg) : C8.CalAt P w K mg base 1 (He.fAd K ("_law_is", none)) (spD ⟨P, w, K, tb⟩ (d__law_is 0)) :=
  cal_x (cal_of (lv := 0) (N := N__law_is) (n := 2) (k := 1) (b := sNo) C.f__law_is sc__law_is rfl rfl (fun _ _ _ _ _ _ us hl => match us, hl with | [_, _], _ => rfl) fun cdv A outer s H E hr => qss_no)
theorem c__law_is_n {P : Program} {w : World} {K : PySem.W.Frag} {mg : PySem.Str → Option Value} {base : Heap} (C : Cn P w K mg) : ∀ n, C8.CalAt P w K mg base (1 + 1 * n) (He.fAd K ("_law_is", none)) (spD ⟨P, w, K, tb⟩ (d__law_is n))
  | 0 => z__law_is_c C
  | n + 1 => cal_up (s__law_is_c (lvE := 1 + 1 * n) C (by omega) (c__law_is_n C n)) (by omega)
theorem c__law_is {P : Program} {w : World} {K : PySem.W.Frag} {mg : PySem.Str → Option Value} {base : Heap} (C : Cn P w K mg) (n : Nat) : C8.CalAt P w K mg base (1 + 1 * n) (He.fAd K ("_law_is", none)) (spD ⟨P, w, K, tb⟩ (d__law_is n)) := c__law_is_n C n
def N_Game___init__ : List PySem.Str := ["self", "one", "other"]
theorem sc_Game___init__ : FnScope N_Game___init__ ["self", "one", "other"] (defScope s_Game___init__) := ⟨rfl, rfl, rfl, by decide +kernel, rfl, by decide +kernel, by decide +kernel⟩
def b_Game___init__ : MS :=
  (sSeq (sFldS nc nf 4 (eVar 0) (eVar 1))
  (sSeq (sFldS nc nf 5 (eVar 0) (eVar 2))
  (sFldS nc nf 6 (eVar 0) eD0)))
def d_Game___init__ : Df := dfn 3 0 b_Game___init__
theorem c_Game___init__ {P : Program} {w : World} {K : PySem.W.Frag} {mg : PySem.Str → Option Value} {base : Heap} (C : Cn P w K mg) : C8.CalAt P w K mg base 1 (He.fAd K ("Game", some "__init__")) (spD ⟨P, w, K, tb⟩ d_Game___init__) :=
  cal_of (lv := 0) (N := N_Game___init__) (n := 3) (k := 0) (b := b_Game___init__) C.f_Game___init__ sc_Game___init__ rfl rfl (fun _ _ _ _ _ _ us hl => match us, hl with | [_, _, _], _ => rfl) fun cdv A outer s H E hr => by
    have hu := room_hu hr
    exact (qss_cons (qs_fld (f := 4) (by decide) C.own C.att (q_var (pv 0)) (q_var (pv 1)) rfl)
  (qss_cons (qs_fld (f := 5) (by decide) C.own C.att (q_var (pv 0)) (q_var (pv 2)) rfl)
  (qss_one (qs_fld (f := 6) (by decide) C.own C.att (q_var (pv 0)) q_d0 rfl))))
def N_goes_on : List PySem.Str := ["one", "other", "pairs", "p", "q", "a", "b"]
theorem sc_goes_on : FnScope N_goes_on ["one", "other", "pairs", "p", "q"] (defScope s_goes_on) := ⟨rfl, rfl, rfl, by decide +kernel, rfl, by decide +kernel, by decide +kernel⟩
def b_goes_on : MS :=
  (sSeq (sFor (iSeq (eVar 2)) (.tp [5, 6])
  (sSeq (sIf (tB1 (eOp opNe (eOp opEq (eVar 5) (eVar 3)) (eOp opEq (eVar 6) (eVar 4))))
  (sRet (eC (.bl false)))
  sNx)
  (sIf (tAnd2 (tB1 (eOp opNe (eVar 5) (eVar 3))) (tB1 (eOp opNe (eOp opIx (eOp opIx (eVar 0) (eVar 5)) (eVar 3)) (eOp opIx (eOp opIx (eVar 1) (eVar 6)) (eVar 4)))))
  (sRet (eC (.bl false)))
  sNx)))
  (sRet (eC (.bl true))))
def d_goes_on : Df := dfx 5 2 b_goes_on
theorem c_goes_on {P : Program} {w : World} {K : PySem.W.Frag} {mg : PySem.Str → Option Value} {base : Heap} (C : Cn P w K mg) : C8.CalAt P w K mg base 1 (He.fAd K ("goes_on", none)) (spD ⟨P, w, K, tb⟩ d_goes_on) :=
  cal_x (cal_of (lv := 0) (N := N_goes_on) (n := 5) (k := 2) (b := b_goes_on) C.f_goes_on sc_goes_on rfl rfl (fun _ _ _ _ _ _ us hl => match us, hl with | [_, _, _, _, _], _ => rfl) fun cdv A outer s H E hr => by
    have hu := room_hu hr
    exact (qss_cons (qs_for (tg := (.tp [5, 6])) PassesOwn.never rfl (qi_seq (q_var (pv 2))) (pg_tup rfl (pgs_cons (pg_name (i := 5) sc_goes_on.nd rfl (by first | exact Or.inl rfl | exact Or.inr rfl)) (pgs_cons (pg_name (i := 6) sc_goes_on.nd rfl (by first | exact Or.inl rfl | exact Or.inr rfl)) pgs_nil)))
  (qss_cons (qs_if (qt_cmp (or_ne hu) opNe_nox (q_cmp (or_eq hu) opEq_nox (q_var (pv 5)) (q_var (pv 3)) (by rfl)) (q_cmp (or_eq hu) opEq_nox (q_var (pv 6)) (q_var (pv 4)) (by rfl)) (by rfl))
  (qss_one (qs_ret q_bl))
  qss_nil)
  (qss_one (qs_if (PW.pt (qw_and (qt_cmp (or_ne hu) opNe_nox (q_var (pv 5)) (q_var (pv 3)) (by rfl)) (qw_and1 (qt_cmp (or_ne hu) opNe_nox (q_ix hu (q_ix hu (q_var (pv 0)) (q_var (pv 5)) (fun _ _ => rfl)) (q_var (pv 3)) (fun _ _ => rfl)) (q_ix hu (q_ix hu (q_var (pv 1)) (q_var (pv 6)) (fun _ _ => rfl)) (q_var (pv 4)) (fun _ _ => rfl)) (by rfl)))))
  (qss_one (qs_ret q_bl))
  qss_nil))))
  (qss_one (qs_ret q_bl))))
def N_with_pair : List PySem.Str := ["pairs", "p", "q"]
theorem sc_with_pair : FnScope N_with_pair ["pairs", "p", "q"] (defScope s_with_pair) := ⟨rfl, rfl, rfl, by decide +kernel, rfl, by decide +kernel, by decide +kernel⟩
def b_with_pair : MS :=
  (sRet (eIf (tB1 (eOp opIn (eTup (aCons (eVar 1) (aCons (eVar 2) aNil))) (eVar 0))) (eVar 0) (eF1 opTuple (eF1 opSortedR (eOp opAdd (eVar 0) (eTup (aCons (eTup (aCons (eVar 1) (aCons (eVar 2) aNil))) aNil)))))))
def d_with_pair : Df := dfx 3 0 b_with_pair
theorem c_with_pair {P : Program} {w : World} {K : PySem.W.Frag} {mg : PySem.Str → Option Value} {base : Heap} (C : Cn P w K mg) : C8.CalAt P w K mg base 1 (He.fAd K ("with_pair", none)) (spD ⟨P, w, K, tb⟩ d_with_pair) :=
  cal_x (cal_of (lv := 0) (N := N_with_pair) (n := 3) (k := 0) (b := b_with_pair) C.f_with_pair sc_with_pair rfl rfl (fun _ _ _ _ _ _ us hl => match us, hl with | [_, _, _], _ => rfl) fun cdv A outer s H E hr => by
    have hu := room_hu hr
    exact (qss_one (qs_ret (q_if (qt_cmp (or_in hu) opIn_nox (q_tup (qa_cons (q_var (pv 1)) (qa_cons (q_var (pv 2)) qa_nil))) (q_var (pv 0)) (by rfl)) (q_var (pv 0)) (q_t1 cr_tuple rfl C.n_tuple bt_tuple (q_b1 (cr_sortedR hu) rfl C.n_sorted bt_sorted (q_op or_add opAdd_nox (q_var (pv 0)) (q_tup (qa_cons (q_tup (qa_cons (q_var (pv 1)) (qa_cons (q_var (pv 2)) qa_nil))) qa_nil)))))))))
def N_Game_answer_back : List PySem.Str := ["self", "pairs", "q", "depth", "p"]
theorem sc_Game_answer_back : FnScope N_Game_answer_back ["self", "pairs", "q", "depth"] (defScope s_Game_answer_back) := ⟨rfl, rfl, rfl, by decide +kernel, rfl, by decide +kernel, by decide +kernel⟩
def b_Game_answer_back (dE : Df) : MS :=
  (sSeq (sFor (iRg1 (eF1 opLen (eB1 (opFld nc nf 4) (eVar 0)))) (.nm 4)
  (sIf (tAnd2 (tB1 (eCall d_goes_on (aCons (eB1 (opFld nc nf 4) (eVar 0)) (aCons (eB1 (opFld nc nf 5) (eVar 0)) (aCons (eVar 1) (aCons (eVar 4) (aCons (eVar 2) aNil))))))) (tB1 (eMeth nc nf 2 dE (eVar 0) (aCons (eCall d_with_pair (aCons (eVar 1) (aCons (eVar 4) (aCons (eVar 2) aNil)))) (aCons (eVar 3) aNil)))))
  (sRet (eVar 4))
  sNx))
  (sRet (eC .non)))
def D_Game_answer_back (dE : Df) : Df := dfx 4 1 (b_Game_answer_back dE)
theorem c_Game_answer_back {P : Program} {w : World} {K : PySem.W.Frag} {mg : PySem.Str → Option Value} {base : Heap} (C : Cn P w K mg) {dE : Df} {lvE : Nat} (cE : C8.CalAt P w K mg base lvE (He.fAd K ("Game", some "lasts")) (spD ⟨P, w, K, tb⟩ dE)) : C8.CalAt P w K mg base (lvE + 2) (He.fAd K ("Game", some "answer_back")) (spD ⟨P, w, K, tb⟩ (D_Game_answer_back dE)) :=
  cal_x (cal_of (lv := lvE + 1) (N := N_Game_answer_back) (n := 4) (k := 1) (b := b_Game_answer_back dE) C.f_Game_answer_back sc_Game_answer_back rfl rfl (fun _ _ _ _ _ _ us hl => match us, hl with | [_, _, _, _], _ => rfl) fun cdv A outer s H E hr => by
    have hu := room_hu hr
    exact (qss_cons (qs_for (tg := (.nm 4)) PassesOwn.never rfl (qi_rg1 rfl C.n_range (q_b1 cr_len rfl C.n_len bt_len (q_fld (f := 4) (by decide) C.own C.att (q_var (pv 0)) rfl))) (pg_name (i := 4) sc_Game_answer_back.nd rfl (by first | exact Or.inl rfl | exact Or.inr rfl))
  (qss_one (qs_if (PW.pt (qw_and (qt_val (q_cal (c_goes_on C) (hr.mono (by omega)) C.g_goes_on (qa_cons (q_fld (f := 4) (by decide) C.own C.att (q_var (pv 0)) rfl) (qa_cons (q_fld (f := 5) (by decide) C.own C.att (q_var (pv 0)) rfl) (qa_cons (q_var (pv 1)) (qa_cons (q_var (pv 4)) (qa_cons (q_var (pv 2)) qa_nil))))))) (qw_and1 (qt_val (q_mcal (c := 2) cE (hr.mono (by omega)) (by decide) C.own C.me_Game_lasts (by decide +kernel) (q_var (pv 0)) (qa_cons (q_cal (c_with_pair C) (hr.mono (by omega)) C.g_with_pair (qa_cons (q_var (pv 1)) (qa_cons (q_var (pv 4)) (qa_cons (q_var (pv 2)) qa_nil)))) (qa_cons (q_var (pv 3)) qa_nil)))))))
  (qss_one (qs_ret (q_var (pv 4))))
  qss_nil)))
  (qss_one (qs_ret q_non))))
def N_Game_answer : List PySem.Str := ["self", "pairs", "p", "depth", "q"]
theorem sc_Game_answer : FnScope N_Game_answer ["self", "pairs", "p", "depth"] (defScope s_Game_answer) := ⟨rfl, rfl, rfl, by decide +kernel, rfl, by decide +kernel, by decide +kernel⟩
def b_Game_answer (dE : Df) : MS :=
  (sSeq (sFor (iRg1 (eF1 opLen (eB1 (opFld nc nf 5) (eVar 0)))) (.nm 4)
  (sIf (tAnd2 (tB1 (eCall d_goes_on (aCons (eB1 (opFld nc nf 4) (eVar 0)) (aCons (eB1 (opFld nc nf 5) (eVar 0)) (aCons (eVar 1) (aCons (eVar 2) (aCons (eVar 4) aNil))))))) (tB1 (eMeth nc nf 2 dE (eVar 0) (aCons (eCall d_with_pair (aCons (eVar 1) (aCons (eVar 2) (aCons (eVar 4) aNil)))) (aCons (eVar 3) aNil)))))
  (sRet (eVar 4))
  sNx))
  (sRet (eC .non)))
def D_Game_answer (dE : Df) : Df := dfx 4 1 (b_Game_answer dE)
theorem c_Game_answer {P : Program} {w : World} {K : PySem.W.Frag} {mg : PySem.Str → Option Value} {base : Heap} (C : Cn P w K mg) {dE : Df} {lvE : Nat} (cE : C8.CalAt P w K mg base lvE (He.fAd K ("Game", some "lasts")) (spD ⟨P, w, K, tb⟩ dE)) : C8.CalAt P w K mg base (lvE + 2) (He.fAd K ("Game", some "answer")) (spD ⟨P, w, K, tb⟩ (D_Game_answer dE)) :=
  cal_x (cal_of (lv := lvE + 1) (N := N_Game_answer) (n := 4) (k := 1) (b := b_Game_answer dE) C.f_Game_answer sc_Game_answer rfl rfl (fun _ _ _ _ _ _ us hl => match us, hl with | [_, _, _, _], _ => rfl) fun cdv A outer s H E hr => by
    have hu := room_hu hr
    exact (qss_cons (qs_for (tg := (.nm 4)) PassesOwn.never rfl (qi_rg1 rfl C.n_range (q_b1 cr_len rfl C.n_len bt_len (q_fld (f := 5) (by decide) C.own C.att (q_var (pv 0)) rfl))) (pg_name (i := 4) sc_Game_answer.nd rfl (by first | exact Or.inl rfl | exact Or.inr rfl))
  (qss_one (qs_if (PW.pt (qw_and (qt_val (q_cal (c_goes_on C) (hr.mono (by omega)) C.g_goes_on (qa_cons (q_fld (f := 4) (by decide) C.own C.att (q_var (pv 0)) rfl) (qa_cons (q_fld (f := 5) (by decide) C.own C.att (q_var (pv 0)) rfl) (qa_cons (q_var (pv 1)) (qa_cons (q_var (pv 2)) (qa_cons (q_var (pv 4)) qa_nil))))))) (qw_and1 (qt_val (q_mcal (c := 2) cE (hr.mono (by omega)) (by decide) C.own C.me_Game_lasts (by decide +kernel) (q_var (pv 0)) (qa_cons (q_cal (c_with_pair C) (hr.mono (by omega)) C.g_with_pair (qa_cons (q_var (pv 1)) (qa_cons (q_var (pv 2)) (qa_cons (q_var (pv 4)) qa_nil)))) (qa_cons (q_var (pv 3)) qa_nil)))))))
  (qss_one (qs_ret (q_var (pv 4))))
  qss_nil)))
  (qss_one (qs_ret q_non))))
def N_Game_lasts : List PySem.Str := ["self", "pairs", "depth", "found", "p", "q"]
theorem sc_Game_lasts : FnScope N_Game_lasts ["self", "pairs", "depth"] (defScope s_Game_lasts) := ⟨rfl, rfl, rfl, by decide +kernel, rfl, by decide +kernel, by decide +kernel⟩
def b_Game_lasts (dE : Df) : MS :=
  (sSeq (sIf (tB1 (eOp opEq (eVar 2) (eC (.int 0))))
  (sRet (eC (.bl true)))
  sNx)
  (sSeq (sIf (tB1 (eOp opNotIn (eTup (aCons (eVar 1) (aCons (eVar 2) aNil))) (eB1 (opFld nc nf 6) (eVar 0))))
  (sSeq (sSet 3 (eF1 opAll (eLc (iRg1 (eF1 opLen (eB1 (opFld nc nf 4) (eVar 0)))) [4] (.nm 4) cYes (eOp opIsNot (eMeth nc nf 2 (D_Game_answer dE) (eVar 0) (aCons (eVar 1) (aCons (eVar 4) (aCons (eOp opSub (eVar 2) (eC (.int 1))) aNil)))) (eC .non)))))
  (sSeq (sIf (tB1 (eVar 3))
  (sSet 3 (eF1 opAll (eLc (iRg1 (eF1 opLen (eB1 (opFld nc nf 5) (eVar 0)))) [5] (.nm 5) cYes (eOp opIsNot (eMeth nc nf 2 (D_Game_answer_back dE) (eVar 0) (aCons (eVar 1) (aCons (eVar 5) (aCons (eOp opSub (eVar 2) (eC (.int 1))) aNil)))) (eC .non)))))
  sNx)
  (sSetIx (eB1 (opFld nc nf 6) (eVar 0)) (eTup (aCons (eVar 1) (aCons (eVar 2) aNil))) (eVar 3))))
  sNx)
  (sRet (eOp opIx (eB1 (opFld nc nf 6) (eVar 0)) (eTup (aCons (eVar 1) (aCons (eVar 2) aNil)))))))
def d_Game_lasts : Nat → Df
  | 0 => dfx 3 3 sNo
  | n + 1 => dfx 3 3 (b_Game_lasts (d_Game_lasts n))
theorem s_Game_lasts_c {P : Program} {w : World} {K : PySem.W.Frag} {mg : PySem.Str → Option Value} {base : Heap} (C : Cn P w K mg) {dE : Df} {lvE : Nat} (hl : 2 ≤ lvE) (cE : C8.CalAt P w K mg base lvE (He.fAd K ("Game", some "lasts")) (spD ⟨P, w, K, tb⟩ dE)) : C8.CalAt P w K mg base (lvE + 3) (He.fAd K ("Game", some "lasts")) (spD ⟨P, w, K, tb⟩ (dfx 3 3 (b_Game_lasts dE))) :=
  cal_x (cal_of (lv := lvE + 2) (N := N_Game_lasts) (n := 3) (k := 3) (b := b_Game_lasts dE) C.f_Game_lasts sc_Game_lasts rfl rfl (fun _ _ _ _ _ _ us hl => match us, hl with | [_, _, _], _ => rfl) fun cdv A outer s H E hr => by
    have hu := room_hu hr
    exact (qss_cons (qs_if (qt_cmp (or_eq hu) opEq_nox (q_var (pv 2)) q_int (by rfl))
  (qss_one (qs_ret q_bl))
  qss_nil)
  (qss_cons (qs_if (qt_cmp (or_notIn hu) opNotIn_nox (q_tup (qa_cons (q_var (pv 1)) (qa_cons (q_var (pv 2)) qa_nil))) (q_fld (f := 6) (by decide) C.own C.att (q_var (pv 0)) rfl) (by rfl))
  (qss_cons (qs_set (i := 3) sc_Game_lasts.nd rfl (by first | exact Or.inl rfl | exact Or.inr rfl) (q_b1 (cr_allT rfl) rfl C.n_all bt_all (q_lc (own := [("p", 4)]) (tg := (.nm 4)) rfl sc_Game_lasts.nd (qi_rg1 rfl C.n_range (q_b1 cr_len rfl C.n_len bt_len (q_fld (f := 4) (by decide) C.own C.att (q_var (pv 0)) rfl))) (blkOk_by (N := N_Game_lasts) (sc := (defScope s_Game_lasts)) (own := [("p", 4)]) (by decide +kernel)) (by decide) (fun _ _ _ _ _ => (pg_name (i := 4) sc_Game_lasts.nd rfl (by first | exact Or.inl rfl | exact Or.inr rfl))) (fun _ _ _ _ _ => qts_nil) (fun _ _ _ _ _ => (q_cmp or_isNot opIsNot_nox (q_mcal (c := 2) (c_Game_answer C cE) (hr.mono (by omega)) (by decide) C.own C.me_Game_answer (by decide +kernel) (q_var (pv 0)) (qa_cons (q_var (pv 1)) (qa_cons (q_var (pv 4)) (qa_cons (q_op or_sub opSub_nox (q_var (pv 2)) q_int) qa_nil)))) q_non (by rfl))))))
  (qss_cons (qs_if (qt_val (q_var (pv 3)))
  (qss_one (qs_set (i := 3) sc_Game_lasts.nd rfl (by first | exact Or.inl rfl | exact Or.inr rfl) (q_b1 (cr_allT rfl) rfl C.n_all bt_all (q_lc (own := [("q", 5)]) (tg := (.nm 5)) rfl sc_Game_lasts.nd (qi_rg1 rfl C.n_range (q_b1 cr_len rfl C.n_len bt_len (q_fld (f := 5) (by decide) C.own C.att (q_var (pv 0)) rfl))) (blkOk_by (N := N_Game_lasts) (sc := (defScope s_Game_lasts)) (own := [("q", 5)]) (by decide +kernel)) (by decide) (fun _ _ _ _ _ => (pg_name (i := 5) sc_Game_lasts.nd rfl (by first | exact Or.inl rfl | exact Or.inr rfl))) (fun _ _ _ _ _ => qts_nil) (fun _ _ _ _ _ => (q_cmp or_isNot opIsNot_nox (q_mcal (c := 2) (c_Game_answer_back C cE) (hr.mono (by omega)) (by decide) C.own C.me_Game_answer_back (by decide +kernel) (q_var (pv 0)) (qa_cons (q_var (pv 1)) (qa_cons (q_var (pv 5)) (qa_cons (q_op or_sub opSub_nox (q_var (pv 2)) q_int) qa_nil)))) q_non (by rfl)))))))
  qss_nil)
  (qss_one (qs_setIx hu (q_fld (f := 6) (by decide) C.own C.att (q_var (pv 0)) rfl) (q_tup (qa_cons (q_var (pv 1)) (qa_cons (q_var (pv 2)) qa_nil))) (q_var (pv 3))))))
  qss_nil)
  (qss_one (qs_ret (q_ix hu (q_fld (f := 6) (by decide) C.own C.att (q_var (pv 0)) rfl) (q_tup (qa_cons (q_var (pv 1)) (qa_cons (q_var (pv 2)) qa_nil))) (fun _ _ => rfl)))))))
theorem z_Game_lasts_c {P : Program} {w : World} {K : PySem.W.Frag} {mg : PySem.Str → Option Value} {base : Heap} (C : Cn P w K mg) : C8.CalAt P w K mg base 2 (He.fAd K ("Game", some "lasts")) (spD ⟨P, w, K, tb⟩ (d_Game_lasts 0)) :=
  cal_x (cal_of (lv := 1) (N := N_Game_lasts) (n := 3) (k := 3) (b := sNo) C.f_Game_lasts sc_Game_lasts rfl rfl (fun _ _ _ _ _ _ us hl => match us, hl with | [_, _, _], _ => rfl) fun cdv A outer s H E hr => qss_no)
theorem c_Game_lasts_n {P : Program} {w : World} {K : PySem.W.Frag} {mg : PySem.Str → Option Value} {base : Heap} (C : Cn P w K mg) : ∀ n, C8.CalAt P w K mg base (2 + 3 * n) (He.fAd K ("Game", some "lasts")) (spD ⟨P, w, K, tb⟩ (d_Game_lasts n))
  | 0 => z_Game_lasts_c C
  | n + 1 => cal_up (s_Game_lasts_c (lvE := 2 + 3 * n) C (by omega) (c_Game_lasts_n C n)) (by omega)
theorem c_Game_lasts {P : Program} {w : World} {K : PySem.W.Frag} {mg : PySem.Str → Option Value} {base : Heap} (C : Cn P w K mg) (n : Nat) : C8.CalAt P w K mg base (2 + 3 * n) (He.fAd K ("Game", some "lasts")) (spD ⟨P, w, K, tb⟩ (d_Game_lasts n)) := c_Game_lasts_n C n
def N_keeps : List PySem.Str := ["one", "other", "like", "last", "at"]
theorem sc_keeps : FnScope N_keeps ["one", "other", "like"] (defScope s_keeps) := ⟨rfl, rfl, rfl, by decide +kernel, rfl, by decide +kernel, by decide +kernel⟩
def b_keeps : MS :=
  (sSeq (sSet 3 (eOp opSub (eF1 opLen (eVar 2)) (eC (.int 1))))
  (sRet (eF1 opAll (eLc (iRg1 (eVar 3)) [4] (.nm 4) cYes (eOp opEq (eOp opIx (eOp opIx (eVar 0) (eVar 4)) (eVar 3)) (eOp opIx (eOp opIx (eVar 1) (eOp opIx (eVar 2) (eVar 4))) (eOp opIx (eVar 2) (eVar 3))))))))
def d_keeps : Df := dfx 3 2 b_keeps
theorem c_keeps {P : Program} {w : World} {K : PySem.W.Frag} {mg : PySem.Str → Option Value} {base : Heap} (C : Cn P w K mg) : C8.CalAt P w K mg base 1 (He.fAd K ("keeps", none)) (spD ⟨P, w, K, tb⟩ d_keeps) :=
  cal_x (cal_of (lv := 0) (N := N_keeps) (n := 3) (k := 2) (b := b_keeps) C.f_keeps sc_keeps rfl rfl (fun _ _ _ _ _ _ us hl => match us, hl with | [_, _, _], _ => rfl) fun cdv A outer s H E hr => by
    have hu := room_hu hr
    exact (qss_cons (qs_set (i := 3) sc_keeps.nd rfl (by first | exact Or.inl rfl | exact Or.inr rfl) (q_op or_sub opSub_nox (q_b1 cr_len rfl C.n_len bt_len (q_var (pv 2))) q_int))
  (qss_one (qs_ret (q_b1 (cr_allT rfl) rfl C.n_all bt_all (q_lc (own := [("at", 4)]) (tg := (.nm 4)) rfl sc_keeps.nd (qi_rg1 rfl C.n_range (q_var (pv 3))) (blkOk_by (N := N_keeps) (sc := (defScope s_keeps)) (own := [("at", 4)]) (by decide +kernel)) (by decide) (fun _ _ _ _ _ => (pg_name (i := 4) sc_keeps.nd rfl (by first | exact Or.inl rfl | exact Or.inr rfl))) (fun _ _ _ _ _ => qts_nil) (fun _ _ _ _ _ => (q_cmp (or_eq hu) opEq_nox (q_ix hu (q_ix hu (q_var (pv 0)) (q_var (pv 4)) (fun _ _ => rfl)) (q_var (pv 3)) (fun _ _ => rfl)) (q_ix hu (q_ix hu (q_var (pv 1)) (q_ix hu (q_var (pv 2)) (q_var (pv 4)) (fun _ _ => rfl)) (fun _ _ => rfl)) (q_ix hu (q_var (pv 2)) (q_var (pv 3)) (fun _ _ => rfl)) (fun _ _ => rfl)) (by rfl)))))))))
def N_likenesses_by : List PySem.Str := ["one", "other", "found", "at", "longer", "like", "goal"]
theorem sc_likenesses_by : FnScope N_likenesses_by ["one", "other"] (defScope s_likenesses_by) := ⟨rfl, rfl, rfl, by decide +kernel, rfl, by decide +kernel, by decide +kernel⟩
def b_likenesses_by : MS :=
  (sSeq (sSet 2 (eLst (aCons (eTup aNil) aNil)))
  (sSeq (sFor (iRg1 (eF1 opLen (eVar 0))) (.nm 3)
  (sSeq (sSet 4 (eLc2 (iSeq (eVar 2)) [5, 6] (.nm 5) cYes (iRg1 (eF1 opLen (eVar 1))) [6] (.nm 6) (tB1 (eOp opNotIn (eVar 6) (eVar 5))) (eOp opAdd (eVar 5) (eTup (aCons (eVar 6) aNil)))))
  (sSet 2 (eLc (iSeq (eVar 4)) [5] (.nm 5) (tB1 (eCall d_keeps (aCons (eVar 0) (aCons (eVar 1) (aCons (eVar 5) aNil))))) (eVar 5)))))
  (sRet (eF1 opTuple (eVar 2)))))
def d_likenesses_by : Df := dfx 2 5 b_likenesses_by
theorem c_likenesses_by {P : Program} {w : World} {K : PySem.W.Frag} {mg : PySem.Str → Option Value} {base : Heap} (C : Cn P w K mg) : C8.CalAt P w K mg base 2 (He.fAd K ("likenesses_by", none)) (spD ⟨P, w, K, tb⟩ d_likenesses_by) :=
  cal_x (cal_of (lv := 1) (N := N_likenesses_by) (n := 2) (k := 5) (b := b_likenesses_by) C.f_likenesses_by sc_likenesses_by rfl rfl (fun _ _ _ _ _ _ us hl => match us, hl with | [_, _], _ => rfl) fun cdv A outer s H E hr => by
    have hu := room_hu hr
    exact (qss_cons (qs_set (i := 2) sc_likenesses_by.nd rfl (by first | exact Or.inl rfl | exact Or.inr rfl) (q_lst (qa_cons (q_tup qa_nil) qa_nil)))
  (qss_cons (qs_for (tg := (.nm 3)) PassesOwn.never rfl (qi_rg1 rfl C.n_range (q_b1 cr_len rfl C.n_len bt_len (q_var (pv 0)))) (pg_name (i := 3) sc_likenesses_by.nd rfl (by first | exact Or.inl rfl | exact Or.inr rfl))
  (qss_cons (qs_setLc2 (i := 4) (own := [("like", 5), ("goal", 6)]) (vs1 := [6]) (tg := (.nm 5)) (tg1 := (.nm 6)) rfl sc_likenesses_by.nd rfl rfl (sw_true rfl rfl rfl rfl) (qi_seq (q_var (pv 2))) (blkOk_by (N := N_likenesses_by) (sc := (defScope s_likenesses_by)) (own := [("like", 5), ("goal", 6)]) (by decide +kernel)) (by decide) (by decide) (by decide) (fun _ _ _ _ _ => (pg_name (i := 5) sc_likenesses_by.nd rfl (by first | exact Or.inl rfl | exact Or.inr rfl))) (fun _ _ _ _ _ => qts_nil) (fun _ _ _ _ _ => (qi_rg1 rfl C.n_range (q_b1 cr_len rfl C.n_len bt_len (q_var (pv 1))))) (fun _ _ _ _ _ => (pg_name (i := 6) sc_likenesses_by.nd rfl (by first | exact Or.inl rfl | exact Or.inr rfl))) (fun _ _ _ _ _ => (qts_one (qt_cmp (or_notIn hu) opNotIn_nox (q_var (pv 6)) (q_var (pv 5)) (by rfl)))) (fun _ _ _ _ _ => (q_op or_add opAdd_nox (q_var (pv 5)) (q_tup (qa_cons (q_var (pv 6)) qa_nil)))))
  (qss_one (qs_setLc (i := 2) (own := [("like", 5)]) (tg := (.nm 5)) rfl sc_likenesses_by.nd rfl rfl (sw_true rfl rfl rfl rfl) (qi_seq (q_var (pv 4))) (blkOk_by (N := N_likenesses_by) (sc := (defScope s_likenesses_by)) (own := [("like", 5)]) (by decide +kernel)) (by decide) (fun _ _ _ _ _ => (pg_name (i := 5) sc_likenesses_by.nd rfl (by first | exact Or.inl rfl | exact Or.inr rfl))) (fun _ _ _ _ _ => (qts_one (qt_val (q_cal (c_keeps C) (hr.mono (by omega)) C.g_keeps (qa_cons (q_var (pv 0)) (qa_cons (q_var (pv 1)) (qa_cons (q_var (pv 5)) qa_nil))))))) (fun _ _ _ _ _ => (q_var (pv 5)))))))
  (qss_one (qs_ret (q_t1 cr_tuple rfl C.n_tuple bt_tuple (q_var (pv 2))))))))
def N_parting_depth : List PySem.Str := ["kinds", "one", "other", "game", "depth", "first", "second"]
theorem sc_parting_depth : FnScope N_parting_depth ["kinds", "one", "other"] (defScope s_parting_depth) := ⟨rfl, rfl, rfl, by decide +kernel, rfl, by decide +kernel, by decide +kernel⟩
def b_parting_depth : MS :=
  (sSeq (sAsgT (.tp [5, 6]) (eCall d_need_pair (aCons (eVar 0) (aCons (eVar 1) (aCons (eVar 2) aNil)))))
  (sSeq (sSet 3 (eMake 2 d_Game___init__ (aCons (eVar 5) (aCons (eVar 6) aNil))))
  (sSeq (sFor (iRg2 (eC (.int 1)) (eOp opAdd (eC (.int 4)) (eC (.int 1)))) (.nm 4)
  (sSeq (sExpr (eCall d_need_looks (aCons (eVar 5) (aCons (eVar 6) (aCons (eVar 4) aNil)))))
  (sIf (tNot1 (tB1 (eMeth nc nf 2 (d_Game_lasts 6) (eVar 3) (aCons (eTup aNil) (aCons (eVar 4) aNil)))))
  (sRet (eVar 4))
  sNx)))
  (sSeq (sIf (tAnd2 (tB1 (eOp opEq (eF1 opLen (eVar 5)) (eF1 opLen (eVar 6)))) (tB1 (eOp opNe (eCall d_likenesses_by (aCons (eVar 5) (aCons (eVar 6) aNil))) (eTup aNil))))
  (sRet (eC .non))
  sNx)
  sNo))))
def d_parting_depth : Df := dfx 3 4 b_parting_depth
theorem c_parting_depth {P : Program} {w : World} {K : PySem.W.Frag} {mg : PySem.Str → Option Value} {base : Heap} (C : Cn P w K mg) : C8.CalAt P w K mg base 21 (He.fAd K ("parting_depth", none)) (spD ⟨P, w, K, tb⟩ d_parting_depth) :=
  cal_x (cal_of (lv := 20) (N := N_parting_depth) (n := 3) (k := 4) (b := b_parting_depth) C.f_parting_depth sc_parting_depth rfl rfl (fun _ _ _ _ _ _ us hl => match us, hl with | [_, _, _], _ => rfl) fun cdv A outer s H E hr => by
    have hu := room_hu hr
    exact (qss_cons (qs_asgT (tg := (.tp [5, 6])) (q_cal (c_need_pair C) (hr.mono (by omega)) C.g_need_pair (qa_cons (q_var (pv 0)) (qa_cons (q_var (pv 1)) (qa_cons (q_var (pv 2)) qa_nil)))) (pg_tup rfl (pgs_cons (pg_name (i := 5) sc_parting_depth.nd rfl (by first | exact Or.inl rfl | exact Or.inr rfl)) (pgs_cons (pg_name (i := 6) sc_parting_depth.nd rfl (by first | exact Or.inl rfl | exact Or.inr rfl)) pgs_nil))))
  (qss_cons (qs_set (i := 3) sc_parting_depth.nd rfl (by first | exact Or.inl rfl | exact Or.inr rfl) (q_mk (c := 2) C.mk_Game (c_Game___init__ C) (hr.mono (by omega)) C.g_Game (qa_cons (q_var (pv 5)) (qa_cons (q_var (pv 6)) qa_nil))))
  (qss_cons (qs_for (tg := (.nm 4)) PassesOwn.never rfl (qi_rg2 rfl C.n_range q_int (q_op or_add opAdd_nox (q_gi rfl C.i_MOST_DEPTH_games) q_int)) (pg_name (i := 4) sc_parting_depth.nd rfl (by first | exact Or.inl rfl | exact Or.inr rfl))
  (qss_cons (qs_expr (q_cal (c_need_looks C) (hr.mono (by omega)) C.g_need_looks (qa_cons (q_var (pv 5)) (qa_cons (q_var (pv 6)) (qa_cons (q_var (pv 4)) qa_nil)))))
  (qss_one (qs_if (qt_not (qt_val (q_mcal (c := 2) (c_Game_lasts C 6) (hr.mono (by omega)) (by decide) C.own C.me_Game_lasts (by decide +kernel) (q_var (pv 3)) (qa_cons (q_tup qa_nil) (qa_cons (q_var (pv 4)) qa_nil)))))
  (qss_one (qs_ret (q_var (pv 4))))
  qss_nil))))
  (qss_cons (qs_if (PW.pt (qw_and (qt_cmp (or_eq hu) opEq_nox (q_b1 cr_len rfl C.n_len bt_len (q_var (pv 5))) (q_b1 cr_len rfl C.n_len bt_len (q_var (pv 6))) (by rfl)) (qw_and1 (qt_cmp (or_ne hu) opNe_nox (q_cal (c_likenesses_by C) (hr.mono (by omega)) C.g_likenesses_by (qa_cons (q_var (pv 5)) (qa_cons (q_var (pv 6)) qa_nil))) (q_tup qa_nil) (by rfl)))))
  (qss_one (qs_ret q_non))
  qss_nil)
  (qss_one qs_no))))))
def N_law : List PySem.Str := ["script", "pen", "web", "ties", "n", "d", "a", "b", "due", "small", "great", "one", "other"]
theorem sc_law : FnScope N_law ["script"] (defScope s_law) := ⟨rfl, rfl, rfl, by decide +kernel, rfl, by decide +kernel, by decide +kernel⟩
def st1 : MS :=
  (sSet 1 (eCall d__law_pen (aCons (eVar 0) aNil)))
def st2 : MS :=
  (sPar 3 4 (eMake 0 d_Kinds___init__ (aCons (eC (.int 2)) (aCons (eTup (aCons (eC (.int 0)) (aCons (eC (.int 1)) aNil))) (aCons (eTup aNil) aNil)))) (eOp opAdd (eC (.int 2)) (eCall d__law_draw (aCons (eVar 1) (aCons (eC (.int 3)) aNil)))))
def st3 : MS :=
  (sFor (iSeq (eTup (aCons (eC (.gl 1)) (aCons (eC (.gl 0)) aNil)))) (.nm 2)
  (sSeq (sPar 9 10 (eCallV 2 1 d__law_chain 0 d__law_plain_web (aCons (eOp opSub (eVar 4) (eC (.int 1))) aNil)) (eCallV 2 1 d__law_chain 0 d__law_plain_web (aCons (eVar 4) aNil)))
  (sSeq (sFor (iSeq (eTup (aCons (eOp opSub (eVar 4) (eC (.int 1))) (aCons (eVar 4) (aCons (eC (.int 4)) aNil))))) (.nm 5)
  (sIf (tOr2 (tB1 (eOp opLt (eVar 5) (eC (.int 4)))) (tB1 (eOp opLe (eOp opMul (eF1 opLen (eVar 9)) (eF1 opLen (eVar 10))) (eC (.int 17)))))
  (sFor (iSeq (eTup (aCons (eTup (aCons (eVar 9) (aCons (eVar 10) aNil))) (aCons (eTup (aCons (eVar 10) (aCons (eVar 9) aNil))) aNil)))) (.tp [11, 12])
  (sIf (tNot1 (tB1 (eCall d__law_says (aCons (eCall d_parting_holds (aCons (eVar 3) (aCons (eVar 11) (aCons (eVar 12) (aCons (eVar 5) (aCons (eMake 1 d_Parting___init__ (aCons (eCall d__law_at_least (aCons (eVar 4) aNil)) aNil)) aNil)))))) (aCons (eOp opGe (eVar 5) (eVar 4)) aNil)))))
  (sRet (eC (.bl false)))
  sNx))
  sNx))
  (sIf (tB1 (eOp opIsNot (eCall d_parting_holds (aCons (eVar 3) (aCons (eVar 10) (aCons (eVar 10) (aCons (eF2 opMin2 (eVar 4) (eC (.int 3))) (aCons (eMake 1 d_Parting___init__ (aCons (eCall d__law_at_least (aCons (eVar 4) aNil)) aNil)) aNil)))))) (eC (.bl false))))
  (sRet (eC (.bl false)))
  sNx))))
def st4 : MS :=
  (sPar 6 7 (eOp opAdd (eC (.int 2)) (eCall d__law_draw (aCons (eVar 1) (aCons (eC (.int 3)) aNil)))) (eOp opAdd (eC (.int 2)) (eCall d__law_draw (aCons (eVar 1) (aCons (eC (.int 3)) aNil)))))
def st5 : MS :=
  (sIf (tAnd2 (tB1 (eOp opNe (eVar 6) (eVar 7))) (tB1 (eOp opLe (eOp opMul (eVar 6) (eVar 7)) (eC (.int 12)))))
  (sSeq (sSet 8 (eCall d__law_depth (aCons (eCall d__law_chain (aCons (eVar 6) aNil)) (aCons (eCall d__law_chain (aCons (eVar 7) aNil)) aNil))))
  (sRet (eAnd (eOp opIsNot (eVar 8) (eC .non)) (eCall (d__law_is 4) (aCons (eCall d_parting_depth (aCons (eVar 3) (aCons (eCall d__law_chain (aCons (eVar 6) aNil)) (aCons (eCall d__law_chain (aCons (eVar 7) aNil)) aNil)))) (aCons (eVar 8) aNil))))))
  sNx)
def st6 : MS :=
  (sRet (eOp opIs (eCall d_parting_depth (aCons (eVar 3) (aCons (eCall d__law_chain (aCons (eC (.int 3)) aNil)) (aCons (eCall d__law_chain (aCons (eC (.int 3)) aNil)) aNil)))) (eC .non)))
def b_law : MS :=
  (sSeq st1 (sSeq st2 (sSeq st3 (sSeq st4 (sSeq st5 st6)))))
def d_law : Df := dfx 1 12 b_law
theorem c_law {P : Program} {w : World} {K : PySem.W.Frag} {mg : PySem.Str → Option Value} {base : Heap} (C : Cn P w K mg) : C8.CalAt P w K mg base 24 (He.fAd K ("law", none)) (spD ⟨P, w, K, tb⟩ d_law) :=
  cal_x (cal_of (lv := 23) (N := N_law) (n := 1) (k := 12) (b := b_law) C.f_law sc_law rfl rfl (fun _ _ _ _ _ _ us hl => match us, hl with | [_], _ => rfl) fun cdv A outer s H E hr => by
    have hu := room_hu hr
    exact (qss_cons (qs_set (i := 1) sc_law.nd rfl (by first | exact Or.inl rfl | exact Or.inr rfl) (q_cal (c__law_pen C) (hr.mono (by omega)) C.g__law_pen (qa_cons (q_var (pv 0)) qa_nil)))
  (qss_cons (qs_par (i := 3) (j := 4) rfl sc_law.nd rfl rfl (by decide) rfl rfl (q_mk (c := 0) C.mk_Kinds (c_Kinds___init__ C) (hr.mono (by omega)) C.g_Kinds (qa_cons q_int (qa_cons (q_tup (qa_cons q_int (qa_cons q_int qa_nil))) (qa_cons (q_tup qa_nil) qa_nil)))) (q_op or_add opAdd_nox q_int (q_cal (c__law_draw C) (hr.mono (by omega)) C.g__law_draw (qa_cons (q_var (pv 1)) (qa_cons q_int qa_nil)))) (fun ha => ps_par rfl sc_law.nd rfl rfl (by decide) rfl rfl ha rfl))
  (qss_cons (qs_for (tg := (.nm 2)) PassesOwn.never rfl (qi_seq (q_tup (qa_cons (q_gl (g := 1) rfl C.g__law_chain) (qa_cons (q_gl (g := 0) rfl C.g__law_plain_web) qa_nil)))) (pg_name (i := 2) sc_law.nd rfl (by first | exact Or.inl rfl | exact Or.inr rfl))
  (qss_cons (qs_par (i := 9) (j := 10) rfl sc_law.nd rfl rfl (by decide) rfl rfl (q_callV (k := 23) (g1 := 1) (g2 := 0) (c__law_chain C) (c__law_plain_web C) hr (by omega) (by omega) rfl (by first | exact Or.inl rfl | exact Or.inr (Or.inl rfl) | exact Or.inr (Or.inr rfl)) (qa_cons (q_op or_sub opSub_nox (q_var (pv 4)) q_int) qa_nil)) (q_callV (k := 23) (g1 := 1) (g2 := 0) (c__law_chain C) (c__law_plain_web C) hr (by omega) (by omega) rfl (by first | exact Or.inl rfl | exact Or.inr (Or.inl rfl) | exact Or.inr (Or.inr rfl)) (qa_cons (q_var (pv 4)) qa_nil)) (fun ha => ps_par rfl sc_law.nd rfl rfl (by decide) rfl rfl ha rfl))
  (qss_cons (qs_for (tg := (.nm 5)) PassesOwn.never rfl (qi_seq (q_tup (qa_cons (q_op or_sub opSub_nox (q_var (pv 4)) q_int) (qa_cons (q_var (pv 4)) (qa_cons q_int qa_nil))))) (pg_name (i := 5) sc_law.nd rfl (by first | exact Or.inl rfl | exact Or.inr rfl))
  (qss_one (qs_if (PW.pt (qw_or (qt_cmp (or_lt hu) opLt_nox (q_var (pv 5)) q_int (by rfl)) (qw_or1 (qt_cmp or_le (opI2_nox _) (q_op or_mul opMul_nox (q_b1 cr_len rfl C.n_len bt_len (q_var (pv 9))) (q_b1 cr_len rfl C.n_len bt_len (q_var (pv 10)))) q_int (by rfl)))))
  (qss_one (qs_for (tg := (.tp [11, 12])) PassesOwn.never rfl (qi_seq (q_tup (qa_cons (q_tup (qa_cons (q_var (pv 9)) (qa_cons (q_var (pv 10)) qa_nil))) (qa_cons (q_tup (qa_cons (q_var (pv 10)) (qa_cons (q_var (pv 9)) qa_nil))) qa_nil)))) (pg_tup rfl (pgs_cons (pg_name (i := 11) sc_law.nd rfl (by first | exact Or.inl rfl | exact Or.inr rfl)) (pgs_cons (pg_name (i := 12) sc_law.nd rfl (by first | exact Or.inl rfl | exact Or.inr rfl)) pgs_nil)))
  (qss_one (qs_if (qt_not (qt_val (q_cal (c__law_says C) (hr.mono (by omega)) C.g__law_says (qa_cons (q_cal (c_parting_holds C) (hr.mono (by omega)) C.g_parting_holds (qa_cons (q_var (pv 3)) (qa_cons (q_var (pv 11)) (qa_cons (q_var (pv 12)) (qa_cons (q_var (pv 5)) (qa_cons (q_mk (c := 1) C.mk_Parting (c_Parting___init__ C) (hr.mono (by omega)) C.g_Parting (qa_cons (q_cal (c__law_at_least C) (hr.mono (by omega)) C.g__law_at_least (qa_cons (q_var (pv 4)) qa_nil)) qa_nil)) qa_nil)))))) (qa_cons (q_cmp or_ge (opI2_nox _) (q_var (pv 5)) (q_var (pv 4)) (by rfl)) qa_nil)))))
  (qss_one (qs_ret q_bl))
  qss_nil))))
  qss_nil)))
  (qss_one (qs_if (qt_cmp or_isNot opIsNot_nox (q_cal (c_parting_holds C) (hr.mono (by omega)) C.g_parting_holds (qa_cons (q_var (pv 3)) (qa_cons (q_var (pv 10)) (qa_cons (q_var (pv 10)) (qa_cons (q_b2 (cr_min2 rfl) rfl C.n_min bt_min (q_var (pv 4)) q_int) (qa_cons (q_mk (c := 1) C.mk_Parting (c_Parting___init__ C) (hr.mono (by omega)) C.g_Parting (qa_cons (q_cal (c__law_at_least C) (hr.mono (by omega)) C.g__law_at_least (qa_cons (q_var (pv 4)) qa_nil)) qa_nil)) qa_nil)))))) q_bl (by rfl))
  (qss_one (qs_ret q_bl))
  qss_nil)))))
  (qss_cons (qs_par (i := 6) (j := 7) rfl sc_law.nd rfl rfl (by decide) rfl rfl (q_op or_add opAdd_nox q_int (q_cal (c__law_draw C) (hr.mono (by omega)) C.g__law_draw (qa_cons (q_var (pv 1)) (qa_cons q_int qa_nil)))) (q_op or_add opAdd_nox q_int (q_cal (c__law_draw C) (hr.mono (by omega)) C.g__law_draw (qa_cons (q_var (pv 1)) (qa_cons q_int qa_nil)))) (fun ha => ps_par rfl sc_law.nd rfl rfl (by decide) rfl rfl ha rfl))
  (qss_cons (qs_if (PW.pt (qw_and (qt_cmp (or_ne hu) opNe_nox (q_var (pv 6)) (q_var (pv 7)) (by rfl)) (qw_and1 (qt_cmp or_le (opI2_nox _) (q_op or_mul opMul_nox (q_var (pv 6)) (q_var (pv 7))) q_int (by rfl)))))
  (qss_cons (qs_set (i := 8) sc_law.nd rfl (by first | exact Or.inl rfl | exact Or.inr rfl) (q_cal (c__law_depth C) (hr.mono (by omega)) C.g__law_depth (qa_cons (q_cal (c__law_chain C) (hr.mono (by omega)) C.g__law_chain (qa_cons (q_var (pv 6)) qa_nil)) (qa_cons (q_cal (c__law_chain C) (hr.mono (by omega)) C.g__law_chain (qa_cons (q_var (pv 7)) qa_nil)) qa_nil))))
  (qss_one (qs_ret (q_and (q_cmp or_isNot opIsNot_nox (q_var (pv 8)) q_non (by rfl)) (q_one (q_cal (c__law_is C 4) (hr.mono (by omega)) C.g__law_is (qa_cons (q_cal (c_parting_depth C) (hr.mono (by omega)) C.g_parting_depth (qa_cons (q_var (pv 3)) (qa_cons (q_cal (c__law_chain C) (hr.mono (by omega)) C.g__law_chain (qa_cons (q_var (pv 6)) qa_nil)) (qa_cons (q_cal (c__law_chain C) (hr.mono (by omega)) C.g__law_chain (qa_cons (q_var (pv 7)) qa_nil)) qa_nil)))) (qa_cons (q_var (pv 8)) qa_nil))))))))
  qss_nil)
  (qss_one (qs_ret (q_cmp or_is opIs_nox (q_cal (c_parting_depth C) (hr.mono (by omega)) C.g_parting_depth (qa_cons (q_var (pv 3)) (qa_cons (q_cal (c__law_chain C) (hr.mono (by omega)) C.g__law_chain (qa_cons q_int qa_nil)) (qa_cons (q_cal (c__law_chain C) (hr.mono (by omega)) C.g__law_chain (qa_cons q_int qa_nil)) qa_nil)))) q_non (by rfl))))))))))
theorem ok_law {P : Program} {w : World} {K : PySem.W.Frag} {mg : PySem.Str → Option Value} {base : Heap} {fd : FuncData} (C : Cn P w K mg) (F : FunD K "law" "law" (defArgs s_law) (defBody s_law) (defScope s_law) [] [] (He.fAd K ("law", none)) fd) : FnOk P w K mg base CX0 24 (He.fAd K ("law", none)) fd ["script"] (spD ⟨P, w, K, tb⟩ d_law) :=
  fn_x (fn_ok (lv := 23) (N := N_law) (n := 1) (k := 12) (b := b_law) F sc_law rfl rfl fun cdv A outer s H E hr => by
    have hu := room_hu hr
    exact (qss_cons (qs_set (i := 1) sc_law.nd rfl (by first | exact Or.inl rfl | exact Or.inr rfl) (q_cal (c__law_pen C) (hr.mono (by omega)) C.g__law_pen (qa_cons (q_var (pv 0)) qa_nil)))
  (qss_cons (qs_par (i := 3) (j := 4) rfl sc_law.nd rfl rfl (by decide) rfl rfl (q_mk (c := 0) C.mk_Kinds (c_Kinds___init__ C) (hr.mono (by omega)) C.g_Kinds (qa_cons q_int (qa_cons (q_tup (qa_cons q_int (qa_cons q_int qa_nil))) (qa_cons (q_tup qa_nil) qa_nil)))) (q_op or_add opAdd_nox q_int (q_cal (c__law_draw C) (hr.mono (by omega)) C.g__law_draw (qa_cons (q_var (pv 1)) (qa_cons q_int qa_nil)))) (fun ha => ps_par rfl sc_law.nd rfl rfl (by decide) rfl rfl ha rfl))
  (qss_cons (qs_for (tg := (.nm 2)) PassesOwn.never rfl (qi_seq (q_tup (qa_cons (q_gl (g := 1) rfl C.g__law_chain) (qa_cons (q_gl (g := 0) rfl C.g__law_plain_web) qa_nil)))) (pg_name (i := 2) sc_law.nd rfl (by first | exact Or.inl rfl | exact Or.inr rfl))
  (qss_cons (qs_par (i := 9) (j := 10) rfl sc_law.nd rfl rfl (by decide) rfl rfl (q_callV (k := 23) (g1 := 1) (g2 := 0) (c__law_chain C) (c__law_plain_web C) hr (by omega) (by omega) rfl (by first | exact Or.inl rfl | exact Or.inr (Or.inl rfl) | exact Or.inr (Or.inr rfl)) (qa_cons (q_op or_sub opSub_nox (q_var (pv 4)) q_int) qa_nil)) (q_callV (k := 23) (g1 := 1) (g2 := 0) (c__law_chain C) (c__law_plain_web C) hr (by omega) (by omega) rfl (by first | exact Or.inl rfl | exact Or.inr (Or.inl rfl) | exact Or.inr (Or.inr rfl)) (qa_cons (q_var (pv 4)) qa_nil)) (fun ha => ps_par rfl sc_law.nd rfl rfl (by decide) rfl rfl ha rfl))
  (qss_cons (qs_for (tg := (.nm 5)) PassesOwn.never rfl (qi_seq (q_tup (qa_cons (q_op or_sub opSub_nox (q_var (pv 4)) q_int) (qa_cons (q_var (pv 4)) (qa_cons q_int qa_nil))))) (pg_name (i := 5) sc_law.nd rfl (by first | exact Or.inl rfl | exact Or.inr rfl))
  (qss_one (qs_if (PW.pt (qw_or (qt_cmp (or_lt hu) opLt_nox (q_var (pv 5)) q_int (by rfl)) (qw_or1 (qt_cmp or_le (opI2_nox _) (q_op or_mul opMul_nox (q_b1 cr_len rfl C.n_len bt_len (q_var (pv 9))) (q_b1 cr_len rfl C.n_len bt_len (q_var (pv 10)))) q_int (by rfl)))))
  (qss_one (qs_for (tg := (.tp [11, 12])) PassesOwn.never rfl (qi_seq (q_tup (qa_cons (q_tup (qa_cons (q_var (pv 9)) (qa_cons (q_var (pv 10)) qa_nil))) (qa_cons (q_tup (qa_cons (q_var (pv 10)) (qa_cons (q_var (pv 9)) qa_nil))) qa_nil)))) (pg_tup rfl (pgs_cons (pg_name (i := 11) sc_law.nd rfl (by first | exact Or.inl rfl | exact Or.inr rfl)) (pgs_cons (pg_name (i := 12) sc_law.nd rfl (by first | exact Or.inl rfl | exact Or.inr rfl)) pgs_nil)))
  (qss_one (qs_if (qt_not (qt_val (q_cal (c__law_says C) (hr.mono (by omega)) C.g__law_says (qa_cons (q_cal (c_parting_holds C) (hr.mono (by omega)) C.g_parting_holds (qa_cons (q_var (pv 3)) (qa_cons (q_var (pv 11)) (qa_cons (q_var (pv 12)) (qa_cons (q_var (pv 5)) (qa_cons (q_mk (c := 1) C.mk_Parting (c_Parting___init__ C) (hr.mono (by omega)) C.g_Parting (qa_cons (q_cal (c__law_at_least C) (hr.mono (by omega)) C.g__law_at_least (qa_cons (q_var (pv 4)) qa_nil)) qa_nil)) qa_nil)))))) (qa_cons (q_cmp or_ge (opI2_nox _) (q_var (pv 5)) (q_var (pv 4)) (by rfl)) qa_nil)))))
  (qss_one (qs_ret q_bl))
  qss_nil))))
  qss_nil)))
  (qss_one (qs_if (qt_cmp or_isNot opIsNot_nox (q_cal (c_parting_holds C) (hr.mono (by omega)) C.g_parting_holds (qa_cons (q_var (pv 3)) (qa_cons (q_var (pv 10)) (qa_cons (q_var (pv 10)) (qa_cons (q_b2 (cr_min2 rfl) rfl C.n_min bt_min (q_var (pv 4)) q_int) (qa_cons (q_mk (c := 1) C.mk_Parting (c_Parting___init__ C) (hr.mono (by omega)) C.g_Parting (qa_cons (q_cal (c__law_at_least C) (hr.mono (by omega)) C.g__law_at_least (qa_cons (q_var (pv 4)) qa_nil)) qa_nil)) qa_nil)))))) q_bl (by rfl))
  (qss_one (qs_ret q_bl))
  qss_nil)))))
  (qss_cons (qs_par (i := 6) (j := 7) rfl sc_law.nd rfl rfl (by decide) rfl rfl (q_op or_add opAdd_nox q_int (q_cal (c__law_draw C) (hr.mono (by omega)) C.g__law_draw (qa_cons (q_var (pv 1)) (qa_cons q_int qa_nil)))) (q_op or_add opAdd_nox q_int (q_cal (c__law_draw C) (hr.mono (by omega)) C.g__law_draw (qa_cons (q_var (pv 1)) (qa_cons q_int qa_nil)))) (fun ha => ps_par rfl sc_law.nd rfl rfl (by decide) rfl rfl ha rfl))
  (qss_cons (qs_if (PW.pt (qw_and (qt_cmp (or_ne hu) opNe_nox (q_var (pv 6)) (q_var (pv 7)) (by rfl)) (qw_and1 (qt_cmp or_le (opI2_nox _) (q_op or_mul opMul_nox (q_var (pv 6)) (q_var (pv 7))) q_int (by rfl)))))
  (qss_cons (qs_set (i := 8) sc_law.nd rfl (by first | exact Or.inl rfl | exact Or.inr rfl) (q_cal (c__law_depth C) (hr.mono (by omega)) C.g__law_depth (qa_cons (q_cal (c__law_chain C) (hr.mono (by omega)) C.g__law_chain (qa_cons (q_var (pv 6)) qa_nil)) (qa_cons (q_cal (c__law_chain C) (hr.mono (by omega)) C.g__law_chain (qa_cons (q_var (pv 7)) qa_nil)) qa_nil))))
  (qss_one (qs_ret (q_and (q_cmp or_isNot opIsNot_nox (q_var (pv 8)) q_non (by rfl)) (q_one (q_cal (c__law_is C 4) (hr.mono (by omega)) C.g__law_is (qa_cons (q_cal (c_parting_depth C) (hr.mono (by omega)) C.g_parting_depth (qa_cons (q_var (pv 3)) (qa_cons (q_cal (c__law_chain C) (hr.mono (by omega)) C.g__law_chain (qa_cons (q_var (pv 6)) qa_nil)) (qa_cons (q_cal (c__law_chain C) (hr.mono (by omega)) C.g__law_chain (qa_cons (q_var (pv 7)) qa_nil)) qa_nil)))) (qa_cons (q_var (pv 8)) qa_nil))))))))
  qss_nil)
  (qss_one (qs_ret (q_cmp or_is opIs_nox (q_cal (c_parting_depth C) (hr.mono (by omega)) C.g_parting_depth (qa_cons (q_var (pv 3)) (qa_cons (q_cal (c__law_chain C) (hr.mono (by omega)) C.g__law_chain (qa_cons q_int qa_nil)) (qa_cons (q_cal (c__law_chain C) (hr.mono (by omega)) C.g__law_chain (qa_cons q_int qa_nil)) qa_nil)))) q_non (by rfl))))))))))
end Lw
set_option Elab.async false
set_option linter.all false
set_option maxRecDepth 100000
set_option maxHeartbeats 0
namespace Lw
open Pi PySem
def tiesV : T := .ins 0 [(0, .int 2), (1, .tup [.int 0, .int 1]), (2, .tup [])]
theorem kinds_ok (P : Ob) (env : EnvT) : eMake 0 d_Kinds___init__ (aCons (eC (.int 2)) (aCons (eTup (aCons (eC (.int 0)) (aCons (eC (.int 1)) aNil))) (aCons (eTup aNil) aNil))) env ⟨1, [(0, P)]⟩ = .ok tiesV ⟨2, [(0, P)]⟩ := by kernel_rfl
def w1 : T := .tup [.tup [.int (-1)]]
def w2 : T := .tup [.tup [.int (-1), .int 0], .tup [.int 0, .int (-1)]]
def w3 : T := .tup [.tup [.int (-1), .int 0, .int 0], .tup [.int 0, .int (-1), .int 0], .tup [.int 0, .int 0, .int (-1)]]
def w4 : T := .tup [.tup [.int (-1), .int 0, .int 0, .int 0], .tup [.int 0, .int (-1), .int 0, .int 0], .tup [.int 0, .int 0, .int (-1), .int 0], .tup [.int 0, .int 0, .int 0, .int (-1)]]
theorem main2 (P : Ob) (x : Option T) : st3 [x, some (.loc 0), none, some tiesV, some (.int 2), none, none, none, none, none, none, none, none] ⟨2, [(0, P)]⟩ =
  .ok (.nx [x, some (.loc 0), some (.gl 0), some tiesV, some (.int 2), some (.int 4), none, none, none, some w1, some w2, some w2, some w1]) ⟨114, [(0, P)]⟩ := by kernel_rfl
theorem main3 (P : Ob) (x : Option T) : st3 [x, some (.loc 0), none, some tiesV, some (.int 3), none, none, none, none, none, none, none, none] ⟨2, [(0, P)]⟩ =
  .ok (.nx [x, some (.loc 0), some (.gl 0), some tiesV, some (.int 3), some (.int 4), none, none, none, some w2, some w3, some w3, some w2]) ⟨114, [(0, P)]⟩ := by kernel_rfl
theorem main4 (P : Ob) (x : Option T) : st3 [x, some (.loc 0), none, some tiesV, some (.int 4), none, none, none, none, none, none, none, none] ⟨2, [(0, P)]⟩ =
  .ok (.nx [x, some (.loc 0), some (.gl 0), some tiesV, some (.int 4), some (.int 4), none, none, none, some w3, some w4, some w4, some w3]) ⟨114, [(0, P)]⟩ := by kernel_rfl
def isT : Out Fl → Bool
  | .ok (.rt (.bl true)) _ => true
  | _ => false
theorem isT_ok {o : Out Fl} (h : isT o = true) : ∃ S, o = .ok (.rt (.bl true)) S := by
  cases o with
  | ok f S =>
    cases f with
    | rt t => cases t with
      | bl b => cases b with
        | true => exact ⟨S, rfl⟩
        | false => cases h
      | _ => cases h
    | _ => cases h
  | _ => cases h
section
variable (P : Ob) (x e2 e4 e5 e9 e10 e11 e12 : Option T)
abbrev envB (i j : Int) : EnvT := [x, some (.loc 0), e2, some tiesV, e4, e5, some (.int i), some (.int j), none, e9, e10, e11, e12]
theorem part22 : isT (sSeq st5 st6 (envB x e2 e4 e5 e9 e10 e11 e12 2 2) ⟨114, [(0, P)]⟩) = true := by kernel_rfl
theorem part23 : isT (sSeq st5 st6 (envB x e2 e4 e5 e9 e10 e11 e12 2 3) ⟨114, [(0, P)]⟩) = true := by kernel_rfl
theorem part24 : isT (sSeq st5 st6 (envB x e2 e4 e5 e9 e10 e11 e12 2 4) ⟨114, [(0, P)]⟩) = true := by kernel_rfl
theorem part32 : isT (sSeq st5 st6 (envB x e2 e4 e5 e9 e10 e11 e12 3 2) ⟨114, [(0, P)]⟩) = true := by kernel_rfl
theorem part33 : isT (sSeq st5 st6 (envB x e2 e4 e5 e9 e10 e11 e12 3 3) ⟨114, [(0, P)]⟩) = true := by kernel_rfl
theorem part34 : isT (sSeq st5 st6 (envB x e2 e4 e5 e9 e10 e11 e12 3 4) ⟨114, [(0, P)]⟩) = true := by kernel_rfl
theorem part42 : isT (sSeq st5 st6 (envB x e2 e4 e5 e9 e10 e11 e12 4 2) ⟨114, [(0, P)]⟩) = true := by kernel_rfl
theorem part43 : isT (sSeq st5 st6 (envB x e2 e4 e5 e9 e10 e11 e12 4 3) ⟨114, [(0, P)]⟩) = true := by kernel_rfl
theorem part44 : isT (sSeq st5 st6 (envB x e2 e4 e5 e9 e10 e11 e12 4 4) ⟨114, [(0, P)]⟩) = true := by kernel_rfl
end
end Lw
set_option Elab.async false
set_option linter.all false
set_option maxRecDepth 100000
set_option maxHeartbeats 0
namespace Lw
open Pi PySem
theorem sPar_ok {i j : Nat} {a b : ME} {env : EnvT} {S S1 S2 : Sto} {x y : T} (h1 : a env S = .ok x S1) (h2 : b env S1 = .ok y S2) : sPar i j a b env S = .ok (.nx (setN (setN env i (some x)) j (some y))) S2 := by
  unfold sPar
  rw [bnd_ok h1, bnd_ok h2]
  rfl
theorem three {r : Int} (h0 : 0 ≤ r) (h1 : r < Int.ofNat (2 + 1)) : r = 0 ∨ r = 1 ∨ r = 2 := by
  simp only [Int.ofNat_eq_natCast] at h1
  omega
/-- a draw of three, and two more -/
theorem draw3 {n : Nat} {cs : List Int} {a : Nat} {dg ct fd : Int} {env : EnvT} (h1 : eVar 1 env = ret (.loc 0)) : ∃ (r : Int) (a' : Nat) (dg' ct' fd' : Int), (r = 0 ∨ r = 1 ∨ r = 2) ∧
    eOp opAdd (eC (.int 2)) (eCall d__law_draw (aCons (eVar 1) (aCons (eC (.int 3)) aNil))) env (penS (n + 1) cs a dg ct fd) = .ok (.int (Int.add 2 r)) (penS (n + 1) cs a' dg' ct' fd') := by
  obtain ⟨r, a', dg', ct', fd', h2, h3, h4⟩ := draw_ok (k := 2) (n := n) (cs := cs) (a := a) (dg := dg) (ct := ct) (fd := fd) rfl
  refine ⟨r, a', dg', ct', fd', three h2 h3, eOp_ok (x := .int 2) rfl ?_ (z := .int (Int.add 2 r)) (y := .int r) rfl⟩
  unfold eCall aCons
  rw [h1]
  exact h4
theorem law_plain (ns : List Int) (hl : ns.length ≤ 63) : ∃ S', d_law [.scr (ns.map T.int)] ⟨0, []⟩ = .ok (.bl true) S' := by
  suffices h : ∃ S', b_law [some (.scr (ns.map T.int)), none, none, none, none, none, none, none, none, none, none, none, none] ⟨0, []⟩ = .ok (.rt (.bl true)) S' by
    obtain ⟨S', h⟩ := h
    refine ⟨S'.exit 0, ?_⟩
    show (match bnd (b_law [some (.scr (ns.map T.int)), none, none, none, none, none, none, none, none, none, none, none, none]) rtF ⟨0, []⟩ with | .ok t S' => Out.ok t (S'.exit 0) | .exc c fs S' => .exc c fs S' | .no => .no) = _
    rw [bnd_ok h]
    rfl
  unfold b_law
  obtain ⟨fd, hp⟩ := pen_ok ns (by omega)
  have hs1 : st1 [some (.scr (ns.map T.int)), none, none, none, none, none, none, none, none, none, none, none, none] ⟨0, []⟩ = .ok (.nx [some (.scr (ns.map T.int)), some (.loc 0), none, none, none, none, none, none, none, none, none, none, none]) (penS 1 ns 0 0 0 fd) := sSet_ok (i := 1) (x := .loc 0) hp
  obtain ⟨r, a1, d1, c1, f1, hr, hdr⟩ := draw3 (n := 1) (cs := ns) (a := 0) (dg := 0) (ct := 0) (fd := fd) (env := [some (.scr (ns.map T.int)), some (.loc 0), none, none, none, none, none, none, none, none, none, none, none]) rfl
  have hs2 : st2 [some (.scr (ns.map T.int)), some (.loc 0), none, none, none, none, none, none, none, none, none, none, none] (penS 1 ns 0 0 0 fd) = .ok (.nx [some (.scr (ns.map T.int)), some (.loc 0), none, some tiesV, some (.int (Int.add 2 r)), none, none, none, none, none, none, none, none]) (penS 2 ns a1 d1 c1 f1) :=
    sPar_ok (i := 3) (j := 4) (kinds_ok _ _) hdr
  have hs3 : ∃ e2 e4 e5 e9 e10 e11 e12, st3 [some (.scr (ns.map T.int)), some (.loc 0), none, some tiesV, some (.int (Int.add 2 r)), none, none, none, none, none, none, none, none] (penS 2 ns a1 d1 c1 f1) =
      .ok (.nx [some (.scr (ns.map T.int)), some (.loc 0), e2, some tiesV, e4, e5, none, none, none, e9, e10, e11, e12]) (penS 114 ns a1 d1 c1 f1) := by
    rcases hr with h | h | h
    · subst h; exact ⟨_, _, _, _, _, _, _, main2 _ _⟩
    · subst h; exact ⟨_, _, _, _, _, _, _, main3 _ _⟩
    · subst h; exact ⟨_, _, _, _, _, _, _, main4 _ _⟩
  obtain ⟨e2, e4, e5, e9, e10, e11, e12, hs3⟩ := hs3
  obtain ⟨i, a2, d2, c2, f2, hi, hdi⟩ := draw3 (n := 113) (cs := ns) (a := a1) (dg := d1) (ct := c1) (fd := f1) (env := [some (.scr (ns.map T.int)), some (.loc 0), e2, some tiesV, e4, e5, none, none, none, e9, e10, e11, e12]) rfl
  obtain ⟨j, a3, d3, c3, f3, hj, hdj⟩ := draw3 (n := 113) (cs := ns) (a := a2) (dg := d2) (ct := c2) (fd := f2) (env := [some (.scr (ns.map T.int)), some (.loc 0), e2, some tiesV, e4, e5, none, none, none, e9, e10, e11, e12]) rfl
  have hs4 : st4 [some (.scr (ns.map T.int)), some (.loc 0), e2, some tiesV, e4, e5, none, none, none, e9, e10, e11, e12] (penS 114 ns a1 d1 c1 f1) = .ok (.nx (envB (some (.scr (ns.map T.int))) e2 e4 e5 e9 e10 e11 e12 (Int.add 2 i) (Int.add 2 j))) (penS 114 ns a3 d3 c3 f3) :=
    sPar_ok (i := 6) (j := 7) hdi hdj
  have hs5 : isT (sSeq st5 st6 (envB (some (.scr (ns.map T.int))) e2 e4 e5 e9 e10 e11 e12 (Int.add 2 i) (Int.add 2 j)) (penS 114 ns a3 d3 c3 f3)) = true := by
    rcases hi with h | h | h <;> rcases hj with h' | h' | h' <;> subst h <;> subst h'
    · exact part22 ..
    · exact part23 ..
    · exact part24 ..
    · exact part32 ..
    · exact part33 ..
    · exact part34 ..
    · exact part42 ..
    · exact part43 ..
    · exact part44 ..
  obtain ⟨S', hs6⟩ := isT_ok hs5
  exact ⟨S', (sSeq_ok hs1).trans ((sSeq_ok hs2).trans ((sSeq_ok hs3).trans ((sSeq_ok hs4).trans hs6)))⟩
end Lw
set_option Elab.async false
set_option linter.all false
set_option maxRecDepth 100000
set_option maxHeartbeats 0
namespace Lw
open PySem PySem.Spec PyProof.Rows L2 Pi
abbrev R : PySem.W.OpenRow := PySem.W.OpenLaw.row PySem.Challenge.rw_oneendless_k71_whole_sayings_of_full_dep
abbrev hk : PySem.W.Hook := He.hookX 5 fa fn [] [] ex
def ob (s : PySem.W.SharedT) : He.AlX := He.obsX 5 fa fn [] [] ex (HandSHeadRun.getT s)
theorem ob_eq (s : PySem.W.SharedT) : ob s = hk.obs s.abs := He.obsX_eq (HandSHeadRun.getT_eq s)
def loose0 : List PySem.Str := ["_wall", "WebError", "BadNumber", "BadKinds", "BadTable", "TooMany", "as_tuples", "is_list", "is_integer", "is_index", "is_between", "MOST_KINDS", "MOST_BARRED", "MOST_POINTS_kinds", "Kinds", "is_three"]
def loose1 : List PySem.Str := ["need_kinds", "orders_of", "barred_by", "is_flat", "has_barred", "need_web", "likenesses_by", "keeps", "MOST_TUPLES", "MOST_DEPTH_sayings", "MOST_PARTS", "MANY", "BOUND", "within", "is_fit", "is_bare"]
def loose2 : List PySem.Str := ["parts_of", "depth_by", "truth_by", "MOST_POINTS_games", "MOST_DEPTH_games", "MOST_LOOKS", "Parting", "need_small", "need_pair", "need_looks", "need_game", "goes_on", "with_pair", "Game", "parting_depth", "parting_holds"]
def loose3 : List PySem.Str := ["_law_pen", "_law_draw", "_law_is", "_law_says", "_law_goes", "_law_put_pair", "_law_lasts", "_law_answers", "_law_chain", "_law_at_least", "_law_depth", "_law_plain_web"]
abbrev loose : List PySem.Str := loose0 ++ loose1 ++ loose2 ++ loose3
theorem run (w : World) : HandSHeadRun.RunEq R (PySem.W.view R.prog [67]) hk ob 6000 loose w := by
  intro os
  kernel_rfl
theorem flds : Flds tb nf := by
  have h : (List.range nf).all (fun f => (List.range nf).all fun g => decide (tb.fd f = tb.fd g → f = g)) = true := by decide +kernel
  intro f hf g hg
  exact of_decide_eq_true (List.all_eq_true.mp (List.all_eq_true.mp h f (List.mem_range.mpr hf)) g (List.mem_range.mpr hg))
theorem ba {a b : Bool} (h : (a && b) = true) : a = true ∧ b = true := Bool.and_eq_true_iff.mp h
theorem own_of {P : Program} {w : World} {K : PySem.W.Frag} (h : ownB K = true) (hc : ∀ c, c < nc → Cls K (He.ga K (cnL.getD c ""))) : Own ⟨P, w, K, tb⟩ nc ∧ Att ⟨P, w, K, tb⟩ nc nf := by
  have key : ∀ c, c < nc → ownC K (cnL.getD c "") = true := fun c h1 => List.all_eq_true.mp h c (List.mem_range.mpr h1)
  refine ⟨⟨fun c h1 => ?_, fun c h1 g hg => ?_, fun c h1 g hg => ?_, fun c h1 d hd => ?_⟩, ⟨flds, fun c h1 f hf => ?_⟩⟩
  · obtain ⟨k, _⟩ := ba (key c h1)
    obtain ⟨k, _⟩ := ba k
    obtain ⟨k, _⟩ := ba k
    obtain ⟨k, k4⟩ := ba k
    obtain ⟨k, k3⟩ := ba k
    obtain ⟨k1, k2⟩ := ba k
    exact ⟨hc c h1, of_decide_eq_true k1, of_decide_eq_true k2, of_decide_eq_true k3, of_decide_eq_true k4⟩
  · obtain ⟨k, _⟩ := ba (key c h1)
    obtain ⟨k, _⟩ := ba k
    obtain ⟨_, k5⟩ := ba k
    exact of_decide_eq_true (ba (List.all_eq_true.mp k5 g (List.mem_range.mpr hg))).1
  · obtain ⟨k, _⟩ := ba (key c h1)
    obtain ⟨k, _⟩ := ba k
    obtain ⟨_, k5⟩ := ba k
    exact of_decide_eq_true (ba (List.all_eq_true.mp k5 g (List.mem_range.mpr hg))).2
  · obtain ⟨_, k⟩ := ba (key c h1)
    exact of_decide_eq_true (List.all_eq_true.mp (List.all_eq_true.mp k c (List.mem_range.mpr h1)) d (List.mem_range.mpr hd))
  · obtain ⟨k, _⟩ := ba (key c h1)
    obtain ⟨_, k5⟩ := ba k
    show PySem.W.findIn K (.ref (He.ga K (cnL.getD c ""))) (fdL.getD f "") = some none
    exact of_decide_eq_true (List.all_eq_true.mp k5 f (List.mem_range.mpr hf))
theorem cn_of {P : Program} {w : World} {K : PySem.W.Frag} {h : Heap} {mg : PySem.Str → Option Value} (X : K.In h) (G : h.Ns mainGlobals mg) (c : He.SaysX fa fn [] [] ex w h K) : Cn P w K mg := by
  have cd : He.SaysD fa fn K := congrArg Prod.fst c.t
  have m := c.more
  unfold ex at m
  obtain ⟨m, t2⟩ := ba m
  obtain ⟨m, t1⟩ := ba m
  have hc : ∀ c, c < nc → Cls K (He.ga K (cnL.getD c "")) := fun c hc => match c, hc with
    | 0, _ => He.cls_ok (x := "Kinds") (cd.fact 46 rfl)
    | 1, _ => He.cls_ok (x := "Parting") (cd.fact 47 rfl)
    | 2, _ => He.cls_ok (x := "Game") (cd.fact 48 rfl)
    | n + 3, h => absurd (show n + 3 < 3 from h) (by omega)
  obtain ⟨o1, o2⟩ := own_of (P := P) (w := w) m hc
  exact ⟨o1,
    o2,
    He.glo_ok X G (cd.fact 0 (f := .glo "is_integer") rfl),
    He.glo_ok X G (cd.fact 1 (f := .glo "is_list") rfl),
    He.glo_ok X G (cd.fact 2 (f := .glo "is_index") rfl),
    He.glo_ok X G (cd.fact 3 (f := .glo "as_tuples") rfl),
    He.glo_ok X G (cd.fact 4 (f := .glo "is_between") rfl),
    He.glo_ok X G (cd.fact 5 (f := .glo "is_three") rfl),
    He.glo_ok X G (cd.fact 6 (f := .glo "Kinds") rfl),
    He.glo_ok X G (cd.fact 7 (f := .glo "orders_of") rfl),
    He.glo_ok X G (cd.fact 8 (f := .glo "is_flat") rfl),
    He.glo_ok X G (cd.fact 9 (f := .glo "has_barred") rfl),
    He.glo_ok X G (cd.fact 10 (f := .glo "barred_by") rfl),
    He.glo_ok X G (cd.fact 11 (f := .glo "need_kinds") rfl),
    He.glo_ok X G (cd.fact 12 (f := .glo "need_web") rfl),
    He.glo_ok X G (cd.fact 13 (f := .glo "need_small") rfl),
    He.glo_ok X G (cd.fact 14 (f := .glo "need_pair") rfl),
    He.glo_ok X G (cd.fact 15 (f := .glo "need_looks") rfl),
    He.glo_ok X G (cd.fact 16 (f := .glo "BOUND") rfl),
    He.glo_ok X G (cd.fact 17 (f := .glo "MANY") rfl),
    He.glo_ok X G (cd.fact 18 (f := .glo "within") rfl),
    He.glo_ok X G (cd.fact 19 (f := .glo "parts_of") rfl),
    He.glo_ok X G (cd.fact 20 (f := .glo "depth_by") rfl),
    He.glo_ok X G (cd.fact 21 (f := .glo "truth_by") rfl),
    He.glo_ok X G (cd.fact 22 (f := .glo "need_game") rfl),
    He.glo_ok X G (cd.fact 23 (f := .glo "Parting") rfl),
    He.glo_ok X G (cd.fact 24 (f := .glo "is_fit") rfl),
    He.glo_ok X G (cd.fact 25 (f := .glo "is_bare") rfl),
    He.glo_ok X G (cd.fact 26 (f := .glo "_law_goes") rfl),
    He.glo_ok X G (cd.fact 27 (f := .glo "_law_lasts") rfl),
    He.glo_ok X G (cd.fact 28 (f := .glo "_law_put_pair") rfl),
    He.glo_ok X G (cd.fact 29 (f := .glo "_law_answers") rfl),
    He.glo_ok X G (cd.fact 30 (f := .glo "_law_is") rfl),
    He.glo_ok X G (cd.fact 31 (f := .glo "goes_on") rfl),
    He.glo_ok X G (cd.fact 32 (f := .glo "with_pair") rfl),
    He.glo_ok X G (cd.fact 33 (f := .glo "keeps") rfl),
    He.glo_ok X G (cd.fact 34 (f := .glo "Game") rfl),
    He.glo_ok X G (cd.fact 35 (f := .glo "likenesses_by") rfl),
    He.glo_ok X G (cd.fact 36 (f := .glo "_law_pen") rfl),
    He.glo_ok X G (cd.fact 37 (f := .glo "_law_draw") rfl),
    He.glo_ok X G (cd.fact 38 (f := .glo "_law_plain_web") rfl),
    He.glo_ok X G (cd.fact 39 (f := .glo "_law_chain") rfl),
    He.glo_ok X G (cd.fact 40 (f := .glo "_law_says") rfl),
    He.glo_ok X G (cd.fact 41 (f := .glo "parting_holds") rfl),
    He.glo_ok X G (cd.fact 42 (f := .glo "_law_at_least") rfl),
    He.glo_ok X G (cd.fact 43 (f := .glo "_law_depth") rfl),
    He.glo_ok X G (cd.fact 44 (f := .glo "parting_depth") rfl),
    He.free_ok X G (cd.fact 49 (f := .free "int") rfl),
    He.free_ok X G (cd.fact 50 (f := .free "list") rfl),
    He.free_ok X G (cd.fact 51 (f := .free "isinstance") rfl),
    He.free_ok X G (cd.fact 52 (f := .free "bool") rfl),
    He.free_ok X G (cd.fact 53 (f := .free "tuple") rfl),
    He.free_ok X G (cd.fact 54 (f := .free "len") rfl),
    He.free_ok X G (cd.fact 55 (f := .free "all") rfl),
    He.free_ok X G (cd.fact 56 (f := .free "enumerate") rfl),
    He.free_ok X G (cd.fact 57 (f := .free "range") rfl),
    He.free_ok X G (cd.fact 58 (f := .free "abs") rfl),
    He.free_ok X G (cd.fact 59 (f := .free "str") rfl),
    He.free_ok X G (cd.fact 60 (f := .free "max") rfl),
    He.free_ok X G (cd.fact 61 (f := .free "sorted") rfl),
    He.free_ok X G (cd.fact 62 (f := .free "min") rfl),
    He.int_ok X G (cd.fact 63 (f := .int "MOST_KINDS" 4) rfl),
    He.int_ok X G (cd.fact 64 (f := .int "MOST_BARRED" 40) rfl),
    He.int_ok X G (cd.fact 65 (f := .int "MOST_POINTS_kinds" 64) rfl),
    He.int_ok X G (cd.fact 66 (f := .int "MOST_POINTS_games" 8) rfl),
    He.int_ok X G (cd.fact 67 (f := .int "MOST_LOOKS" 100000) rfl),
    He.int_ok X G (cd.fact 68 (f := .int "MOST_DEPTH_games" 4) rfl),
    He.int_ok X G (cd.fact 69 (f := .int "MOST_PARTS" 12) rfl),
    He.int_ok X G (cd.fact 70 (f := .int "MOST_TUPLES" 60) rfl),
    He.int_ok X G (cd.fact 71 (f := .int "MOST_DEPTH_sayings" 4) rfl),
    He.tupB_ok t1 _,
    He.tupB_ok t2 _,
    He.mkr_ok (cd.fact 72 (f := .mkr "Game") rfl),
    He.mkr_ok (cd.fact 73 (f := .mkr "Kinds") rfl),
    He.mkr_ok (cd.fact 74 (f := .mkr "Parting") rfl),
    He.meth_ok (cd.fact 75 (f := .meth "Game" "lasts") rfl),
    He.meth_ok (cd.fact 76 (f := .meth "Game" "answer") rfl),
    He.meth_ok (cd.fact 77 (f := .meth "Game" "answer_back") rfl),
    cd.def_ 0 (d := h_law) rfl,
    cd.def_ 1 (d := h_parting_depth) rfl,
    cd.def_ 2 (d := h_likenesses_by) rfl,
    cd.def_ 3 (d := h_keeps) rfl,
    cd.def_ 4 (d := h_Game_lasts) rfl,
    cd.def_ 5 (d := h_Game_answer_back) rfl,
    cd.def_ 6 (d := h_with_pair) rfl,
    cd.def_ 7 (d := h_goes_on) rfl,
    cd.def_ 8 (d := h_Game_answer) rfl,
    cd.def_ 9 (d := h_need_looks) rfl,
    cd.def_ 10 (d := h_Game___init__) rfl,
    cd.def_ 11 (d := h_need_pair) rfl,
    cd.def_ 12 (d := h_need_small) rfl,
    cd.def_ 13 (d := h_need_web) rfl,
    cd.def_ 14 (d := h_barred_by) rfl,
    cd.def_ 15 (d := h_orders_of) rfl,
    cd.def_ 16 (d := h_has_barred) rfl,
    cd.def_ 17 (d := h_as_tuples) rfl,
    cd.def_ 18 (d := h_is_flat) rfl,
    cd.def_ 19 (d := h_is_index) rfl,
    cd.def_ 20 (d := h_is_integer) rfl,
    cd.def_ 21 (d := h_is_list) rfl,
    cd.def_ 22 (d := h_need_kinds) rfl,
    cd.def_ 23 (d := h__law_is) rfl,
    cd.def_ 24 (d := h__law_depth) rfl,
    cd.def_ 25 (d := h__law_lasts) rfl,
    cd.def_ 26 (d := h__law_answers) rfl,
    cd.def_ 27 (d := h__law_put_pair) rfl,
    cd.def_ 28 (d := h__law_goes) rfl,
    cd.def_ 29 (d := h__law_at_least) rfl,
    cd.def_ 30 (d := h_Parting___init__) rfl,
    cd.def_ 31 (d := h_parting_holds) rfl,
    cd.def_ 32 (d := h_truth_by) rfl,
    cd.def_ 33 (d := h_depth_by) rfl,
    cd.def_ 34 (d := h_parts_of) rfl,
    cd.def_ 35 (d := h_is_bare) rfl,
    cd.def_ 36 (d := h_is_fit) rfl,
    cd.def_ 37 (d := h_within) rfl,
    cd.def_ 38 (d := h_need_game) rfl,
    cd.def_ 39 (d := h_is_between) rfl,
    cd.def_ 40 (d := h__law_says) rfl,
    cd.def_ 41 (d := h__law_plain_web) rfl,
    cd.def_ 42 (d := h__law_chain) rfl,
    cd.def_ 43 (d := h__law_draw) rfl,
    cd.def_ 44 (d := h_Kinds___init__) rfl,
    cd.def_ 45 (d := h_is_three) rfl,
    cd.def_ 46 (d := h__law_pen) rfl⟩
end Lw
open PySem PySem.W PySem.Calls PyProof.Rows
theorem PySem.Challenge.cw_oneendless_k71_whole_sayings_of_full_dep_holds : PySem.Challenge.rw_oneendless_k71_whole_sayings_of_full_dep.Holds := by
  w_on; o_law
  refine HandSHeadRun.head_any (r := OpenLaw.row PySem.Challenge.rw_oneendless_k71_whole_sayings_of_full_dep) (q := view (OpenLaw.row PySem.Challenge.rw_oneendless_k71_whole_sayings_of_full_dep).prog [67]) (H := Lw.hk) (ob := Lw.ob) (M := 6000) (loose := Lw.loose) (d := HandSHeadRun.topDef (OpenLaw.row PySem.Challenge.rw_oneendless_k71_whole_sayings_of_full_dep).prog 67) (kwd := []) Lw.ob_eq
    (by kernel_rfl) (fun s => by kernel_rfl) Lw.run (by kernel_rfl) (by kernel_rfl) (by kernel_rfl) (by rfl) (by first | assumption | decide +kernel) (by decide +kernel) ⟨rfl, rfl, rfl, rfl, rfl, by decide +kernel⟩ ?hw ?hc
  case hw => w_witness2
  case hc =>
    refine L2.walk_ofE (l := PySem.Challenge.rw_oneendless_k71_whole_sayings_of_full_dep) (n := 63) (k := 24) (x := "script") (CX := L2.CX0) rfl (by decide) (by kernel_rfl) ⟨rfl, by decide, by decide⟩ ?F (fun _ _ _ _ z => z)
    intro w mg fa h Y G hmg0
    obtain ⟨K, KX, c⟩ := Y
    have hmg : mg ("law" : PySem.Str) = some (.ref fa) := by
      have e : (HandSHeadRun.topDef (OpenLaw.row PySem.Challenge.rw_oneendless_k71_whole_sayings_of_full_dep).prog 67).name = ("law" : PySem.Str) := by kernel_rfl
      rw [← e]
      exact hmg0
    have C : Lw.Cn (PySem.Challenge.rw_oneendless_k71_whole_sayings_of_full_dep).prog w K mg := Lw.cn_of KX G c
    have cd : He.SaysD Lw.fa Lw.fn K := congrArg Prod.fst c.t
    have e := hmg.symm.trans (He.glo_ok KX G (cd.fact 45 (f := .glo "law") rfl))
    cases e
    obtain ⟨fd, F⟩ := C.f_law
    have b := L2.FunD.bindsA (ps := ["script"]) F fun _ _ _ _ _ _ us hl => match us, hl with | [_], _ => rfl
    refine ⟨K, fd, Pi.spD ⟨(PySem.Challenge.rw_oneendless_k71_whole_sayings_of_full_dep).prog, w, K, Lw.tb⟩ Lw.d_law, KX, fun s v => b s [v] rfl, fun H a ns hl _ hS => Pi.law_sp hS (Lw.law_plain ns hl), fun base _ _ => ?_⟩
    exact Lw.ok_law C F
