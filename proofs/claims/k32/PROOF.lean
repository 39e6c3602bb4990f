import PyProof.Rows.All
import Wide.All
import OpenK.AllK
import Wide.FinOn
import HandS.ForMost
import HandS.ForExc
import HandS.Walk
import HandS.Lambda
import HandS.EndTab
import HandS.CallSlots
import HandS.RevRange
import HandS.SortInts
import HandS.Wide
import HandS.Style
import HandS.IsInst
import HandS.ExcIs
import HandS.ExcOwn
import HandS.ExcValue
import HandS.TryOnly
import HandS.Conv
import HandS.Small
import HandS.DictComp
import HandS.NoneIn
import HandS.SortRule
import HandS.Iter
import PyProof.MinMaxWalk
import PyProof.WalkInts
import HandS.DeepEq
import HandS.Dict
import HandS.TupAny
import HandS.SetFor
import HandS.Strs
import KE.LtData
import HandS.Zip
import KE.SortData
import KE.BitLaws
import HandS.Text
import PySem.Challenge.RW_codewright_k32_dull_machines_and_lightes
set_option Elab.async false
set_option linter.all false
set_option maxRecDepth 100000
set_option maxHeartbeats 4000000
set_option maxRecDepth 100000
/-! Mv: program values as plain data over the hand layer -/
namespace Mv
open PySem PySem.Spec PyProof.Rows L2

/-- plain data: what a value says, without addresses; ins n: the n-th instance of the store -/
inductive D where
  | non | bl (b : Bool) | int (i : Int) | str (z : Str)
  | lst (xs : List D) | tup (xs : List D) | dic (ks : List Key) (xs : List D) | frz (xs : List D)
  | ins (n : Nat) | cst (v : V)

/-- flags of a value: clean, new, on top lent, on top one's own, tainted -/
inductive Fl where
  | c | n | b | o | t
  deriving DecidableEq

inductive Slot where
  | no | ar (f : Fl) (d : D) | own (d : D) | deep (b : Nat) (d : D)

abbrev Env := List Slot
/-- the store: each instance's class number and fields -/
abbrev Store := List (Nat × List D)
/-- the classes: where each stands, its fields in order -/
structure CT where
  ad : Nat → Addr
  fd : Nat → List Str
  ex : Nat → Bool := fun _ => false
  tb : List (Addr × Str) := []
  pu : Bool := false

def ct0 : CT := { ad := fun _ => 0, fd := fun _ => [] }

inductive Rs (α : Type) where
  | ok (a : α) (S : Store) | er (c : Nat) (p : List D) (S : Store) | no
def Rs.bind {α β : Type} (r : Rs α) (k : α → Store → Rs β) : Rs β :=
  match r with
  | .ok a S => k a S
  | .er c p S => .er c p S
  | .no => .no

abbrev EM := Env → Store → Rs (D × Fl)
abbrev TM := Env → Store → Rs Bool
abbrev AM := Env → Store → Rs (List (Fl × D))

inductive SR where
  | nx (r : Env) (S : Store) | rt (d : D) (f : Fl) (S : Store) | bk (r : Env) (S : Store) | ct (r : Env) (S : Store)
  | er (c : Nat) (p : List D) (r : Env) (S : Store) | no
abbrev SM := Env → Store → SR

/-! ### what a value stands for -/
def ConL (K : PySem.W.Frag) (a : Addr) (xs : List V) : Prop :=
  ∃ (o : Obj) (its : Array Value) (n : Nat), K.lookup a = some o ∧ o.cls = .type "list" ∧ o.dict = none ∧ o.data = .seq its n ∧ its.size ≤ sizeLine ∧ Vals xs its.toList
def SqM (K : PySem.W.Frag) (M : Addr → Prop) (H : Hp) (a : Addr) (xs : List V) : Prop := (Rd H a (.lst xs) ∧ ¬ M a) ∨ ConL K a xs
theorem SqM.sq {K : PySem.W.Frag} {M : Addr → Prop} {H : Hp} {a : Addr} {xs : List V} (h : SqM K M H a xs) : SqL K H a xs := by
  rcases h with h | h
  · exact .inl h.1
  · exact .inr h

mutual
inductive Rep (K : PySem.W.Frag) (M : Addr → Prop) (io : List Addr) (H : Hp) : D → V → Prop
  | non : Rep K M io H .non .non
  | bl (b : Bool) : Rep K M io H (.bl b) (.bl b)
  | int (i : Int) : Rep K M io H (.int i) (.int i)
  | str (z : Str) : Rep K M io H (.str z) (.str z)
  | lst {a : Addr} {vs : List V} {xs : List D} : H a = some (.lst vs) → ¬ M a → Reps K M io H xs vs → Rep K M io H (.lst xs) (.ref a)
  | frz {a : Addr} {vs : List V} {xs : List D} : SqM K M H a vs → Reps K M io H xs vs → Rep K M io H (.frz xs) (.ref a)
  | tup {a : Addr} {vs : List V} {xs : List D} : SqT K H a vs → Reps K M io H xs vs → Rep K M io H (.tup xs) (.ref a)
  | dic {a : Addr} {kvs : List (Key × V)} {ks : List Key} {xs : List D} : H a = some (.dK kvs) → ¬ M a → kvs.map Prod.fst = ks → Reps K M io H xs (kvs.map Prod.snd) → Rep K M io H (.dic ks xs) (.ref a)
  | ins {n : Nat} {a : Addr} : io[n]? = some a → Rep K M io H (.ins n) (.ref a)
  | cst {v : V} : Rep K M io H (.cst v) v
inductive Reps (K : PySem.W.Frag) (M : Addr → Prop) (io : List Addr) (H : Hp) : List D → List V → Prop
  | nil : Reps K M io H [] []
  | cons {d : D} {ds : List D} {v : V} {vs : List V} : Rep K M io H d v → Reps K M io H ds vs → Reps K M io H (d :: ds) (v :: vs)
end

/-- no instance, no table -/
def NI (o : HO) : Prop := (∀ C dx fs, o ≠ .ins C dx fs) ∧ ∀ ps, o ≠ .tbl ps
theorem NI.lst {xs : List V} : NI (.lst xs) := ⟨fun _ _ _ h => by (cases h), fun _ h => by (cases h)⟩
theorem NI.tup {xs : List V} : NI (.tup xs) := ⟨fun _ _ _ h => by (cases h), fun _ h => by (cases h)⟩
theorem NI.dK {xs : List (Key × V)} : NI (.dK xs) := ⟨fun _ _ _ h => by (cases h), fun _ h => by (cases h)⟩
theorem NI.frz {o : Obj} {u : HO} : NI (.frz o u) := ⟨fun _ _ _ h => by (cases h), fun _ h => by (cases h)⟩
theorem NI.own {a : Addr} : NI (.own a) := ⟨fun _ _ _ h => by (cases h), fun _ h => by (cases h)⟩
theorem NI.ext {φ : Heap → Prop} : NI (.ext φ) := ⟨fun _ _ _ h => by (cases h), fun _ h => by (cases h)⟩
theorem NI.xd {fs : List (Str × V)} : NI (.xd fs) := ⟨fun _ _ _ h => by (cases h), fun _ h => by (cases h)⟩
/-- what never changes -/
def Im (o : HO) : Prop := (∃ xs, o = .tup xs) ∨ (∃ ob xs, o = .frz ob (.tup xs)) ∨ (∃ φ, o = .ext φ) ∨ ∃ fs, o = .xd fs
theorem not_im_lst {xs : List V} : ¬ Im (.lst xs) := fun h => by rcases h with ⟨_, h⟩ | ⟨_, _, h⟩ | ⟨_, h⟩ | ⟨_, h⟩ <;> cases h
theorem not_im_dK {xs : List (Key × V)} : ¬ Im (.dK xs) := fun h => by rcases h with ⟨_, h⟩ | ⟨_, _, h⟩ | ⟨_, h⟩ | ⟨_, h⟩ <;> cases h
/-- what is not own (or never changes) stays -/
def Kp (M : Addr → Prop) (H H' : Hp) : Prop := ∀ a o, H a = some o → NI o → (¬ M a ∨ Im o) → H' a = some o
section
variable {K : PySem.W.Frag} {M M' : Addr → Prop} {io io' : List Addr} {H H' : Hp} {a : Addr}
theorem SqM.mono {xs : List V} (k : Kp M H H') (m : ∀ a, (∃ o, H a = some o) → ¬ M a → ¬ M' a) (h : SqM K M H a xs) : SqM K M' H' a xs := by
  rcases h with ⟨h | ⟨o, h⟩, n⟩ | h
  · exact .inl ⟨.inl (k _ _ h NI.lst (.inl n)), m a ⟨_, h⟩ n⟩
  · exact .inl ⟨.inr ⟨o, k _ _ h NI.frz (.inl n)⟩, m a ⟨_, h⟩ n⟩
  · exact .inr h
theorem SqT.mono {xs : List V} (k : Kp M H H') (h : SqT K H a xs) : SqT K H' a xs := by
  rcases h with (h | ⟨o, h⟩) | h
  · exact .inl (.inl (k _ _ h NI.tup (.inr (.inl ⟨xs, rfl⟩))))
  · exact .inl (.inr ⟨o, k _ _ h NI.frz (.inr (.inr (.inl ⟨o, xs, rfl⟩)))⟩)
  · exact .inr h
theorem io_get {n : Nat} (p : ∃ l, io' = io ++ l) (h : io[n]? = some a) : io'[n]? = some a := by
  obtain ⟨l, rfl⟩ := p
  rw [List.getElem?_append_left (List.getElem?_eq_some_iff.mp h).1]
  exact h
mutual
theorem Rep.mono (k : Kp M H H') (m : ∀ a, (∃ o, H a = some o) → ¬ M a → ¬ M' a) (p : ∃ l, io' = io ++ l) : ∀ {d : D} {v : V}, Rep K M io H d v → Rep K M' io' H' d v
  | _, _, .non => .non
  | _, _, .bl b => .bl b
  | _, _, .int i => .int i
  | _, _, .str z => .str z
  | _, _, .lst h n r => .lst (k _ _ h NI.lst (.inl n)) (m _ ⟨_, h⟩ n) (Reps.mono k m p r)
  | _, _, .frz h r => .frz (h.mono k m) (Reps.mono k m p r)
  | _, _, .tup h r => .tup (SqT.mono k h) (Reps.mono k m p r)
  | _, _, .dic h n e r => .dic (k _ _ h NI.dK (.inl n)) (m _ ⟨_, h⟩ n) e (Reps.mono k m p r)
  | _, _, .ins h => .ins (io_get p h)
  | _, _, .cst => .cst
theorem Reps.mono (k : Kp M H H') (m : ∀ a, (∃ o, H a = some o) → ¬ M a → ¬ M' a) (p : ∃ l, io' = io ++ l) : ∀ {ds : List D} {vs : List V}, Reps K M io H ds vs → Reps K M' io' H' ds vs
  | _, _, .nil => .nil
  | _, _, .cons r t => .cons (Rep.mono k m p r) (Reps.mono k m p t)
end
theorem Kp.refl : Kp M H H := fun _ _ h _ _ => h
theorem io_refl : ∃ l, io = io ++ l := ⟨[], by simp⟩
theorem io_trans {i1 i2 i3 : List Addr} (p : ∃ l, i2 = i1 ++ l) (q : ∃ l, i3 = i2 ++ l) : ∃ l, i3 = i1 ++ l := by
  obtain ⟨l, rfl⟩ := p
  obtain ⟨l', rfl⟩ := q
  exact ⟨l ++ l', by rw [List.append_assoc]⟩
/-- fewer own ones -/
theorem Rep.anti (m : ∀ a, M' a → M a) {d : D} {v : V} (h : Rep K M io H d v) : Rep K M' io H d v := Rep.mono Kp.refl (fun a _ n z => n (m a z)) io_refl h
theorem Reps.anti (m : ∀ a, M' a → M a) {ds : List D} {vs : List V} (h : Reps K M io H ds vs) : Reps K M' io H ds vs := Reps.mono Kp.refl (fun a _ n z => n (m a z)) io_refl h
theorem Reps.len : ∀ {ds : List D} {vs : List V}, Reps K M io H ds vs → ds.length = vs.length
  | _, _, .nil => rfl
  | _, _, .cons _ t => by rw [List.length_cons, List.length_cons, Reps.len t]
theorem Reps.get : ∀ {ds : List D} {vs : List V} {i : Nat} {d : D}, Reps K M io H ds vs → ds[i]? = some d → ∃ v, vs[i]? = some v ∧ Rep K M io H d v
  | _, _, _, _, .nil, e => by simp at e
  | _, _, 0, _, .cons r _, e => by simp at e; subst e; exact ⟨_, rfl, r⟩
  | _, _, i + 1, d, .cons _ t, e => by
    obtain ⟨v, h1, h2⟩ := Reps.get (i := i) (d := d) t (by simpa using e)
    exact ⟨v, by simpa using h1, h2⟩
theorem Reps.getV : ∀ {ds : List D} {vs : List V} {i : Nat} {v : V}, Reps K M io H ds vs → vs[i]? = some v → ∃ d, ds[i]? = some d ∧ Rep K M io H d v
  | _, _, _, _, .nil, e => by simp at e
  | _, _, 0, _, .cons r _, e => by simp at e; subst e; exact ⟨_, rfl, r⟩
  | _, _, i + 1, v, .cons _ t, e => by
    obtain ⟨d, h1, h2⟩ := Reps.getV (i := i) (v := v) t (by simpa using e)
    exact ⟨d, by simpa using h1, h2⟩
theorem Reps.app : ∀ {ds es : List D} {vs ws : List V}, Reps K M io H ds vs → Reps K M io H es ws → Reps K M io H (ds ++ es) (vs ++ ws)
  | _, _, _, _, .nil, s => s
  | _, _, _, _, .cons r t, s => .cons r (Reps.app t s)
theorem Reps.set : ∀ {ds : List D} {vs : List V} {d : D} {v : V} (i : Nat), Reps K M io H ds vs → Rep K M io H d v → Reps K M io H (ds.set i d) (vs.set i v)
  | _, _, _, _, _, .nil, _ => .nil
  | _, _, _, _, 0, .cons _ t, q => .cons q t
  | _, _, _, _, i + 1, .cons r t, q => .cons r (Reps.set i t q)
theorem Reps.take : ∀ {ds : List D} {vs : List V} (i : Nat), Reps K M io H ds vs → Reps K M io H (ds.take i) (vs.take i)
  | _, _, 0, _ => .nil
  | _, _, _ + 1, .nil => .nil
  | _, _, i + 1, .cons r t => .cons r (Reps.take i t)
theorem Reps.drop : ∀ {ds : List D} {vs : List V} (i : Nat), Reps K M io H ds vs → Reps K M io H (ds.drop i) (vs.drop i)
  | _, _, 0, r => r
  | _, _, _ + 1, .nil => .nil
  | _, _, i + 1, .cons _ t => Reps.drop i t
theorem Reps.rev : ∀ {ds : List D} {vs : List V}, Reps K M io H ds vs → Reps K M io H ds.reverse vs.reverse
  | _, _, .nil => .nil
  | _, _, .cons r t => by
    rw [List.reverse_cons, List.reverse_cons]
    exact Reps.app (Reps.rev t) (.cons r .nil)
theorem Reps.ints : ∀ {is : List Int} {vs : List V}, Reps K M io H (is.map D.int) vs → vs = is.map V.int
  | [], _, .nil => rfl
  | i :: is, _, .cons r t => by
    cases r
    rw [Reps.ints t]
    rfl
theorem Reps.ofInts : ∀ (is : List Int), Reps K M io H (is.map D.int) (is.map V.int)
  | [] => .nil
  | i :: is => .cons (.int i) (Reps.ofInts is)
theorem Reps.strs : ∀ {is : List Str} {vs : List V}, Reps K M io H (is.map D.str) vs → vs = is.map V.str
  | [], _, .nil => rfl
  | i :: is, _, .cons r t => by
    cases r
    rw [Reps.strs t]
    rfl
theorem Reps.ofStrs : ∀ (is : List Str), Reps K M io H (is.map D.str) (is.map V.str)
  | [] => .nil
  | i :: is => .cons (.str i) (Reps.ofStrs is)
theorem Reps.bls : ∀ {is : List Bool} {vs : List V}, Reps K M io H (is.map D.bl) vs → vs = is.map V.bl
  | [], _, .nil => rfl
  | i :: is, _, .cons r t => by
    cases r
    rw [Reps.bls t]
    rfl
end

/-! ### the store -/
def FldOk (K : PySem.W.Frag) (M : Addr → Prop) (io : List Addr) (H : Hp) (ns : List Str) : List D → List (Str × V) → Prop :=
  fun fs gs => gs.map Prod.fst = ns.take fs.length ∧ Reps K M io H fs (gs.map Prod.snd)
/-- an exception kept as a value: its class, its dict -/
def ExV (cls : Value) (d : Option Addr) (a : Addr) : HO := .ext fun h => ∃ (oe : Obj) (vs : Array Value), h.get? a = some oe ∧ Zc cls d oe ∧ oe.data = .fields vs
def ErrOk (K : PySem.W.Frag) (ns : List Str) (io : List Addr) (H : Hp) (p : List D) (dx : Option Addr) : Prop :=
  (p = [] ∧ dx = none) ∨ (∃ (a : Addr) (gs : List (Str × V)), dx = some a ∧ p ≠ [] ∧ H a = some (.xd gs) ∧ FldOk K (fun _ => True) io H ns p gs)
theorem ErrOk.mono {K : PySem.W.Frag} {M : Addr → Prop} {io io' : List Addr} {H H' : Hp} {ns : List Str} {p : List D} {dx : Option Addr} (k : Kp M H H') (q : ∃ l, io' = io ++ l) (h : ErrOk K ns io H p dx) : ErrOk K ns io' H' p dx := by
  rcases h with h | ⟨a, gs, e, np, h1, h2, h3⟩
  · exact .inl h
  · exact .inr ⟨a, gs, e, np, k _ _ h1 NI.xd (.inr (.inr (.inr (.inr ⟨gs, rfl⟩)))), h2, h3.mono (fun a o h1 h2 h3 => k a o h1 h2 (h3.elim (fun z => absurd trivial z) .inr)) (fun _ _ n => absurd trivial n) q⟩
structure StoOk (K : PySem.W.Frag) (ct : CT) (M : Addr → Prop) (io : List Addr) (S : Store) (H : Hp) : Prop where
  len : S.length = io.length
  at_ : ∀ (n C : Nat) (fs : List D), S[n]? = some (C, fs) → ct.ex C = false → ∃ a dx gs, io[n]? = some a ∧ H a = some (.ins (ct.ad C) dx gs) ∧ FldOk K M io H (ct.fd C) fs gs
  ax : ∀ (n C : Nat) (fs : List D), S[n]? = some (C, fs) → ct.ex C = true → ∃ a d, io[n]? = some a ∧ H a = some (ExV (.ref (ct.ad C)) d a) ∧ ErrOk K (ct.fd C) io H fs d
  nd : io.Nodup
  tb : LamX.Tabs ct.tb H
/-- from one heap to a later one: only new things, but the instances of io changed -/
structure Stp (ct : CT) (io : List Addr) (H : Hp) (io' : List Addr) (H' : Hp) : Prop where
  k1 : ∀ a o, H a = some o → NI o → H' a = some o
  k2 : ∀ a o, H a = some o → a ∉ io → (∀ ps, o ≠ .tbl ps) → H' a = some o
  pre : ∃ l, io' = io ++ l
  new : ∀ a ∈ io', a ∉ io → H a = none
  dom : ∀ a o, H a = some o → ∃ o', H' a = some o'
  k3 : ct.pu = true → ∀ a o, H a = some o → H' a = some o
section
variable {K : PySem.W.Frag} {ct : CT} {M M' : Addr → Prop} {io io' i1 i2 i3 : List Addr} {H H' H1 H2 H3 : Hp} {a : Addr} {S : Store}
theorem Stp.refl : Stp ct io H io H := ⟨fun _ _ h _ => h, fun _ _ h _ _ => h, io_refl, fun a h n => absurd h n, fun _ o h => ⟨o, h⟩, fun _ _ _ h => h⟩
theorem Stp.trans (a : Stp ct i1 H1 i2 H2) (b : Stp ct i2 H2 i3 H3) : Stp ct i1 H1 i3 H3 where
  k1 := fun x o h n => b.k1 x o (a.k1 x o h n) n
  k2 := fun x o h n nt => b.k2 x o (a.k2 x o h n nt) (fun z => by
    have q := a.new x z n
    rw [h] at q
    cases q) nt
  pre := io_trans a.pre b.pre
  new := fun x h n => by
    by_cases z : x ∈ i2
    · exact a.new x z n
    · have q := b.new x h z
      cases e : H1 x with
      | none => rfl
      | some o =>
        obtain ⟨o', e'⟩ := a.dom x o e
        rw [e'] at q
        cases q
  dom := fun x o h => by
    obtain ⟨o', h'⟩ := a.dom x o h
    exact b.dom x o' h'
  k3 := fun p x o h => b.k3 p x o (a.k3 p x o h)
theorem Stp.kp (s : Stp ct io H io' H') : Kp M H H' := fun a o h n _ => s.k1 a o h n
theorem Stp.free (s : Stp ct io H io' H') (h : H' a = none) : H a = none := by
  cases e : H a with
  | none => rfl
  | some o =>
    obtain ⟨o', e'⟩ := s.dom a o e
    rw [e'] at h
    cases h
theorem Stp.upd (h : H a = none) {o : HO} : Stp ct io H io (upd H a o) where
  k1 := fun b u e _ => by rw [upd_ne (ne_of_none e h)]; exact e
  k2 := fun b u e _ _ => by rw [upd_ne (ne_of_none e h)]; exact e
  pre := io_refl
  new := fun b z n => absurd z n
  dom := fun b u e => ⟨u, by rw [upd_ne (ne_of_none e h)]; exact e⟩
  k3 := fun _ b u e => by rw [upd_ne (ne_of_none e h)]; exact e
theorem Rep.stp {d : D} {v : V} (s : Stp ct io H io' H') (h : Rep K M io H d v) : Rep K M io' H' d v := Rep.mono s.kp (fun _ _ n => n) s.pre h
theorem Reps.stp {d : List D} {v : List V} (s : Stp ct io H io' H') (h : Reps K M io H d v) : Reps K M io' H' d v := Reps.mono s.kp (fun _ _ n => n) s.pre h
/-- beside a place that was none -/
theorem Rep.off {d : D} {v : V} (ha : H a = none) (h : Rep K M io H d v) : Rep K (fun b => M b ∨ b = a) io H d v :=
  Rep.mono Kp.refl (fun b ⟨o, e⟩ n z => z.elim n fun q => by rw [q, ha] at e; cases e) io_refl h
theorem Reps.off {d : List D} {v : List V} (ha : H a = none) (h : Reps K M io H d v) : Reps K (fun b => M b ∨ b = a) io H d v :=
  Reps.mono Kp.refl (fun b ⟨o, e⟩ n z => z.elim n fun q => by rw [q, ha] at e; cases e) io_refl h
theorem tabs_mono {T : List (Addr × Str)} (h : LamX.Tabs T H) (k : Kp M H H') (tt : ∀ a ps, H a = some (.tbl ps) → H' a = some (.tbl ps)) : LamX.Tabs T H' := fun p hp => by
  obtain ⟨ps, h1, h2, h3⟩ := h p hp
  refine ⟨ps, tt _ _ h1, h2, fun pos cv hc => ?_⟩
  obtain ⟨c, e1, e2⟩ := h3 pos cv hc
  exact ⟨c, e1, k _ _ e2 NI.ext (.inr (.inr (.inr (.inl ⟨_, rfl⟩))))⟩
theorem StoOk.mono (h : StoOk K ct M io S H) (k : Kp M H H') (m : ∀ a, (∃ o, H a = some o) → ¬ M a → ¬ M' a) (i : ∀ a C dx fs, a ∈ io → H a = some (.ins C dx fs) → H' a = some (.ins C dx fs)) (tt : ∀ a ps, H a = some (.tbl ps) → H' a = some (.tbl ps)) : StoOk K ct M' io S H' :=
  ⟨h.len, fun n C fs e x => by
    obtain ⟨a, dx, gs, h1, h2, h3, h4⟩ := h.at_ n C fs e x
    exact ⟨a, dx, gs, h1, i a _ _ _ (List.mem_of_getElem? h1) h2, h3, h4.mono k m io_refl⟩, fun n C fs e x => by
    obtain ⟨a, d, h1, h2, h3⟩ := h.ax n C fs e x
    exact ⟨a, d, h1, k _ _ h2 NI.ext (.inr (.inr (.inr (.inl ⟨_, rfl⟩)))), h3.mono k io_refl⟩, h.nd, tabs_mono h.tb k tt⟩
/-- an instance's address -/
theorem StoOk.io_at (h : StoOk K ct M io S H) {n : Nat} (hn : n < S.length) : ∃ a o, io[n]? = some a ∧ H a = some o := by
  cases x : ct.ex (S[n]'hn).1 with
  | false =>
    obtain ⟨a, dx, gs, h1, h2, _⟩ := h.at_ n _ _ (List.getElem?_eq_getElem hn) x
    exact ⟨a, _, h1, h2⟩
  | true =>
    obtain ⟨a, d, h1, h2, _⟩ := h.ax n _ _ (List.getElem?_eq_getElem hn) x
    exact ⟨a, _, h1, h2⟩
theorem StoOk.anti (h : StoOk K ct M io S H) (m : ∀ a, M' a → M a) : StoOk K ct M' io S H := h.mono Kp.refl (fun a _ n z => n (m a z)) (fun _ _ _ _ _ e => e) fun _ _ e => e
theorem StoOk.off (h : StoOk K ct M io S H) (ha : H a = none) : StoOk K ct (fun b => M b ∨ b = a) io S H :=
  h.mono Kp.refl (fun b ⟨o, e⟩ n z => z.elim n fun q => by rw [q, ha] at e; cases e) (fun _ _ _ _ _ e => e) fun _ _ e => e
theorem StoOk.upd (h : StoOk K ct M io S H) (ha : H a = none) {o : HO} : StoOk K ct M io S (upd H a o) :=
  h.mono (fun b u e _ _ => by rw [upd_ne (ne_of_none e ha)]; exact e) (fun _ _ n => n) (fun b _ _ _ _ e => by rw [upd_ne (ne_of_none e ha)]; exact e) fun b _ e => by rw [upd_ne (ne_of_none e ha)]; exact e
end

/-! ### results -/
/-- a list or a dict that is one's own at a -/
def OwnAt (K : PySem.W.Frag) (M : Addr → Prop) (io : List Addr) (H : Hp) (d : D) (a : Addr) : Prop :=
  (∃ xs vs, d = .lst xs ∧ H a = some (.lst vs) ∧ Reps K M io H xs vs) ∨ (∃ ks xs kvs, d = .dic ks xs ∧ H a = some (.dK kvs) ∧ kvs.map Prod.fst = ks ∧ Reps K M io H xs (kvs.map Prod.snd))
def RepF (K : PySem.W.Frag) (M N : Addr → Prop) (io : List Addr) (H : Hp) (f : Fl) (d : D) (v : V) : Prop :=
  match f with
  | .c => Rep K M io H d v
  | .n => Rep K M io H d v
  | .b => Rep K M io H d v ∨ ∃ a, v = .ref a ∧ OwnAt K M io H d a ∧ ¬ N a
  | .o => Rep K M io H d v ∨ ∃ a, v = .ref a ∧ OwnAt K M io H d a
  | .t => Rep K (fun _ => False) io H d v
def ResOk (K : PySem.W.Frag) (ct : CT) (M N : Addr → Prop) (H : Hp) (io' : List Addr) (S' : Store) (H' : Hp) (f : Fl) (d : D) (v : V) : Prop :=
  match f with
  | .n => ∃ p, v = .ref p ∧ H p = none ∧ ¬ M p ∧ OwnAt K (fun b => M b ∨ b = p) io' H' d p ∧ StoOk K ct (fun b => M b ∨ b = p) io' S' H'
  | f => RepF K M N io' H' f d v ∧ StoOk K ct M io' S' H'
section
variable {K : PySem.W.Frag} {ct : CT} {M M' N N' : Addr → Prop} {io io' i1 i2 i3 : List Addr} {H H' H1 H2 H3 : Hp} {a : Addr} {S S' : Store} {f : Fl} {d : D} {v : V}
theorem OwnAt.mono (k : Kp M H H') (m : ∀ a, (∃ o, H a = some o) → ¬ M a → ¬ M' a) (p : ∃ l, io' = io ++ l) (ka : ∀ o, H a = some o → NI o → H' a = some o) (h : OwnAt K M io H d a) : OwnAt K M' io' H' d a := by
  rcases h with ⟨xs, vs, e, h1, h2⟩ | ⟨ks, xs, kvs, e, h1, h2, h3⟩
  · exact .inl ⟨xs, vs, e, ka _ h1 NI.lst, h2.mono k m p⟩
  · exact .inr ⟨ks, xs, kvs, e, ka _ h1 NI.dK, h2, h3.mono k m p⟩
theorem OwnAt.stp (s : Stp ct io H io' H') (h : OwnAt K M io H d a) : OwnAt K M io' H' d a := h.mono s.kp (fun _ _ n => n) s.pre fun o e n => s.k1 a o e n
theorem OwnAt.anti (m : ∀ a, M' a → M a) (h : OwnAt K M io H d a) : OwnAt K M' io H d a := h.mono Kp.refl (fun a _ n z => n (m a z)) io_refl fun _ e _ => e
theorem OwnAt.rep (n : ¬ M a) (h : OwnAt K M io H d a) : Rep K M io H d (.ref a) := by
  rcases h with ⟨xs, vs, rfl, h1, h2⟩ | ⟨ks, xs, kvs, rfl, h1, h2, h3⟩
  · exact .lst h1 n h2
  · exact .dic h1 n h2 h3
theorem OwnAt.there (h : OwnAt K M io H d a) : ∃ o, H a = some o ∧ NI o := by
  rcases h with ⟨xs, vs, rfl, h1, h2⟩ | ⟨ks, xs, kvs, rfl, h1, h2, h3⟩
  · exact ⟨_, h1, NI.lst⟩
  · exact ⟨_, h1, NI.dK⟩
theorem RepF.stp (s : Stp ct io H io' H') (h : RepF K M N io H f d v) : RepF K M N io' H' f d v := by
  cases f with
  | c => exact Rep.stp s h
  | n => exact Rep.stp s h
  | b =>
    rcases h with h | ⟨a, e, h, z⟩
    · exact .inl (Rep.stp s h)
    · exact .inr ⟨a, e, h.stp s, z⟩
  | o =>
    rcases h with h | ⟨a, e, h⟩
    · exact .inl (Rep.stp s h)
    · exact .inr ⟨a, e, h.stp s⟩
  | t => exact Rep.stp s h
theorem RepF.weak (h : RepF K M N io H f d v) : Rep K (fun _ => False) io H d v := by
  cases f with
  | c => exact Rep.anti (fun _ z => z.elim) h
  | n => exact Rep.anti (fun _ z => z.elim) h
  | b =>
    rcases h with h | ⟨a, rfl, h, _⟩
    · exact Rep.anti (fun _ z => z.elim) h
    · exact (h.anti (M' := fun _ => False) fun _ z => z.elim).rep fun z => z
  | o =>
    rcases h with h | ⟨a, rfl, h⟩
    · exact Rep.anti (fun _ z => z.elim) h
    · exact (h.anti (M' := fun _ => False) fun _ z => z.elim).rep fun z => z
  | t => exact h
theorem ResOk.repF (h : ResOk K ct M N H io' S' H' f d v) : RepF K M N io' H' f d v := by
  cases f with
  | n =>
    obtain ⟨p, rfl, _, n, h, _⟩ := h
    exact (h.anti fun _ z => .inl z).rep n
  | c => exact h.1
  | b => exact h.1
  | o => exact h.1
  | t => exact h.1
theorem ResOk.sto (h : ResOk K ct M N H io' S' H' f d v) : StoOk K ct M io' S' H' := by
  cases f with
  | n =>
    obtain ⟨p, rfl, _, n, _, h⟩ := h
    exact h.anti fun _ z => .inl z
  | c => exact h.2
  | b => exact h.2
  | o => exact h.2
  | t => exact h.2
theorem ResOk.back (h : ResOk K ct M N H1 io' S' H' f d v) (k : ∀ a, H1 a = none → H a = none) : ResOk K ct M N H io' S' H' f d v := by
  cases f with
  | n =>
    obtain ⟨p, e, z, r⟩ := h
    exact ⟨p, e, k p z, r⟩
  | c => exact h
  | b => exact h
  | o => exact h
  | t => exact h
theorem ResOk.anti (m : ∀ a, M' a → M a) (n : ∀ a, N' a → N a) (h : ResOk K ct M N H io' S' H' f d v) : ResOk K ct M' N' H io' S' H' f d v := by
  cases f with
  | n =>
    obtain ⟨p, e, z, n, h1, h2⟩ := h
    exact ⟨p, e, z, fun q => n (m p q), h1.anti fun _ q => q.elim (fun q => .inl (m _ q)) .inr, h2.anti fun _ q => q.elim (fun q => .inl (m _ q)) .inr⟩
  | c => exact ⟨Rep.anti m h.1, h.2.anti m⟩
  | b => exact ⟨h.1.elim (fun z => .inl (Rep.anti m z)) fun ⟨a, e, z, y⟩ => .inr ⟨a, e, z.anti m, fun q => y (n a q)⟩, h.2.anti m⟩
  | o => exact ⟨h.1.elim (fun z => .inl (Rep.anti m z)) fun ⟨a, e, z⟩ => .inr ⟨a, e, z.anti m⟩, h.2.anti m⟩
  | t => exact ⟨h.1, h.2.anti m⟩
theorem ResOk.mk (nf : f ≠ .n) (h : RepF K M N io' H' f d v) (s : StoOk K ct M io' S' H') : ResOk K ct M N H io' S' H' f d v := by
  cases f with
  | n => exact absurd rfl nf
  | c => exact ⟨h, s⟩
  | b => exact ⟨h, s⟩
  | o => exact ⟨h, s⟩
  | t => exact ⟨h, s⟩
/-- a call's result: what was lent may be one's own -/
def outf : Fl → Fl
  | .b => .o
  | f => f
theorem ResOk.outf (h : ResOk K ct M N H io' S' H' f d v) : ResOk K ct M N' H io' S' H' (outf f) d v := by
  cases f with
  | n => exact h
  | c => exact h
  | b => exact ⟨h.1.elim .inl fun ⟨a, e, z, _⟩ => .inr ⟨a, e, z⟩, h.2⟩
  | o => exact h
  | t => exact h
end
end Mv

set_option maxRecDepth 100000
namespace L2
open PySem PySem.Spec PyProof.Rows
theorem PE.imp {X : Cx} {e : Expr} {t t' : TE} (h : PE X e t) (q : ∀ s H Q, t' s H Q → t s H Q) : PE X e t' := ⟨fun pins s σ H Q I w => h.run pins s σ H Q I (q _ _ _ w)⟩
theorem PT.imp {X : Cx} {e : Expr} {t t' : TT} (h : PT X e t) (q : ∀ s H Q, t' s H Q → t s H Q) : PT X e t' := ⟨fun pins s σ H Q I w => h.run pins s σ H Q I (q _ _ _ w)⟩
theorem PW.imp {X : Cx} {e : Expr} {t t' : TT} (h : PW X e t) (q : ∀ s H Q, t' s H Q → t s H Q) : PW X e t' := ⟨fun wh pins s σ H Q I w => h.run wh pins s σ H Q I (q _ _ _ w)⟩
theorem PA.imp {X : Cx} {e : List Expr} {t t' : TA} (h : PA X e t) (q : ∀ s H Q, t' s H Q → t s H Q) : PA X e t' := ⟨fun pos pins s σ H Q I w => h.run pos pins s σ H Q I (q _ _ _ w)⟩
theorem PS.imp {X : Cx} {e : Stmt} {t t' : TS} (h : PS X e t) (q : ∀ D s H, t' D s H → t D s H) : PS X e t' := ⟨fun pins s σ H D I w => h.run pins s σ H D I (q _ _ _ w)⟩
theorem PSs.imp {X : Cx} {e : List Stmt} {t t' : TS} (h : PSs X e t) (q : ∀ D s H, t' D s H → t D s H) : PSs X e t' := ⟨fun pins s σ H D I w => h.run pins s σ H D I (q _ _ _ w)⟩
theorem PE.ex {X : Cx} {e : Expr} {ι : Sort _} {t : ι → TE} (h : ∀ i, PE X e (t i)) : PE X e (fun s H Q => ∃ i, t i s H Q) := ⟨fun pins s σ H Q I ⟨i, w⟩ => (h i).run pins s σ H Q I w⟩
theorem PS.ex {X : Cx} {e : Stmt} {ι : Sort _} {t : ι → TS} (h : ∀ i, PS X e (t i)) : PS X e (fun D s H => ∃ i, t i D s H) := ⟨fun pins s σ H D I ⟨i, w⟩ => (h i).run pins s σ H D I w⟩

end L2
namespace Mv
open PySem PySem.Spec PyProof.Rows L2
abbrev St := L2.St

/-! ### the frame's state -/
structure Gx where
  M0 : Addr → Prop
  H0 : Hp
  io0 : List Addr
  held : List (Fl × D × V)
  N0 : Addr → Prop
  F0 : Nat → Addr → Prop
def Mown (G : Gx) (r : Env) (s : St) (a : Addr) : Prop := G.N0 a ∨ ∃ (i : Nat) (d : D), r[i]? = some (.own d) ∧ s[i]? = some (some (V.ref a))
def Mall (G : Gx) (r : Env) (s : St) (a : Addr) : Prop := G.M0 a ∨ Mown G r s a
/-- what a slot that may not be written holds -/
def ArgF (K : PySem.W.Frag) (M N : Addr → Prop) (io : List Addr) (H : Hp) (f : Fl) (d : D) (v : V) : Prop :=
  match f with
  | .c => Rep K M io H d v
  | .n => Rep K M io H d v
  | .b => Rep K M io H d v ∨ ∃ a, v = .ref a ∧ OwnAt K M io H d a ∧ ¬ N a
  | .o => Rep K M io H d v ∨ ∃ a, v = .ref a ∧ OwnAt K M io H d a ∧ ¬ N a
  | .t => Rep K N io H d v
theorem ArgF.mono {K : PySem.W.Frag} {M M' N N' : Addr → Prop} {io io' : List Addr} {H H' : Hp} {f : Fl} {d : D} {v : V} (k : Kp M H H') (k0 : Kp N H H') (m : ∀ a, (∃ o, H a = some o) → ¬ M a → ¬ M' a) (n : ∀ a, (∃ o, H a = some o) → ¬ N a → ¬ N' a) (p : ∃ l, io' = io ++ l) (h : ArgF K M N io H f d v) : ArgF K M' N' io' H' f d v := by
  have go : (Rep K M io H d v ∨ ∃ a, v = .ref a ∧ OwnAt K M io H d a ∧ ¬ N a) → (Rep K M' io' H' d v ∨ ∃ a, v = .ref a ∧ OwnAt K M' io' H' d a ∧ ¬ N' a) := fun h => by
    rcases h with h | ⟨a, e, h, z⟩
    · exact .inl (Rep.mono k m p h)
    · obtain ⟨o, q, _⟩ := h.there
      exact .inr ⟨a, e, h.mono k m p fun o e i => k0 a o e i (.inl z), n a ⟨o, q⟩ z⟩
  cases f with
  | c => exact Rep.mono k m p h
  | n => exact Rep.mono k m p h
  | b => exact go h
  | o => exact go h
  | t => exact Rep.mono k0 n p h
/-- the flag with which a slot is read -/
def inf : Fl → Fl
  | .n => .c
  | .o => .b
  | f => f
theorem inf_n {f : Fl} : inf f ≠ .n := by cases f <;> simp [inf]
theorem ArgF.repF {K : PySem.W.Frag} {M N : Addr → Prop} {io : List Addr} {H : Hp} {f : Fl} {d : D} {v : V} (h : ArgF K M N io H f d v) : RepF K M N io H (inf f) d v := by
  cases f with
  | c => exact h
  | n => exact h
  | b => exact h
  | o => exact h
  | t => exact Rep.anti (fun _ z => z.elim) h
/-- what may be kept: clean values -/
def gnd : D → Bool
  | .non => true
  | .bl _ => true
  | .int _ => true
  | .str _ => true
  | .ins _ => true
  | .cst _ => true
  | _ => false
/-- an item of a container that is one's own to the ground: a plain value, or a list of plain values -/
def ElD (K : PySem.W.Frag) (io : List Addr) (H : Hp) (F : Addr → Prop) (p : Option Addr) (b : Nat) (x : D) (v : V) : Prop :=
  (gnd x = true ∧ Rep K (fun _ => False) io H x v) ∨ ∃ ys q ws, x = .lst ys ∧ v = .ref q ∧ F q ∧ some q ≠ p ∧ H q = some (.lst ws) ∧ ws.length ≤ ys.length + b ∧ (b = 0 → ys.all gnd = true ∧ Reps K (fun _ => False) io H ys ws)
def ConD (K : PySem.W.Frag) (io : List Addr) (H : Hp) (F : Addr → Prop) (b : Nat) (d : D) (v : V) : Prop :=
  ∃ p vs xs po, v = .ref p ∧ ((d = .tup xs ∧ SqT K H p vs ∧ po = none) ∨ (d = .lst xs ∧ H p = some (.lst vs) ∧ F p ∧ po = some p)) ∧ Paired (ElD K io H F po b) xs vs
theorem Rep.of_gnd {K : PySem.W.Frag} {M M' : Addr → Prop} {io : List Addr} {H : Hp} {d : D} {v : V} (g : gnd d = true) (h : Rep K M io H d v) : Rep K M' io H d v := by
  cases h with
  | non => exact .non
  | bl b => exact .bl b
  | int i => exact .int i
  | str z => exact .str z
  | ins e => exact .ins e
  | cst => exact .cst
  | lst _ _ _ => cases g
  | frz _ _ => cases g
  | tup _ _ => cases g
  | dic _ _ _ _ => cases g
theorem Rep.gnd_any {K : PySem.W.Frag} {M M' : Addr → Prop} {io io' : List Addr} {H H' : Hp} {d : D} {v : V} (g : gnd d = true) (p : ∃ l, io' = io ++ l) (h : Rep K M io H d v) : Rep K M' io' H' d v := by
  cases h with
  | non => exact .non
  | bl b => exact .bl b
  | int i => exact .int i
  | str z => exact .str z
  | ins e => exact .ins (io_get p e)
  | cst => exact .cst
  | lst _ _ _ => cases g
  | frz _ _ => cases g
  | tup _ _ => cases g
  | dic _ _ _ _ => cases g
theorem Reps.gnd_any {K : PySem.W.Frag} {M M' : Addr → Prop} {io io' : List Addr} {H H' : Hp} (p : ∃ l, io' = io ++ l) : ∀ {ds : List D} {vs : List V}, ds.all gnd = true → Reps K M io H ds vs → Reps K M' io' H' ds vs
  | _, _, _, .nil => .nil
  | _, _, g, .cons r t => by
    rw [List.all_cons, Bool.and_eq_true] at g
    exact .cons (Rep.gnd_any g.1 p r) (Reps.gnd_any p g.2 t)
theorem ElD.mono {K : PySem.W.Frag} {io io' : List Addr} {H H' : Hp} {F : Addr → Prop} {p : Option Addr} {b : Nat} {x : D} {v : V} (kF : ∀ a o, F a → H a = some o → NI o → H' a = some o) (pr : ∃ l, io' = io ++ l) (h : ElD K io H F p b x v) : ElD K io' H' F p b x v := by
  rcases h with ⟨g, h⟩ | ⟨ys, q, ws, e, e2, hq, ne, hH, hl, hb⟩
  · exact .inl ⟨g, Rep.gnd_any g pr h⟩
  · exact .inr ⟨ys, q, ws, e, e2, hq, ne, kF _ _ hq hH NI.lst, hl, fun z => ⟨(hb z).1, Reps.gnd_any pr (hb z).1 (hb z).2⟩⟩
theorem ConD.mono {K : PySem.W.Frag} {M : Addr → Prop} {io io' : List Addr} {H H' : Hp} {F : Addr → Prop} {b : Nat} {d : D} {v : V} (k : Kp M H H') (kF : ∀ a o, F a → H a = some o → NI o → H' a = some o) (pr : ∃ l, io' = io ++ l) (h : ConD K io H F b d v) : ConD K io' H' F b d v := by
  obtain ⟨p, vs, xs, po, e, h1, h2⟩ := h
  refine ⟨p, vs, xs, po, e, ?_, Paired.mapP h2 fun _ _ z => z.mono kF pr⟩
  rcases h1 with ⟨e1, h1, hn⟩ | ⟨e1, h1, hp, hn⟩
  · exact .inl ⟨e1, SqT.mono k h1, hn⟩
  · exact .inr ⟨e1, kF _ _ hp h1 NI.lst, hp, hn⟩
structure DpOk (K : PySem.W.Frag) (G : Gx) (r : Env) (io : List Addr) (s : St) (H : Hp) : Prop where
  sub : ∀ j a, G.F0 j a → G.N0 a
  one : ∀ i j a, G.F0 i a → G.F0 j a → i = j
  at_ : ∀ (i : Nat) (b : Nat) (d : D), r[i]? = some (Slot.deep b d) → ∃ v, s[i]? = some (some v) ∧ ConD K io H (G.F0 i) b d v
theorem DpOk.gen {K : PySem.W.Frag} {G G' : Gx} {r r' : Env} {io io' : List Addr} {s s' : St} {H H' : Hp} {M : Addr → Prop} (h : DpOk K G r io s H) (hG : G'.F0 = G.F0) (hN : ∀ a, G.N0 a → G'.N0 a)
    (hr : ∀ (i : Nat) (b : Nat) (d : D), r'[i]? = some (Slot.deep b d) → r[i]? = some (Slot.deep b d) ∧ s'[i]? = s[i]?) (k : Kp M H H') (kF : ∀ a o, G.N0 a → (∃ j, G.F0 j a) → H a = some o → NI o → H' a = some o) (pr : ∃ l, io' = io ++ l) : DpOk K G' r' io' s' H' := by
  refine ⟨fun j a z => hN a (h.sub j a (hG ▸ z)), fun i j a z z' => h.one i j a (hG ▸ z) (hG ▸ z'), fun i b d e => ?_⟩
  obtain ⟨e1, e2⟩ := hr i b d e
  obtain ⟨v, h1, h2⟩ := h.at_ i b d e1
  refine ⟨v, e2.trans h1, ?_⟩
  rw [hG]
  exact h2.mono k (fun a o z => kF a o (h.sub i a z) ⟨i, z⟩) pr
/-- the same heap, other slots -/
theorem DpOk.env {K : PySem.W.Frag} {G G' : Gx} {r r' : Env} {io : List Addr} {s s' : St} {H : Hp} (h : DpOk K G r io s H) (hG : G'.F0 = G.F0) (hN : ∀ a, G.N0 a → G'.N0 a)
    (hr : ∀ (i : Nat) (b : Nat) (d : D), r'[i]? = some (Slot.deep b d) → r[i]? = some (Slot.deep b d) ∧ s'[i]? = s[i]?) : DpOk K G' r' io s' H := h.gen (M := fun _ => False) hG hN hr Kp.refl (fun _ _ _ _ e _ => e) io_refl
structure Ok (K : PySem.W.Frag) (ct : CT) (G : Gx) (r : Env) (S : Store) (io : List Addr) (s : St) (H : Hp) : Prop where
  len : r.length = s.length
  arg : ∀ (i : Nat) (f : Fl) (d : D), r[i]? = some (.ar f d) → ∃ v, s[i]? = some (some v) ∧ ArgF K (Mall G r s) (Mown G r s) io H f d v
  own : ∀ (i : Nat) (d : D), r[i]? = some (.own d) → ∃ a, s[i]? = some (some (V.ref a)) ∧ OwnAt K (Mall G r s) io H d a ∧ ¬ G.M0 a ∧ ¬ G.N0 a ∧ G.H0 a = none
  inj : ∀ (i j : Nat) (d e : D) (a : Addr), r[i]? = some (.own d) → r[j]? = some (.own e) → s[i]? = some (some (V.ref a)) → s[j]? = some (some (V.ref a)) → i = j
  sto : StoOk K ct (Mall G r s) io S H
  stp : Stp ct G.io0 G.H0 io H
  m0 : ∀ a, G.M0 a → ∃ o, H a = some o ∧ NI o
  n0 : ∀ a, G.N0 a → ∃ o, (H a = some o ∧ NI o) ∧ ¬ G.M0 a ∧ G.H0 a = none ∧ ¬ Im o
  held : ∀ p ∈ G.held, ArgF K (Mall G r s) (Mown G r s) io H p.1 p.2.1 p.2.2
  dp : DpOk K G r io s H
section
variable {K : PySem.W.Frag} {ct : CT} {G : Gx} {r : Env} {S S' : Store} {io io' : List Addr} {s : St} {H H' : Hp}
theorem Ok.mdom (k : Ok K ct G r S io s H) : ∀ a, Mall G r s a → ∃ o, H a = some o ∧ NI o := fun a h => by
  rcases h with h | h | ⟨i, d, h1, h2⟩
  · exact k.m0 a h
  · obtain ⟨o, h, _⟩ := k.n0 a h
    exact ⟨o, h⟩
  · obtain ⟨a', e, q, _⟩ := k.own i d h1
    rw [h2] at e
    cases e
    exact q.there
theorem Ok.step (k : Ok K ct G r S io s H) (t : Stp ct io H io' H') (q : StoOk K ct (Mall G r s) io' S' H') : Ok K ct G r S' io' s H' where
  len := k.len
  arg := fun i f d e => by
    obtain ⟨v, h1, h2⟩ := k.arg i f d e
    exact ⟨v, h1, h2.mono t.kp t.kp (fun _ _ n => n) (fun _ _ n => n) t.pre⟩
  own := fun i d e => by
    obtain ⟨a, h1, h2, h3, h4⟩ := k.own i d e
    exact ⟨a, h1, h2.stp t, h3, h4⟩
  inj := k.inj
  sto := q
  stp := k.stp.trans t
  m0 := fun a h => by
    obtain ⟨o, h1, h2⟩ := k.m0 a h
    exact ⟨o, t.k1 a o h1 h2, h2⟩
  n0 := fun a h => by
    obtain ⟨o, ⟨h1, h2⟩, h3⟩ := k.n0 a h
    exact ⟨o, ⟨t.k1 a o h1 h2, h2⟩, h3⟩
  held := fun p hp => (k.held p hp).mono t.kp t.kp (fun _ _ n => n) (fun _ _ n => n) t.pre
  dp := k.dp.gen (M := fun _ => False) rfl (fun _ z => z) (fun _ _ _ e => ⟨e, rfl⟩) t.kp (fun a o _ _ e n => t.k1 a o e n) t.pre
end

/-! ### readings -/
def Res {α : Type} (K : PySem.W.Frag) (ct : CT) (W : WX) (M : Addr → Prop) (s : St) (io : List Addr) (H : Hp) (r : Rs α) (P : α → Store → List Addr → Hp → Prop) : Prop :=
  match r with
  | .ok a S' => ∀ io' H', Stp ct io H io' H' → StoOk K ct M io' S' H' → P a S' io' H'
  | .er c p S' => ∀ dx io' H', Stp ct io H io' H' → StoOk K ct M io' S' H' → ErrOk K (ct.fd c) io' H' p dx → W (.ref (ct.ad c)) dx s H'
  | .no => False
def tE (K : PySem.W.Frag) (ct : CT) (G : Gx) (W : WX) (m : EM) : TE := fun s H Q => ∃ r S io, Ok K ct G r S io s H ∧
  Res K ct W (Mall G r s) s io H (m r S) (fun x S' io' H' => ∀ v, ResOk K ct (Mall G r s) (Mown G r s) H io' S' H' x.2 x.1 v → Q v H')
def tT (K : PySem.W.Frag) (ct : CT) (G : Gx) (W : WX) (m : TM) : TT := fun s H Q => ∃ r S io, Ok K ct G r S io s H ∧
  Res K ct W (Mall G r s) s io H (m r S) (fun b S' io' H' => Q b H')
abbrev ArgsOk (K : PySem.W.Frag) (M N : Addr → Prop) (io : List Addr) (H : Hp) : List (Fl × D) → List V → Prop := Paired fun (p : Fl × D) v => RepF K M N io H p.1 p.2 v
def tA (K : PySem.W.Frag) (ct : CT) (G : Gx) (W : WX) (m : AM) : TA := fun s H Q => ∃ r S io, Ok K ct G r S io s H ∧
  Res K ct W (Mall G r s) s io H (m r S) (fun as S' io' H' => ∀ vs, ArgsOk K (Mall G r s) (Mown G r s) io' H' as vs → Q vs H')
structure ME (X : Cx) (ct : CT) (e : Expr) (m : EM) : Prop where
  run : ∀ (G : Gx) (W : WX), Takes X W → PE X e (tE X.K ct G W m)
structure MT (X : Cx) (ct : CT) (e : Expr) (m : TM) : Prop where
  run : ∀ (G : Gx) (W : WX), Takes X W → PT X e (tT X.K ct G W m)
structure MW (X : Cx) (ct : CT) (e : Expr) (m : TM) : Prop where
  run : ∀ (G : Gx) (W : WX), Takes X W → PW X e (tT X.K ct G W m)
structure MA (X : Cx) (ct : CT) (es : List Expr) (m : AM) : Prop where
  run : ∀ (G : Gx) (W : WX), Takes X W → PA X es (tA X.K ct G W m)

section
variable {K : PySem.W.Frag} {ct : CT} {G : Gx} {r : Env} {S S' : Store} {io io' io1 : List Addr} {s : St} {H H' H1 : Hp} {W : WX} {M N : Addr → Prop}
theorem Res.shift {α : Type} {x : Rs α} {P : α → Store → List Addr → Hp → Prop} (h : Res K ct W M s io H x P) (t : Stp ct io H io1 H1) : Res K ct W M s io1 H1 x P := by
  cases x with
  | ok a S' => exact fun io' H' t' q => h io' H' (t.trans t') q
  | er c p S' => exact fun dx io' H' t' => h dx io' H' (t.trans t')
  | no => exact h
/-- the first part of a bind -/
theorem Res.first {α β : Type} {x : Rs α} {k : α → Store → Rs β} {P : β → Store → List Addr → Hp → Prop} {P' : α → Store → List Addr → Hp → Prop} (h : Res K ct W M s io H (x.bind k) P)
    (n : ∀ a S1 io1 H1, x = .ok a S1 → Stp ct io H io1 H1 → StoOk K ct M io1 S1 H1 → Res K ct W M s io1 H1 (k a S1) P → P' a S1 io1 H1) : Res K ct W M s io H x P' := by
  cases x with
  | ok a S' => exact fun io' H' t q => n a S' io' H' rfl t q (Res.shift (x := k a S') h t)
  | er c p S' => exact h
  | no => exact h
theorem Res.imp {α : Type} {x : Rs α} {P P' : α → Store → List Addr → Hp → Prop} (h : Res K ct W M s io H x P) (n : ∀ a S1 io1 H1, Stp ct io H io1 H1 → StoOk K ct M io1 S1 H1 → P a S1 io1 H1 → P' a S1 io1 H1) : Res K ct W M s io H x P' := by
  cases x with
  | ok a S' => exact fun io' H' t q => n a S' io' H' t q (h io' H' t q)
  | er c p S' => exact h
  | no => exact h
theorem Res.here {α : Type} {a : α} {P : α → Store → List Addr → Hp → Prop} (h : Res K ct W M s io H (.ok a S) P) (q : StoOk K ct M io S H) : P a S io H := h io H Stp.refl q
theorem Res.go {α : Type} {a : α} {P : α → Store → List Addr → Hp → Prop} (h : Res K ct W M s io H (.ok a S) P) (t : Stp ct io H io' H') (q : StoOk K ct M io' S H') : P a S io' H' := h io' H' t q
theorem ResOk.sc {f : Fl} {d : D} {v : V} (nf : f ≠ .n) (h : Rep K M io H d v) (q : StoOk K ct M io S H) (hf : f ≠ .t := by decide) : ResOk K ct M N H1 io S H f d v := by
  refine ResOk.mk nf ?_ q
  cases f with
  | c => exact h
  | n => exact h
  | b => exact .inl h
  | o => exact .inl h
  | t => exact absurd rfl hf
end
def lift0 {α : Type} (x : Option α) (S : Store) : Rs α := match x with
  | some a => .ok a S
  | none => .no

/-! ### names and constants -/
section
variable {X : Cx} {ct : CT} {pos : Pos}
def eVar (i : Nat) : EM := fun r S => match r[i]? with
  | some (.ar f d) => .ok (d, inf f) S
  | some (.own d) => .ok (d, .o) S
  | _ => .no
def eC (d : D) : EM := fun _ S => .ok (d, .c) S
theorem me_var {i : Nat} {x : Str} (h : PE X (.Name x pos) (tVar i)) : ME X ct (.Name x pos) (eVar i) := ⟨fun G W _ => h.imp fun s H Q ⟨r, S, io, k, h⟩ => by
  unfold eVar at h
  split at h
  · rename_i f d e
    obtain ⟨v, h1, h2⟩ := k.arg i _ _ e
    exact ⟨v, h1, h.here k.sto v (ResOk.mk inf_n h2.repF k.sto)⟩
  · rename_i d e
    obtain ⟨a, h1, h2, _⟩ := k.own i _ e
    exact ⟨_, h1, h.here k.sto _ (ResOk.mk (by simp) (.inr ⟨a, rfl, h2⟩) k.sto)⟩
  · exact h.elim⟩
theorem me_const {e : Expr} {v : V} {d : D} (h : PE X e (tC v)) (q : ∀ K M io H, Rep K M io H d v) : ME X ct e (eC d) := ⟨fun G W _ => h.imp fun s H Q ⟨r, S, io, k, h⟩ => h.here k.sto v (ResOk.sc (f := .c) (by simp) (q ..) k.sto)⟩
theorem me_int {i j} : ME X ct (.Constant (.int i) j pos) (eC (.int i)) := me_const pe_int fun _ _ _ _ => .int i
theorem me_bl {b j} : ME X ct (.Constant (.bool b) j pos) (eC (.bl b)) := me_const pe_bl fun _ _ _ _ => .bl b
theorem me_non {j} : ME X ct (.Constant .none j pos) (eC .non) := me_const pe_non fun _ _ _ _ => .non
theorem me_str {x j} : ME X ct (.Constant (.str x) j pos) (eC (.str x)) := me_const pe_str fun _ _ _ _ => .str x
theorem me_gint {x : Str} {i : Int} (hg : Gl X x) (hm : ∃ t, X.mg x = some (.int i t)) (hd : (x == ("__debug__" : Str)) = false := by decide) : ME X ct (.Name x pos) (eC (.int i)) := by
  obtain ⟨t, hm⟩ := hm
  exact me_const (pe_glob (v := .int i) hg hm ⟨t, rfl⟩ hd) fun _ _ _ _ => .int i
theorem me_gstr {x : Str} {i : Str} (hg : Gl X x) (hm : ∃ t, X.mg x = some (.str i t)) (hd : (x == ("__debug__" : Str)) = false := by decide) : ME X ct (.Name x pos) (eC (.str i)) := by
  obtain ⟨t, hm⟩ := hm
  exact me_const (pe_glob (v := .str i) hg hm ⟨t, rfl⟩ hd) fun _ _ _ _ => .str i

/-! ### operators by values -/
def BinOk (K : PySem.W.Frag) (ct : CT) (rd : R2) (g : D × Fl → D × Fl → Option (D × Fl)) : Prop :=
  ∀ (M N : Addr → Prop) (io : List Addr) (S : Store) (H : Hp) (x y : V) (a b res : D × Fl) (Q : VK), RepF K M N io H a.2 a.1 x → RepF K M N io H b.2 b.1 y → StoOk K ct M io S H → (∀ a, M a → ∃ o, H a = some o ∧ NI o) → g a b = some res →
    (∀ v H', Stp ct io H io H' → ResOk K ct M N H io S H' res.2 res.1 v → Q v H') → rd x y H Q
def eBin (g : D × Fl → D × Fl → Option (D × Fl)) (ma mb : EM) : EM := fun r S => (ma r S).bind fun a S1 => (mb r S1).bind fun b S2 => lift0 (g a b) S2
theorem bin_go {ma mb : EM} {g : D × Fl → D × Fl → Option (D × Fl)} {rd : R2} (hg : BinOk X.K ct rd g) {G : Gx} {W : WX} {s : St} {H : Hp} {Q : VK}
    (h : tE X.K ct G W (eBin g ma mb) s H Q) : tOp rd (tE X.K ct G W ma) (tE X.K ct G W mb) s H Q := by
  obtain ⟨r, S, io, k, h⟩ := h
  refine ⟨r, S, io, k, Res.first h fun x S1 io1 H1 e1 t1 q1 h1 v1 o1 => ?_⟩
  have k1 := k.step t1 q1
  refine ⟨r, S1, io1, k1, Res.first h1 fun y S2 io2 H2 e2 t2 q2 h2 v2 o2 => ?_⟩
  have k2 := k1.step t2 q2
  unfold lift0 at h2
  split at h2
  · rename_i res e
    refine hg _ _ io2 S2 H2 v1 v2 x y res Q (o1.repF.stp t2) o2.repF q2 k2.mdom e fun v H' t' o' => ?_
    exact h2.go t' o'.sto v (o'.back fun a z => t1.free (t2.free z))
  · exact h2.elim
theorem me_op {op : Operator} {rd : R2} {a b : Expr} {ma mb : EM} {g : D × Fl → D × Fl → Option (D × Fl)} (ho : OpR X (binaryOp op) rd) (hg : BinOk X.K ct rd g) (ha : ME X ct a ma) (hb : ME X ct b mb) : ME X ct (.BinOp a op b pos) (eBin g ma mb) :=
  ⟨fun G W tk => (pe_op ho (ha.run G W tk) (hb.run G W tk)).imp fun s H Q h => bin_go hg h⟩
theorem me_cmp {op : CmpOp} {rd : R2} {a b : Expr} {ma mb : EM} {g : D × Fl → D × Fl → Option (D × Fl)} (ho : OpR X (compareOp op) rd) (hg : BinOk X.K ct rd g) (ha : ME X ct a ma) (hb : ME X ct b mb) (hm : behindInMarks op b = false) : ME X ct (.Compare a [op] [b] pos) (eBin g ma mb) :=
  ⟨fun G W tk => (pe_cmpR ho (ha.run G W tk) (hb.run G W tk) hm).imp fun s H Q h => bin_go hg h⟩
/-! ### tests -/
def tVal (m : EM) : TM := fun r S => (m r S).bind fun x S1 => match x.1 with
  | .bl b => .ok b S1
  | _ => .no
theorem bl_of {K : PySem.W.Frag} {M N : Addr → Prop} {io : List Addr} {H : Hp} {f : Fl} {b : Bool} {v : V} (h : RepF K M N io H f (.bl b) v) : v = .bl b := by
  have q := h.weak
  cases q
  rfl
theorem int_of {K : PySem.W.Frag} {M N : Addr → Prop} {io : List Addr} {H : Hp} {f : Fl} {b : Int} {v : V} (h : RepF K M N io H f (.int b) v) : v = .int b := by
  have q := h.weak
  cases q
  rfl
theorem str_of {K : PySem.W.Frag} {M N : Addr → Prop} {io : List Addr} {H : Hp} {f : Fl} {b : Str} {v : V} (h : RepF K M N io H f (.str b) v) : v = .str b := by
  have q := h.weak
  cases q
  rfl
theorem non_of {K : PySem.W.Frag} {M N : Addr → Prop} {io : List Addr} {H : Hp} {f : Fl} {v : V} (h : RepF K M N io H f .non v) : v = .non := by
  have q := h.weak
  cases q
  rfl
theorem lst_of {K : PySem.W.Frag} {M N : Addr → Prop} {io : List Addr} {H : Hp} {f : Fl} {xs : List D} {v : V} (h : RepF K M N io H f (.lst xs) v) : ∃ a vs, v = .ref a ∧ H a = some (.lst vs) ∧ Reps K (fun _ => False) io H xs vs := by
  have q := h.weak
  cases q with
  | lst h1 _ h2 => exact ⟨_, _, rfl, h1, h2⟩
theorem frz_of {K : PySem.W.Frag} {M N : Addr → Prop} {io : List Addr} {H : Hp} {f : Fl} {xs : List D} {v : V} (h : RepF K M N io H f (.frz xs) v) : ∃ a vs, v = .ref a ∧ SqL K H a vs ∧ Reps K (fun _ => False) io H xs vs := by
  have q := h.weak
  cases q with
  | frz h1 h2 => exact ⟨_, _, rfl, h1.sq, h2⟩
theorem tup_of {K : PySem.W.Frag} {M N : Addr → Prop} {io : List Addr} {H : Hp} {f : Fl} {xs : List D} {v : V} (h : RepF K M N io H f (.tup xs) v) : ∃ a vs, v = .ref a ∧ SqT K H a vs ∧ Reps K (fun _ => False) io H xs vs := by
  have q := h.weak
  cases q with
  | tup h1 h2 => exact ⟨_, _, rfl, h1, h2⟩
theorem mt_go {m : EM} {G : Gx} {W : WX} {s : St} {H : Hp} {Q : Bool → Hp → Prop} (h : tT X.K ct G W (tVal m) s H Q) : tB (tE X.K ct G W m) s H Q := by
  obtain ⟨r, S, io, k, h⟩ := h
  refine ⟨r, S, io, k, Res.first h fun x S1 io1 H1 e1 t1 q1 h1 v1 o1 => ?_⟩
  split at h1
  · rename_i b e
    have o2 := o1.repF
    rw [e] at o2
    exact ⟨b, bl_of o2, h1.here q1⟩
  · exact h1.elim
theorem mt_val {e : Expr} {m : EM} (h : ME X ct e m) (he : ∀ whole, isTrue e X.env whole = (do let v ← whole; standAt e.pos; holding [v] (truthy v)) := by intro _; rfl) : MT X ct e (tVal m) :=
  ⟨fun G W tk => (pt_val (h.run G W tk) he).imp fun s H Q h => mt_go h⟩
theorem mt_cmp {op : CmpOp} {rd : R2} {a b : Expr} {ma mb : EM} {g : D × Fl → D × Fl → Option (D × Fl)} (ho : OpR X (compareOp op) rd) (hg : BinOk X.K ct rd g) (ha : ME X ct a ma) (hb : ME X ct b mb) (hm : behindInMarks op b = false) : MT X ct (.Compare a [op] [b] pos) (tVal (eBin g ma mb)) :=
  ⟨fun G W tk => (pt_cmpR ho (ha.run G W tk) (hb.run G W tk) hm).imp fun s H Q h => by
    obtain ⟨r, S, io, k, h⟩ := h
    refine bin_go hg ⟨r, S, io, k, Res.first h fun x S1 io1 H1 e1 t1 q1 h1 v1 o1 => ?_⟩
    split at h1
    · rename_i b e
      have o2 := o1.repF
      rw [e] at o2
      exact ⟨b, bl_of o2, h1.here q1⟩
    · exact h1.elim⟩
def tAndM (ma mb : TM) : TM := fun r S => (ma r S).bind fun b S1 => if b then mb r S1 else .ok false S1
def tOrM (ma mb : TM) : TM := fun r S => (ma r S).bind fun b S1 => if b then .ok true S1 else mb r S1
def tNotM (ma : TM) : TM := fun r S => (ma r S).bind fun b S1 => .ok (!b) S1
theorem MW.mt {e : Expr} {m : TM} (h : MW X ct e m) : MT X ct e m := ⟨fun G W tk => (h.run G W tk).pt⟩
theorem mw_and1 {a : Expr} {m : TM} (h : MT X ct a m) : MW X ct (.BoolOp .And [a] pos) m := ⟨fun G W tk => pw_and1 (h.run G W tk)⟩
theorem mw_or1 {a : Expr} {m : TM} (h : MT X ct a m) : MW X ct (.BoolOp .Or [a] pos) m := ⟨fun G W tk => pw_or1 (h.run G W tk)⟩
theorem mw_and {a b : Expr} {rest : List Expr} {ma mb : TM} (ha : MT X ct a ma) (hb : MW X ct (.BoolOp .And (b :: rest) pos) mb) : MW X ct (.BoolOp .And (a :: b :: rest) pos) (tAndM ma mb) :=
  ⟨fun G W tk => (pw_and (ha.run G W tk) (hb.run G W tk)).imp fun s H Q ⟨r, S, io, k, h⟩ => ⟨r, S, io, k, Res.first h fun x S1 io1 H1 e1 t1 q1 h1 => by
    cases x with
    | true => exact ⟨r, S1, io1, k.step t1 q1, h1⟩
    | false => exact h1.here q1⟩⟩
theorem mw_or {a b : Expr} {rest : List Expr} {ma mb : TM} (ha : MT X ct a ma) (hb : MW X ct (.BoolOp .Or (b :: rest) pos) mb) : MW X ct (.BoolOp .Or (a :: b :: rest) pos) (tOrM ma mb) :=
  ⟨fun G W tk => (pw_or (ha.run G W tk) (hb.run G W tk)).imp fun s H Q ⟨r, S, io, k, h⟩ => ⟨r, S, io, k, Res.first h fun x S1 io1 H1 e1 t1 q1 h1 => by
    cases x with
    | true => exact h1.here q1
    | false => exact ⟨r, S1, io1, k.step t1 q1, h1⟩⟩⟩
theorem mt_not {a : Expr} {ma : TM} (ha : MT X ct a ma) : MT X ct (.UnaryOp .Not a pos) (tNotM ma) :=
  ⟨fun G W tk => (pt_not (ha.run G W tk)).imp fun s H Q ⟨r, S, io, k, h⟩ => ⟨r, S, io, k, Res.first h fun x S1 io1 H1 e1 t1 q1 h1 => h1.here q1⟩⟩
def eIf (mt : TM) (ma mb : EM) : EM := fun r S => (mt r S).bind fun b S1 => if b then ma r S1 else mb r S1
theorem me_if {c a b : Expr} {mt : TM} {ma mb : EM} (hc : MT X ct c mt) (ha : ME X ct a ma) (hb : ME X ct b mb) : ME X ct (.IfExp c a b pos) (eIf mt ma mb) :=
  ⟨fun G W tk => (pe_ifExp (hc.run G W tk) (ha.run G W tk) (hb.run G W tk)).imp fun s H Q ⟨r, S, io, k, h⟩ => ⟨r, S, io, k, Res.first h fun x S1 io1 H1 e1 t1 q1 h1 => by
    have k1 := k.step t1 q1
    cases x with
    | true => exact ⟨r, S1, io1, k1, Res.imp h1 fun y S2 io2 H2 t2 q2 h2 v o => h2 v (o.back fun a z => t1.free z)⟩
    | false => exact ⟨r, S1, io1, k1, Res.imp h1 fun y S2 io2 H2 t2 q2 h2 v o => h2 v (o.back fun a z => t1.free z)⟩⟩⟩
/-- and, or, not as values -/
def eAnd (ma mb : EM) : EM := fun r S => (ma r S).bind fun x S1 => match x.1 with
  | .bl true => (mb r S1).bind fun y S2 => .ok y S2
  | .bl false => .ok (.bl false, .c) S1
  | _ => .no
def eOr (ma mb : EM) : EM := fun r S => (ma r S).bind fun x S1 => match x.1 with
  | .bl false => (mb r S1).bind fun y S2 => .ok y S2
  | .bl true => .ok (.bl true, .c) S1
  | _ => .no
def eNot (ma : EM) : EM := fun r S => (ma r S).bind fun x S1 => match x.1 with
  | .bl b => .ok (.bl (!b), .c) S1
  | _ => .no
theorem me_one {op a} {m : EM} (h : ME X ct a m) : ME X ct (.BoolOp op [a] pos) m := ⟨fun G W tk => pe_one (h.run G W tk)⟩
theorem me_and {a b : Expr} {rest : List Expr} {ma mb : EM} (ha : ME X ct a ma) (hb : ME X ct (.BoolOp .And (b :: rest) pos) mb) : ME X ct (.BoolOp .And (a :: b :: rest) pos) (eAnd ma mb) :=
  ⟨fun G W tk => (pe_and (ha.run G W tk) (hb.run G W tk)).imp fun s H Q ⟨r, S, io, k, h⟩ => ⟨r, S, io, k, Res.first h fun x S1 io1 H1 e1 t1 q1 h1 v o => by
    have k1 := k.step t1 q1
    split at h1
    · rename_i e
      have o2 := o.repF
      rw [e] at o2
      exact ⟨true, bl_of o2, iteT ⟨r, S1, io1, k1, Res.first h1 fun y S2 io2 H2 _ t2 q2 h2 v o => h2.here q2 v (o.back fun a z => t1.free z)⟩⟩
    · rename_i e
      have o2 := o.repF
      rw [e] at o2
      exact ⟨false, bl_of o2, iteF (h1.here q1 _ (ResOk.sc (by simp) (.bl false) q1))⟩
    · exact h1.elim⟩⟩
theorem me_or {a b : Expr} {rest : List Expr} {ma mb : EM} (ha : ME X ct a ma) (hb : ME X ct (.BoolOp .Or (b :: rest) pos) mb) : ME X ct (.BoolOp .Or (a :: b :: rest) pos) (eOr ma mb) :=
  ⟨fun G W tk => (pe_or (ha.run G W tk) (hb.run G W tk)).imp fun s H Q ⟨r, S, io, k, h⟩ => ⟨r, S, io, k, Res.first h fun x S1 io1 H1 e1 t1 q1 h1 v o => by
    have k1 := k.step t1 q1
    split at h1
    · rename_i e
      have o2 := o.repF
      rw [e] at o2
      exact ⟨false, bl_of o2, iteF ⟨r, S1, io1, k1, Res.first h1 fun y S2 io2 H2 _ t2 q2 h2 v o => h2.here q2 v (o.back fun a z => t1.free z)⟩⟩
    · rename_i e
      have o2 := o.repF
      rw [e] at o2
      exact ⟨true, bl_of o2, iteT (h1.here q1 _ (ResOk.sc (by simp) (.bl true) q1))⟩
    · exact h1.elim⟩⟩
theorem me_not {a : Expr} {ma : EM} (ha : ME X ct a ma) : ME X ct (.UnaryOp .Not a pos) (eNot ma) :=
  ⟨fun G W tk => (pe_not (ha.run G W tk)).imp fun s H Q ⟨r, S, io, k, h⟩ => ⟨r, S, io, k, Res.first h fun x S1 io1 H1 e1 t1 q1 h1 v o => by
    split at h1
    · rename_i b e
      have o2 := o.repF
      rw [e] at o2
      exact ⟨b, bl_of o2, h1.here q1 _ (ResOk.sc (f := .c) (by simp) (.bl _) q1)⟩
    · exact h1.elim⟩⟩

/-! ### arguments -/
def aNil : AM := fun _ S => .ok [] S
def aCons (m : EM) (t : AM) : AM := fun r S => (m r S).bind fun x S1 => (t r S1).bind fun xs S2 => .ok ((x.2, x.1) :: xs) S2
theorem ma_nil : MA X ct [] aNil := ⟨fun G W tk => pa_nil.imp fun s H Q ⟨r, S, io, k, h⟩ => h.here k.sto [] .nil⟩
theorem ArgsOk.stp {K : PySem.W.Frag} {M N : Addr → Prop} {io io' : List Addr} {H H' : Hp} {as : List (Fl × D)} {vs : List V} (t : Stp ct io H io' H') (h : ArgsOk K M N io H as vs) : ArgsOk K M N io' H' as vs := Paired.mapP h fun _ _ q => q.stp t
theorem ma_cons {e : Expr} {es : List Expr} {m : EM} {t : AM} (ha : ME X ct e m) (hr : MA X ct es t) (hs : starEach (e :: es) X.env = (false, eval e X.env) :: starEach es X.env := by rfl) : MA X ct (e :: es) (aCons m t) :=
  ⟨fun G W tk => (pa_cons (ha.run G W tk) (hr.run G W tk) hs).imp fun s H Q ⟨r, S, io, k, h⟩ => ⟨r, S, io, k, Res.first h fun x S1 io1 H1 e1 t1 q1 h1 v o => by
    have k1 := k.step t1 q1
    refine ⟨r, S1, io1, k1, Res.first h1 fun xs S2 io2 H2 e2 t2 q2 h2 vs o2 => ?_⟩
    exact h2.here q2 (v :: vs) (.cons (o.repF.stp t2) o2)⟩⟩
def okst (f : Fl) (d : D) : Bool := f = .c || f = .n || gnd d
theorem RepF.clean {K : PySem.W.Frag} {M N : Addr → Prop} {io : List Addr} {H : Hp} {f : Fl} {d : D} {v : V} (g : okst f d = true) (h : RepF K M N io H f d v) : Rep K M io H d v := by
  unfold okst at g
  simp only [Bool.or_eq_true, decide_eq_true_eq] at g
  rcases g with (g | g) | g
  · subst g; exact h
  · subst g; exact h
  · exact Rep.of_gnd g h.weak
theorem ArgsOk.clean {K : PySem.W.Frag} {M N : Addr → Prop} {io : List Addr} {H : Hp} : ∀ {as : List (Fl × D)} {vs : List V}, (as.all fun x => okst x.1 x.2) = true → ArgsOk K M N io H as vs → Reps K M io H (as.map Prod.snd) vs
  | _, _, _, .nil => .nil
  | _, _, g, .cons r t => by
    rw [List.all_cons, Bool.and_eq_true] at g
    exact .cons (RepF.clean g.1 r) (ArgsOk.clean g.2 t)
theorem ArgsOk.weak {K : PySem.W.Frag} {M N : Addr → Prop} {io : List Addr} {H : Hp} : ∀ {as : List (Fl × D)} {vs : List V}, ArgsOk K M N io H as vs → Reps K (fun _ => False) io H (as.map Prod.snd) vs
  | _, _, .nil => .nil
  | _, _, .cons r t => .cons r.weak (ArgsOk.weak t)
/-- [a, b, ..] -/
def eLst (t : AM) : EM := fun r S => (t r S).bind fun as S1 => if as.length ≤ sizeLine then (if as.all fun x => okst x.1 x.2 then .ok (.lst (as.map Prod.snd), .n) S1 else .ok (.lst (as.map Prod.snd), .t) S1) else .no
def eTup (t : AM) : EM := fun r S => (t r S).bind fun as S1 => if as.length ≤ sizeLine then (if as.all fun x => okst x.1 x.2 then .ok (.tup (as.map Prod.snd), .c) S1 else .ok (.tup (as.map Prod.snd), .t) S1) else .no
theorem new_lst {K : PySem.W.Frag} {M N : Addr → Prop} {io : List Addr} {H H0 : Hp} {S : Store} {p : Addr} {xs : List D} {vs : List V} (hp : H p = none) (h0 : H0 p = none) (md : ∀ a, M a → ∃ o, H a = some o ∧ NI o) (q : StoOk K ct M io S H) (h : Reps K M io H xs vs) :
    ResOk K ct M N H0 io S (upd H p (.lst vs)) .n (.lst xs) (.ref p) :=
  ⟨p, rfl, h0, (fun z => by
    obtain ⟨o, e, _⟩ := md p z
    rw [hp] at e
    cases e), .inl ⟨xs, vs, rfl, upd_same, (h.off hp).stp (Stp.upd (ct := ct) hp)⟩, (q.off hp).upd hp⟩
theorem new_tup {K : PySem.W.Frag} {M N : Addr → Prop} {io : List Addr} {H H0 : Hp} {S : Store} {p : Addr} {xs : List D} {vs : List V} (hp : H p = none) (q : StoOk K ct M io S H) (h : Reps K M io H xs vs) :
    ResOk K ct M N H0 io S (upd H p (.tup vs)) .c (.tup xs) (.ref p) := ⟨.tup (.inl (.inl upd_same)) (h.stp (Stp.upd (ct := ct) hp)), q.upd hp⟩
theorem me_lst {es : List Expr} {t : AM} (ha : MA X ct es t) : ME X ct (.List es pos) (eLst t) :=
  ⟨fun G W tk => (pe_lst (ha.run G W tk)).imp fun s H Q ⟨r, S, io, k, h⟩ => ⟨r, S, io, k, Res.first h fun as S1 io1 H1 e1 t1 q1 h1 vs o => by
    have k1 := k.step t1 q1
    have hl : as.length = vs.length := Paired.length o
    split at h1
    · rename_i hz
      refine ⟨hl ▸ hz, fun p hp => ?_⟩
      split at h1
      · rename_i g
        exact h1.go (Stp.upd hp) (q1.upd hp) _ (new_lst hp (t1.free hp) k1.mdom q1 (ArgsOk.clean g o))
      · exact h1.go (Stp.upd hp) (q1.upd hp) _ ⟨.lst upd_same (fun z => z) ((ArgsOk.weak o).stp (Stp.upd (ct := ct) hp)), q1.upd hp⟩
    · exact h1.elim⟩⟩
theorem me_tup {es : List Expr} {t : AM} {x1} (ha : MA X ct es t) : ME X ct (.Tuple es x1 pos) (eTup t) :=
  ⟨fun G W tk => (pe_tup (ha.run G W tk)).imp fun s H Q ⟨r, S, io, k, h⟩ => ⟨r, S, io, k, Res.first h fun as S1 io1 H1 e1 t1 q1 h1 vs o => by
    have k1 := k.step t1 q1
    have hl : as.length = vs.length := Paired.length o
    split at h1
    · rename_i hz
      refine ⟨hl ▸ hz, fun p hp => ?_⟩
      split at h1
      · rename_i g
        exact h1.go (Stp.upd hp) (q1.upd hp) _ (new_tup hp q1 (ArgsOk.clean g o))
      · exact h1.go (Stp.upd hp) (q1.upd hp) _ ⟨.tup (.inl (.inl upd_same)) ((ArgsOk.weak o).stp (Stp.upd (ct := ct) hp)), q1.upd hp⟩
    · exact h1.elim⟩⟩
/-! ### built-in functions and types by values -/
def CalOk (K : PySem.W.Frag) (ct : CT) (rd : List V → Hp → VK → Prop) (g : List (Fl × D) → Option (D × Fl)) : Prop :=
  ∀ (M N : Addr → Prop) (io : List Addr) (S : Store) (H : Hp) (vs : List V) (as : List (Fl × D)) (res : D × Fl) (Q : VK), ArgsOk K M N io H as vs → StoOk K ct M io S H → (∀ a, M a → ∃ o, H a = some o ∧ NI o) → g as = some res →
    (∀ v H', Stp ct io H io H' → ResOk K ct M N H io S H' res.2 res.1 v → Q v H') → rd vs H Q
def eCal (g : List (Fl × D) → Option (D × Fl)) (t : AM) : EM := fun r S => (t r S).bind fun as S1 => lift0 (g as) S1
theorem cal_go {t : AM} {g : List (Fl × D) → Option (D × Fl)} {rd : List V → Hp → VK → Prop} (hg : CalOk X.K ct rd g) {G : Gx} {W : WX} {s : St} {H : Hp} {Q : VK} (h : tE X.K ct G W (eCal g t) s H Q) : tCB rd (tA X.K ct G W t) s H Q := by
  obtain ⟨r, S, io, k, h⟩ := h
  refine ⟨r, S, io, k, Res.first h fun as S1 io1 H1 e1 t1 q1 h1 vs o => ?_⟩
  have k1 := k.step t1 q1
  unfold lift0 at h1
  split at h1
  · rename_i res e
    refine hg _ _ io1 S1 H1 vs as res Q o q1 k1.mdom e fun v H' t' o' => ?_
    exact h1.go t' o'.sto v (o'.back fun a z => t1.free z)
  · exact h1.elim
theorem me_callB {x : Str} {id : String} {e : Expr} {es : List Expr} {p : Pos} {t : AM} {g : List (Fl × D) → Option (D × Fl)} {rd : List V → Hp → VK → Prop} (hc : CallR X (.builtin id) rd) (hg : CalOk X.K ct rd g) (hgl : Gl X x) (hm : X.mg x = none) (hv : bootBuiltins x = some (.builtin id)) (ha : MA X ct (e :: es) t)
    (hn : x ≠ "__name__" := by decide) (hdb : (x == ("__debug__" : Str)) = false := by decide) (he : starEach (e :: es) X.env = (false, eval e X.env) :: starEach es X.env := by rfl) (hpl : (backTo pos (starEach es X.env)).any (·.1) = false := by rfl) :
    ME X ct (.Call (.Name x p) (e :: es) [] pos) (eCal g t) := ⟨fun G W tk => (pe_callB hc hgl hm hv (ha.run G W tk) hn hdb he hpl).imp fun s H Q h => cal_go hg h⟩
theorem me_callTy {x : Str} {T : String} {e : Expr} {es : List Expr} {p : Pos} {t : AM} {g : List (Fl × D) → Option (D × Fl)} {rd : List V → Hp → VK → Prop} (hc : CallR X (.type T) rd) (hg : CalOk X.K ct rd g) (hgl : Gl X x) (hm : X.mg x = none) (hv : bootBuiltins x = some (.type T)) (ha : MA X ct (e :: es) t)
    (hn : x ≠ "__name__" := by decide) (hdb : (x == ("__debug__" : Str)) = false := by decide) (he : starEach (e :: es) X.env = (false, eval e X.env) :: starEach es X.env := by rfl) (hpl : (backTo pos (starEach es X.env)).any (·.1) = false := by rfl) :
    ME X ct (.Call (.Name x p) (e :: es) [] pos) (eCal g t) := ⟨fun G W tk => (pe_callTy hc hgl hm hv (ha.run G W tk) hn hdb he hpl).imp fun s H Q h => cal_go hg h⟩
end
end Mv

set_option maxRecDepth 100000
namespace Mv
open PySem PySem.Spec PyProof.Rows L2

/-! ### how the frame's state changes -/
theorem get_set {α : Type} {l : List α} {i j : Nat} {x y : α} (h : (l.set i x)[j]? = some y) : (i = j ∧ x = y ∧ i < l.length) ∨ (i ≠ j ∧ l[j]? = some y) := by
  by_cases hj : i = j
  · subst hj
    by_cases hl : i < l.length
    · rw [List.getElem?_set_self hl] at h
      exact .inl ⟨rfl, Option.some.inj h, hl⟩
    · rw [List.getElem?_eq_none (by simpa using hl)] at h
      cases h
  · rw [List.getElem?_set_ne hj] at h
    exact .inr ⟨hj, h⟩
theorem dp_set {r : Env} {s : St} {i : Nat} {x : Slot} {y : Option V} (hx : ∀ b d, x ≠ .deep b d) (j : Nat) (b : Nat) (d : D) (h : (r.set i x)[j]? = some (Slot.deep b d)) : r[j]? = some (Slot.deep b d) ∧ (s.set i y)[j]? = s[j]? := by
  rcases get_set h with ⟨_, q, _⟩ | ⟨hj, q⟩
  · exact absurd q (hx b d)
  · exact ⟨q, List.getElem?_set_ne hj⟩
theorem dp_set0 {r : Env} {s : St} {i : Nat} {x : Slot} (hx : ∀ b d, x ≠ .deep b d) (j : Nat) (b : Nat) (d : D) (h : (r.set i x)[j]? = some (Slot.deep b d)) : r[j]? = some (Slot.deep b d) ∧ s[j]? = s[j]? := by
  rcases get_set h with ⟨_, q, _⟩ | ⟨hj, q⟩
  · exact absurd q (hx b d)
  · exact ⟨q, rfl⟩
theorem lt_of_get {α : Type} {l : List α} {i : Nat} {x : α} (h : l[i]? = some x) : i < l.length := (List.getElem?_eq_some_iff.mp h).1
section
variable {K : PySem.W.Frag} {ct : CT} {G : Gx} {r : Env} {S S' S1 : Store} {io io' io1 : List Addr} {s : St} {H H' H1 : Hp} {i : Nat} {d d' : D} {v : V} {p : Addr} {x : Slot}
theorem mown_set (h : ∀ d, x ≠ Slot.own d) {y : Option V} {a : Addr} (m : Mown G (r.set i x) (s.set i y) a) : Mown G r s a := by
  rcases m with m | ⟨j, e, h1, h2⟩
  · exact .inl m
  rcases get_set h1 with ⟨_, h1, _⟩ | ⟨hj, h1⟩
  · exact absurd h1 (h e)
  · rw [List.getElem?_set_ne hj] at h2
    exact .inr ⟨j, e, h1, h2⟩
theorem mall_set (h : ∀ d, x ≠ Slot.own d) {y : Option V} {a : Addr} (m : Mall G (r.set i x) (s.set i y) a) : Mall G r s a := m.elim .inl fun z => .inr (mown_set h z)
/-- a value stored that is not one's own -/
theorem Ok.seta {f : Fl} (k : Ok K ct G r S io s H) (h : ArgF K (Mall G r s) (Mown G r s) io H f d v) : Ok K ct G (r.set i (.ar f d)) S io (s.set i (some v)) H := by
  have no : ∀ e, Slot.ar f d ≠ Slot.own e := fun e z => by cases z
  have m : ∀ a, Mall G (r.set i (.ar f d)) (s.set i (some v)) a → Mall G r s a := fun a => mall_set no
  have m' : ∀ a, Mown G (r.set i (.ar f d)) (s.set i (some v)) a → Mown G r s a := fun a => mown_set no
  have an : ∀ {g : Fl} {e : D} {w : V}, ArgF K (Mall G r s) (Mown G r s) io H g e w → ArgF K (Mall G (r.set i (.ar f d)) (s.set i (some v))) (Mown G (r.set i (.ar f d)) (s.set i (some v))) io H g e w :=
    fun {g e w} h => h.mono Kp.refl Kp.refl (fun a _ n z => n (m a z)) (fun a _ n z => n (m' a z)) io_refl
  refine ⟨by simp [k.len], fun j g e q => ?_, fun j e q => ?_, fun j j' e e' a q q' z z' => ?_, k.sto.anti m, k.stp, k.m0, k.n0, fun p hp => an (k.held p hp), k.dp.env rfl (fun _ z => z) (dp_set fun _ _ z => by cases z)⟩
  · rcases get_set q with ⟨rfl, q, hl⟩ | ⟨hj, q⟩
    · cases q
      exact ⟨v, List.getElem?_set_self (k.len ▸ hl), an h⟩
    · obtain ⟨w, h1, h2⟩ := k.arg j g e q
      exact ⟨w, by rw [List.getElem?_set_ne hj]; exact h1, an h2⟩
  · rcases get_set q with ⟨rfl, q, _⟩ | ⟨hj, q⟩
    · cases q
    · obtain ⟨a, h1, h2, h3, h4⟩ := k.own j e q
      exact ⟨a, by rw [List.getElem?_set_ne hj]; exact h1, h2.anti m, h3, h4⟩
  · rcases get_set q with ⟨_, q, _⟩ | ⟨hj, q⟩
    · cases q
    · rcases get_set q' with ⟨_, q', _⟩ | ⟨hj', q'⟩
      · cases q'
      · rw [List.getElem?_set_ne hj] at z
        rw [List.getElem?_set_ne hj'] at z'
        exact k.inj j j' e e' a q q' z z'
theorem Ok.setc (k : Ok K ct G r S io s H) (h : Rep K (Mall G r s) io H d v) : Ok K ct G (r.set i (.ar .c d)) S io (s.set i (some v)) H := k.seta (f := .c) h
/-- a new list or dict becomes the slot's own -/
theorem Ok.seto (k : Ok K ct G r S io s H) (t : Stp ct io H io1 H1) (hp : H p = none) (np : ¬ Mall G r s p) (h : OwnAt K (fun b => Mall G r s b ∨ b = p) io1 H1 d p) (q : StoOk K ct (fun b => Mall G r s b ∨ b = p) io1 S1 H1) :
    Ok K ct G (r.set i (.own d)) S1 io1 (s.set i (some (.ref p))) H1 := by
  have mo : ∀ a, Mown G (r.set i (.own d)) (s.set i (some (.ref p))) a → Mown G r s a ∨ a = p := fun a z => by
    rcases z with z | ⟨j, e, h1, h2⟩
    · exact .inl (.inl z)
    rcases get_set h1 with ⟨rfl, h1, hl⟩ | ⟨hj, h1⟩
    · rw [List.getElem?_set_self (k.len ▸ hl)] at h2
      cases h2
      exact .inr rfl
    · rw [List.getElem?_set_ne hj] at h2
      exact .inl (.inr ⟨j, e, h1, h2⟩)
  have m : ∀ a, Mall G (r.set i (.own d)) (s.set i (some (.ref p))) a → Mall G r s a ∨ a = p := fun a z => by
    rcases z with z | z
    · exact .inl (.inl z)
    · exact (mo a z).elim (fun z => .inl (.inr z)) .inr
  have mm : ∀ a, (∃ o, H a = some o) → ¬ Mall G r s a → ¬ Mall G (r.set i (.own d)) (s.set i (some (.ref p))) a := fun a ⟨o, e⟩ n z => (m a z).elim n fun z => by
    rw [z, hp] at e
    cases e
  have mm' : ∀ a, (∃ o, H a = some o) → ¬ Mown G r s a → ¬ Mown G (r.set i (.own d)) (s.set i (some (.ref p))) a := fun a ⟨o, e⟩ n z => (mo a z).elim n fun z => by
    rw [z, hp] at e
    cases e
  have hp0 : G.H0 p = none := k.stp.free hp
  refine ⟨by simp [k.len], fun j f e q => ?_, fun j e q => ?_, fun j j' e e' a q q' z z' => ?_, q.anti m, k.stp.trans t, fun a z => ?_, fun a z => ?_, fun y hy => (k.held y hy).mono t.kp t.kp mm mm' t.pre, k.dp.gen (M := fun _ => False) rfl (fun _ z => z) (dp_set fun _ _ z => by cases z) t.kp (fun a o _ _ e n => t.k1 a o e n) t.pre⟩
  · rcases get_set q with ⟨rfl, q, hl⟩ | ⟨hj, q⟩
    · cases q
    · obtain ⟨w, h1, h2⟩ := k.arg j f e q
      exact ⟨w, by rw [List.getElem?_set_ne hj]; exact h1, h2.mono t.kp t.kp mm mm' t.pre⟩
  · rcases get_set q with ⟨rfl, q, hl⟩ | ⟨hj, q⟩
    · cases q
      exact ⟨p, List.getElem?_set_self (k.len ▸ hl), h.anti m, fun z => np (.inl z), fun z => np (.inr (.inl z)), hp0⟩
    · obtain ⟨a, h1, h2, h3, h4⟩ := k.own j e q
      exact ⟨a, by rw [List.getElem?_set_ne hj]; exact h1, h2.mono t.kp mm t.pre fun o e n => t.k1 a o e n, h3, h4⟩
  · have old : ∀ {n : Nat} {u : D}, r[n]? = some (.own u) → s[n]? = some (some (V.ref a)) → a ≠ p := fun {n u} w1 w2 w => np (.inr (.inr ⟨n, u, w1, w ▸ w2⟩))
    rcases get_set q with ⟨rfl, q, hl⟩ | ⟨hj, q⟩
    · rw [List.getElem?_set_self (k.len ▸ hl)] at z
      cases z
      rcases get_set q' with ⟨e, _, _⟩ | ⟨hj', q'⟩
      · exact e
      · rw [List.getElem?_set_ne hj'] at z'
        exact absurd rfl (old q' z')
    · rw [List.getElem?_set_ne hj] at z
      rcases get_set q' with ⟨rfl, q', hl⟩ | ⟨hj', q'⟩
      · rw [List.getElem?_set_self (k.len ▸ hl)] at z'
        cases z'
        exact absurd rfl (old q z)
      · rw [List.getElem?_set_ne hj'] at z'
        exact k.inj j j' e e' a q q' z z'
  · obtain ⟨o, e, n⟩ := k.m0 a z
    exact ⟨o, t.k1 a o e n, n⟩
  · obtain ⟨o, ⟨e, n⟩, y⟩ := k.n0 a z
    exact ⟨o, ⟨t.k1 a o e n, n⟩, y⟩
/-- one's own is not written any more -/
theorem Ok.dem (k : Ok K ct G r S io s H) (e : r[i]? = some (.own d)) : Ok K ct G (r.set i (.ar .c d)) S io s H := by
  obtain ⟨a, h1, h2, h3, h4⟩ := k.own i d e
  have hs : s.set i (some (V.ref a)) = s := by
    obtain ⟨hl, h1⟩ := List.getElem?_eq_some_iff.mp h1
    rw [← h1]
    exact List.set_getElem_self hl
  have no : ∀ e, Slot.ar .c d ≠ Slot.own e := fun e z => by cases z
  have m' : ∀ b, Mown G (r.set i (.ar .c d)) s b → Mown G r s b ∧ b ≠ a := fun b z => by
    rcases z with z | ⟨j, u, z1, z2⟩
    · exact ⟨.inl z, fun y => h4.1 (y ▸ z)⟩
    rcases get_set z1 with ⟨_, z1, _⟩ | ⟨hj, z1⟩
    · cases z1
    · refine ⟨.inr ⟨j, u, z1, z2⟩, fun z => hj ?_⟩
      rw [z] at z2
      exact k.inj i j d u a e z1 h1 z2
  have m : ∀ b, Mall G (r.set i (.ar .c d)) s b → Mall G r s b := fun b z => z.elim .inl fun z => .inr (m' b z).1
  have na : ¬ Mall G (r.set i (.ar .c d)) s a := fun z => z.elim h3 fun z => (m' a z).2 rfl
  refine ⟨by simp [k.len], fun j f u q => ?_, fun j u q => ?_, fun j j' u u' b q q' z z' => ?_, k.sto.anti m, k.stp, k.m0, k.n0, fun p hp => (k.held p hp).mono Kp.refl Kp.refl (fun a _ n z => n (m a z)) (fun a _ n z => n (m' a z).1) io_refl, k.dp.env rfl (fun _ z => z) (dp_set0 fun _ _ z => by cases z)⟩
  · rcases get_set q with ⟨rfl, q, hl⟩ | ⟨hj, q⟩
    · cases q
      exact ⟨_, h1, (h2.anti m).rep na⟩
    · obtain ⟨w, y1, y2⟩ := k.arg j f u q
      exact ⟨w, y1, y2.mono Kp.refl Kp.refl (fun a _ n z => n (m a z)) (fun a _ n z => n (m' a z).1) io_refl⟩
  · rcases get_set q with ⟨rfl, q, _⟩ | ⟨hj, q⟩
    · cases q
    · obtain ⟨b, y1, y2, y3, y4⟩ := k.own j u q
      exact ⟨b, y1, y2.anti m, y3, y4⟩
  · rcases get_set q with ⟨_, q, _⟩ | ⟨hj, q⟩
    · cases q
    · rcases get_set q' with ⟨_, q', _⟩ | ⟨hj', q'⟩
      · cases q'
      · exact k.inj j j' u u' b q q' z z'
/-- one's own is written -/
theorem Ok.mut {a : Addr} {o : HO} (k : Ok K ct G r S io s H) (e : r[i]? = some (.own d)) (h1 : s[i]? = some (some (V.ref a))) (hn : OwnAt K (Mall G r s) io (upd H a o) d' a) : Ok K ct G (r.set i (.own d')) S io s (upd H a o) := by
  obtain ⟨a', h1', h2, h3, h4⟩ := k.own i d e
  rw [h1] at h1'
  cases h1'
  have hl := lt_of_get e
  have m1 : ∀ b, Mown G (r.set i (.own d')) s b ↔ Mown G r s b := fun b => by
    constructor
    · rintro (z | ⟨j, u, z1, z2⟩)
      · exact .inl z
      rcases get_set z1 with ⟨rfl, z1, _⟩ | ⟨hj, z1⟩
      · exact .inr ⟨i, d, e, z2⟩
      · exact .inr ⟨j, u, z1, z2⟩
    · rintro (z | ⟨j, u, z1, z2⟩)
      · exact .inl z
      by_cases hj : i = j
      · subst hj
        exact .inr ⟨i, d', List.getElem?_set_self hl, z2⟩
      · exact .inr ⟨j, u, by rw [List.getElem?_set_ne hj]; exact z1, z2⟩
  have em : Mown G (r.set i (.own d')) s = Mown G r s := funext fun b => propext (m1 b)
  have eM : Mall G (r.set i (.own d')) s = Mall G r s := by unfold Mall; rw [em]
  have ma : Mown G r s a := .inr ⟨i, d, e, h1⟩
  obtain ⟨oa, ha, na⟩ := h2.there
  have tupne : ∀ b u, H b = some u → Im u → b ≠ a := fun b u q z y => by
    subst y
    rcases h2 with ⟨xs, vs, _, w, _⟩ | ⟨ks, xs, kvs, _, w, _⟩
    · rw [w] at q
      cases q
      exact not_im_lst z
    · rw [w] at q
      cases q
      exact not_im_dK z
  have kp : ∀ N : Addr → Prop, N a → Kp N H (upd H a o) := fun N na b u q ni z => by
    rw [upd_ne]
    · exact q
    · rcases z with z | z
      · exact fun y => z (y ▸ na)
      · exact tupne b u q z
  have st : StoOk K ct (Mall G r s) io S (upd H a o) := k.sto.mono (kp _ (.inr ma)) (fun _ _ n => n) (fun b C dx fs _ q => by
    rw [upd_ne]
    · exact q
    · intro y
      rw [y, ha] at q
      cases q
      exact na.1 _ _ _ rfl) fun b ps q => by
    rw [upd_ne]
    · exact q
    · intro y
      rw [y, ha] at q
      cases q
      exact na.2 _ rfl
  have h0 : ∀ b u, G.H0 b = some u → b ≠ a := fun b u q y => by
    rw [y, h4.2] at q
    cases q
  rw [← eM] at hn st
  refine ⟨by simp [k.len], fun j f u q => ?_, fun j u q => ?_, fun j j' u u' b q q' z z' => ?_, st, ⟨fun b u q n => ?_, fun b u q n nt => ?_, k.stp.pre, k.stp.new, fun b u q => ?_, fun pu b u q => by rw [upd_ne (h0 b u q)]; exact k.stp.k3 pu b u q⟩, fun b z => ?_, fun b z => ?_, fun p hp => ?_, k.dp.gen (M := Mown G r s) rfl (fun _ z => z) (dp_set0 fun _ _ z => by cases z) (kp _ ma) (fun b o nb _ e _ => by rw [upd_ne (show b ≠ a from fun z => h4.1 (z ▸ nb))]; exact e) io_refl⟩
  · rcases get_set q with ⟨rfl, q, _⟩ | ⟨hj, q⟩
    · cases q
    · obtain ⟨w, y1, y2⟩ := k.arg j f u q
      refine ⟨w, y1, ?_⟩
      rw [eM, em]
      exact y2.mono (kp _ (.inr ma)) (kp _ ma) (fun _ _ n => n) (fun _ _ n => n) io_refl
  · rcases get_set q with ⟨rfl, q, _⟩ | ⟨hj, q⟩
    · cases q
      exact ⟨a, h1, hn, h3, h4⟩
    · obtain ⟨b, y1, y2, y3, y4⟩ := k.own j u q
      refine ⟨b, y1, ?_, y3, y4⟩
      rw [eM]
      refine y2.mono (kp _ (.inr ma)) (fun _ _ n => n) io_refl fun o' w _ => ?_
      rw [upd_ne]
      · exact w
      · exact fun z => hj (k.inj i j d u a e q h1 (z ▸ y1))
  · rcases get_set q with ⟨rfl, q, _⟩ | ⟨hj, q⟩
    · rcases get_set q' with ⟨rfl, q', _⟩ | ⟨hj', q'⟩
      · rfl
      · exact k.inj i j' d u' b e q' z z'
    · rcases get_set q' with ⟨rfl, q', _⟩ | ⟨hj', q'⟩
      · exact k.inj j i u d b q e z z'
      · exact k.inj j j' u u' b q q' z z'
  · rw [upd_ne (h0 b u q)]
    exact k.stp.k1 b u q n
  · rw [upd_ne (h0 b u q)]
    exact k.stp.k2 b u q n nt
  · rw [upd_ne (h0 b u q)]
    exact k.stp.dom b u q
  · obtain ⟨u, w, n⟩ := k.m0 b z
    refine ⟨u, ?_, n⟩
    rw [upd_ne]
    · exact w
    · exact fun y => h3 (y ▸ z)
  · obtain ⟨u, ⟨w, n⟩, y⟩ := k.n0 b z
    refine ⟨u, ⟨?_, n⟩, y⟩
    rw [upd_ne]
    · exact w
    · exact fun y => h4.1 (y ▸ z)
  · rw [eM, em]
    exact (k.held p hp).mono (kp _ (.inr ma)) (kp _ ma) (fun _ _ n => n) (fun _ _ n => n) io_refl
end

/-! ### statements -/
def SRes (K : PySem.W.Frag) (ct : CT) (G : Gx) (W : WX) (D : Ends) : SR → Prop
  | .nx r' S' => ∀ s' io' H', Ok K ct G r' S' io' s' H' → D.nx s' H'
  | .bk r' S' => ∀ s' io' H', Ok K ct G r' S' io' s' H' → D.bk s' H'
  | .ct r' S' => ∀ s' io' H', Ok K ct G r' S' io' s' H' → D.ct s' H'
  | .rt d f S' => ∀ v io' H', Stp ct G.io0 G.H0 io' H' → ResOk K ct G.M0 (fun _ => False) G.H0 io' S' H' f d v → D.rt v H'
  | .er c p r' S' => ∀ dx s' io' H', Ok K ct G r' S' io' s' H' → ErrOk K (ct.fd c) io' H' p dx → W (.ref (ct.ad c)) dx s' H'
  | .no => False
def tS (K : PySem.W.Frag) (ct : CT) (G : Gx) (W : WX) (m : SM) : TS := fun D s H => ∃ r S io, Ok K ct G r S io s H ∧ SRes K ct G W D (m r S)
structure MS (X : Cx) (ct : CT) (st : Stmt) (m : SM) : Prop where
  run : ∀ (G : Gx) (W : WX), Takes X W → PassesOwn (model X.prog X.w) X.A X.env X.xe → PS X st (tS X.K ct G W m)
structure MSs (X : Cx) (ct : CT) (st : List Stmt) (m : SM) : Prop where
  run : ∀ (G : Gx) (W : WX), Takes X W → PassesOwn (model X.prog X.w) X.A X.env X.xe → PSs X st (tS X.K ct G W m)
def SR.bind (x : SR) (k : Env → Store → SR) : SR := match x with
  | .nx r S => k r S
  | x => x
/-- an expression ahead of what a statement does -/
def Rs.sb {α : Type} (x : Rs α) (r : Env) (k : α → Store → SR) : SR := match x with
  | .ok a S => k a S
  | .er c p S => .er c p r S
  | .no => .no
section
variable {K : PySem.W.Frag} {ct : CT} {G : Gx} {r : Env} {S S' S1 : Store} {io io' io1 : List Addr} {s : St} {H H' H1 : Hp} {W : WX} {De : Ends}
theorem SRes.first {α : Type} {x : Rs α} {k : α → Store → SR} {P : α → Store → List Addr → Hp → Prop} (o : Ok K ct G r S io s H) (h : SRes K ct G W De (x.sb r k))
    (n : ∀ a S1 io1 H1, x = .ok a S1 → Stp ct io H io1 H1 → StoOk K ct (Mall G r s) io1 S1 H1 → Ok K ct G r S1 io1 s H1 → SRes K ct G W De (k a S1) → P a S1 io1 H1) : Res K ct W (Mall G r s) s io H x P := by
  cases x with
  | ok a S' => exact fun io' H' t q => n a S' io' H' rfl t q (o.step t q) h
  | er c p S' => exact fun dx io' H' t q e => h dx s io' H' (o.step t q) e
  | no => exact h
theorem ms_one {X : Cx} {st : Stmt} {m : SM} (h : MS X ct st m) : MSs X ct [st] m := ⟨fun G W tk po => pss_one (h.run G W tk po)⟩
def sNil : SM := fun r S => .nx r S
def sSeq (a b : SM) : SM := fun r S => (a r S).bind b
theorem ms_nil {X : Cx} : MSs X ct [] sNil := ⟨fun G W tk po => pss_nil.imp fun D s H ⟨r, S, io, k, h⟩ => h s io H k⟩
theorem ms_cons {X : Cx} {st : Stmt} {rest : List Stmt} {m t : SM} (ha : MS X ct st m) (hb : MSs X ct rest t) : MSs X ct (st :: rest) (sSeq m t) :=
  ⟨fun G W tk po => (pss_cons (ha.run G W tk po) (hb.run G W tk po)).imp fun D s H ⟨r, S, io, k, h⟩ => by
    refine ⟨r, S, io, k, ?_⟩
    unfold sSeq at h
    cases e : m r S with
    | nx r' S' =>
      rw [e] at h
      exact fun s' io' H' k' => ⟨r', S', io', k', h⟩
    | rt d f S' => rw [e] at h; exact h
    | bk r' S' => rw [e] at h; exact h
    | ct r' S' => rw [e] at h; exact h
    | er c p r' S' => rw [e] at h; exact h
    | no => rw [e] at h; exact h⟩
section
variable {X : Cx} {pos : Pos}
/-- an expression alone -/
def sExpr (m : EM) : SM := fun r S => (m r S).sb r fun _ S1 => .nx r S1
theorem ms_expr {e : Expr} {m : EM} (h : ME X ct e m) (hs : swapsWith e none pos.line X.env = pure false := by rfl) : MS X ct (.Expr e pos) (sExpr m) :=
  ⟨fun G W tk _ => (ps_expr (h.run G W tk) hs).imp fun D s H ⟨r, S, io, k, h⟩ => ⟨r, S, io, k, SRes.first k h fun a S1 io1 H1 _ t q k1 h1 v _ => h1 s io1 H1 k1⟩⟩
theorem ms_doc {x j pos'} : MS X ct (.Expr (.Constant (.str x) j pos) pos') sNil := ⟨fun G W _ _ => ps_doc.imp fun D s H ⟨r, S, io, k, h⟩ => h s io H k⟩
theorem ms_pass : MS X ct (.Pass pos) sNil := ⟨fun G W _ _ => ps_pass.imp fun D s H ⟨r, S, io, k, h⟩ => h s io H k⟩
def sBrk : SM := fun r S => .bk r S
def sCont : SM := fun r S => .ct r S
theorem ms_brk : MS X ct (.Break pos) sBrk := ⟨fun G W _ _ => ps_break.imp fun D s H ⟨r, S, io, k, h⟩ => h s io H k⟩
theorem ms_cont : MS X ct (.Continue pos) sCont := ⟨fun G W _ _ => ps_continue.imp fun D s H ⟨r, S, io, k, h⟩ => h s io H k⟩
def sNever : SM := fun _ _ => .no
theorem ms_never {st : Stmt} : MS X ct st sNever := ⟨fun G W _ _ => ps_never.imp fun D s H ⟨r, S, io, k, h⟩ => h⟩
theorem mss_never {st : List Stmt} : MSs X ct st sNever := ⟨fun G W _ _ => pss_never.imp fun D s H ⟨r, S, io, k, h⟩ => h⟩
/-- return -/
theorem ResOk.out {f : Fl} {d : D} {v : V} (k : Ok K ct G r S io s H) (h : ResOk K ct (Mall G r s) (Mown G r s) H io' S' H' f d v) : ResOk K ct G.M0 (fun _ => False) G.H0 io' S' H' f d v :=
  (h.anti (fun a z => .inl z) fun a z => z.elim).back fun a z => k.stp.free z
def sRet (m : EM) : SM := fun r S => (m r S).sb r fun x S1 => .rt x.1 x.2 S1
theorem ms_ret {e : Expr} {m : EM} (h : ME X ct e m) : MS X ct (.Return (some e) pos) (sRet m) :=
  ⟨fun G W tk _ => (ps_ret (h.run G W tk)).imp fun D s H ⟨r, S, io, k, h⟩ => ⟨r, S, io, k, SRes.first k h fun a S1 io1 H1 _ t q k1 h1 v o => h1 v io1 H1 (k.stp.trans t) (o.out k)⟩⟩
def sRetN : SM := fun r S => .rt .non .c S
theorem ms_retN : MS X ct (.Return none pos) sRetN := ⟨fun G W tk _ => ps_retN.imp fun D s H ⟨r, S, io, k, h⟩ => h .non io H k.stp (ResOk.sc (f := .c) (by simp) .non (k.sto.anti fun a z => .inl z))⟩
/-- return x, x one's own -/
def sRetV (i : Nat) : SM := fun r S => match r[i]? with
  | some (.own d) => .rt d .n S
  | some (.ar f d) => .rt d (inf f) S
  | _ => .no
theorem ms_retV {i : Nat} {x : Str} {p : Pos} (h : PE X (.Name x p) (tVar i)) : MS X ct (.Return (some (.Name x p)) pos) (sRetV i) :=
  ⟨fun G W tk _ => (ps_ret h).imp fun D s H ⟨r, S, io, k, h⟩ => by
    unfold sRetV at h
    split at h
    · rename_i d e
      obtain ⟨a, h1, h2, h3, h4⟩ := k.own i d e
      refine ⟨_, h1, h _ io H k.stp ⟨a, rfl, h4.2, h3, h2.anti fun b z => z.elim .inl fun z => .inr (.inr ⟨i, d, e, z ▸ h1⟩), k.sto.anti fun b z => z.elim .inl fun z => .inr (.inr ⟨i, d, e, z ▸ h1⟩)⟩⟩
    · rename_i f d e
      obtain ⟨v, h1, h2⟩ := k.arg i _ _ e
      exact ⟨v, h1, h v io H k.stp (ResOk.out k (ResOk.mk inf_n h2.repF k.sto))⟩
    · exact h.elim⟩
/-- x = e -/
def sSet (i : Nat) (m : EM) : SM := fun r S => (m r S).sb r fun x S1 => if okst x.2 x.1 then .nx (r.set i (.ar .c x.1)) S1 else if x.2 = .b then .nx (r.set i (.ar .b x.1)) S1 else .no
def isLD : D → Bool
  | .lst _ => true
  | .dic _ _ => true
  | _ => false
def sOwn (i : Nat) (m : EM) : SM := fun r S => (m r S).sb r fun x S1 => if x.2 = .n then .nx (r.set i (.own x.1)) S1 else .no
theorem set_go {i : Nat} {m : EM} {s : St} {H : Hp} (h : tS X.K ct G W (sSet i m) De s H) : tAsg (tE X.K ct G W m) (gName i) De s H := by
  obtain ⟨r, S, io, k, h⟩ := h
  refine ⟨r, S, io, k, SRes.first k h fun x S1 io1 H1 _ t q k1 h1 v o => ?_⟩
  split at h1
  · rename_i g
    exact h1 _ io1 H1 (k1.setc (o.repF.clean g))
  · split at h1
    · rename_i g
      have o := o.repF
      rw [g] at o
      exact h1 _ io1 H1 (k1.seta (f := .b) o)
    · exact h1.elim
theorem own_go {i : Nat} {m : EM} {s : St} {H : Hp} (h : tS X.K ct G W (sOwn i m) De s H) : tAsg (tE X.K ct G W m) (gName i) De s H := by
  obtain ⟨r, S, io, k, h⟩ := h
  refine ⟨r, S, io, k, SRes.first k h fun x S1 io1 H1 _ t q k1 h1 v o => ?_⟩
  split at h1
  · rename_i g
    rw [g] at o
    obtain ⟨p, rfl, hp, np, o1, o2⟩ := o
    exact h1 _ io1 H1 (k.seto t hp np o1 o2)
  · exact h1.elim
theorem ms_set {i : Nat} {x : Str} {e : Expr} {m : EM} {pos' : Pos} (hN : X.N.Nodup) (hi : X.N[i]? = some x) (hx : Loc X.env.scope x) (h : ME X ct e m) (hs : swapsWith e (some (.Name x pos')) pos.line X.env = pure false := by rfl) (hf : X.fn x = true ∨ X.env.scope.names.lookup x = some .local := by first | exact .inl rfl | exact .inr rfl | assumption) :
    MS X ct (.Assign [.Name x pos'] e pos) (sSet i m) := ⟨fun G W tk _ => (ps_set hN hi hx (h.run G W tk) hs hf).imp fun D s H h => set_go h⟩
theorem ms_own {i : Nat} {x : Str} {e : Expr} {m : EM} {pos' : Pos} (hN : X.N.Nodup) (hi : X.N[i]? = some x) (hx : Loc X.env.scope x) (h : ME X ct e m) (hs : swapsWith e (some (.Name x pos')) pos.line X.env = pure false := by rfl) (hf : X.fn x = true ∨ X.env.scope.names.lookup x = some .local := by first | exact .inl rfl | exact .inr rfl | assumption) :
    MS X ct (.Assign [.Name x pos'] e pos) (sOwn i m) := ⟨fun G W tk _ => (ps_set hN hi hx (h.run G W tk) hs hf).imp fun D s H h => own_go h⟩
/-- what is one's own is written no more -/
def sDem (i : Nat) (m : SM) : SM := fun r S => match r[i]? with
  | some (.own d) => m (r.set i (.ar .c d)) S
  | _ => m r S
theorem ms_dem {i : Nat} {st : Stmt} {m : SM} (h : MS X ct st m) : MS X ct st (sDem i m) :=
  ⟨fun G W tk po => (h.run G W tk po).imp fun D s H ⟨r, S, io, k, h⟩ => by
    unfold sDem at h
    split at h
    · rename_i d e
      exact ⟨_, S, io, k.dem e, h⟩
    · exact ⟨r, S, io, k, h⟩⟩
theorem mss_dem {i : Nat} {st : List Stmt} {m : SM} (h : MSs X ct st m) : MSs X ct st (sDem i m) :=
  ⟨fun G W tk po => (h.run G W tk po).imp fun D s H ⟨r, S, io, k, h⟩ => by
    unfold sDem at h
    split at h
    · rename_i d e
      exact ⟨_, S, io, k.dem e, h⟩
    · exact ⟨r, S, io, k, h⟩⟩
/-- if -/
def sIf (t : TM) (a b : SM) : SM := fun r S => (t r S).sb r fun c S1 => if c then a r S1 else b r S1
theorem ms_if {c : Expr} {a b : List Stmt} {t : TM} {ma mb : SM} (hc : MT X ct c t) (ha : MSs X ct a ma) (hb : MSs X ct b mb) : MS X ct (.If c a b pos) (sIf t ma mb) :=
  ⟨fun G W tk po => (ps_if (hc.run G W tk) (ha.run G W tk po) (hb.run G W tk po)).imp fun D s H ⟨r, S, io, k, h⟩ => ⟨r, S, io, k, SRes.first k h fun x S1 io1 H1 _ t q k1 h1 => by
    cases x with
    | true => exact iteT ⟨r, S1, io1, k1, h1⟩
    | false => exact iteF ⟨r, S1, io1, k1, h1⟩⟩⟩
/-! while -/
def loopN (t : TM) (b : SM) : Nat → SM
  | 0, _, _ => .no
  | n + 1, r, S => (t r S).sb r fun c S1 => if c then (match b r S1 with
      | .nx r' S' => loopN t b n r' S'
      | .ct r' S' => loopN t b n r' S'
      | .bk r' S' => .nx r' S'
      | x => x) else .nx r S1
open Classical in
noncomputable def sWhile (t : TM) (b : SM) : SM := fun r S => if h : ∃ n, loopN t b n r S ≠ .no then loopN t b h.choose r S else .no
theorem loopN_stop {t : TM} {b : SM} : ∀ (n : Nat) (r : Env) (S : Store) (x : SR), loopN t b n r S = x → x ≠ .no → ∀ m, loopN t b (n + m) r S = x
  | 0, r, S, x, h, hx, _ => absurd h.symm hx
  | n + 1, r, S, x, h, hx, m => by
    rw [show n + 1 + m = (n + m) + 1 by omega]
    unfold loopN at h ⊢
    cases e : t r S with
    | er c p S' => rw [e] at h; exact h
    | no => rw [e] at h; exact absurd h.symm hx
    | ok c S1 =>
      rw [e] at h
      cases c with
      | false => exact h
      | true =>
        simp only [Rs.sb, if_true] at h ⊢
        cases e2 : b r S1 with
        | nx r' S' => rw [e2] at h; exact loopN_stop n r' S' x h hx m
        | ct r' S' => rw [e2] at h; exact loopN_stop n r' S' x h hx m
        | bk r' S' => rw [e2] at h; exact h
        | rt d f S' => rw [e2] at h; exact h
        | er c p r' S' => rw [e2] at h; exact h
        | no => rw [e2] at h; exact h
theorem sWhile_of {t : TM} {b : SM} {n : Nat} {r : Env} {S : Store} {x : SR} (h : loopN t b n r S = x) (hx : x ≠ .no) : sWhile t b r S = x := by
  have q : ∃ n, loopN t b n r S ≠ .no := ⟨n, by rw [h]; exact hx⟩
  unfold sWhile
  rw [dif_pos q]
  have h1 := loopN_stop _ r S _ rfl q.choose_spec n
  have h2 := loopN_stop n r S x h hx q.choose
  rw [Nat.add_comm, h1] at h2
  exact h2
theorem ms_while {c : Expr} {body : List Stmt} {t : TM} {m : SM} (hc : MT X ct c t) (hb : MSs X ct body m) : MS X ct (.While c body [] pos) (sWhile t m) :=
  ⟨fun G W tk po => (ps_while po (hc.run G W tk) (hb.run G W tk po)).imp fun D s H ⟨r, S, io, k, h⟩ => by
    unfold sWhile at h
    split at h
    · rename_i q
      refine ⟨fun n s H => ∃ r S io, Ok X.K ct G r S io s H ∧ SRes X.K ct G W D (loopN t m n r S), ⟨_, r, S, io, k, h⟩, fun n s H ⟨r, S, io, k, h⟩ => ?_⟩
      cases n with
      | zero => exact h.elim
      | succ n =>
        unfold loopN at h
        refine ⟨r, S, io, k, SRes.first k h fun x S1 io1 H1 _ t1 q k1 h1 => ?_⟩
        cases x with
        | false => exact iteF (h1 s io1 H1 k1)
        | true =>
          refine iteT ⟨fun s' H' => ∃ r S io, Ok X.K ct G r S io s' H' ∧ SRes X.K ct G W D (loopN t m n r S), fun s' H' w => ⟨n, Nat.lt_succ_self n, w⟩, r, S1, io1, k1, ?_⟩
          have h1 : SRes X.K ct G W D (match m r S1 with
            | .nx r' S' => loopN t m n r' S'
            | .ct r' S' => loopN t m n r' S'
            | .bk r' S' => .nx r' S'
            | x => x) := h1
          cases e : m r S1 with
          | nx r' S' => rw [e] at h1; exact fun s' io' H' k' => ⟨r', S', io', k', h1⟩
          | ct r' S' => rw [e] at h1; exact fun s' io' H' k' => ⟨r', S', io', k', h1⟩
          | bk r' S' => rw [e] at h1; exact h1
          | rt d f S' => rw [e] at h1; exact h1
          | er c p r' S' => rw [e] at h1; exact h1
          | no => rw [e] at h1; exact h1
    · exact h.elim⟩
end
end
end Mv

set_option maxRecDepth 100000
namespace L2
open PySem PySem.Spec PyProof.Rows
theorem PI.or {X : Cx} {tg e : Expr} {t u : TI} (h1 : PI X tg e t) (h2 : PI X tg e u) : PI X tg e (fun s H R => t s H R ∨ u s H R) := ⟨fun pins s σ H R I w => w.elim (h1.run pins s σ H R I) (h2.run pins s σ H R I)⟩
theorem PI.imp {X : Cx} {tg e : Expr} {t t' : TI} (h : PI X tg e t) (q : ∀ s H R, t' s H R → t s H R) : PI X tg e t' := ⟨fun pins s σ H R I w => h.run pins s σ H R I (q _ _ _ w)⟩
theorem PG.imp {X : Cx} {e : Expr} {t t' : TG} (h : PG X e t) (q : ∀ v s H Q, t' v s H Q → t v s H Q) : PG X e t' := ⟨fun pins s σ H v u Q I r w => h.run pins s σ H v u Q I r (q _ _ _ _ w)⟩
theorem PGs.imp {X : Cx} {e : List Expr} {t t' : TGs} (h : PGs X e t) (q : ∀ v s H Q, t' v s H Q → t v s H Q) : PGs X e t' := ⟨fun pins s σ H v u Q I r w => h.run pins s σ H v u Q I r (q _ _ _ _ w)⟩
section
variable {X : Cx} {CX : CXT} {k : Nat} {f C : Addr} {fd : FuncData} {ps : List Str} {sp : Sp} {E : L2.St → XK} {x m : Str} {p pos apos : Pos} {e o : Expr} {es : List Expr} {ta : TE} {t : TA}
/-- f() with the wish at the slots -/
theorem pe_callZ (F : FnOk X.prog X.w X.K X.mg X.base CX k f fd ps sp) (hr : Room k X.A) (hg : Gl X x) (hm : X.mg x = some (.ref f)) (hk : PySem.W.keepIn X.K (.ref f) = true) (hb : Binds X.K fd ps []) (hx : ∀ σ, PassesAt CX X σ (E σ))
    (hdb : (x == ("__debug__" : Str)) = false := by decide) : PE X (.Call (.Name x p) [] [] pos) (tCallS sp E tNil) :=
  ⟨fun pins s σ H Q I h => wpAny_Call_Name_kw (ld_glob I hg hm (PySem.W.callWith_K0 I.kIn hk (run_fnS (us := []) F hr hb (hx σ) I .nil h)) hdb)⟩
def tMethZ (C : Addr) (m : Str) (sp : Sp) (E : L2.St → XK) (ta : TE) (t : TA) : TE := fun σ H Q => ta σ H fun x H1 => ∃ a dx fs, x = .ref a ∧ H1 a = some (.ins C dx fs) ∧ fs.lookup m = none ∧
  t σ H1 fun vs H2 => sp (x :: vs) H2 Q (E σ)
theorem pe_methZ {pl : Sem Bool} (he : PE X o ta) (c : Cls X.K C) (hm : Meth X.K C m f) (F : FnOk X.prog X.w X.K X.mg X.base CX k f fd ps sp) (hr : Room k X.A) (hb : Binds X.K fd ps []) (hx : ∀ σ, PassesAt CX X σ (E σ)) (ha : PA X (e :: es) t)
    (hst : starEach (e :: es) X.env = (false, eval e X.env) :: starEach es X.env := by rfl) (hpl : (backTo pos (starEach es X.env)).any (·.1) = false := by rfl)
    (ht : eval (.Call (.Attribute o m apos) (e :: es) [] pos) X.env = (do
      let ov ← eval o X.env
      standAt apos.atName
      let (f, first) ← holding [ov] (getMethod ov m pl)
      callWith pos f first (backTo pos (starEach (e :: es) X.env)) (backToKw pos (keywordEach [] X.env))) := by rfl) :
    PE X (.Call (.Attribute o m apos) (e :: es) [] pos) (tMethZ C m sp E ta t) :=
  ⟨fun pins s σ H Q I h => PySem.W.methodCall_KW (pl := pl) (thn (he.run pins s σ H _ I h) fun u s1 ⟨x, H1, I1, rx, a, dx, fs, ex, ea, l, q⟩ => by
    cases ex
    cases rx
    exact getmeth_ok I1 ea c hm l (PySem.W.callWith_K (first := [.ref a]) (h₀ := X.base) I.ok.mod.kin hm.kp (thn (ha.run pos pins s1 σ H1 _ I1 q) fun us s2 ⟨vs, H2, I2, r, q2⟩ =>
      ⟨I2.kIn, run_fnS (us := .ref a :: us) (vs := .ref a :: vs) F hr hb (hx σ) I2 (.cons rfl r) q2⟩) hst hpl)) ht⟩
theorem pe_methZ0 {pl : Sem Bool} (he : PE X o ta) (c : Cls X.K C) (hm : Meth X.K C m f) (F : FnOk X.prog X.w X.K X.mg X.base CX k f fd ps sp) (hr : Room k X.A) (hb : Binds X.K fd ps []) (hx : ∀ σ, PassesAt CX X σ (E σ))
    (ht : eval (.Call (.Attribute o m apos) [] [] pos) X.env = (do
      let ov ← eval o X.env
      standAt apos.atName
      let (f, first) ← holding [ov] (getMethod ov m pl)
      callWith pos f first (backTo pos (starEach [] X.env)) (backToKw pos (keywordEach [] X.env))) := by rfl) :
    PE X (.Call (.Attribute o m apos) [] [] pos) (tMethZ C m sp E ta tNil) :=
  ⟨fun pins s σ H Q I h => PySem.W.methodCall_KW (pl := pl) (thn (he.run pins s σ H _ I h) fun u s1 ⟨x, H1, I1, rx, a, dx, fs, ex, ea, l, q⟩ => by
    cases ex
    cases rx
    exact getmeth_ok I1 ea c hm l (PySem.W.callWith_K0 (first := [.ref a]) I1.kIn hm.kp (run_fnS (us := [.ref a]) (vs := [.ref a]) F hr hb (hx σ) I1 (.cons rfl .nil) q))) ht⟩
def tMakeZ (C : Addr) (sp : Sp) (E : L2.St → XK) (t : TA) : TE := fun σ H Q => t σ H fun vs H1 => ∀ x dx, H1 x = none → H1 dx = none → dx ≠ x →
  sp (.ref x :: vs) (upd (upd H1 dx (.own x)) x (.ins C dx [])) (fun v H2 => v = .non ∧ Q (.ref x) H2) (E σ)
theorem run_makeZ {pins : List (Addr × Obj)} {σ : L2.St} {H : Hp} {s : Shared} {Q : VK} {us : List Value} {vs : List V} (M : Mk X.K C f) (F : FnOk X.prog X.w X.K X.mg X.base CX k f fd ps sp) (hr : Room (k + 1) X.A) (hb : Binds X.K fd ps [])
    (hx : PassesAt CX X σ (E σ)) (I : Inv X pins σ H s) (r : Vals vs us)
    (h : ∀ x dx, H x = none → H dx = none → dx ≠ x → sp (.ref x :: vs) (upd (upd H dx (.own x)) x (.ins C dx [])) (fun v H2 => v = .non ∧ Q (.ref x) H2) (E σ)) :
    wpAny (model X.prog X.w) X.A (call (.ref C) us) (EP X pins σ Q) X.xe s := by
  have hq := h (s.heap.objs.size + 1) s.heap.objs.size (I.hok.fresh (Nat.le_succ _)) (I.hok.fresh (Nat.le_refl _)) (Nat.ne_of_lt (Nat.lt_succ_self _))
  have J := Inv.made (C := C) I
  have rr : Vals (V.ref (s.heap.objs.size + 1) :: vs) (Value.ref (s.heap.objs.size + 1) :: us) := .cons rfl r
  have hl : (Value.ref (s.heap.objs.size + 1) :: us).length = ps.length := by rw [← rr.length]; exact F.len _ _ _ _ hq
  have bb := hb _ (Value.ref (s.heap.objs.size + 1) :: us) J.kIn (by rw [List.append_nil]; exact hl)
  rw [List.append_nil] at bb
  refine wpAny_call (make_map (f := f) I.kIn M.makes M.init (beq_iff_eq.mp M.fn) (codeAny_mono (F.run _ X.stack _ _ ⟨Value.ref (s.heap.objs.size + 1) :: us, []⟩ (Value.ref (s.heap.objs.size + 1) :: us) _ _ (E σ) (hr.make C us [])
    (J.env0.make C us []) bb rr hq) fun z s' hz => ?_))
  cases z with
  | error e => exact hx pins _ _ e s' J hz
  | ok fl =>
    cases fl with
    | ret u =>
      obtain ⟨v, H', J', rv, ev, q3⟩ := J.after hz
      cases ev
      exact ⟨rv, ⟨V.ref (s.heap.objs.size + 1), H', J', rfl, q3⟩⟩
    | next => exact hz.elim
    | brk => exact hz.elim
    | cont => exact hz.elim
theorem pe_makeZ (M : Mk X.K C f) (F : FnOk X.prog X.w X.K X.mg X.base CX k f fd ps sp) (hr : Room (k + 1) X.A) (hg : Gl X x) (hm : X.mg x = some (.ref C)) (hb : Binds X.K fd ps []) (hx : ∀ σ, PassesAt CX X σ (E σ))
    (ha : PA X (e :: es) t) (hdb : (x == ("__debug__" : Str)) = false := by decide) (he : starEach (e :: es) X.env = (false, eval e X.env) :: starEach es X.env := by rfl) (hpl : (backTo pos (starEach es X.env)).any (·.1) = false := by rfl) :
    PE X (.Call (.Name x p) (e :: es) [] pos) (tMakeZ C sp E t) :=
  ⟨fun pins s σ H Q I h => wpAny_Call_Name_kw (ld_glob I hg hm (PySem.W.callWith_K (h₀ := X.base) I.ok.mod.kin M.kp (thn (ha.run pos pins s σ H _ I h) fun us s1 ⟨vs, H1, I1, r, q⟩ => ⟨I1.kIn, run_makeZ M F hr hb (hx σ) I1 r q⟩) he hpl) hdb)⟩
theorem pe_makeZ0 (M : Mk X.K C f) (F : FnOk X.prog X.w X.K X.mg X.base CX k f fd ps sp) (hr : Room (k + 1) X.A) (hg : Gl X x) (hm : X.mg x = some (.ref C)) (hb : Binds X.K fd ps []) (hx : ∀ σ, PassesAt CX X σ (E σ))
    (hdb : (x == ("__debug__" : Str)) = false := by decide) : PE X (.Call (.Name x p) [] [] pos) (tMakeZ C sp E tNil) :=
  ⟨fun pins s σ H Q I h => wpAny_Call_Name_kw (ld_glob I hg hm (PySem.W.callWith_K0 I.kIn M.kp (run_makeZ (us := []) M F hr hb (hx σ) I .nil h)) hdb)⟩
end
end L2
namespace Mv
open PySem PySem.Spec PyProof.Rows L2
/-! ### what a def promises -/
abbrev FM := List (Fl × D) → Store → Rs (D × Fl)
def spM (K : PySem.W.Frag) (ct : CT) (np : Nat) (m : FM) : Sp := fun vs H Q E => vs.length = np ∧ ∃ as S io M0, ArgsOk K M0 (fun _ => False) io H as vs ∧ StoOk K ct M0 io S H ∧ (∀ a, M0 a → ∃ o, H a = some o ∧ NI o) ∧
  match m as S with
  | .ok x S' => ∀ v io' H', Stp ct io H io' H' → ResOk K ct M0 (fun _ => False) H io' S' H' x.2 x.1 v → Q v H'
  | .er c p S' => ∀ dx io' H', Stp ct io H io' H' → StoOk K ct M0 io' S' H' → ErrOk K (ct.fd c) io' H' p dx → E (.ref (ct.ad c)) dx H'
  | .no => False
def startE (as : List (Fl × D)) (N : Nat) : Env := as.map (fun x => .ar x.1 x.2) ++ List.replicate (N - as.length) .no
def fnM (N : Nat) (b : SM) : FM := fun as S => match b (startE as N) S with
  | .rt d f S' => .ok (d, f) S'
  | .nx _ S' => .ok (.non, .c) S'
  | .er c p _ S' => .er c p S'
  | _ => .no
section
variable {P : Program} {w : World} {K : PySem.W.Frag} {mg : Str → Option Value} {base : Heap} {ct : CT}
theorem noMown {as : List (Fl × D)} {n : Nat} {s : St} {M0 : Addr → Prop} {H : Hp} {io : List Addr} {a : Addr} : ¬ Mown ⟨M0, H, io, [], fun _ => False, fun _ _ => False⟩ (startE as n) s a := fun z => by
  rcases z with z | ⟨i, d, h, _⟩
  · exact z
  · unfold startE at h
    have h := List.mem_of_getElem? h
    simp at h
theorem ok_start {N : Nat} {as : List (Fl × D)} {vs : List V} {S : Store} {io : List Addr} {M0 : Addr → Prop} {H : Hp} {ns : List Str} (hn : ns.length = N) (hl : vs.length ≤ N) (o : ArgsOk K M0 (fun _ => False) io H as vs) (q : StoOk K ct M0 io S H) (m : ∀ a, M0 a → ∃ o, H a = some o ∧ NI o) :
    Ok K ct ⟨M0, H, io, [], fun _ => False, fun _ _ => False⟩ (startE as N) S io (L2.start ns vs) H := by
  have e : as.length = vs.length := Paired.length o
  have ma : ∀ a, Mall ⟨M0, H, io, [], fun _ => False, fun _ _ => False⟩ (startE as N) (L2.start ns vs) a → M0 a := fun a z => z.elim id fun z => absurd z noMown
  refine ⟨?_, fun i f d h => ?_, fun i d h => ?_, fun i j d e a h => ?_, q.anti ma, Stp.refl, m, fun _ z => z.elim, (fun _ h => nomatch h), ⟨fun _ _ z => z.elim, fun _ _ _ z => z.elim, fun i b d h => by
    exfalso
    unfold startE at h
    have h := List.mem_of_getElem? h
    simp at h⟩⟩
  · unfold startE L2.start
    simp [hn, e]
  · unfold startE at h
    rcases Nat.lt_or_ge i as.length with hi | hi
    · rw [List.getElem?_append_left (by simpa using hi), List.getElem?_map] at h
      obtain ⟨p, hp, e2⟩ := Option.map_eq_some_iff.mp h
      cases e2
      obtain ⟨v, h1, h2⟩ := paired_get o hp
      refine ⟨v, ?_, ?_⟩
      · unfold L2.start
        rw [List.getElem?_append_left (by simp; omega), List.getElem?_map, h1]
        rfl
      · have an : ∀ {d v}, Rep K M0 io H d v → Rep K (Mall ⟨M0, H, io, [], fun _ => False, fun _ _ => False⟩ (startE as N) (L2.start ns vs)) io H d v := fun h => h.anti ma
        have go : (Rep K M0 io H p.2 v ∨ ∃ a, v = .ref a ∧ OwnAt K M0 io H p.2 a) → (Rep K (Mall ⟨M0, H, io, [], fun _ => False, fun _ _ => False⟩ (startE as N) (L2.start ns vs)) io H p.2 v ∨ ∃ a, v = .ref a ∧ OwnAt K (Mall ⟨M0, H, io, [], fun _ => False, fun _ _ => False⟩ (startE as N) (L2.start ns vs)) io H p.2 a ∧ ¬ Mown ⟨M0, H, io, [], fun _ => False, fun _ _ => False⟩ (startE as N) (L2.start ns vs) a) :=
          fun h => h.elim (fun h => .inl (an h)) fun ⟨a, e, h⟩ => .inr ⟨a, e, h.anti ma, noMown⟩
        cases hf : p.1 with
        | c => rw [hf] at h2; exact an h2
        | n => rw [hf] at h2; exact an h2
        | b => rw [hf] at h2; exact go (h2.elim .inl fun ⟨a, e, h, _⟩ => .inr ⟨a, e, h⟩)
        | o => rw [hf] at h2; exact go h2
        | t => rw [hf] at h2; exact Rep.anti (fun a z => noMown z) h2
    · rw [List.getElem?_append_right (by simpa using hi), List.getElem?_replicate] at h
      split at h <;> cases h
  · exfalso
    unfold startE at h
    have h := List.mem_of_getElem? h
    simp at h
  · unfold startE at h
    have h := List.mem_of_getElem? h
    simp at h
theorem fn_ok {x qual : Str} {st : Stmt} {f : Addr} {fd : FuncData} {N ps : List Str} {k : Nat} {b : SM} (F : Fun K x qual st f fd) (Sc : FnScope N ps (defScope st))
    (hbody : ∀ (cdv : Value) (A : Around) (outer : List PySem.Env) (s : Shared) (H : Hp) (E : XK), Room k (A.deeper (envOfC qual (defScope st) s.heap.objs.size f cdv)) →
      MSs (cxOf (L2.CX P w) P w K mg base N qual (defScope st) f cdv A outer s H E) ct (defBody st) b) : FnOk P w K mg base (L2.CX P w) (k + 1) f fd ps (spM K ct ps.length (fnM N.length b)) := by
  refine F.okX Sc (fun vs H Q E h => h.1) fun cdv A outer s H vs Q E hr h => ?_
  obtain ⟨hl, as, S, io, M0, o, q, m, h⟩ := h
  have hpl : ps.length ≤ N.length := by
    have z := congrArg List.length Sc.pre
    rw [List.length_take] at z
    omega
  refine ⟨_, (hbody cdv A outer s H E hr).run ⟨M0, H, io, [], fun _ => False, fun _ _ => False⟩ (fun cls d _ H => E cls d H) (takes_of rfl rfl rfl rfl) (passes_of rfl), startE as N.length, S, io, ok_start rfl (by omega) o q m, ?_⟩
  unfold fnM at h
  cases e : b (startE as N.length) S with
  | rt d f S' => rw [e] at h; exact h
  | nx r' S' =>
    rw [e] at h
    exact fun s' io' H' k' => h .non io' H' k'.stp (ResOk.sc (f := .c) (by simp) .non (k'.sto.anti fun a z => .inl z))
  | er c p r' S' =>
    rw [e] at h
    exact fun dx s' io' H' k' eo => h dx io' H' k'.stp (k'.sto.anti fun a z => .inl z) eo
  | bk r' S' => rw [e] at h; exact h.elim
  | ct r' S' => rw [e] at h; exact h.elim
  | no => rw [e] at h; exact h.elim
end
/-! ### calls -/
section
variable {X : Cx} {ct : CT} {pos : Pos}
theorem RepF.noN {K : PySem.W.Frag} {M N : Addr → Prop} {io : List Addr} {H : Hp} {f : Fl} {d : D} {v : V} (h : RepF K M N io H f d v) : RepF K M (fun _ => False) io H f d v := by
  cases f with
  | c => exact h
  | n => exact h
  | b => exact h.elim .inl fun ⟨a, e, z, _⟩ => .inr ⟨a, e, z, fun z => z⟩
  | o => exact h
  | t => exact h
def eFn (np : Nat) (m : FM) (t : AM) : EM := fun r S => (t r S).bind fun as S1 => if as.length = np then (m as S1).bind fun x S2 => .ok (x.1, outf x.2) S2 else .no
theorem sp_go {np : Nat} {m : FM} {G : Gx} {W : WX} {r : Env} {S : Store} {io : List Addr} {s : St} {H : Hp} {as : List (Fl × D)} {vs : List V} {P : D × Fl → Store → List Addr → Hp → Prop} {Q : VK} (k : Ok X.K ct G r S io s H)
    (o : ArgsOk X.K (Mall G r s) (Mown G r s) io H as vs) (h : Res X.K ct W (Mall G r s) s io H (if as.length = np then (m as S).bind fun x S2 => .ok (x.1, outf x.2) S2 else .no) P)
    (q : ∀ x S' v io' H', Stp ct io H io' H' → ResOk X.K ct (Mall G r s) (Mown G r s) H io' S' H' x.2 x.1 v → P x S' io' H' → Q v H') : spM X.K ct np m vs H Q (WE W s) := by
  split at h
  · rename_i hl
    refine ⟨by rw [← hl]; exact (Paired.length o).symm, as, S, io, Mall G r s, Paired.mapP o fun _ _ z => z.noN, k.sto, k.mdom, ?_⟩
    cases e : m as S with
    | ok x S' =>
      rw [e] at h
      exact fun v io' H' t z => q _ S' v io' H' t z.outf (h io' H' t z.sto)
    | er c p S' =>
      rw [e] at h
      exact h
    | no =>
      rw [e] at h
      exact h
  · exact h.elim
theorem fncall_go {np : Nat} {m : FM} {t : AM} {G : Gx} {W : WX} {s : St} {H : Hp} {Q : VK} (h : tE X.K ct G W (eFn np m t) s H Q) : tCallS (spM X.K ct np m) (WE W) (tA X.K ct G W t) s H Q := by
  obtain ⟨r, S, io, k, h⟩ := h
  refine ⟨r, S, io, k, Res.first h fun as S1 io1 H1 e1 t1 q1 h1 vs o => ?_⟩
  exact sp_go (k.step t1 q1) o h1 fun x S' v io' H' t' z p => p v (z.back fun a y => t1.free y)
/-- a def of the text: where it stands, what it promises -/
structure FnG (P : Program) (w : World) (K : PySem.W.Frag) (mg : Str → Option Value) (base : Heap) (ct : CT) (k : Nat) (x : Str) (np : Nat) (m : FM) : Prop where
  ex : ∃ (f : Addr) (fd : FuncData) (ps : List Str), FnOk P w K mg base (L2.CX P w) k f fd ps (spM K ct np m) ∧ mg x = some (.ref f) ∧ PySem.W.keepIn K (.ref f) = true ∧ Binds K fd ps []
abbrev FnT (X : Cx) (ct : CT) (k : Nat) (x : Str) (np : Nat) (m : FM) : Prop := FnG X.prog X.w X.K X.mg X.base ct k x np m
theorem me_call {x : Str} {p : Pos} {e : Expr} {es : List Expr} {k np : Nat} {m : FM} {t : AM} (F : FnT X ct k x np m) (hr : Room k X.A) (hg : Gl X x) (ha : MA X ct (e :: es) t)
    (hdb : (x == ("__debug__" : Str)) = false := by decide) (he : starEach (e :: es) X.env = (false, eval e X.env) :: starEach es X.env := by rfl) (hpl : (backTo pos (starEach es X.env)).any (·.1) = false := by rfl) :
    ME X ct (.Call (.Name x p) (e :: es) [] pos) (eFn np m t) := by
  obtain ⟨f, fd, ps, F, hm, hk, hb⟩ := F.ex
  exact ⟨fun G W tk => (pe_callS F hr hg hm hk hb (passAt tk) (ha.run G W tk) hdb he hpl).imp fun s H Q h => fncall_go h⟩
theorem me_call0 {x : Str} {p : Pos} {k np : Nat} {m : FM} (F : FnT X ct k x np m) (hr : Room k X.A) (hg : Gl X x) (hdb : (x == ("__debug__" : Str)) = false := by decide) : ME X ct (.Call (.Name x p) [] [] pos) (eFn np m aNil) := by
  obtain ⟨f, fd, ps, F, hm, hk, hb⟩ := F.ex
  refine ⟨fun G W tk => (pe_callZ F hr hg hm hk hb (passAt tk) hdb).imp fun s H Q h => ?_⟩
  obtain ⟨r, S, io, k, h⟩ := fncall_go h
  exact h.here k.sto [] .nil
/-- a method of the class number C -/
structure MeG (P : Program) (w : World) (K : PySem.W.Frag) (mg : Str → Option Value) (base : Heap) (ct : CT) (k C : Nat) (x : Str) (np : Nat) (m : FM) : Prop where
  ex : ∃ (f : Addr) (fd : FuncData) (ps : List Str), FnOk P w K mg base (L2.CX P w) k f fd ps (spM K ct np m) ∧ Cls K (ct.ad C) ∧ Meth K (ct.ad C) x f ∧ Binds K fd ps [] ∧ x ∉ ct.fd C ∧ ct.ex C = false
abbrev MeT (X : Cx) (ct : CT) (k C : Nat) (x : Str) (np : Nat) (m : FM) : Prop := MeG X.prog X.w X.K X.mg X.base ct k C x np m
theorem MeG.mono {P : Program} {w : World} {K : PySem.W.Frag} {mg : Str → Option Value} {base : Heap} {ct : CT} {j k C : Nat} {x : Str} {np : Nat} {m : FM} (h : MeG P w K mg base ct j C x np m) (l : j ≤ k) : MeG P w K mg base ct k C x np m := by
  obtain ⟨f, fd, ps, F, r⟩ := h.ex
  exact ⟨f, fd, ps, F.mono l, r⟩
def eMe (np : Nat) (tab : Nat → Option FM) (mo : EM) (t : AM) : EM := fun r S => match mo r S with
  | .ok (.ins n, _) S1 => match S1[n]? with
    | some (C, _) => match tab C with
      | some m => (t r S1).bind fun as S2 => if (as.length + 1) = np then (m ((.c, .ins n) :: as) S2).bind fun x S3 => .ok (x.1, outf x.2) S3 else .no
      | none => .no
    | none => .no
  | _ => .no
theorem lookup_none_of {n : Str} {gs : List (Str × V)} {ns : List Str} {k : Nat} (h : gs.map Prod.fst = ns.take k) (z : n ∉ ns) : gs.lookup n = none := by
  cases e : gs.lookup n with
  | none => rfl
  | some v =>
    have q : n ∈ gs.map Prod.fst := List.mem_map.mpr ⟨(n, v), PySem.mem_of_lookup e, rfl⟩
    rw [h] at q
    exact absurd (List.mem_of_mem_take q) z
theorem ins_of {K : PySem.W.Frag} {M N : Addr → Prop} {io : List Addr} {H : Hp} {f : Fl} {n : Nat} {v : V} (h : RepF K M N io H f (.ins n) v) : ∃ a, v = .ref a ∧ io[n]? = some a := by
  have q := h.weak
  cases q with
  | ins e => exact ⟨_, rfl, e⟩
theorem meth_go {np : Nat} {tab : Nat → Option FM} {mo : EM} {t : AM} {x : Str} {G : Gx} {W : WX} {s : St} {H : Hp} {Q : VK} (hx : ∀ C m, tab C = some m → x ∉ ct.fd C ∧ ct.ex C = false) (h : tE X.K ct G W (eMe np tab mo t) s H Q) :
    ∃ z : {z : Nat × FM // tab z.1 = some z.2}, tMethZ (ct.ad z.1.1) x (spM X.K ct np z.1.2) (WE W) (tE X.K ct G W mo) (tA X.K ct G W t) s H Q := by
  obtain ⟨r, S, io, k, h⟩ := h
  unfold eMe at h
  split at h
  · rename_i n fl S1 e
    split at h
    · rename_i C vs0 e2
      split at h
      · rename_i m e3
        refine ⟨⟨(C, m), e3⟩, r, S, io, k, ?_⟩
        rw [e]
        intro io1 H1 t1 q1 v o
        obtain ⟨a, ev, ea⟩ := ins_of o.repF
        obtain ⟨a', dx, gs, h1, h2, h3⟩ := q1.at_ n C vs0 e2 (hx C m e3).2
        rw [ea] at h1
        cases h1
        refine ⟨a, dx, gs, ev, h2, lookup_none_of h3.1 (hx C m e3).1, r, S1, io1, k.step t1 q1, Res.first (h.shift t1) fun as S2 io2 H2 e5 t2 q2 h5 vs o2 => ?_⟩
        have k2 := (k.step t1 q1).step t2 q2
        refine sp_go (as := (.c, .ins n) :: as) k2 (.cons (by rw [ev]; exact Rep.ins (io_get t2.pre ea)) o2) h5 fun x S' v io' H' t' z p => p v (z.back fun a y => t1.free (t2.free y))
      · exact h.elim
    · exact h.elim
  · exact h.elim
theorem me_meth {x : Str} {o e : Expr} {es : List Expr} {apos : Pos} {k np : Nat} {tab : Nat → Option FM} {mo : EM} {t : AM} {pl : Sem Bool} (ho : ME X ct o mo) (T : ∀ C m, tab C = some m → MeT X ct k C x np m) (hr : Room k X.A) (ha : MA X ct (e :: es) t)
    (hst : starEach (e :: es) X.env = (false, eval e X.env) :: starEach es X.env := by rfl) (hpl : (backTo pos (starEach es X.env)).any (·.1) = false := by rfl)
    (ht : eval (.Call (.Attribute o x apos) (e :: es) [] pos) X.env = (do
      let ov ← eval o X.env
      standAt apos.atName
      let (f, first) ← holding [ov] (getMethod ov x pl)
      callWith pos f first (backTo pos (starEach (e :: es) X.env)) (backToKw pos (keywordEach [] X.env))) := by rfl) :
    ME X ct (.Call (.Attribute o x apos) (e :: es) [] pos) (eMe np tab mo t) :=
  ⟨fun G W tk => (PE.ex fun z : {z : Nat × FM // tab z.1 = some z.2} => show PE X _ (tMethZ (ct.ad z.1.1) x (spM X.K ct np z.1.2) (WE W) (tE X.K ct G W mo) (tA X.K ct G W t)) by
    obtain ⟨f, fd, ps, F, c, hm, hb, _⟩ := (T z.1.1 z.1.2 z.2).ex
    exact pe_methZ (ho.run G W tk) c hm F hr hb (passAt tk) (ha.run G W tk) hst hpl ht).imp fun s H Q h => meth_go (fun C m e => by
      obtain ⟨_, _, _, _, _, _, _, z⟩ := (T C m e).ex
      exact z) h⟩
theorem me_meth0 {x : Str} {o : Expr} {apos : Pos} {k np : Nat} {tab : Nat → Option FM} {mo : EM} {pl : Sem Bool} (ho : ME X ct o mo) (T : ∀ C m, tab C = some m → MeT X ct k C x np m) (hr : Room k X.A)
    (ht : eval (.Call (.Attribute o x apos) [] [] pos) X.env = (do
      let ov ← eval o X.env
      standAt apos.atName
      let (f, first) ← holding [ov] (getMethod ov x pl)
      callWith pos f first (backTo pos (starEach [] X.env)) (backToKw pos (keywordEach [] X.env))) := by rfl) :
    ME X ct (.Call (.Attribute o x apos) [] [] pos) (eMe np tab mo aNil) :=
  ⟨fun G W tk => (PE.ex fun z : {z : Nat × FM // tab z.1 = some z.2} => show PE X _ (tMethZ (ct.ad z.1.1) x (spM X.K ct np z.1.2) (WE W) (tE X.K ct G W mo) tNil) by
    obtain ⟨f, fd, ps, F, c, hm, hb, _⟩ := (T z.1.1 z.1.2 z.2).ex
    exact pe_methZ0 (ho.run G W tk) c hm F hr hb (passAt tk) ht).imp fun s H Q h => by
      obtain ⟨z, r, S, io, k, h⟩ := meth_go (fun C m e => by
        obtain ⟨_, _, _, _, _, _, _, z⟩ := (T C m e).ex
        exact z) h
      refine ⟨z, r, S, io, k, Res.imp h fun x S1 io1 H1 t1 q1 h1 v o => ?_⟩
      obtain ⟨a, dx, gs, e1, e2, e3, r2, S2, io2, k2, h2⟩ := h1 v o
      exact ⟨a, dx, gs, e1, e2, e3, h2.here k2.sto [] .nil⟩⟩
/-- o.f -/
def eFld (cs : List Nat) (i : Nat) (mo : EM) : EM := fun r S => (mo r S).bind fun o S1 => match o.1 with
  | .ins n => match S1[n]? with
    | some (C, vs) => if cs.contains C then (match vs[i]? with
      | some d => .ok (d, .c) S1
      | none => .no) else .no
    | none => .no
  | _ => .no
structure FdT (K : PySem.W.Frag) (ct : CT) (f : Str) (i C : Nat) : Prop where
  cl : Cls K (ct.ad C)
  na : NoAttr K (ct.ad C) f
  ix : (ct.fd C)[i]? = some f
  nd : (ct.fd C).Nodup
  nx : ct.ex C = false := by rfl
theorem lookup_nodup {f : Str} {v : V} : ∀ {gs : List (Str × V)} {i : Nat}, (gs.map Prod.fst).Nodup → gs[i]? = some (f, v) → gs.lookup f = some v
  | [], _, _, h => by simp at h
  | (g, w) :: gs, 0, _, h => by
    simp at h
    rw [List.lookup_cons, h.1]
    simp [h.2]
  | (g, w) :: gs, i + 1, nd, h => by
    rw [List.map_cons, List.nodup_cons] at nd
    have h' : gs[i]? = some (f, v) := by simpa using h
    have ne : (f == g) = false := by
      refine beq_false_of_ne fun z => nd.1 ?_
      rw [← z]
      exact List.mem_map.mpr ⟨(f, v), List.mem_of_getElem? h', rfl⟩
    rw [List.lookup_cons, ne]
    exact lookup_nodup nd.2 h'
theorem FldOk.look {K : PySem.W.Frag} {M : Addr → Prop} {io : List Addr} {H : Hp} {ns : List Str} {fs : List D} {gs : List (Str × V)} {i : Nat} {f : Str} {d : D} (h : FldOk K M io H ns fs gs) (nd : ns.Nodup) (hi : ns[i]? = some f) (hd : fs[i]? = some d) :
    ∃ v, gs.lookup f = some v ∧ Rep K M io H d v := by
  obtain ⟨v, h1, h2⟩ := h.2.get hd
  rw [List.getElem?_map] at h1
  obtain ⟨p, hp, e⟩ := Option.map_eq_some_iff.mp h1
  refine ⟨v, lookup_nodup (i := i) ?_ ?_, h2⟩
  · rw [h.1]
    exact nd.sublist (List.take_sublist _ _)
  · have q : (gs.map Prod.fst)[i]? = some f := by
      rw [h.1, List.getElem?_take_of_lt (List.getElem?_eq_some_iff.mp hd).1]
      exact hi
    rw [List.getElem?_map, hp] at q
    have q := Option.some.inj q
    rw [hp, ← e, ← q]
theorem me_fld {o : Expr} {f : Str} {cs : List Nat} {i : Nat} {mo : EM} (ho : ME X ct o mo) (T : ∀ C ∈ cs, FdT X.K ct f i C) (hb : attributeBase o f X.env (eval o X.env) = eval o X.env := by rfl) : ME X ct (.Attribute o f pos) (eFld cs i mo) :=
  ⟨fun G W tk => (pe_fld (ho.run G W tk) hb).imp fun s H Q ⟨r, S, io, k, h⟩ => ⟨r, S, io, k, Res.first h fun o S1 io1 H1 e1 t1 q1 h1 v ov => by
    split at h1
    · rename_i n e
      have o2 := ov.repF
      rw [e] at o2
      obtain ⟨a, ev, ea⟩ := ins_of o2
      split at h1
      · rename_i C vs e2
        split at h1
        · rename_i hc
          obtain ⟨a', dx, gs, y1, y2, y3⟩ := q1.at_ n C vs e2 (T C (by simpa using hc)).nx
          rw [ea] at y1
          cases y1
          split at h1
          · rename_i d e3
            have T := T C (by simpa using hc)
            obtain ⟨w, z1, z2⟩ := y3.look T.nd T.ix e3
            exact ⟨a, _, dx, gs, w, ev, y2, T.cl, T.na, z1, h1.here q1 w (ResOk.mk (f := .c) (by simp) z2 q1)⟩
          · exact h1.elim
        · exact h1.elim
      · exact h1.elim
    · exact h1.elim⟩⟩
/-- C(..) -/
structure MkG (P : Program) (w : World) (K : PySem.W.Frag) (mg : Str → Option Value) (base : Heap) (ct : CT) (k C : Nat) (x : Str) (np : Nat) (m : FM) : Prop where
  ex : ∃ (f : Addr) (fd : FuncData) (ps : List Str), FnOk P w K mg base (L2.CX P w) k f fd ps (spM K ct np m) ∧ Mk K (ct.ad C) f ∧ mg x = some (.ref (ct.ad C)) ∧ Binds K fd ps [] ∧ ct.ex C = false
abbrev MkT (X : Cx) (ct : CT) (k C : Nat) (x : Str) (np : Nat) (m : FM) : Prop := MkG X.prog X.w X.K X.mg X.base ct k C x np m
def eNew (C np : Nat) (m : FM) (t : AM) : EM := fun r S => (t r S).bind fun as S1 => if as.length + 1 = np then (m ((.c, .ins S1.length) :: as) (S1 ++ [(C, [])])).bind fun x S2 => match x.1 with
  | .non => .ok (.ins S1.length, .c) S2
  | _ => .no else .no
theorem made_sto {K : PySem.W.Frag} {M : Addr → Prop} {io : List Addr} {S : Store} {H : Hp} {C : Nat} {x dx : Addr} (q : StoOk K ct M io S H) (ne0 : ct.ex C = false) (hx : H x = none) (hd : H dx = none) (ne : dx ≠ x) :
    Stp ct io H (io ++ [x]) (upd (upd H dx (.own x)) x (.ins (ct.ad C) dx [])) ∧ StoOk K ct M (io ++ [x]) (S ++ [(C, [])]) (upd (upd H dx (.own x)) x (.ins (ct.ad C) dx [])) := by
  have hx' : upd H dx (.own x) x = none := by rw [upd_ne (Ne.symm ne)]; exact hx
  have t0 : Stp ct io H io (upd (upd H dx (.own x)) x (.ins (ct.ad C) dx [])) := (Stp.upd hd).trans (Stp.upd hx')
  have nx : x ∉ io := fun z => by
    obtain ⟨i, hi, e⟩ := List.getElem_of_mem z
    have hS : i < S.length := by rw [q.len]; exact hi
    obtain ⟨b, o', h1, h2⟩ := q.io_at hS
    rw [List.getElem?_eq_getElem hi, e] at h1
    cases h1
    rw [hx] at h2
    cases h2
  have t : Stp ct io H (io ++ [x]) (upd (upd H dx (.own x)) x (.ins (ct.ad C) dx [])) := ⟨t0.k1, t0.k2, ⟨[x], rfl⟩, fun a h n => by
    rcases List.mem_append.mp h with h | h
    · exact absurd h n
    · rw [List.mem_singleton.mp h]
      exact hx, t0.dom, t0.k3⟩
  refine ⟨t, by simp [q.len], fun n C' fs e x' => ?_, fun n C' fs e x' => ?_, ?_, tabs_mono (M := fun _ => False) q.tb t.kp fun a ps e => by rw [upd_ne (ne_of_none e hx), upd_ne (ne_of_none e hd)]; exact e⟩
  · rcases Nat.lt_or_ge n S.length with hn | hn
    · rw [List.getElem?_append_left hn] at e
      obtain ⟨a, dx', gs, h1, h2, h3, h4⟩ := q.at_ n C' fs e x'
      refine ⟨a, dx', gs, by rw [List.getElem?_append_left (by rw [← q.len]; exact hn)]; exact h1, ?_, h3, h4.stp t⟩
      rw [upd_ne (ne_of_none h2 hx), upd_ne (ne_of_none h2 hd)]
      exact h2
    · rw [List.getElem?_append_right hn] at e
      have hn0 : n - S.length = 0 := by
        have := (List.getElem?_eq_some_iff.mp e).1
        simp at this
        omega
      rw [hn0] at e
      cases e
      refine ⟨x, dx, [], ?_, upd_same, rfl, .nil⟩
      rw [List.getElem?_append_right (by rw [← q.len]; exact hn), ← q.len, hn0]
      rfl
  · rcases Nat.lt_or_ge n S.length with hn | hn
    · rw [List.getElem?_append_left hn] at e
      obtain ⟨a, d, h1, h2, h3⟩ := q.ax n C' fs e x'
      refine ⟨a, d, by rw [List.getElem?_append_left (by rw [← q.len]; exact hn)]; exact h1, ?_, h3.mono (M := fun _ => False) t.kp t.pre⟩
      rw [upd_ne (ne_of_none h2 hx), upd_ne (ne_of_none h2 hd)]
      exact h2
    · rw [List.getElem?_append_right hn] at e
      have hn0 : n - S.length = 0 := by
        have := (List.getElem?_eq_some_iff.mp e).1
        simp at this
        omega
      rw [hn0] at e
      cases e
      rw [ne0] at x'
      cases x'
  · rw [List.nodup_append]
    refine ⟨q.nd, by simp, fun a ha b hb e => ?_⟩
    rw [List.mem_singleton.mp hb] at e
    exact nx (e ▸ ha)
theorem make_go {np C : Nat} {m : FM} {t : AM} {G : Gx} {W : WX} {s : St} {H : Hp} {Q : VK} (nx : ct.ex C = false) (h : tE X.K ct G W (eNew C np m t) s H Q) : tMakeZ (ct.ad C) (spM X.K ct np m) (WE W) (tA X.K ct G W t) s H Q := by
  obtain ⟨r, S, io, k, h⟩ := h
  refine ⟨r, S, io, k, Res.first h fun as S1 io1 H1 e1 t1 q1 h1 vs o x dx hx hd ne => ?_⟩
  have k1 := k.step t1 q1
  split at h1
  · rename_i hl
    obtain ⟨t2, q2⟩ := made_sto (C := C) q1 nx hx hd ne
    have k2 := k1.step t2 q2
    have hlen : vs.length = as.length := (Paired.length o).symm
    have ei : (io1 ++ [x])[S1.length]? = some x := by
      rw [List.getElem?_append_right (by rw [q1.len]; exact Nat.le_refl _), q1.len, Nat.sub_self]
      rfl
    refine ⟨by rw [List.length_cons, hlen]; exact hl, (.c, .ins S1.length) :: as, S1 ++ [(C, [])], io1 ++ [x], Mall G r s, .cons (Rep.ins ei) (Paired.mapP (o.stp t2) fun _ _ z => z.noN), q2, k2.mdom, ?_⟩
    have h1 := h1.shift t2
    cases e : m ((.c, .ins S1.length) :: as) (S1 ++ [(C, [])]) with
    | ok y S' =>
      rw [e] at h1
      have h1 : Res X.K ct W (Mall G r s) s (io1 ++ [x]) (upd (upd H1 dx (.own x)) x (.ins (ct.ad C) dx [])) (match y.1 with
        | .non => Rs.ok (D.ins S1.length, Fl.c) S'
        | _ => .no) _ := h1
      intro v io' H' t3 z
      split at h1
      · rename_i e4
        have o4 := z.repF
        rw [e4] at o4
        exact ⟨non_of o4, h1 io' H' t3 z.sto (.ref x) ⟨Rep.ins (io_get t3.pre ei), z.sto⟩⟩
      · exact h1.elim
    | er c p S' =>
      rw [e] at h1
      exact h1
    | no =>
      rw [e] at h1
      exact h1
  · exact h1.elim
theorem me_new {x : Str} {p : Pos} {e : Expr} {es : List Expr} {k C np : Nat} {m : FM} {t : AM} (F : MkT X ct k C x np m) (hr : Room (k + 1) X.A) (hg : Gl X x) (ha : MA X ct (e :: es) t)
    (hdb : (x == ("__debug__" : Str)) = false := by decide) (he : starEach (e :: es) X.env = (false, eval e X.env) :: starEach es X.env := by rfl) (hpl : (backTo pos (starEach es X.env)).any (·.1) = false := by rfl) :
    ME X ct (.Call (.Name x p) (e :: es) [] pos) (eNew C np m t) := by
  obtain ⟨f, fd, ps, F, M, hm, hb, nx⟩ := F.ex
  exact ⟨fun G W tk => (pe_makeZ M F hr hg hm hb (passAt tk) (ha.run G W tk) hdb he hpl).imp fun s H Q h => make_go nx h⟩
theorem me_new0 {x : Str} {p : Pos} {k C np : Nat} {m : FM} (F : MkT X ct k C x np m) (hr : Room (k + 1) X.A) (hg : Gl X x) (hdb : (x == ("__debug__" : Str)) = false := by decide) : ME X ct (.Call (.Name x p) [] [] pos) (eNew C np m aNil) := by
  obtain ⟨f, fd, ps, F, M, hm, hb, nx⟩ := F.ex
  refine ⟨fun G W tk => (pe_makeZ0 M F hr hg hm hb (passAt tk) hdb).imp fun s H Q h => ?_⟩
  obtain ⟨r, S, io, k, h⟩ := make_go nx h
  exact h.here k.sto [] .nil
end
/-! ### where the text's defs stand -/
section
variable {P : Program} {w : World} {K : PySem.W.Frag} {mg : Str → Option Value} {base : Heap} {ct : CT}
def FunO (K : PySem.W.Frag) (mg : Str → Option Value) (x : Str) (st : Stmt) (ps : List Str) : Prop := ∃ (f : Addr) (fd : FuncData), Fun K x x st f fd ∧ mg x = some (.ref f) ∧ ∀ us : List Value, us.length = ps.length → bindArgs fd ⟨us, []⟩ = pure (ps.zip us)
def MeO (K : PySem.W.Frag) (C : Addr) (x qual : Str) (st : Stmt) (ps : List Str) : Prop := ∃ (f : Addr) (fd : FuncData), Fun K x qual st f fd ∧ Meth K C x f ∧ Binds K fd ps []
def MkO (K : PySem.W.Frag) (mg : Str → Option Value) (C : Addr) (x qual : Str) (st : Stmt) (ps : List Str) : Prop := ∃ (f : Addr) (fd : FuncData), Fun K "__init__" qual st f fd ∧ Mk K C f ∧ mg x = some (.ref C) ∧ Binds K fd ps []
theorem FunO.mk' {x : Str} {st : Stmt} {ps : List Str} {f : Addr} {oc : Value} {od an : Option Addr} {osl : Array (Option Value)} {kV doc pm cdv ctv : Value} {h : Heap} (X : K.In h) (G : h.Ns mainGlobals mg) (a : PySem.W.nsIn K mainGlobals x = some (some (.ref f)))
    (l : K.lookup f = some ⟨oc, od, .func (PySem.W.fnOf x x (defArgs st) (defBody st) (defScope st) .none kV doc pm an cdv ctv), osl⟩) (c : PySem.W.codeIn K cdv x = true) (k : PySem.W.keepIn K (.ref f) = true)
    (hb : ∀ (kV doc pm : Value) (an : Option Addr) (cdv ct : Value) (us : List Value), us.length = ps.length → bindArgs (PySem.W.fnOf x x (defArgs st) (defBody st) (defScope st) .none kV doc pm an cdv ct) ⟨us, []⟩ = pure (ps.zip us)) : FunO K mg x st ps :=
  ⟨f, _, fun_mk l c k, PySem.W.mg_of X G a, hb kV doc pm an cdv ctv⟩
theorem MeO.mk' {C : Addr} {x qual : Str} {st : Stmt} {ps : List Str} {f : Addr} {oc : Value} {od an : Option Addr} {osl : Array (Option Value)} {kV doc pm cdv ctv : Value} (a : PySem.W.findIn K (.ref C) x = some (some (.ref f))) (i : PySem.W.isFn K (.ref f) = true)
    (l : K.lookup f = some ⟨oc, od, .func (PySem.W.fnOf x qual (defArgs st) (defBody st) (defScope st) .none kV doc pm an cdv ctv), osl⟩) (c : PySem.W.codeIn K cdv qual = true) (k : PySem.W.keepIn K (.ref f) = true)
    (hb : ∀ (kV doc pm : Value) (an : Option Addr) (cdv ct : Value) (us : List Value), us.length = ps.length → bindArgs (PySem.W.fnOf x qual (defArgs st) (defBody st) (defScope st) .none kV doc pm an cdv ct) ⟨us, []⟩ = pure (ps.zip us)) : MeO K C x qual st ps :=
  ⟨f, _, fun_mk l c k, ⟨a, i, k⟩, (fun_mk l c k).binds hb⟩
theorem MkO.mk' {C : Addr} {x qual : Str} {st : Stmt} {ps : List Str} {f : Addr} {oc : Value} {od an : Option Addr} {osl : Array (Option Value)} {kV doc pm cdv ctv : Value} {h : Heap} (X : K.In h) (G : h.Ns mainGlobals mg) (aC : PySem.W.nsIn K mainGlobals x = some (some (.ref C)))
    (mk : PySem.W.makesIn K C = true) (kc : PySem.W.keepIn K (.ref C) = true) (a : PySem.W.findIn K (.ref C) "__init__" = some (some (.ref f))) (i : PySem.W.isFn K (.ref f) = true)
    (l : K.lookup f = some ⟨oc, od, .func (PySem.W.fnOf "__init__" qual (defArgs st) (defBody st) (defScope st) .none kV doc pm an cdv ctv), osl⟩) (c : PySem.W.codeIn K cdv qual = true) (k : PySem.W.keepIn K (.ref f) = true)
    (hb : ∀ (kV doc pm : Value) (an : Option Addr) (cdv ct : Value) (us : List Value), us.length = ps.length → bindArgs (PySem.W.fnOf "__init__" qual (defArgs st) (defBody st) (defScope st) .none kV doc pm an cdv ct) ⟨us, []⟩ = pure (ps.zip us)) : MkO K mg C x qual st ps :=
  ⟨f, _, fun_mk l c k, ⟨mk, a, i, kc⟩, PySem.W.mg_of X G aC, (fun_mk l c k).binds hb⟩
theorem fn_g {x : Str} {st : Stmt} {N ps : List Str} {k n np : Nat} {b : SM} (F : FunO K mg x st ps) (Sc : FnScope N ps (defScope st))
    (hN : N.length = n) (hp : ps.length = np) (hbody : ∀ (f : Addr) (cdv : Value) (A : Around) (outer : List PySem.Env) (s : Shared) (H : Hp) (E : XK), Room k (A.deeper (envOfC x (defScope st) s.heap.objs.size f cdv)) →
      MSs (cxOf (L2.CX P w) P w K mg base N x (defScope st) f cdv A outer s H E) ct (defBody st) b) : FnG P w K mg base ct (k + 1) x np (fnM n b) := by
  subst hN hp
  obtain ⟨f, fd, F, hm, hb⟩ := F
  exact ⟨f, fd, ps, fn_ok F Sc (hbody f), hm, F.kp, .all hb⟩
theorem me_g {C : Nat} {x qual : Str} {st : Stmt} {N ps : List Str} {k n np : Nat} {b : SM} (F : MeO K (ct.ad C) x qual st ps) (c : Cls K (ct.ad C)) (hx : x ∉ ct.fd C) (nx : ct.ex C = false) (Sc : FnScope N ps (defScope st))
    (hN : N.length = n) (hp : ps.length = np) (hbody : ∀ (f : Addr) (cdv : Value) (A : Around) (outer : List PySem.Env) (s : Shared) (H : Hp) (E : XK), Room k (A.deeper (envOfC qual (defScope st) s.heap.objs.size f cdv)) →
      MSs (cxOf (L2.CX P w) P w K mg base N qual (defScope st) f cdv A outer s H E) ct (defBody st) b) : MeG P w K mg base ct (k + 1) C x np (fnM n b) := by
  subst hN hp
  obtain ⟨f, fd, F, hm, hb⟩ := F
  exact ⟨f, fd, ps, fn_ok F Sc (hbody f), c, hm, hb, hx, nx⟩
theorem mk_g {C : Nat} {x qual : Str} {st : Stmt} {N ps : List Str} {k n np : Nat} {b : SM} (F : MkO K mg (ct.ad C) x qual st ps) (nx : ct.ex C = false) (Sc : FnScope N ps (defScope st))
    (hN : N.length = n) (hp : ps.length = np) (hbody : ∀ (f : Addr) (cdv : Value) (A : Around) (outer : List PySem.Env) (s : Shared) (H : Hp) (E : XK), Room k (A.deeper (envOfC qual (defScope st) s.heap.objs.size f cdv)) →
      MSs (cxOf (L2.CX P w) P w K mg base N qual (defScope st) f cdv A outer s H E) ct (defBody st) b) : MkG P w K mg base ct (k + 1) C x np (fnM n b) := by
  subst hN hp
  obtain ⟨f, fd, F, hm, hg, hb⟩ := F
  exact ⟨f, fd, ps, fn_ok F Sc (hbody f), hm, hg, hb, nx⟩
/-- the law's own end -/
theorem law_sp {m : FM} {H : Hp} {a : Addr} {ns : List Int} (hS : SqL K H a (ns.map V.int)) (hT : LamX.Tabs ct.tb H) (h : ∃ S f, m [(.c, .frz (ns.map D.int))] [] = .ok (.bl true, f) S) : spM K ct 1 m [.ref a] H (fun v _ => v = .bl true) (fun _ _ _ => False) := by
  obtain ⟨S, f, e⟩ := h
  refine ⟨rfl, [(.c, .frz (ns.map D.int))], [], [], fun _ => False, .cons (.frz ?_ (Reps.ofInts ns)) .nil, ⟨rfl, fun n C fs e => by simp at e, fun n C fs e => by simp at e, .nil, hT⟩, fun a z => z.elim, ?_⟩
  · rcases hS with h | h
    · exact .inl ⟨h, fun z => z⟩
    · exact .inr h
  · rw [e]
    exact fun v io' H' t o => bl_of o.repF
def spLaw (K : PySem.W.Frag) : Sp := fun vs H Q _ => ∃ (a : Addr) (ns : List Int), vs = [.ref a] ∧ SqL K H a (ns.map V.int) ∧ ns.length ≤ 63 ∧ ∀ H', Q (.bl true) H'
theorem law_end {m : SM} {st : Stmt} {N : List Str} {k n : Nat} {fa : Addr} (F : FunO K mg "law" st ["script"]) (hfa : mg "law" = some (.ref fa)) (Sc : FnScope N ["script"] (defScope st)) (hN : N.length = n)
    (hbody : ∀ (base : Heap) (f : Addr) (cdv : Value) (A : Around) (outer : List PySem.Env) (s : Shared) (H : Hp) (E : XK), Room k (A.deeper (envOfC "law" (defScope st) s.heap.objs.size f cdv)) →
      MSs (cxOf (L2.CX P w) P w K mg base N "law" (defScope st) f cdv A outer s H E) ct (defBody st) m)
    (math : ∀ ns : List Int, ns.length ≤ 63 → ∃ S f, fnM n m [(.c, .frz (ns.map D.int))] [] = .ok (.bl true, f) S) (ht : ct.tb = [] := by rfl) :
    ∃ fd : FuncData, (∀ (s : Shared) (u : Value), BindsTo s fd ⟨[u], []⟩ [("script", u)]) ∧ ∀ base : Heap, K.In base → base.Ns mainGlobals mg → FnOk P w K mg base (L2.CX P w) (k + 1) fa fd ["script"] (spLaw K) := by
  subst hN
  obtain ⟨f, fd, F, hm, hb⟩ := F
  rw [hfa] at hm
  cases hm
  refine ⟨fd, fun s u => .of_eq (hb [u] rfl), fun base _ _ => (fn_ok (ct := ct) F Sc (hbody base fa)).imp fun vs H Q E h => ?_⟩
  obtain ⟨a, ns, rfl, hS, hl, q⟩ := h
  obtain ⟨S, f, e⟩ := math ns hl
  have z := law_sp (ct := ct) hS (by rw [ht]; exact fun p hp => nomatch hp) ⟨S, f, e⟩
  obtain ⟨h1, as, S0, io, M0, h2, h3, h4, h5⟩ := z
  refine ⟨h1, as, S0, io, M0, h2, h3, h4, ?_⟩
  cases e2 : fnM N.length m as S0 with
  | ok x S' =>
    rw [e2] at h5
    intro v io' H' t o
    have ev : v = .bl true := h5 v io' H' t o
    rw [ev]
    exact q H'
  | er c p S' =>
    rw [e2] at h5
    exact fun dx io' H' t1 t2 t3 => (h5 dx io' H' t1 t2 t3).elim
  | no =>
    rw [e2] at h5
    exact h5.elim
theorem law_walk {l : PySem.W.OpenLaw} {k : Nat} {q : Program} {loose : List Str} {XP : (Str → Option Value) → Heap → Prop} {YP : World → Heap → Prop} {d : DefRec} {K : Params → PySem.W.Frag} (hn : l.most = some 63) (hdf : d.params.defaults = []) (hr : Room k callerA)
    (hY : ∀ (w : World) (h : Heap), YP w h → (K w.params).In h)
    (F : ∀ (w : World) (mg : Str → Option Value) (fa : Addr) (h : Heap), (K w.params).In h → h.Ns mainGlobals mg → mg d.name = some (.ref fa) →
      ∃ fd : FuncData, (∀ (s : Shared) (u : Value), BindsTo s fd ⟨[u], []⟩ [("script", u)]) ∧ ∀ base : Heap, (K w.params).In base → base.Ns mainGlobals mg → FnOk l.prog w (K w.params) mg base (L2.CX l.prog w) k fa fd ["script"] (spLaw (K w.params))) :
    PySem.W.WalkO q loose XP YP l.row.toRowW d [] (fun f vs => PySem.call f vs) :=
  L2.walk_of (n := 63) (k := k) (x := "script") (CX := fun w => L2.CX l.prog w) (sp := fun w => spLaw (K w.params)) hn (by decide) hdf hr hY F (fun _ _ a ns hl _ hS => ⟨a, ns, rfl, hS, hl, fun _ => rfl⟩) fun w H s e s' h => by
    obtain ⟨_, _, _, _, _, _, _, _, _, _, _, _, z⟩ := h
    exact z
end
end Mv

set_option maxRecDepth 100000
namespace Mv
open PySem PySem.Spec PyProof.Rows L2
section
variable {X : Cx} {ct : CT} {pos : Pos}
/-! ### self.f = e -/
/-- the i-th field is written, or it is the next one -/
def putD (i : Nat) (d : D) (fs : List D) : List D := if i < fs.length then fs.set i d else fs ++ [d]
theorem putF_end {f : Str} {v : V} : ∀ {gs : List (Str × V)}, f ∉ gs.map Prod.fst → putF f v gs = gs ++ [(f, v)]
  | [], _ => rfl
  | (g, w) :: gs, h => by
    rw [List.map_cons, List.mem_cons, not_or] at h
    unfold putF
    first
      | rw [if_neg (fun z => h.1 z.symm), putF_end h.2]; rfl
      | rw [if_neg h.1, putF_end h.2]; rfl
      | (split
         · rename_i z; exact absurd (by first | exact z | exact z.symm | simpa using z | (have z := eq_of_beq z; first | exact z | exact z.symm)) h.1
         · rw [putF_end h.2]; rfl)
theorem putF_at {f : Str} {v : V} : ∀ {gs : List (Str × V)} {i : Nat}, (gs.map Prod.fst).Nodup → (gs.map Prod.fst)[i]? = some f → putF f v gs = gs.set i (f, v)
  | [], _, _, h => by simp at h
  | (g, w) :: gs, 0, _, h => by
    have h : g = f := by simpa using h
    subst h
    unfold putF
    simp
  | (g, w) :: gs, i + 1, nd, h => by
    rw [List.map_cons, List.nodup_cons] at nd
    have h' : (gs.map Prod.fst)[i]? = some f := by simpa using h
    have ne : g ≠ f := fun z => nd.1 (z ▸ List.mem_of_getElem? h')
    unfold putF
    rw [putF_at nd.2 h']
    first
      | rw [if_neg ne]; rfl
      | rw [if_neg ne.symm]; rfl
      | simp [ne, Ne.symm ne]
theorem FldOk.put {K : PySem.W.Frag} {M : Addr → Prop} {io : List Addr} {H : Hp} {ns : List Str} {fs : List D} {gs : List (Str × V)} {i : Nat} {f : Str} {d : D} {v : V} (h : FldOk K M io H ns fs gs) (nd : ns.Nodup) (hi : ns[i]? = some f) (hl : i ≤ fs.length) (r : Rep K M io H d v) :
    FldOk K M io H ns (putD i d fs) (putF f v gs) := by
  have hg : gs.length = fs.length := by
    have := h.2.len
    rw [List.length_map] at this
    exact this.symm
  have nd' : (gs.map Prod.fst).Nodup := by
    rw [h.1]
    exact nd.sublist (List.take_sublist _ _)
  unfold putD
  split
  · rename_i hlt
    have hk : (gs.map Prod.fst)[i]? = some f := by
      rw [h.1, List.getElem?_take_of_lt hlt]
      exact hi
    rw [putF_at nd' hk]
    refine ⟨?_, ?_⟩
    · rw [List.map_set, List.length_set, ← h.1]
      have hlt' : i < (gs.map Prod.fst).length := by simp; omega
      have : (gs.map Prod.fst)[i] = f := by
        rw [List.getElem?_eq_getElem hlt'] at hk
        exact Option.some.inj hk
      show (gs.map Prod.fst).set i f = _
      rw [← this]
      exact List.set_getElem_self hlt'
    · rw [List.map_set]
      exact h.2.set i r
  · rename_i hlt
    have e : i = fs.length := by omega
    have hni : f ∉ gs.map Prod.fst := fun z => by
      rw [h.1] at z
      obtain ⟨j, hj, ej⟩ := List.getElem_of_mem z
      rw [List.length_take] at hj
      rw [List.getElem_take] at ej
      have hin : i < ns.length := (List.getElem?_eq_some_iff.mp hi).1
      have : ns[i] = f := (List.getElem?_eq_some_iff.mp hi).2
      have q := (List.getElem_inj nd).mp (ej.trans this.symm)
      omega
    rw [putF_end hni]
    refine ⟨?_, ?_⟩
    · rw [List.map_append, h.1, List.length_append]
      show ns.take fs.length ++ [f] = ns.take (fs.length + 1)
      rw [List.take_add_one, ← e, hi]
      rfl
    · rw [List.map_append]
      exact h.2.app (.cons r .nil)
def sAt (cs : List Nat) (i : Nat) (mo m : EM) : SM := fun r S => (m r S).sb r fun x S1 => (mo r S1).sb r fun o S2 => match o.1 with
  | .ins n => match S2[n]? with
    | some (C, vs) => if cs.contains C && okst x.2 x.1 && decide (i ≤ vs.length) then .nx r (S2.set n (C, putD i x.1 vs)) else .no
    | none => .no
  | _ => .no
theorem ms_at {o e : Expr} {f : Str} {cs : List Nat} {i : Nat} {mo m : EM} {pos' : Pos} (ho : ME X ct o mo) (he : ME X ct e m) (T : ∀ C ∈ cs, FdT X.K ct f i C ∧ (ct.fd C).length < 900) (hpu : ct.pu = false := by rfl) (hs : swapsWith e (some (.Attribute o f pos')) pos.line X.env = pure false := by rfl) :
    MS X ct (.Assign [.Attribute o f pos'] e pos) (sAt cs i mo m) :=
  ⟨fun G W tk _ => (ps_fld (ho.run G W tk) (he.run G W tk) hs).imp fun D s H ⟨r, S, io, k, h⟩ => ⟨r, S, io, k, SRes.first k h fun x S1 io1 H1 _ t1 q1 k1 h1 v ov => ⟨r, S1, io1, k1, SRes.first k1 h1 fun o S2 io2 H2 _ t2 q2 k2 h2 w ow => by
    split at h2
    · rename_i n e
      have o2 := ow.repF
      rw [e] at o2
      obtain ⟨a, ev, ea⟩ := ins_of o2
      split at h2
      · rename_i C vs e2
        split at h2
        · rename_i hc
          simp only [Bool.and_eq_true, decide_eq_true_eq] at hc
          obtain ⟨⟨hc, hok⟩, hl⟩ := hc
          obtain ⟨T, hT⟩ := T C (by simpa using hc)
          obtain ⟨a', dx, gs, y1, y2, y3⟩ := q2.at_ n C vs e2 T.nx
          rw [ea] at y1
          cases y1
          have hgl : gs.length = vs.length := by
            have := y3.2.len
            rw [List.length_map] at this
            exact this.symm
          have hle : gs.length ≤ (ct.fd C).length := by
            have := congrArg List.length y3.1
            rw [List.length_map, List.length_take] at this
            omega
          refine ⟨a, _, dx, gs, ev, y2, T.cl, T.na, by omega, ?_⟩
          have rv : Rep X.K (Mall G r s) io2 H2 x.1 v := RepF.clean hok (ov.repF.stp t2)
          have ne : ∀ b u, H2 b = some u → NI u → b ≠ a := fun b u q n z => by
            rw [z, y2] at q
            cases q
            exact n.1 _ _ _ rfl
          have kp : Kp (Mall G r s) H2 (upd H2 a (.ins (ct.ad C) dx (putF f v gs))) := fun b u q n _ => by rw [upd_ne (ne b u q n)]; exact q
          have t : Stp ct io2 H2 io2 (upd H2 a (.ins (ct.ad C) dx (putF f v gs))) := by
            refine ⟨fun b u q n => by rw [upd_ne (ne b u q n)]; exact q, fun b u q n _ => ?_, io_refl, fun b z n => absurd z n, fun b u q => ?_, fun z => by rw [hpu] at z; cases z⟩
            · rw [upd_ne]
              · exact q
              · exact fun z => n (z ▸ List.mem_of_getElem? ea)
            · by_cases z : b = a
              · subst z
                exact ⟨_, upd_same⟩
              · exact ⟨u, by rw [upd_ne z]; exact q⟩
          have hn : n < S2.length := (List.getElem?_eq_some_iff.mp e2).1
          have q3 : StoOk X.K ct (Mall G r s) io2 (S2.set n (C, putD i x.1 vs)) (upd H2 a (.ins (ct.ad C) dx (putF f v gs))) := by
            have oth : ∀ {j : Nat} {b : Addr}, n ≠ j → io2[j]? = some b → b ≠ a := fun {j b} hj z1 z => by
              subst z
              have hj1 := (List.getElem?_eq_some_iff.mp z1)
              have hj2 := (List.getElem?_eq_some_iff.mp ea)
              exact hj ((List.getElem_inj q2.nd).mp (hj2.2.trans hj1.2.symm))
            refine ⟨by simp [q2.len], fun j C' fs e3 x3 => ?_, fun j C' fs e3 x3 => ?_, q2.nd, tabs_mono q2.tb kp fun b ps q => by rw [upd_ne (fun z => by rw [z, y2] at q; cases q)]; exact q⟩
            rotate_left
            · rcases get_set e3 with ⟨rfl, e3, _⟩ | ⟨hj, e3⟩
              · cases e3
                rw [T.nx] at x3
                cases x3
              · obtain ⟨b, d, z1, z2, z3⟩ := q2.ax j C' fs e3 x3
                refine ⟨b, d, z1, ?_, z3.mono (M := fun _ => False) t.kp t.pre⟩
                rw [upd_ne (oth hj z1)]
                exact z2
            rcases get_set e3 with ⟨rfl, e3, _⟩ | ⟨hj, e3⟩
            · cases e3
              exact ⟨a, dx, _, ea, upd_same, (y3.put T.nd T.ix hl rv).1, Reps.stp t (y3.put T.nd T.ix hl rv).2⟩
            · obtain ⟨b, dx', gs', z1, z2, z3, z4⟩ := q2.at_ j C' fs e3 x3
              refine ⟨b, dx', gs', z1, ?_, z3, z4.stp t⟩
              rw [upd_ne]
              · exact z2
              · intro z
                subst z
                have hj1 := (List.getElem?_eq_some_iff.mp z1)
                have hj2 := (List.getElem?_eq_some_iff.mp ea)
                exact hj ((List.getElem_inj q2.nd).mp (hj2.2.trans hj1.2.symm))
          exact h2 s io2 _ (k2.step t q3)
        · exact h2.elim
      · exact h2.elim
    · exact h2.elim⟩⟩⟩
/-! ### targets -/
abbrev GM := D → Env → Option Env
/-- the slots outside ts are as they were -/
def Keep (ts : List Nat) (r r' : Env) (s s' : St) : Prop := s'.length = s.length ∧ ∀ j, j ∉ ts → r'[j]? = r[j]? ∧ s'[j]? = s[j]?
def tG (K : PySem.W.Frag) (ct : CT) (G : Gx) (ts : List Nat) (g : GM) : TG := fun v s H Q => ∃ r S io d, Ok K ct G r S io s H ∧ Rep K (Mall G r s) io H d v ∧ match g d r with
  | some r' => ∀ s', Keep ts r r' s s' → (∀ a, Mall G r' s' a → Mall G r s a) → Ok K ct G r' S io s' H → Q s' H
  | none => False
def tGs (K : PySem.W.Frag) (ct : CT) (G : Gx) (ts : List Nat) (g : List D → Env → Option Env) : TGs := fun vs s H Q => ∃ r S io ds, Ok K ct G r S io s H ∧ Reps K (Mall G r s) io H ds vs ∧ match g ds r with
  | some r' => ∀ s', Keep ts r r' s s' → (∀ a, Mall G r' s' a → Mall G r s a) → Ok K ct G r' S io s' H → Q s' H
  | none => False
structure MG (X : Cx) (ct : CT) (e : Expr) (ts : List Nat) (g : GM) : Prop where
  run : ∀ (G : Gx), PG X e (tG X.K ct G ts g)
structure MGs (X : Cx) (ct : CT) (e : List Expr) (ts : List Nat) (g : List D → Env → Option Env) : Prop where
  run : ∀ (G : Gx), PGs X e (tGs X.K ct G ts g)
def gN (i : Nat) : GM := fun d r => some (r.set i (.ar .c d))
def gsN : List D → Env → Option Env := fun ds r => match ds with
  | [] => some r
  | _ => none
def gsC (g : GM) (gs : List D → Env → Option Env) : List D → Env → Option Env := fun ds r => match ds with
  | d :: ds => (g d r).bind (gs ds)
  | _ => none
def gT (n : Nat) (gs : List D → Env → Option Env) : GM := fun d r => match d with
  | .tup ds => if ds.length = n then gs ds r else none
  | _ => none
theorem mg_name {i : Nat} {x : Str} (hN : X.N.Nodup) (hi : X.N[i]? = some x) (hx : Loc X.env.scope x) (hf : X.fn x = true ∨ X.env.scope.names.lookup x = some .local := by first | exact .inl rfl | exact .inr rfl | assumption) : MG X ct (.Name x pos) [i] (gN i) :=
  ⟨fun G => (pg_name hN hi hx hf).imp fun v s H Q ⟨r, S, io, d, k, rv, h⟩ => h _ ⟨by simp, fun j hj => by
    have hj : i ≠ j := fun z => hj (z ▸ List.mem_singleton.mpr rfl)
    exact ⟨List.getElem?_set_ne hj, List.getElem?_set_ne hj⟩⟩ (fun a => mall_set fun e z => by cases z) (k.setc rv)⟩
theorem mgs_nil : MGs X ct [] [] gsN := ⟨fun G => pgs_nil.imp fun vs s H Q ⟨r, S, io, ds, k, rv, h⟩ => by
  cases rv with
  | nil => exact ⟨rfl, h s ⟨rfl, fun _ _ => ⟨rfl, rfl⟩⟩ (fun _ z => z) k⟩
  | cons _ _ => exact h.elim⟩
theorem mgs_cons {e : Expr} {es : List Expr} {t ts : List Nat} {g : GM} {gs : List D → Env → Option Env} (h1 : MG X ct e t g) (h2 : MGs X ct es ts gs)
    (hs : (assignEach (e :: es) X.env).map (·.2) = assign e X.env :: (assignEach es X.env).map (·.2) := by rfl) : MGs X ct (e :: es) (t ++ ts) (gsC g gs) :=
  ⟨fun G => (pgs_cons (h1.run G) (h2.run G) hs).imp fun vs s H Q ⟨r, S, io, ds, k, rv, h⟩ => by
    cases rv with
    | nil => exact h.elim
    | @cons d ds v vs' r1 rr =>
      refine ⟨_, _, rfl, r, S, io, _, k, r1, ?_⟩
      have h : match (g d r).bind (gs ds) with
        | some r' => ∀ s', Keep (t ++ ts) r r' s s' → (∀ a, Mall G r' s' a → Mall G r s a) → Ok X.K ct G r' S io s' H → Q s' H
        | none => False := h
      cases e1 : g d r with
      | none => rw [e1] at h; exact h
      | some r1 =>
        rw [e1] at h
        intro s1 l1 m1 k1
        refine ⟨r1, S, io, ds, k1, rr.anti m1, ?_⟩
        have h : match gs ds r1 with
          | some r' => ∀ s', Keep (t ++ ts) r r' s s' → (∀ a, Mall G r' s' a → Mall G r s a) → Ok X.K ct G r' S io s' H → Q s' H
          | none => False := h
        cases e2 : gs ds r1 with
        | none => rw [e2] at h; exact h
        | some r2 =>
          rw [e2] at h
          exact fun s2 l2 m2 k2 => h s2 ⟨l2.1.trans l1.1, fun j hj => by
            rw [List.mem_append, not_or] at hj
            exact ⟨(l2.2 j hj.2).1.trans (l1.2 j hj.1).1, (l2.2 j hj.2).2.trans (l1.2 j hj.1).2⟩⟩ (fun a z => m1 a (m2 a z)) k2⟩
theorem mg_tup {es : List Expr} {k n : Nat} {ts : List Nat} {gs : List D → Env → Option Env} (hc : X.calm = true) (h : MGs X ct es ts gs) (hn : (assignEach es X.env).length = n := by rfl) (hst : (assignEach es X.env).findIdx? (·.1) = none := by rfl) : MG X ct (.Tuple es k pos) ts (gT n gs) :=
  ⟨fun G => (pg_tup hc (h.run G) hn hst).imp fun v s H Q ⟨r, S, io, d, k, rv, h⟩ => by
    cases rv with
    | tup h1 h2 =>
      unfold gT at h
      simp only at h
      split at h
      · rename_i r' e
        split at e
        · rename_i hl
          refine ⟨_, _, rfl, h1, by rw [← h2.len]; exact hl, r, S, io, _, k, h2, ?_⟩
          rw [e]
          exact h
        · cases e
      · exact h.elim
    | _ => exact h.elim⟩
/-- target = e -/
def sAsg (g : GM) (m : EM) : SM := fun r S => (m r S).sb r fun x S1 => if okst x.2 x.1 then (match g x.1 r with
  | some r' => .nx r' S1
  | none => .no) else .no
theorem ms_asg {tg e : Expr} {m : EM} {ts : List Nat} {g : GM} (he : ME X ct e m) (hg : MG X ct tg ts g) (hs : swapsWithSole [tg] e pos.line X.env = pure false := by rfl) (hw : swappedStores [tg] e X.env = pure none := by rfl)
    (h1 : (assignEach [tg] X.env).map (·.2) = [assign tg X.env] := by rfl) : MS X ct (.Assign [tg] e pos) (sAsg g m) :=
  ⟨fun G W tk _ => (ps_asg (he.run G W tk) (hg.run G) hs hw h1).imp fun D s H ⟨r, S, io, k, h⟩ => ⟨r, S, io, k, SRes.first k h fun x S1 io1 H1 _ t1 q1 k1 h1 v ov => by
    split at h1
    · rename_i g0
      refine ⟨r, S1, io1, x.1, k1, RepF.clean g0 ov.repF, ?_⟩
      split at h1
      · exact fun s' _ _ k' => h1 s' io1 H1 k'
      · exact h1.elim
    · exact h1.elim⟩⟩
/-- a, b = x, y -/
def sPar (i j : Nat) (ma mb : EM) : SM := fun r S => (ma r S).sb r fun x S1 => (mb r S1).sb r fun y S2 => if okst x.2 x.1 && okst y.2 y.1 then .nx ((r.set i (.ar .c x.1)).set j (.ar .c y.1)) S2 else .no
theorem ms_par {i j : Nat} {x y : Str} {a b : Expr} {ma mb : EM} {px py pt : Pos} {kt k2 pt2} (hc : X.calm = true) (hN : X.N.Nodup) (hi : X.N[i]? = some x) (hj : X.N[j]? = some y) (hij : i ≠ j)
    (hx : X.env.scope.names.lookup x = some .local) (hy : X.env.scope.names.lookup y = some .local) (ha : ME X ct a ma) (hb : ME X ct b mb)
    (hs1 : starEach [b] X.env = (false, eval b X.env) :: starEach [] X.env) (hs2 : starEach [a, b] X.env = (false, eval a X.env) :: starEach [b] X.env)
    (hw : swappedStores [.Tuple [.Name x px, .Name y py] kt pt] (.Tuple [a, b] k2 pt2) X.env = pure (some [x, y]))
    (hs : swapsWithSole [.Tuple [.Name x px, .Name y py] kt pt] (.Tuple [a, b] k2 pt2) pos.line X.env = pure false := by rfl) :
    MS X ct (.Assign [.Tuple [.Name x px, .Name y py] kt pt] (.Tuple [a, b] k2 pt2) pos) (sPar i j ma mb) :=
  ⟨fun G W tk _ => (ps_par hc hN hi hj hij hx hy (pa_cons (ha.run G W tk) (pa_cons (hb.run G W tk) pa_nil hs1) hs2) hw hs).imp fun D s H ⟨r, S, io, k, h⟩ =>
    ⟨r, S, io, k, SRes.first k h fun x S1 io1 H1 _ t1 q1 k1 h1 v ov => ⟨r, S1, io1, k1, SRes.first k1 h1 fun y S2 io2 H2 _ t2 q2 k2 h2 u ou => by
      refine ⟨v, u, rfl, ?_⟩
      split at h2
      · rename_i g
        rw [Bool.and_eq_true] at g
        have k3 := k2.setc (i := i) (RepF.clean g.1 (ov.repF.stp t2))
        have k4 := k3.setc (i := j) ((RepF.clean g.2 ou.repF).anti fun a z => mall_set (fun e z => by cases z) z)
        exact h2 _ io2 H2 k4
      · exact h2.elim⟩⟩⟩
end
end Mv

set_option maxRecDepth 100000
namespace L2
open PySem PySem.Spec PyProof.Rows
theorem PG.ex {X : Cx} {e : Expr} {ι : Sort _} {t : ι → TG} (h : ∀ i, PG X e (t i)) : PG X e (fun v s H Q => ∃ i, t i v s H Q) := ⟨fun pins s σ H v u Q I r ⟨i, w⟩ => (h i).run pins s σ H v u Q I r w⟩
theorem PSs.ex {X : Cx} {e : List Stmt} {ι : Sort _} {t : ι → TS} (h : ∀ i, PSs X e (t i)) : PSs X e (fun D s H => ∃ i, t i D s H) := ⟨fun pins s σ H D I ⟨i, w⟩ => (h i).run pins s σ H D I w⟩
theorem PTs.ex {X : Cx} {e : List Expr} {ι : Sort _} {t : ι → TT} (h : ∀ i, PTs X e (t i)) : PTs X e (fun s H Q => ∃ i, t i s H Q) := ⟨fun pins s σ H Q I ⟨i, w⟩ => (h i).run pins s σ H Q I w⟩
end L2
namespace Mv
open PySem PySem.Spec PyProof.Rows L2
section
variable {X : Cx} {ct : CT} {pos : Pos} {tg : Expr}
/-! ### what is walked -/
/-- J goes through ds as long as what is held stands -/
def WalkD (K : PySem.W.Frag) (J : It) (held : List (Fl × D × V)) (ds : List D) : Prop := ∀ (M N : Addr → Prop) (io : List Addr) (H : Hp), (∀ p ∈ held, ArgF K M N io H p.1 p.2.1 p.2.2) →
  (∀ i, i < ds.length → J.go i H) ∧ J.stop ds.length H ∧ ∀ i x H', i < ds.length → J.yld i H x H' → ∃ d, ds[i]? = some d ∧ (H' = H ∨ ∃ T o, H T = none ∧ H' = upd H T o) ∧ Rep K M io H' d x
def tI (K : PySem.W.Frag) (ct : CT) (G : Gx) (W : WX) (m : Env → Store → Rs (List D)) : TI := fun s H R => ∃ r S io, Ok K ct G r S io s H ∧
  Res K ct W (Mall G r s) s io H (m r S) (fun ds S' io' H' => ∀ J held, WalkD K J held ds → (∀ p ∈ held, ArgF K (Mall G r s) (Mown G r s) io' H' p.1 p.2.1 p.2.2) → R J H')
structure MI (X : Cx) (ct : CT) (tg iter : Expr) (m : Env → Store → Rs (List D)) : Prop where
  run : ∀ (G : Gx) (W : WX), Takes X W → PI X tg iter (tI X.K ct G W m)
/-- flags under which a list may be walked -/
def okI : Fl → Bool
  | .c => true
  | .n => true
  | .b => true
  | _ => false
theorem okI_argF {K : PySem.W.Frag} {M N : Addr → Prop} {io : List Addr} {H : Hp} {f : Fl} {d : D} {v : V} (g : okI f = true) (h : RepF K M N io H f d v) : ArgF K M N io H f d v := by
  cases f with
  | c => exact h
  | n => exact h
  | b => exact h
  | o => cases g
  | t => cases g
theorem argF_top {K : PySem.W.Frag} {M N : Addr → Prop} {io : List Addr} {H : Hp} {f : Fl} {xs : List D} {v : V} (g : okI f = true) (h : ArgF K M N io H f (.lst xs) v) : ∃ a vs, v = .ref a ∧ H a = some (.lst vs) ∧ Reps K M io H xs vs := by
  have go : Rep K M io H (.lst xs) v → ∃ a vs, v = .ref a ∧ H a = some (.lst vs) ∧ Reps K M io H xs vs := fun h => by
    cases h with
    | lst h1 _ h2 => exact ⟨_, _, rfl, h1, h2⟩
  cases f with
  | c => exact go h
  | n => exact go h
  | b =>
    rcases h with h | ⟨a, e, h, _⟩
    · exact go h
    · rcases h with ⟨xs', vs, e', h1, h2⟩ | ⟨ks, xs', kvs, e', _⟩
      · cases e'
        exact ⟨a, vs, e, h1, h2⟩
      · cases e'
  | o => cases g
  | t => cases g
theorem argF_frz {K : PySem.W.Frag} {M N : Addr → Prop} {io : List Addr} {H : Hp} {f : Fl} {xs : List D} {v : V} (g : okI f = true) (h : ArgF K M N io H f (.frz xs) v) : ∃ a vs, v = .ref a ∧ SqL K H a vs ∧ Reps K M io H xs vs := by
  have go : Rep K M io H (.frz xs) v → ∃ a vs, v = .ref a ∧ SqL K H a vs ∧ Reps K M io H xs vs := fun h => by
    cases h with
    | frz h1 h2 => exact ⟨_, _, rfl, h1.sq, h2⟩
  cases f with
  | c => exact go h
  | n => exact go h
  | b =>
    rcases h with h | ⟨a, e, h, _⟩
    · exact go h
    · rcases h with ⟨xs', vs, e', _⟩ | ⟨ks, xs', kvs, e', _⟩ <;> cases e'
  | o => cases g
  | t => cases g
theorem argF_tup {K : PySem.W.Frag} {M N : Addr → Prop} {io : List Addr} {H : Hp} {f : Fl} {xs : List D} {v : V} (g : okI f = true) (h : ArgF K M N io H f (.tup xs) v) : ∃ a vs, v = .ref a ∧ SqT K H a vs ∧ Reps K M io H xs vs := by
  have go : Rep K M io H (.tup xs) v → ∃ a vs, v = .ref a ∧ SqT K H a vs ∧ Reps K M io H xs vs := fun h => by
    cases h with
    | tup h1 h2 => exact ⟨_, _, rfl, h1, h2⟩
  cases f with
  | c => exact go h
  | n => exact go h
  | b =>
    rcases h with h | ⟨a, e, h, _⟩
    · exact go h
    · rcases h with ⟨xs', vs, e', _⟩ | ⟨ks, xs', kvs, e', _⟩ <;> cases e'
  | o => cases g
  | t => cases g
/-- the items of a list, whether it may be written or not -/
def seqOf : D → Option (List D)
  | .lst xs => some xs
  | .frz xs => some xs
  | _ => none
theorem argF_seq {K : PySem.W.Frag} {M N : Addr → Prop} {io : List Addr} {H : Hp} {f : Fl} {d : D} {xs : List D} {v : V} (g : okI f = true) (e : seqOf d = some xs) (h : ArgF K M N io H f d v) : ∃ a vs, v = .ref a ∧ SqL K H a vs ∧ Reps K M io H xs vs := by
  cases d with
  | lst ys =>
    cases e
    obtain ⟨a, vs, e1, h1, h2⟩ := argF_top g h
    exact ⟨a, vs, e1, SqL.of h1, h2⟩
  | frz ys =>
    cases e
    exact argF_frz g h
  | _ => cases e
theorem walk_lst {K : PySem.W.Frag} {a : Addr} {f : Fl} {d : D} {xs : List D} (g : okI f = true) (e : seqOf d = some xs) : WalkD K (Itl K a) [(f, d, .ref a)] xs := fun M N io H hh => by
  obtain ⟨a', vs, ev, h1, h2⟩ := argF_seq g e (hh _ List.mem_cons_self)
  cases ev
  have hl := h2.len
  refine ⟨fun i hi => ?_, ⟨vs, h1, by omega⟩, fun i x H' hi y => ?_⟩
  · obtain ⟨v, q, _⟩ := h2.get (List.getElem?_eq_getElem hi)
    exact ⟨vs, v, h1, q⟩
  · obtain ⟨e2, y⟩ := y
    subst e2
    obtain ⟨d, q, r⟩ := h2.getV (y vs h1)
    exact ⟨d, q, .inl rfl, r⟩
theorem walk_tupD {K : PySem.W.Frag} {a : Addr} {f : Fl} {xs : List D} (g : okI f = true) : WalkD K (Itt K a) [(f, .tup xs, .ref a)] xs := fun M N io H hh => by
  obtain ⟨a', vs, ev, h1, h2⟩ := argF_tup g (hh _ List.mem_cons_self)
  cases ev
  have hl := h2.len
  refine ⟨fun i hi => ?_, ⟨vs, h1, by omega⟩, fun i x H' hi y => ?_⟩
  · obtain ⟨v, q, _⟩ := h2.get (List.getElem?_eq_getElem hi)
    exact ⟨vs, v, h1, q⟩
  · obtain ⟨e2, y⟩ := y
    subst e2
    obtain ⟨d, q, r⟩ := h2.getV (y vs h1)
    exact ⟨d, q, .inl rfl, r⟩
theorem walk_revD {K : PySem.W.Frag} {a : Addr} {f : Fl} {d : D} {xs : List D} (g : okI f = true) (e : seqOf d = some xs) : WalkD K (Itv K a xs.length) [(f, d, .ref a)] xs.reverse := fun M N io H hh => by
  obtain ⟨a', vs, ev, h1, h2⟩ := argF_seq g e (hh _ List.mem_cons_self)
  cases ev
  have hl := h2.len
  rw [List.length_reverse]
  refine ⟨fun i hi => ?_, Nat.le_refl _, fun i x H' hi y => ?_⟩
  · obtain ⟨v, q, _⟩ := h2.get (i := xs.length - 1 - i) (List.getElem?_eq_getElem (by omega))
    exact ⟨hi, vs, v, h1, q⟩
  · obtain ⟨e2, y⟩ := y
    subst e2
    obtain ⟨d, q, r⟩ := h2.getV (y vs h1)
    exact ⟨d, by rw [List.getElem?_reverse hi]; exact q, .inl rfl, r⟩
def enumD (xs : List D) : List D := List.zipWith (fun (i : Nat) d => D.tup [.int i, d]) (List.range xs.length) xs
theorem enumD_get {xs : List D} {i : Nat} {d : D} (h : xs[i]? = some d) : (enumD xs)[i]? = some (.tup [.int i, d]) := by
  unfold enumD
  obtain ⟨hl, h⟩ := List.getElem?_eq_some_iff.mp h
  rw [List.getElem?_zipWith, List.getElem?_range hl, List.getElem?_eq_getElem hl, h]
theorem enumD_length (xs : List D) : (enumD xs).length = xs.length := by
  unfold enumD
  rw [List.length_zipWith, List.length_range, Nat.min_self]
theorem walk_enumD {K : PySem.W.Frag} {a : Addr} {f : Fl} {d : D} {xs : List D} (g : okI f = true) (e : seqOf d = some xs) : WalkD K (Ite K a) [(f, d, .ref a)] (enumD xs) := fun M N io H hh => by
  obtain ⟨a', vs, ev, h1, h2⟩ := argF_seq g e (hh _ List.mem_cons_self)
  cases ev
  have hl := h2.len
  rw [enumD_length]
  refine ⟨fun i hi => ?_, ⟨vs, h1, by omega⟩, fun i x H' hi y => ?_⟩
  · obtain ⟨v, q, _⟩ := h2.get (List.getElem?_eq_getElem hi)
    exact ⟨vs, v, h1, q⟩
  · obtain ⟨T, x, rfl, nT, rfl, y⟩ := y
    obtain ⟨d, q, r⟩ := h2.getV (y vs h1)
    exact ⟨_, enumD_get q, .inr ⟨T, _, nT, rfl⟩, .tup (.inl (.inl upd_same)) (.cons (.int _) (.cons (r.stp (Stp.upd (ct := ct0) nT)) .nil))⟩
def zipD (xs ys : List D) : List D := xs.zipWith (fun a b => .tup [a, b]) ys
theorem walk_zipD {K : PySem.W.Frag} {a b : Addr} {f f' : Fl} {d d' : D} {xs ys : List D} (g : okI f = true) (e : seqOf d = some xs) (g' : okI f' = true) (e' : seqOf d' = some ys) : WalkD K (Itz K a b) [(f, d, .ref a), (f', d', .ref b)] (zipD xs ys) := fun M N io H hh => by
  obtain ⟨a', vs, ev, h1, h2⟩ := argF_seq g e (hh _ List.mem_cons_self)
  cases ev
  obtain ⟨b', ws, ew, h3, h4⟩ := argF_seq g' e' (hh _ (List.mem_cons_of_mem _ List.mem_cons_self))
  cases ew
  have hl := h2.len
  have hl' := h4.len
  have hz : (zipD xs ys).length = min xs.length ys.length := by unfold zipD; rw [List.length_zipWith]
  rw [hz]
  refine ⟨fun i hi => ?_, ⟨vs, ws, h1, h3, by omega⟩, fun i x H' hi y => ?_⟩
  · obtain ⟨v, q, _⟩ := h2.get (List.getElem?_eq_getElem (show i < xs.length by omega))
    obtain ⟨w, q', _⟩ := h4.get (List.getElem?_eq_getElem (show i < ys.length by omega))
    exact ⟨vs, ws, v, w, h1, h3, q, q'⟩
  · obtain ⟨T, x, z, rfl, nT, rfl, y, y'⟩ := y
    obtain ⟨d, q, r⟩ := h2.getV (y vs h1)
    obtain ⟨d', q', r'⟩ := h4.getV (y' ws h3)
    refine ⟨.tup [d, d'], ?_, .inr ⟨T, _, nT, rfl⟩, .tup (.inl (.inl upd_same)) (.cons (r.stp (Stp.upd (ct := ct0) nT)) (.cons (r'.stp (Stp.upd (ct := ct0) nT)) .nil))⟩
    unfold zipD
    rw [List.getElem?_zipWith, q, q']
def rangeD (lo c : Int) (n : Nat) : List D := (List.range n).map fun i => .int (lo + (i : Nat) * c)
theorem rangeD_get {lo c : Int} {n i : Nat} (h : i < n) : (rangeD lo c n)[i]? = some (.int (lo + (i : Nat) * c)) := by
  unfold rangeD
  rw [List.getElem?_map, List.getElem?_range h]
  rfl
theorem rangeD_length (lo c : Int) (n : Nat) : (rangeD lo c n).length = n := by
  unfold rangeD
  rw [List.length_map, List.length_range]
theorem walk_rangeD {K : PySem.W.Frag} {lo : Int} {n : Nat} : WalkD K (Itr lo n) [] (rangeD lo 1 n) := fun M N io H hh => by
  rw [rangeD_length]
  refine ⟨fun i hi => hi, Nat.le_refl _, fun i x H' hi y => ?_⟩
  obtain ⟨e, rfl⟩ := y
  subst e
  exact ⟨_, rangeD_get hi, .inl rfl, by rw [Int.mul_one]; exact .int _⟩
theorem walk_rangeCD {K : PySem.W.Frag} {lo c : Int} {n : Nat} : WalkD K (Itc lo c n) [] (rangeD lo c n) := fun M N io H hh => by
  rw [rangeD_length]
  refine ⟨fun i hi => hi, Nat.le_refl _, fun i x H' hi y => ?_⟩
  obtain ⟨e, rfl⟩ := y
  subst e
  exact ⟨_, rangeD_get hi, .inl rfl, .int _⟩
def strD (z : Str) : List D := z.cps.toList.map fun c => .str ⟨#[c]⟩
theorem walk_strD {K : PySem.W.Frag} {z : Str} : WalkD K (Its z) [] (strD z) := fun M N io H hh => by
  have hl : (strD z).length = z.cps.size := by unfold strD; simp
  rw [hl]
  refine ⟨fun i hi => hi, Nat.le_refl _, fun i x H' hi y => ?_⟩
  obtain ⟨e, c, hc, rfl⟩ := y
  subst e
  refine ⟨_, ?_, .inl rfl, .str _⟩
  unfold strD
  rw [List.getElem?_map, Array.getElem?_toList, hc]
  rfl
/-- for x in e -/
def iSeq (m : EM) : Env → Store → Rs (List D) := fun r S => (m r S).bind fun x S1 => if okI x.2 then (match x.1 with
  | .lst ds => .ok ds S1
  | .frz ds => .ok ds S1
  | .tup ds => .ok ds S1
  | .str z => .ok (strD z) S1
  | _ => .no) else .no
theorem mi_seq {e : Expr} {m : EM} (he : ME X ct e m) : MI X ct tg e (iSeq m) := by
  refine ⟨fun G W tk => (PI.or (pi_list (he.run G W tk)) (PI.or (pi_tup (he.run G W tk)) (pi_str (he.run G W tk)))).imp fun s H R h => ?_⟩
  obtain ⟨r, S, io, k, h⟩ := h
  have fr : ∀ {Q : VK}, (∀ x S1 io1 H1 v, Stp ct io H io1 H1 → StoOk X.K ct (Mall G r s) io1 S1 H1 → ResOk X.K ct (Mall G r s) (Mown G r s) H io1 S1 H1 x.2 x.1 v → m r S = .ok x S1 → Q v H1) → Res X.K ct W (Mall G r s) s io H (m r S) (fun x S' io' H' => ∀ v, ResOk X.K ct (Mall G r s) (Mown G r s) H io' S' H' x.2 x.1 v → Q v H') := fun {Q} q => by
    refine Res.first h fun x S1 io1 H1 e1 t1 q1 h1 v ov => ?_
    exact q x S1 io1 H1 v t1 q1 ov e1
  cases e0 : m r S with
  | no => unfold iSeq at h; rw [e0] at h; exact h.elim
  | er c p S' =>
    refine .inl ⟨r, S, io, k, fr fun x S1 io1 H1 v _ _ _ e1 => ?_⟩
    rw [e0] at e1
    cases e1
  | ok x S1 =>
    unfold iSeq at h
    rw [e0] at h
    have h : Res X.K ct W (Mall G r s) s io H (if okI x.2 then (match x.1 with
      | .lst ds => Rs.ok ds S1
      | .frz ds => .ok ds S1
      | .tup ds => .ok ds S1
      | .str z => .ok (strD z) S1
      | _ => .no) else .no) _ := h
    split at h
    · rename_i g
      split at h
      · rename_i ds e
        refine .inl ⟨r, S, io, k, ?_⟩
        rw [e0]
        intro io1 H1 t1 q1 v ov
        have o2 := okI_argF g ov.repF
        rw [e] at o2
        obtain ⟨a, vs, ev, h1, h2⟩ := argF_top g o2
        refine ⟨a, ev, ⟨vs, SqL.of h1⟩, h.go t1 q1 _ _ (walk_lst (d := .lst ds) g rfl) fun p hp => ?_⟩
        rw [List.mem_singleton.mp hp, ← ev]
        exact o2
      · rename_i ds e
        refine .inl ⟨r, S, io, k, ?_⟩
        rw [e0]
        intro io1 H1 t1 q1 v ov
        have o2 := okI_argF g ov.repF
        rw [e] at o2
        obtain ⟨a, vs, ev, h1, h2⟩ := argF_frz g o2
        refine ⟨a, ev, ⟨vs, h1⟩, h.go t1 q1 _ _ (walk_lst (d := .frz ds) g rfl) fun p hp => ?_⟩
        rw [List.mem_singleton.mp hp, ← ev]
        exact o2
      · rename_i ds e
        refine .inr (.inl ⟨r, S, io, k, ?_⟩)
        rw [e0]
        intro io1 H1 t1 q1 v ov
        have o2 := okI_argF g ov.repF
        rw [e] at o2
        obtain ⟨a, vs, ev, h1, h2⟩ := argF_tup g o2
        refine ⟨a, ev, ⟨vs, h1⟩, h.go t1 q1 _ _ (walk_tupD g) fun p hp => ?_⟩
        rw [List.mem_singleton.mp hp, ← ev]
        exact o2
      · rename_i z e
        refine .inr (.inr ⟨r, S, io, k, ?_⟩)
        rw [e0]
        intro io1 H1 t1 q1 v ov
        have o2 := ov.repF
        rw [e] at o2
        exact ⟨z, str_of o2, h.go t1 q1 _ [] walk_strD fun p hp => nomatch hp⟩
      · exact h.elim
    · exact h.elim
def iArgs (g : List (Fl × D) → Option (List D)) (t : AM) : Env → Store → Rs (List D) := fun r S => (t r S).bind fun as S1 => lift0 (g as) S1
theorem iargs_go {t : AM} {g : List (Fl × D) → Option (List D)} {G : Gx} {W : WX} {s : St} {H : Hp} {R : It → Hp → Prop} {Q : List V → Hp → Prop} (h : tI X.K ct G W (iArgs g t) s H R)
    (q : ∀ M N io H1 as vs ds, ArgsOk X.K M N io H1 as vs → g as = some ds → (∀ J held, WalkD X.K J held ds → (∀ p ∈ held, ArgF X.K M N io H1 p.1 p.2.1 p.2.2) → R J H1) → Q vs H1) : tA X.K ct G W t s H Q := by
  obtain ⟨r, S, io, k, h⟩ := h
  refine ⟨r, S, io, k, Res.first h fun as S1 io1 H1 e1 t1 q1 h1 vs o => ?_⟩
  unfold lift0 at h1
  split at h1
  · rename_i ds e
    exact q _ _ io1 H1 as vs ds o e fun J held w a => h1.here q1 J held w a
  · exact h1.elim
def inR (i : Int) : Bool := decide (-(2 ^ 62) ≤ i) && decide (i < 2 ^ 62)
def gRng1 : List (Fl × D) → Option (List D) := fun as => match as with
  | [(_, .int j)] => if inR j then some (rangeD 0 1 j.toNat) else none
  | _ => none
def gRng2 : List (Fl × D) → Option (List D) := fun as => match as with
  | [(_, .int i), (_, .int j)] => if inR i && inR j then some (rangeD i 1 (j - i).toNat) else none
  | _ => none
def gRngM : List (Fl × D) → Option (List D) := fun as => match as with
  | [(_, .int i), (_, .int j), (_, .int c)] => if inR i && inR j && decide (c = -1) then some (rangeD i (-1) (i - j).toNat) else none
  | _ => none
theorem inR_of {i : Int} (h : inR i = true) : -(2 ^ 62) ≤ i ∧ i < 2 ^ 62 := by
  unfold inR at h
  simp only [Bool.and_eq_true, decide_eq_true_eq] at h
  exact h
theorem args1 {K : PySem.W.Frag} {M N : Addr → Prop} {io : List Addr} {H : Hp} {p : Fl × D} {vs : List V} (h : ArgsOk K M N io H [p] vs) : ∃ v, vs = [v] ∧ RepF K M N io H p.1 p.2 v := by
  cases h with
  | cons r t => cases t; exact ⟨_, rfl, r⟩
theorem args2 {K : PySem.W.Frag} {M N : Addr → Prop} {io : List Addr} {H : Hp} {p q : Fl × D} {vs : List V} (h : ArgsOk K M N io H [p, q] vs) : ∃ v w, vs = [v, w] ∧ RepF K M N io H p.1 p.2 v ∧ RepF K M N io H q.1 q.2 w := by
  cases h with
  | cons r t =>
    obtain ⟨w, rfl, h⟩ := args1 t
    exact ⟨_, w, rfl, r, h⟩
theorem args3 {K : PySem.W.Frag} {M N : Addr → Prop} {io : List Addr} {H : Hp} {p q u : Fl × D} {vs : List V} (h : ArgsOk K M N io H [p, q, u] vs) : ∃ v w z, vs = [v, w, z] ∧ RepF K M N io H p.1 p.2 v ∧ RepF K M N io H q.1 q.2 w ∧ RepF K M N io H u.1 u.2 z := by
  cases h with
  | cons r t =>
    obtain ⟨w, z, rfl, h⟩ := args2 t
    exact ⟨_, w, z, rfl, r, h⟩
theorem mi_range1 {a : Expr} {t : AM} {p : Pos} (hg : Gl X "range") (hm : X.mg "range" = none) (ha : MA X ct [a] t) (hs : starEach [a] X.env = [(false, eval a X.env)] := by rfl) : MI X ct tg (.Call (.Name "range" p) [a] [] pos) (iArgs gRng1 t) :=
  ⟨fun G W tk => (pi_range1 hg hm (ha.run G W tk) hs).imp fun s H R h => iargs_go h fun M N io H1 as vs ds o e w => by
    unfold gRng1 at e
    split at e
    · rename_i f j
      split at e
      · rename_i g
        cases e
        obtain ⟨v, rfl, r⟩ := args1 o
        exact ⟨j, by rw [int_of r], (inR_of g).1, (inR_of g).2, w _ [] walk_rangeD fun p hp => nomatch hp⟩
      · cases e
    · cases e⟩
theorem mi_range2 {a b : Expr} {t : AM} {p : Pos} (hg : Gl X "range") (hm : X.mg "range" = none) (ha : MA X ct [a, b] t) (hs : starEach [a, b] X.env = [(false, eval a X.env), (false, eval b X.env)] := by rfl) (hs2 : starEach [b] X.env = [(false, eval b X.env)] := by rfl) :
    MI X ct tg (.Call (.Name "range" p) [a, b] [] pos) (iArgs gRng2 t) :=
  ⟨fun G W tk => (pi_range2 hg hm (ha.run G W tk) hs hs2).imp fun s H R h => iargs_go h fun M N io H1 as vs ds o e w => by
    unfold gRng2 at e
    split at e
    · rename_i f i f' j
      split at e
      · rename_i g
        rw [Bool.and_eq_true] at g
        cases e
        obtain ⟨v, u, rfl, r, r'⟩ := args2 o
        exact ⟨i, j, by rw [int_of r, int_of r'], ⟨(inR_of g.1).1, (inR_of g.1).2, (inR_of g.2).1, (inR_of g.2).2⟩, w _ [] walk_rangeD fun p hp => nomatch hp⟩
      · cases e
    · cases e⟩
theorem mi_rangeM {a b c : Expr} {t : AM} {p : Pos} (hg : Gl X "range") (hm : X.mg "range" = none) (ha : MA X ct [a, b, c] t) (hs : starEach [a, b, c] X.env = (false, eval a X.env) :: starEach [b, c] X.env := by rfl) (hpl : (backTo pos (starEach [b, c] X.env)).any (·.1) = false := by rfl) :
    MI X ct tg (.Call (.Name "range" p) [a, b, c] [] pos) (iArgs gRngM t) :=
  ⟨fun G W tk => (pi_range3 hg hm (ha.run G W tk) hs hpl).imp fun s H R h => iargs_go h fun M N io H1 as vs ds o e w => by
    unfold gRngM at e
    split at e
    · rename_i f i f' j f2 c
      split at e
      · rename_i g
        rw [Bool.and_eq_true, Bool.and_eq_true, decide_eq_true_eq] at g
        obtain ⟨⟨g1, g2⟩, rfl⟩ := g
        cases e
        obtain ⟨v, u, z, rfl, r, r', r2⟩ := args3 o
        exact ⟨i, j, -1, _, by rw [int_of r, int_of r', int_of r2], RgC.neg (inR_of g1).1 (inR_of g1).2 (inR_of g2).1 (inR_of g2).2, w _ [] walk_rangeCD fun p hp => nomatch hp⟩
      · cases e
    · cases e⟩
def gSeq1 (h : List D → List D) : List (Fl × D) → Option (List D) := fun as => match as with
  | [(f, d)] => if okI f then (seqOf d).map h else none
  | _ => none
theorem gSeq1_of {h : List D → List D} {as : List (Fl × D)} {ds : List D} (e : gSeq1 h as = some ds) : ∃ f d xs, as = [(f, d)] ∧ okI f = true ∧ seqOf d = some xs ∧ ds = h xs := by
  unfold gSeq1 at e
  split at e
  · rename_i f d
    split at e
    · rename_i g
      obtain ⟨xs, e1, e2⟩ := Option.map_eq_some_iff.mp e
      exact ⟨f, d, xs, rfl, g, e1, e2.symm⟩
    · cases e
  · cases e
theorem mi_rev {a : Expr} {t : AM} {p : Pos} (hg : Gl X "reversed") (hm : X.mg "reversed" = none) (ha : MA X ct [a] t) (hs : starEach [a] X.env = [(false, eval a X.env)] := by rfl) : MI X ct tg (.Call (.Name "reversed" p) [a] [] pos) (iArgs (gSeq1 List.reverse) t) :=
  ⟨fun G W tk => (pi_reversed hg hm (ha.run G W tk) hs).imp fun s H R h => iargs_go h fun M N io H1 as vs ds o e w => by
    obtain ⟨f, d, xs, rfl, g, e1, rfl⟩ := gSeq1_of e
    obtain ⟨v, rfl, r⟩ := args1 o
    have o2 := okI_argF g r
    obtain ⟨a, vs, ev, h1, h2⟩ := argF_seq g e1 o2
    refine ⟨a, vs, by rw [ev], h1, ?_⟩
    rw [← h2.len]
    refine w _ _ (walk_revD g e1) fun p hp => ?_
    rw [List.mem_singleton.mp hp, ← ev]
    exact o2⟩
theorem mi_enum {a : Expr} {t : AM} {p tpos : Pos} {elts : List Expr} {kk : Nat} (hg : Gl X "enumerate") (hm : X.mg "enumerate" = none) (ha : MA X ct [a] t) (hs : starEach [a] X.env = [(false, eval a X.env)] := by rfl) : MI X ct (.Tuple elts kk tpos) (.Call (.Name "enumerate" p) [a] [] pos) (iArgs (gSeq1 enumD) t) :=
  ⟨fun G W tk => (pi_enum hg hm (ha.run G W tk) hs).imp fun s H R h => iargs_go h fun M N io H1 as vs ds o e w => by
    obtain ⟨f, d, xs, rfl, g, e1, rfl⟩ := gSeq1_of e
    obtain ⟨v, rfl, r⟩ := args1 o
    have o2 := okI_argF g r
    obtain ⟨a, vs, ev, h1, h2⟩ := argF_seq g e1 o2
    refine ⟨a, vs, by rw [ev], h1, w _ _ (walk_enumD g e1) fun p hp => ?_⟩
    rw [List.mem_singleton.mp hp, ← ev]
    exact o2⟩
def gZip : List (Fl × D) → Option (List D) := fun as => match as with
  | [(f, d), (f', d')] => if okI f && okI f' then (match seqOf d, seqOf d' with
    | some xs, some ys => some (zipD xs ys)
    | _, _ => none) else none
  | _ => none
theorem mi_zip {a b : Expr} {t : AM} {p tpos : Pos} {elts : List Expr} {kk : Nat} (hg : Gl X "zip") (hm : X.mg "zip" = none) (ha : MA X ct [a, b] t)
    (hs : starEach [a, b] X.env = (false, eval a X.env) :: starEach [b] X.env := by rfl) (hpl : (backTo pos (starEach [b] X.env)).any (·.1) = false := by rfl) : MI X ct (.Tuple elts kk tpos) (.Call (.Name "zip" p) [a, b] [] pos) (iArgs gZip t) :=
  ⟨fun G W tk => (pi_zip hg hm (ha.run G W tk) hs hpl).imp fun s H R h => iargs_go h fun M N io H1 as vs ds o e w => by
    unfold gZip at e
    split at e
    · rename_i f d f' d'
      split at e
      · rename_i g
        rw [Bool.and_eq_true] at g
        split at e
        · rename_i xs ys e1 e2
          cases e
          obtain ⟨v, u, rfl, r, r'⟩ := args2 o
          have o1 := okI_argF g.1 r
          have o2 := okI_argF g.2 r'
          obtain ⟨a, vs, ev, h1, h2⟩ := argF_seq g.1 e1 o1
          obtain ⟨b, ws, ew, h3, h4⟩ := argF_seq g.2 e2 o2
          refine ⟨a, b, vs, ws, by rw [ev, ew], h1, h3, w _ _ (walk_zipD g.1 e1 g.2 e2) fun p hp => ?_⟩
          rcases List.mem_cons.mp hp with z | hp
          · rw [z, ← ev]
            exact o1
          · rw [List.mem_singleton.mp hp, ← ew]
            exact o2
        · cases e
      · cases e
    · cases e⟩
/-! ### for -/
def forL (g : GM) (b : SM) : List D → Env → Store → SR
  | [], r, S => .nx r S
  | d :: ds, r, S => match g d r with
    | none => .no
    | some r1 => match b r1 S with
      | .nx r' S' => forL g b ds r' S'
      | .ct r' S' => forL g b ds r' S'
      | .bk r' S' => .nx r' S'
      | x => x
def sFor (mi : Env → Store → Rs (List D)) (g : GM) (b : SM) : SM := fun r S => (mi r S).sb r fun ds S1 => forL g b ds r S1
theorem Ok.hold {K : PySem.W.Frag} {G : Gx} {r : Env} {S : Store} {io : List Addr} {s : St} {H : Hp} (k : Ok K ct G r S io s H) {h : List (Fl × D × V)} (q : ∀ p ∈ h, ArgF K (Mall G r s) (Mown G r s) io H p.1 p.2.1 p.2.2) : Ok K ct { G with held := h ++ G.held } r S io s H :=
  ⟨k.len, k.arg, k.own, k.inj, k.sto, k.stp, k.m0, k.n0, fun p hp => (List.mem_append.mp hp).elim (q p) (k.held p), k.dp.env rfl (fun _ z => z) fun _ _ _ e => ⟨e, rfl⟩⟩
theorem Ok.drop {K : PySem.W.Frag} {G : Gx} {r : Env} {S : Store} {io : List Addr} {s : St} {H : Hp} {h : List (Fl × D × V)} (k : Ok K ct { G with held := h ++ G.held } r S io s H) : Ok K ct G r S io s H :=
  ⟨k.len, k.arg, k.own, k.inj, k.sto, k.stp, k.m0, k.n0, fun p hp => k.held p (List.mem_append_right _ hp), k.dp.env rfl (fun _ z => z) fun _ _ _ e => ⟨e, rfl⟩⟩
theorem ms_for {iter : Expr} {body : List Stmt} {mi : Env → Store → Rs (List D)} {ts : List Nat} {g : GM} {b : SM} (hc : X.calm = true) (hi : MI X ct tg iter mi) (hg : MG X ct tg ts g) (hb : MSs X ct body b)
    (hs : ∀ x, foldedSetIterable iter X.env x = pure x := by intro _; rfl) : MS X ct (.For tg iter body [] pos) (sFor mi g b) := by
  refine ⟨fun G W tk po => (ps_for po hc (hi.run G W tk) (PG.ex fun held : List (Fl × D × V) => hg.run { G with held := held ++ G.held }) (PSs.ex fun held : List (Fl × D × V) => hb.run { G with held := held ++ G.held } W tk po) hs).imp fun De s H h => ?_⟩
  obtain ⟨r, S, io, k, h⟩ := h
  refine ⟨r, S, io, k, SRes.first k h fun ds S1 io1 H1 e1 t1 q1 k1 h1 J held wd ha => ?_⟩
  refine ⟨fun i m s H => m = ds.length - i ∧ i ≤ ds.length ∧ ∃ r S io, Ok X.K ct { G with held := held ++ G.held } r S io s H ∧ SRes X.K ct G W De (forL g b (ds.drop i) r S), ⟨_, rfl, Nat.zero_le _, r, S1, io1, k1.hold ha, h1⟩, fun i m s H ⟨hm, hi, r, S, io, k, h⟩ => ?_⟩
  obtain ⟨w1, w2, w3⟩ := wd _ _ io H fun p hp => k.held p (List.mem_append_left _ hp)
  by_cases hlt : i < ds.length
  · refine .inr ⟨w1 i hlt, fun s' H' => ∃ r S io, Ok X.K ct { G with held := held ++ G.held } r S io s' H' ∧ SRes X.K ct G W De (forL g b (ds.drop (i + 1)) r S), fun s' H' n => ⟨ds.length - (i + 1), by omega, rfl, hlt, n⟩, fun x H' y => ?_⟩
    obtain ⟨d, hd, hH, rv⟩ := w3 i x H' hlt y
    have ed : ds.drop i = d :: ds.drop (i + 1) := by
      rw [List.drop_eq_getElem_cons hlt]
      rw [List.getElem?_eq_getElem hlt] at hd
      cases hd
      rfl
    rw [ed] at h
    have k' : Ok X.K ct { G with held := held ++ G.held } r S io s H' := by
      rcases hH with rfl | ⟨T, o, nT, rfl⟩
      · exact k
      · exact k.step (Stp.upd nT) (k.sto.upd nT)
    refine ⟨held, r, S, io, d, k', rv.anti (M := Mall { G with held := held ++ G.held } r s) fun _ z => z, ?_⟩
    unfold forL at h
    cases e2 : g d r with
    | none => rw [e2] at h; exact h
    | some r1 =>
      rw [e2] at h
      intro s2 _ _ k2
      refine ⟨held, r1, S, io, k2, ?_⟩
      have h : SRes X.K ct G W De (match b r1 S with
        | .nx r' S' => forL g b (ds.drop (i + 1)) r' S'
        | .ct r' S' => forL g b (ds.drop (i + 1)) r' S'
        | .bk r' S' => .nx r' S'
        | x => x) := h
      cases e3 : b r1 S with
      | nx r' S' => rw [e3] at h; exact fun s' io' H' k' => ⟨r', S', io', k', h⟩
      | ct r' S' => rw [e3] at h; exact fun s' io' H' k' => ⟨r', S', io', k', h⟩
      | bk r' S' => rw [e3] at h; exact fun s' io' H' k' => h s' io' H' k'.drop
      | rt d f S' => rw [e3] at h; exact h
      | er c p r' S' => rw [e3] at h; exact fun dx s' io' H' k' e => h dx s' io' H' k'.drop e
      | no => rw [e3] at h; exact h
  · have ei : i = ds.length := by omega
    subst ei
    refine .inl ⟨w2, ?_⟩
    rw [List.drop_length] at h
    exact h s io H k.drop
/-! ### comprehensions -/
def wipeE (r : Env) : List Nat → Env
  | [] => r
  | v :: vs => (wipeE r vs).set v .no
def freeE (r : Env) (vs : List Nat) : Bool := vs.all fun i => match r[i]? with
  | some (.own _) => false
  | _ => true
theorem wipeE_len (r : Env) : ∀ vs : List Nat, (wipeE r vs).length = r.length
  | [] => rfl
  | v :: vs => by unfold wipeE; rw [List.length_set, wipeE_len r vs]
theorem wipeE_at {r : Env} {i : Nat} {x : Slot} : ∀ {vs : List Nat}, (wipeE r vs)[i]? = some x → x ≠ .no → r[i]? = some x ∧ i ∉ vs
  | [], h, _ => ⟨h, by simp⟩
  | v :: vs, h, hx => by
    unfold wipeE at h
    rcases get_set h with ⟨_, h, _⟩ | ⟨hj, h⟩
    · exact absurd h.symm hx
    · obtain ⟨h1, h2⟩ := wipeE_at h hx
      exact ⟨h1, by simp only [List.mem_cons, not_or]; exact ⟨fun z => hj z.symm, h2⟩⟩
theorem wipeE_out {r : Env} {i : Nat} : ∀ {vs : List Nat}, i ∉ vs → (wipeE r vs)[i]? = r[i]?
  | [], _ => rfl
  | v :: vs, h => by
    simp only [List.mem_cons, not_or] at h
    unfold wipeE
    rw [List.getElem?_set_ne (fun z => h.1 z.symm), wipeE_out h.2]
theorem wipe_out' {s : St} {i : Nat} : ∀ {vs : List Nat}, i ∉ vs → (wipe s vs)[i]? = s[i]?
  | [], _ => rfl
  | v :: vs, h => by
    simp only [List.mem_cons, not_or] at h
    unfold wipe
    rw [List.getElem?_set_ne (fun z => h.1 z.symm), wipe_out' h.2]
theorem wipe_in {s : St} {i : Nat} : ∀ {vs : List Nat}, i ∈ vs → i < s.length → (wipe s vs)[i]? = some none
  | v :: vs, h, hl => by
    unfold wipe
    by_cases e : v = i
    · subst e
      rw [List.getElem?_set_self (by rw [wipe_length]; exact hl)]
    · rw [List.getElem?_set_ne e]
      rcases List.mem_cons.mp h with z | z
      · exact absurd z.symm e
      · exact wipe_in z hl
theorem wipe_eq {s s' : St} {vs : List Nat} (hl : s'.length = s.length) (h : ∀ j, j ∉ vs → s'[j]? = s[j]?) : wipe s' vs = wipe s vs := by
  refine List.ext_getElem? fun j => ?_
  by_cases hj : j ∈ vs
  · rcases Nat.lt_or_ge j s.length with hlt | hge
    · rw [wipe_in hj hlt, wipe_in hj (hl ▸ hlt)]
    · rw [List.getElem?_eq_none (by rw [wipe_length]; omega), List.getElem?_eq_none (by rw [wipe_length]; omega)]
  · rw [wipe_out' hj, wipe_out' hj, h j hj]
section
variable {K : PySem.W.Frag} {G : Gx} {r : Env} {S : Store} {io : List Addr} {s : St} {H : Hp} {vs : List Nat}
theorem mown_wipe (g : freeE r vs = true) : Mown G (wipeE r vs) (wipe s vs) = Mown G r s := by
  funext a
  refine propext ⟨fun z => ?_, fun z => ?_⟩
  · rcases z with z | ⟨i, d, h1, h2⟩
    · exact .inl z
    · obtain ⟨h1, h3⟩ := wipeE_at h1 (by simp)
      rw [wipe_out' h3] at h2
      exact .inr ⟨i, d, h1, h2⟩
  · rcases z with z | ⟨i, d, h1, h2⟩
    · exact .inl z
    · have hi : i ∉ vs := fun z => by
        have q := List.all_eq_true.mp g i z
        rw [h1] at q
        cases q
      exact .inr ⟨i, d, by rw [wipeE_out hi]; exact h1, by rw [wipe_out' hi]; exact h2⟩
theorem mall_wipe (g : freeE r vs = true) : Mall G (wipeE r vs) (wipe s vs) = Mall G r s := by
  unfold Mall
  rw [mown_wipe g]
theorem Ok.wipe (k : Ok K ct G r S io s H) (g : freeE r vs = true) : Ok K ct G (wipeE r vs) S io (wipe s vs) H := by
  refine ⟨by rw [wipeE_len, wipe_length]; exact k.len, fun i f d h => ?_, fun i d h => ?_, fun i j d e a h1 h2 h3 h4 => ?_, by rw [mall_wipe g]; exact k.sto, k.stp, k.m0, k.n0, by rw [mall_wipe g, mown_wipe g]; exact k.held, k.dp.env rfl (fun _ z => z) fun i b d e => by
    obtain ⟨e, hi⟩ := wipeE_at e (by simp)
    exact ⟨e, wipe_out' hi⟩⟩
  · obtain ⟨h, hi⟩ := wipeE_at h (by simp)
    rw [mall_wipe g, mown_wipe g, wipe_out' hi]
    exact k.arg i f d h
  · obtain ⟨h, hi⟩ := wipeE_at h (by simp)
    rw [mall_wipe g, wipe_out' hi]
    exact k.own i d h
  · obtain ⟨h1, hi⟩ := wipeE_at h1 (by simp)
    obtain ⟨h2, hj⟩ := wipeE_at h2 (by simp)
    rw [wipe_out' hi] at h3
    rw [wipe_out' hj] at h4
    exact k.inj i j d e a h1 h2 h3 h4
/-- the new list, hidden from the slots -/
def Gx.hide (G : Gx) (D : Addr) : Gx := { G with N0 := fun a => G.N0 a ∨ a = D }
theorem mown_hide {D a : Addr} : Mown (G.hide D) r s a ↔ Mown G r s a ∨ a = D := by
  constructor
  · rintro ((z | z) | z)
    · exact .inl (.inl z)
    · exact .inr z
    · exact .inl (.inr z)
  · rintro ((z | z) | z)
    · exact .inl (.inl z)
    · exact .inr z
    · exact .inl (.inr z)
theorem mall_hide {D a : Addr} : Mall (G.hide D) r s a ↔ Mall G r s a ∨ a = D := by
  unfold Mall
  rw [mown_hide]
  constructor
  · rintro (z | z | z)
    · exact .inl (.inl z)
    · exact .inl (.inr z)
    · exact .inr z
  · rintro ((z | z) | z)
    · exact .inl z
    · exact .inr (.inl z)
    · exact .inr (.inr z)
theorem Ok.hide {D : Addr} (k : Ok K ct G r S io s H) (hD : H D = none) : Ok K ct (G.hide D) r S io s (upd H D (.lst [])) := by
  have st : Stp ct io H io (upd H D (.lst [])) := Stp.upd hD
  have ne : ∀ a, (∃ o, H a = some o) → a ≠ D := fun a ⟨o, e⟩ z => by
    rw [z, hD] at e
    cases e
  have m : ∀ a, (∃ o, H a = some o) → ¬ Mall G r s a → ¬ Mall (G.hide D) r s a := fun a e n z => (mall_hide.mp z).elim n (ne a e)
  have m' : ∀ a, (∃ o, H a = some o) → ¬ Mown G r s a → ¬ Mown (G.hide D) r s a := fun a e n z => (mown_hide.mp z).elim n (ne a e)
  refine ⟨k.len, fun i f d h => ?_, fun i d h => ?_, k.inj, k.sto.mono st.kp m (fun b _ _ _ _ e => by rw [upd_ne (ne b ⟨_, e⟩)]; exact e) (fun b _ e => by rw [upd_ne (ne b ⟨_, e⟩)]; exact e), k.stp.trans st, fun a h => ?_, fun a h => ?_, fun p hp => (k.held p hp).mono st.kp st.kp m m' st.pre, k.dp.gen (M := fun _ => False) rfl (fun _ z => .inl z) (fun _ _ _ e => ⟨e, rfl⟩) st.kp (fun a o _ _ e n => st.k1 a o e n) st.pre⟩
  · obtain ⟨v, h1, h2⟩ := k.arg i f d h
    exact ⟨v, h1, h2.mono st.kp st.kp m m' st.pre⟩
  · obtain ⟨a, h1, h2, h3, h4, h5⟩ := k.own i d h
    obtain ⟨o, e, _⟩ := h2.there
    exact ⟨a, h1, h2.mono st.kp m st.pre fun o e n => st.k1 a o e n, h3, fun z => z.elim h4 (ne a ⟨o, e⟩), h5⟩
  · obtain ⟨o, e, n⟩ := k.m0 a h
    exact ⟨o, st.k1 a o e n, n⟩
  · rcases h with h | rfl
    · obtain ⟨o, ⟨e, n⟩, y⟩ := k.n0 a h
      exact ⟨o, ⟨st.k1 a o e n, n⟩, y⟩
    · refine ⟨.lst [], ⟨upd_same, NI.lst⟩, fun z => ?_, k.stp.free hD, not_im_lst⟩
      obtain ⟨o, e, _⟩ := k.m0 a z
      rw [hD] at e
      cases e
theorem Ok.mutN {D : Addr} {vs ws : List V} (k : Ok K ct G r S io s H) (hN : G.N0 D) (hF : ∀ j, ¬ G.F0 j D) (hD : H D = some (.lst vs)) : Ok K ct G r S io s (upd H D (.lst ws)) := by
  have ma : Mown G r s D := .inl hN
  have mb : Mall G r s D := .inr ma
  have kp : ∀ M : Addr → Prop, M D → Kp M H (upd H D (.lst ws)) := fun M hm b u q ni z => by
    rw [upd_ne]
    · exact q
    · rintro rfl
      rcases z with z | z
      · exact z hm
      · rw [hD] at q
        cases q
        exact not_im_lst z
  obtain ⟨o, ⟨_, _⟩, nm, n0, _⟩ := k.n0 D hN
  have h0 : ∀ b u, G.H0 b = some u → b ≠ D := fun b u q y => by
    rw [y, n0] at q
    cases q
  refine ⟨k.len, fun i f d h => ?_, fun i d h => ?_, k.inj, k.sto.mono (kp _ mb) (fun _ _ n => n) (fun b _ _ _ _ e => ?_) (fun b _ e => ?_), ⟨fun b u q n => ?_, fun b u q n nt => ?_, k.stp.pre, k.stp.new, fun b u q => ?_, fun pu b u q => by rw [upd_ne (h0 b u q)]; exact k.stp.k3 pu b u q⟩, fun a h => ?_, fun a h => ?_, fun p hp => (k.held p hp).mono (kp _ mb) (kp _ ma) (fun _ _ n => n) (fun _ _ n => n) io_refl, k.dp.gen (M := Mown G r s) rfl (fun _ z => z) (fun _ _ _ e => ⟨e, rfl⟩) (kp _ ma) (fun b o _ hb e _ => by
    rw [upd_ne]
    · exact e
    · rintro rfl
      obtain ⟨j, hb⟩ := hb
      exact hF j hb) io_refl⟩
  · obtain ⟨v, h1, h2⟩ := k.arg i f d h
    exact ⟨v, h1, h2.mono (kp _ mb) (kp _ ma) (fun _ _ n => n) (fun _ _ n => n) io_refl⟩
  · obtain ⟨a, h1, h2, h3, h4, h5⟩ := k.own i d h
    refine ⟨a, h1, h2.mono (kp _ mb) (fun _ _ n => n) io_refl fun o e _ => ?_, h3, h4, h5⟩
    rw [upd_ne]
    · exact e
    · exact fun z => h4 (z ▸ hN)
  · rw [upd_ne]
    · exact e
    · intro z
      rw [z, hD] at e
      cases e
  · rw [upd_ne]
    · exact e
    · intro z
      rw [z, hD] at e
      cases e
  · rw [upd_ne (h0 b u q)]
    exact k.stp.k1 b u q n
  · rw [upd_ne (h0 b u q)]
    exact k.stp.k2 b u q n nt
  · rw [upd_ne (h0 b u q)]
    exact k.stp.dom b u q
  · obtain ⟨o, e, n⟩ := k.m0 a h
    refine ⟨o, ?_, n⟩
    rw [upd_ne]
    · exact e
    · exact fun z => nm (z ▸ h)
  · by_cases z : a = D
    · subst z
      exact ⟨.lst ws, ⟨upd_same, NI.lst⟩, nm, n0, not_im_lst⟩
    · obtain ⟨o, ⟨e, n⟩, y⟩ := k.n0 a h
      exact ⟨o, ⟨by rw [upd_ne z]; exact e, n⟩, y⟩
end
def compL (g : GM) (tt : TM) (te : EM) (r : Env) : List D → Store → Rs (List D)
  | [], S => .ok [] S
  | d :: ds, S => match g d r with
    | none => .no
    | some r1 => match tt r1 S with
      | .ok true S1 => match te r1 S1 with
        | .ok x S2 => if okst x.2 x.1 then (match compL g tt te r ds S2 with
          | .ok xs S3 => .ok (x.1 :: xs) S3
          | _ => .no) else .no
        | _ => .no
      | .ok false S1 => compL g tt te r ds S1
      | _ => .no
def eLc (mi : Env → Store → Rs (List D)) (vs : List Nat) (g : GM) (tt : TM) (te : EM) : EM := fun r S => if freeE r vs then (mi r S).bind fun ds S1 => if ds.length ≤ sizeLine then (match compL g tt te (wipeE r vs) ds S1 with
  | .ok xs S2 => .ok (.lst xs, .n) S2
  | _ => .no) else .no else .no
abbrev W0 : WX := fun _ _ _ _ => False
theorem lc_go {mi : Env → Store → Rs (List D)} {vs ts : List Nat} {g : GM} {tt : TM} {te : EM} (hts : ∀ j ∈ ts, j ∈ vs) {G : Gx} {W : WX} {s : St} {H : Hp} {Q : VK} (h : tE X.K ct G W (eLc mi vs g tt te) s H Q) :
    tLc (tI X.K ct G W mi) (fun v s H Q => ∃ G' : Gx, tG X.K ct G' ts g v s H Q) (fun s H Q => ∃ G' : Gx, tT X.K ct G' W0 tt s H Q) (fun s H Q => ∃ G' : Gx, tE X.K ct G' W0 te s H Q) vs s H Q := by
  obtain ⟨r, S, io, k, h⟩ := h
  unfold eLc at h
  split at h
  case isFalse => exact h.elim
  rename_i fr
  refine ⟨r, S, io, k, Res.first h fun ds S1 io1 H1 e1 t1 q1 h1 J held wd ha D hD => ?_⟩
  have k1 := k.step t1 q1
  split at h1
  case isFalse => exact h1.elim
  rename_i hz
  have kh : Ok X.K ct ({ G with held := held ++ G.held }) r S1 io1 s H1 := k1.hold ha
  have kd : Ok X.K ct (({ G with held := held ++ G.held } : Gx).hide D) (wipeE r vs) S1 io1 (wipe s vs) (upd H1 D (.lst [])) := (kh.hide hD).wipe fr
  generalize hG' : ({ G with held := held ++ G.held } : Gx).hide D = G' at kd
  have hN : G'.N0 D := by rw [← hG']; exact .inr rfl
  have hF : ∀ j, ¬ G'.F0 j D := by
    rw [← hG']
    intro j z
    obtain ⟨o, ⟨e, _⟩, _⟩ := k1.n0 D (k1.dp.sub j D z)
    rw [hD] at e
    cases e
  have eM : ∀ a, Mall G' (wipeE r vs) (wipe s vs) a ↔ Mall G r s a ∨ a = D := fun a => by
    rw [mall_wipe fr, ← hG', mall_hide]
    exact Iff.rfl
  split at h1
  case h_2 => exact h1.elim
  rename_i total Sf ec
  refine ⟨fun i m H => m = ds.length - i ∧ i ≤ ds.length ∧ ∃ S io acc us, Ok X.K ct G' (wipeE r vs) S io (wipe s vs) H ∧ Stp ct io1 H1 io H ∧ H D = some (.lst us) ∧ Reps X.K (Mall G' (wipeE r vs) (wipe s vs)) io H acc us ∧ acc.length ≤ i ∧
      ∃ rest, compL g tt te (wipeE r vs) (ds.drop i) S = .ok rest Sf ∧ acc ++ rest = total,
    ⟨_, rfl, Nat.zero_le _, S1, io1, [], [], kd, Stp.upd hD, upd_same, .nil, Nat.le_refl _, total, ec, rfl⟩, fun i m H ⟨hm, hi, S, io, acc, us, k, st, hus, ra, hal, rest, er, et⟩ => ?_⟩
  obtain ⟨w1, w2, w3⟩ := wd _ _ io H fun p hp => k.held p (by rw [← hG']; exact List.mem_append_left _ hp)
  by_cases hlt : i < ds.length
  · refine .inr ⟨w1 i hlt, fun H' => i + 1 ≤ ds.length ∧ ∃ S io acc us, Ok X.K ct G' (wipeE r vs) S io (wipe s vs) H' ∧ Stp ct io1 H1 io H' ∧ H' D = some (.lst us) ∧ Reps X.K (Mall G' (wipeE r vs) (wipe s vs)) io H' acc us ∧ acc.length ≤ i + 1 ∧
      ∃ rest, compL g tt te (wipeE r vs) (ds.drop (i + 1)) S = .ok rest Sf ∧ acc ++ rest = total, fun H' n => ⟨ds.length - (i + 1), by omega, rfl, n⟩, fun x H' y => ?_⟩
    obtain ⟨d, hd, hH, rv⟩ := w3 i x H' hlt y
    have ed : ds.drop i = d :: ds.drop (i + 1) := by
      rw [List.drop_eq_getElem_cons hlt]
      rw [List.getElem?_eq_getElem hlt] at hd
      cases hd
      rfl
    rw [ed] at er
    have ts' : Stp ct io H io H' := by
      rcases hH with rfl | ⟨T, o, nT, rfl⟩
      · exact Stp.refl
      · exact Stp.upd nT
    have k' : Ok X.K ct G' (wipeE r vs) S io (wipe s vs) H' := by
      rcases hH with rfl | ⟨T, o, nT, rfl⟩
      · exact k
      · exact k.step (Stp.upd nT) (k.sto.upd nT)
    have hus' : H' D = some (.lst us) := ts'.k1 D _ hus NI.lst
    unfold compL at er
    refine ⟨G', wipeE r vs, S, io, d, k', rv, ?_⟩
    cases e2 : g d (wipeE r vs) with
    | none => rw [e2] at er; cases er
    | some r1 =>
      rw [e2] at er
      have er : (match tt r1 S with
        | .ok true S1 => match te r1 S1 with
          | .ok x S2 => if okst x.2 x.1 then (match compL g tt te (wipeE r vs) (ds.drop (i + 1)) S2 with
            | .ok xs S3 => Rs.ok (x.1 :: xs) S3
            | _ => .no) else .no
          | _ => .no
        | .ok false S1 => compL g tt te (wipeE r vs) (ds.drop (i + 1)) S1
        | _ => .no) = .ok rest Sf := er
      intro s2 kp m2 k2
      -- own ones are the same in the turn
      have mo : ∀ a, Mall G' (wipeE r vs) (wipe s vs) a → Mall G' r1 s2 a := fun a z => by
        rcases z with z | z | ⟨j, u, z1, z2⟩
        · exact .inl z
        · exact .inr (.inl z)
        · obtain ⟨_, hj⟩ := wipeE_at z1 (by simp)
          have hj' : j ∉ ts := fun z => hj (hts j z)
          exact .inr (.inr ⟨j, u, by rw [(kp.2 j hj').1]; exact z1, by rw [(kp.2 j hj').2]; exact z2⟩)
      have eMM : Mall G' r1 s2 = Mall G' (wipeE r vs) (wipe s vs) := funext fun a => propext ⟨m2 a, mo a⟩
      refine ⟨?_, ?_⟩
      · have hl : s2.length = (wipe s vs).length := kp.1
        rw [wipe_eq (s := wipe s vs) hl fun j hj => (kp.2 j fun z => hj (hts j z)).2]
        exact wipe_eq (wipe_length s vs) fun j hj => wipe_out' hj
      · cases e3 : tt r1 S with
        | no => rw [e3] at er; cases er
        | er c p S' => rw [e3] at er; cases er
        | ok bb S2 =>
          rw [e3] at er
          refine ⟨G', r1, S, io, k2, ?_⟩
          rw [e3]
          intro io3 H3 t3 q3
          have q3' : StoOk X.K ct (Mall G' (wipeE r vs) (wipe s vs)) io3 S2 H3 := by rw [← eMM]; exact q3
          have k3 := k'.step t3 q3'
          have k3' := k2.step t3 q3
          cases bb with
          | false =>
            refine iteF ⟨hlt, S2, io3, acc, us, k3, (st.trans ts').trans t3, t3.k1 D _ hus' NI.lst, (ra.stp ts').stp t3, by omega, rest, er, et⟩
          | true =>
            refine iteT ?_
            have er : (match te r1 S2 with
              | .ok x S2 => if okst x.2 x.1 then (match compL g tt te (wipeE r vs) (ds.drop (i + 1)) S2 with
                | .ok xs S3 => Rs.ok (x.1 :: xs) S3
                | _ => .no) else .no
              | _ => .no) = .ok rest Sf := er
            cases e4 : te r1 S2 with
            | no => rw [e4] at er; cases er
            | er c p S' => rw [e4] at er; cases er
            | ok xv S3 =>
              rw [e4] at er
              refine ⟨G', r1, S2, io3, k3', ?_⟩
              rw [e4]
              intro io4 H4 t4 q4 v ov
              have er : (if okst xv.2 xv.1 then (match compL g tt te (wipeE r vs) (ds.drop (i + 1)) S3 with
                | .ok xs S3 => Rs.ok (xv.1 :: xs) S3
                | _ => .no) else .no) = .ok rest Sf := er
              split at er
              case isFalse => cases er
              rename_i go
              split at er
              case h_2 => cases er
              rename_i xs S4 e5
              cases er
              have q4' : StoOk X.K ct (Mall G' (wipeE r vs) (wipe s vs)) io4 S3 H4 := by rw [← eMM]; exact q4
              have k4 := k3.step t4 q4'
              have hus4 := t4.k1 D _ (t3.k1 D _ hus' NI.lst) NI.lst
              have rv4 : Rep X.K (Mall G' (wipeE r vs) (wipe s vs)) io4 H4 xv.1 v := by
                rw [← eMM]
                exact RepF.clean go ov.repF
              have ra4 := ((ra.stp ts').stp t3).stp t4
              have hll := ra4.len
              refine ⟨us, hus4, by omega, hlt, S3, io4, acc ++ [xv.1], us ++ [v], k4.mutN hN hF hus4, ?_, upd_same, ?_, by rw [List.length_append]; simp; omega, xs, e5, by rw [List.append_assoc]; exact et⟩
              · have z := ((st.trans ts').trans t3).trans t4
                have nd : ∀ b u, H1 b = some u → b ≠ D := fun b u q y => by
                  rw [y, hD] at q
                  cases q
                exact ⟨fun b u q n => by rw [upd_ne (nd b u q)]; exact z.k1 b u q n, fun b u q n nt => by rw [upd_ne (nd b u q)]; exact z.k2 b u q n nt, z.pre, z.new, fun b u q => by rw [upd_ne (nd b u q)]; exact z.dom b u q, fun pu b u q => by rw [upd_ne (nd b u q)]; exact z.k3 pu b u q⟩
              · have kpm : Kp (Mall G' (wipeE r vs) (wipe s vs)) H4 (upd H4 D (.lst (us ++ [v]))) := fun b u q ni z => by
                  rw [upd_ne]
                  · exact q
                  · rintro rfl
                    rcases z with z | z
                    · exact z (.inr (.inl hN))
                    · rw [hus4] at q
                      cases q
                      exact not_im_lst z
                exact (ra4.mono kpm (fun _ _ n => n) io_refl).app (.cons (rv4.mono kpm (fun _ _ n => n) io_refl) .nil)
  · have ei : i = ds.length := by omega
    subst ei
    refine .inl ⟨w2, ?_⟩
    rw [List.drop_length] at er
    unfold compL at er
    cases er
    rw [List.append_nil] at et
    subst et
    have q : StoOk X.K ct (fun b => Mall G r s b ∨ b = D) io Sf H := by
      have z := k.sto
      exact z.anti fun a w => (eM a).mpr w
    refine h1 io H st (q.anti fun a z => .inl z) (.ref D) ⟨D, rfl, t1.free hD, fun z => ?_, .inl ⟨acc, us, rfl, hus, ra.anti fun a w => (eM a).mpr w⟩, q⟩
    obtain ⟨o, e, _⟩ := k1.mdom D z
    rw [hD] at e
    cases e
/-- a comprehension's clause in every block -/
structure MLc (X : Cx) (ct : CT) (elt tgt iter : Expr) (ifs : List Expr) (scope : Scope) (own : List (Str × Nat)) (mi : Env → Store → Rs (List D)) (g : GM) (tt : TM) (te : EM) : Prop where
  hi : MI X ct tgt iter mi
  ok : BlkOk X.N X.env.scope scope own
  hg : ∃ ts : List Nat, (∀ j ∈ ts, j ∈ own.map (·.2)) ∧ ∀ (s : Shared) (H : Hp) (C : Addr) (cl : List (Str × Addr)) (fp : List Addr), MG (X.blk s H scope (compEnvC scope cl C X.env) fp) ct tgt ts g
  ht : ∀ (s : Shared) (H : Hp) (C : Addr) (cl : List (Str × Addr)) (fp : List Addr), ∀ G, PTs (X.blk s H scope (compEnvC scope cl C X.env) fp) ifs (tT X.K ct G W0 tt)
  he : ∀ (s : Shared) (H : Hp) (C : Addr) (cl : List (Str × Addr)) (fp : List Addr), ME (X.blk s H scope (compEnvC scope cl C X.env) fp) ct elt te
theorem takesB {s : Shared} {H : Hp} {scope : Scope} {cenv : PySem.Env} {fp : List Addr} : Takes (X.blk s H scope cenv fp) W0 := fun _ _ x => by
  obtain ⟨_, _, _, _, _, _, _, _, _, _, _, _, _, _, _, _, z⟩ := x
  exact z
theorem me_lc {elt tgt iter : Expr} {ifs : List Expr} {scope : Scope} {own : List (Str × Nat)} {mi : Env → Store → Rs (List D)} {g : GM} {tt : TM} {te : EM} (hc : X.calm = true) (hN : X.N.Nodup) (h : MLc X ct elt tgt iter ifs scope own mi g tt te)
    (hs : ∀ x, foldedSetIterable iter X.env x = pure x := by intro _; rfl) : ME X ct (.ListComp elt [⟨tgt, iter, ifs, 0⟩] scope pos) (eLc mi (own.map (·.2)) g tt te) := by
  obtain ⟨ts, h1, h2⟩ := h.hg
  exact ⟨fun G W tk => (pe_lc hc hN (h.hi.run G W tk) h.ok (fun s H C cl fp => PG.ex fun G' => (h2 s H C cl fp).run G') (fun s H C cl fp => PTs.ex fun G' => h.ht s H C cl fp G') (fun s H C cl fp => PE.ex fun G' => (h.he s H C cl fp).run G' W0 takesB) hs).imp fun s H Q q => lc_go h1 q⟩
def tYesM : TM := fun _ S => .ok true S
theorem pts_nilM {X : Cx} {G : Gx} {W : WX} : PTs X [] (tT X.K ct G W tYesM) := ⟨fun pins s σ H Q I ⟨r, S, io, k, h⟩ => pts_nil.run pins s σ H Q I (h.here k.sto)⟩
theorem pts_oneM {X : Cx} {G : Gx} {W : WX} {c : Expr} {tt : TM} (tk : Takes X W) (h : MT X ct c tt) : PTs X [c] (tT X.K ct G W tt) := pts_one (h.run G W tk)
theorem setLc_core {i : Nat} {y : Str} {py : Pos} {elt tgt iter : Expr} {ifs : List Expr} {scope : Scope} {own : List (Str × Nat)} {spos : Pos} {mi : Env → Store → Rs (List D)} {g : GM} {tt : TM} {te : EM} (hc : X.calm = true) (hN : X.N.Nodup) (hy : X.N[i]? = some y) (hyl : X.env.scope.names.lookup y = some .local)
    (hsw : swapsWith (.ListComp elt [⟨tgt, iter, ifs, 0⟩] scope pos) (some (.Name y py)) spos.line X.env = pure true) (h : MLc X ct elt tgt iter ifs scope own mi g tt te) (hs : ∀ x, foldedSetIterable iter X.env x = pure x) {sm : SM}
    (q : ∀ (G : Gx) (W : WX) (De : Ends) (s : St) (H : Hp), tS X.K ct G W sm De s H → tAsg (tE X.K ct G W (eLc mi (own.map (·.2)) g tt te)) (gName i) De s H) :
    MS X ct (.Assign [.Name y py] (.ListComp elt [⟨tgt, iter, ifs, 0⟩] scope pos) spos) sm := by
  obtain ⟨ts, h1, h2⟩ := h.hg
  exact ⟨fun G W tk _ => (ps_setLc hc hN hy hyl hsw (h.hi.run G W tk) h.ok (fun s H C cl fp => PG.ex fun G' => (h2 s H C cl fp).run G') (fun s H C cl fp => PTs.ex fun G' => h.ht s H C cl fp G') (fun s H C cl fp => PE.ex fun G' => (h.he s H C cl fp).run G' W0 takesB) hs).imp fun De s H w => lc_go h1 (q G W De s H w)⟩
theorem ms_setLc {i : Nat} {y : Str} {py : Pos} {elt tgt iter : Expr} {ifs : List Expr} {scope : Scope} {own : List (Str × Nat)} {spos : Pos} {mi : Env → Store → Rs (List D)} {g : GM} {tt : TM} {te : EM} (hc : X.calm = true) (hN : X.N.Nodup) (hy : X.N[i]? = some y) (hyl : X.env.scope.names.lookup y = some .local)
    (hsw : swapsWith (.ListComp elt [⟨tgt, iter, ifs, 0⟩] scope pos) (some (.Name y py)) spos.line X.env = pure true) (h : MLc X ct elt tgt iter ifs scope own mi g tt te) (hs : ∀ x, foldedSetIterable iter X.env x = pure x := by intro _; rfl) :
    MS X ct (.Assign [.Name y py] (.ListComp elt [⟨tgt, iter, ifs, 0⟩] scope pos) spos) (sSet i (eLc mi (own.map (·.2)) g tt te)) := setLc_core hc hN hy hyl hsw h hs fun G W De s H w => set_go w
theorem ms_ownLc {i : Nat} {y : Str} {py : Pos} {elt tgt iter : Expr} {ifs : List Expr} {scope : Scope} {own : List (Str × Nat)} {spos : Pos} {mi : Env → Store → Rs (List D)} {g : GM} {tt : TM} {te : EM} (hc : X.calm = true) (hN : X.N.Nodup) (hy : X.N[i]? = some y) (hyl : X.env.scope.names.lookup y = some .local)
    (hsw : swapsWith (.ListComp elt [⟨tgt, iter, ifs, 0⟩] scope pos) (some (.Name y py)) spos.line X.env = pure true) (h : MLc X ct elt tgt iter ifs scope own mi g tt te) (hs : ∀ x, foldedSetIterable iter X.env x = pure x := by intro _; rfl) :
    MS X ct (.Assign [.Name y py] (.ListComp elt [⟨tgt, iter, ifs, 0⟩] scope pos) spos) (sOwn i (eLc mi (own.map (·.2)) g tt te)) := setLc_core hc hN hy hyl hsw h hs fun G W De s H w => own_go w
end
end Mv

set_option maxRecDepth 100000
namespace Mv
open PySem PySem.Spec PyProof.Rows L2
section
variable {K : PySem.W.Frag} {ct : CT} {M N : Addr → Prop} {io : List Addr} {S : Store} {H : Hp}
theorem ResOk.c {Hs : Hp} {d : D} {v : V} (h : Rep K M io H d v) (q : StoOk K ct M io S H) : ResOk K ct M N Hs io S H .c d v := ⟨h, q⟩
/-- a list of any flag but the tainted -/
theorem nt_lst {f : Fl} {xs : List D} {v : V} (g : f ≠ .t) (h : RepF K M N io H f (.lst xs) v) : ∃ a vs, v = .ref a ∧ H a = some (.lst vs) ∧ Reps K M io H xs vs := by
  have go : Rep K M io H (.lst xs) v → ∃ a vs, v = .ref a ∧ H a = some (.lst vs) ∧ Reps K M io H xs vs := fun h => by
    cases h with
    | lst h1 _ h2 => exact ⟨_, _, rfl, h1, h2⟩
  have go2 : ∀ {a}, OwnAt K M io H (.lst xs) a → ∃ vs, H a = some (.lst vs) ∧ Reps K M io H xs vs := fun h => by
    rcases h with ⟨xs', vs, e', h1, h2⟩ | ⟨ks, xs', kvs, e', _⟩
    · cases e'
      exact ⟨vs, h1, h2⟩
    · cases e'
  cases f with
  | c => exact go h
  | n => exact go h
  | b => exact h.elim go fun ⟨a, e, h, _⟩ => let ⟨vs, z⟩ := go2 h; ⟨a, vs, e, z⟩
  | o => exact h.elim go fun ⟨a, e, h⟩ => let ⟨vs, z⟩ := go2 h; ⟨a, vs, e, z⟩
  | t => exact absurd rfl g
theorem nt_frz {f : Fl} {xs : List D} {v : V} (g : f ≠ .t) (h : RepF K M N io H f (.frz xs) v) : ∃ a vs, v = .ref a ∧ SqL K H a vs ∧ Reps K M io H xs vs := by
  have go : Rep K M io H (.frz xs) v → ∃ a vs, v = .ref a ∧ SqL K H a vs ∧ Reps K M io H xs vs := fun h => by
    cases h with
    | frz h1 h2 => exact ⟨_, _, rfl, h1.sq, h2⟩
  have go2 : ∀ {a}, OwnAt K M io H (.frz xs) a → False := fun h => by
    rcases h with ⟨xs', vs, e', h1, h2⟩ | ⟨ks, xs', kvs, e', _⟩ <;> cases e'
  cases f with
  | c => exact go h
  | n => exact go h
  | b => exact h.elim go fun ⟨a, e, h, _⟩ => (go2 h).elim
  | o => exact h.elim go fun ⟨a, e, h⟩ => (go2 h).elim
  | t => exact absurd rfl g
theorem nt_tup {f : Fl} {xs : List D} {v : V} (g : f ≠ .t) (h : RepF K M N io H f (.tup xs) v) : ∃ a vs, v = .ref a ∧ SqT K H a vs ∧ Reps K M io H xs vs := by
  have go : Rep K M io H (.tup xs) v → ∃ a vs, v = .ref a ∧ SqT K H a vs ∧ Reps K M io H xs vs := fun h => by
    cases h with
    | tup h1 h2 => exact ⟨_, _, rfl, h1, h2⟩
  have go2 : ∀ {a}, OwnAt K M io H (.tup xs) a → False := fun h => by
    rcases h with ⟨xs', vs, e', h1, h2⟩ | ⟨ks, xs', kvs, e', _⟩ <;> cases e'
  cases f with
  | c => exact go h
  | n => exact go h
  | b => exact h.elim go fun ⟨a, e, h, _⟩ => (go2 h).elim
  | o => exact h.elim go fun ⟨a, e, h⟩ => (go2 h).elim
  | t => exact absurd rfl g
theorem nt_seq {f : Fl} {d : D} {xs : List D} {v : V} (g : f ≠ .t) (e : seqOf d = some xs) (h : RepF K M N io H f d v) : ∃ a vs, v = .ref a ∧ SqL K H a vs ∧ Reps K M io H xs vs := by
  cases d with
  | lst ys =>
    cases e
    obtain ⟨a, vs, e1, h1, h2⟩ := nt_lst g h
    exact ⟨a, vs, e1, SqL.of h1, h2⟩
  | frz ys =>
    cases e
    exact nt_frz g h
  | _ => cases e
theorem wk_seq {f : Fl} {d : D} {xs : List D} {v : V} (e : seqOf d = some xs) (h : RepF K M N io H f d v) : ∃ a vs, v = .ref a ∧ SqL K H a vs ∧ Reps K (fun _ => False) io H xs vs := by
  cases d with
  | lst ys =>
    cases e
    obtain ⟨a, vs, e1, h1, h2⟩ := lst_of h
    exact ⟨a, vs, e1, SqL.of h1, h2⟩
  | frz ys =>
    cases e
    exact frz_of h
  | _ => cases e

/-! ### two ints -/
def gInt (c : Int → Int → Bool) (g : Int → Int → D) : D × Fl → D × Fl → Option (D × Fl) := fun a b => match a.1, b.1 with
  | .int i, .int j => if c i j then some (g i j, .c) else none
  | _, _ => none
theorem bin_int {C : Int → Int → Prop} {h : Int → Int → V} {c : Int → Int → Bool} {g : Int → Int → D} (hc : ∀ i j, c i j = true → C i j) (hr : ∀ i j K M io H, Rep K M io H (g i j) (h i j)) : BinOk K ct (rI C h) (gInt c g) := by
  rintro M N io S H x y ⟨a, fa⟩ ⟨b, fb⟩ res Q ra rb q md e w
  unfold gInt at e
  dsimp only at e ra rb
  split at e
  · rename_i i j
    split at e
    · rename_i hcc
      cases e
      exact ⟨i, j, int_of ra, int_of rb, hc i j hcc, w _ _ Stp.refl (ResOk.c (hr ..) q)⟩
    · cases e
  · cases e
theorem bin_int0 {h : Int → Int → V} {g : Int → Int → D} (hr : ∀ i j K M io H, Rep K M io H (g i j) (h i j)) : BinOk K ct (rI0 h) (gInt (fun _ _ => true) g) := by
  rintro M N io S H x y ⟨a, fa⟩ ⟨b, fb⟩ res Q ra rb q md e w
  unfold gInt at e
  dsimp only at e ra rb
  split at e
  · rename_i i j
    rw [if_pos rfl] at e
    cases e
    exact ⟨i, j, int_of ra, int_of rb, w _ _ Stp.refl (ResOk.c (hr ..) q)⟩
  · cases e
abbrev gSub := gInt (fun _ _ => true) fun i j => .int (i - j)
abbrev gMod := gInt (fun _ j => decide (0 < j)) fun i j => .int (i % j)
abbrev gPow := gInt (fun i j => decide (0 ≤ j) && decide (j ≤ 1000000) && decide (i.natAbs < 2 ^ 64)) fun i j => .int (i ^ j.toNat)
abbrev gShl := gInt (fun i j => decide (0 ≤ j) && decide (j ≤ 1000000) && decide (i.natAbs < 2 ^ 64)) fun i j => .int (i * 2 ^ j.toNat)
abbrev gShr := gInt (fun _ j => decide (0 ≤ j)) fun i j => .int (i / 2 ^ j.toNat)
abbrev gAnd := gInt (fun _ _ => true) fun i j => .int (Builtin.bitAnd i j)
abbrev gOr := gInt (fun _ _ => true) fun i j => .int (Builtin.bitOr i j)
abbrev gXor := gInt (fun _ _ => true) fun i j => .int (Builtin.bitXor i j)
abbrev gLt := gInt (fun _ _ => true) fun i j => .bl (decide (i < j))
abbrev gLe := gInt (fun _ _ => true) fun i j => .bl (decide (i ≤ j))
abbrev gGt := gInt (fun _ _ => true) fun i j => .bl (decide (j < i))
abbrev gGe := gInt (fun _ _ => true) fun i j => .bl (decide (j ≤ i))
abbrev gDiv := gInt (fun _ j => decide (0 < j) && decide (j.natAbs.log2 < 9000)) fun i j => .int (i / j)
theorem ok_sub : BinOk K ct (rI0 fun i j => .int (i - j)) gSub := bin_int0 fun _ _ _ _ _ _ => .int _
theorem ok_mod : BinOk K ct (rI (fun _ j => 0 < j) fun i j => .int (i % j)) gMod := bin_int (fun _ _ h => of_decide_eq_true h) fun _ _ _ _ _ _ => .int _
theorem cpow_of {i j : Int} (h : (decide (0 ≤ j) && decide (j ≤ 1000000) && decide (i.natAbs < 2 ^ 64)) = true) : CPow i j := by
  simp only [Bool.and_eq_true, decide_eq_true_eq] at h
  exact ⟨h.1.1, h.1.2, h.2⟩
theorem ok_pow : BinOk K ct (rI CPow fun i j => .int (i ^ j.toNat)) gPow := bin_int (fun _ _ h => cpow_of h) fun _ _ _ _ _ _ => .int _
theorem ok_shl : BinOk K ct (rI CPow fun i j => .int (i * 2 ^ j.toNat)) gShl := bin_int (fun _ _ h => cpow_of h) fun _ _ _ _ _ _ => .int _
theorem ok_shr : BinOk K ct (rI (fun _ j => 0 ≤ j) fun i j => .int (i / 2 ^ j.toNat)) gShr := bin_int (fun _ _ h => of_decide_eq_true h) fun _ _ _ _ _ _ => .int _
theorem ok_and : BinOk K ct (rI0 fun i j => .int (Builtin.bitAnd i j)) gAnd := bin_int0 fun _ _ _ _ _ _ => .int _
theorem ok_or : BinOk K ct (rI0 fun i j => .int (Builtin.bitOr i j)) gOr := bin_int0 fun _ _ _ _ _ _ => .int _
theorem ok_xor : BinOk K ct (rI0 fun i j => .int (Builtin.bitXor i j)) gXor := bin_int0 fun _ _ _ _ _ _ => .int _
theorem ok_lt : BinOk K ct (rI0 fun i j => .bl (decide (i < j))) gLt := bin_int0 fun _ _ _ _ _ _ => .bl _
theorem ok_le : BinOk K ct (rI0 fun i j => .bl (decide (i ≤ j))) gLe := bin_int0 fun _ _ _ _ _ _ => .bl _
theorem ok_gt : BinOk K ct (rI0 fun i j => .bl (decide (j < i))) gGt := bin_int0 fun _ _ _ _ _ _ => .bl _
theorem ok_ge : BinOk K ct (rI0 fun i j => .bl (decide (j ≤ i))) gGe := bin_int0 fun _ _ _ _ _ _ => .bl _
theorem ok_div : BinOk K ct (rI CDivW fun i j => .int (i / j)) gDiv := bin_int (fun _ _ h => by
  rw [Bool.and_eq_true, decide_eq_true_eq, decide_eq_true_eq] at h
  exact h) fun _ _ _ _ _ _ => .int _
/-! ### + and * of several kinds -/
def gAdd : D × Fl → D × Fl → Option (D × Fl) := fun a b => match a.1, b.1 with
  | .int i, .int j => some (.int (i + j), .c)
  | .str i, .str j => if i.length + j.length ≤ sizeLine then some (.str (i ++ j), .c) else none
  | .lst xs, .lst ys => if a.2 ≠ .t ∧ b.2 ≠ .t ∧ xs.length + ys.length ≤ sizeLine then some (.lst (xs ++ ys), .n) else none
  | _, _ => none
def rAddA (K : PySem.W.Frag) : R2 := fun x y H Q => (rI0 (fun i j => .int (i + j)) x y H Q) ∨ (∃ i j, x = .str i ∧ y = .str j ∧ i.length + j.length ≤ sizeLine ∧ Q (.str (i ++ j)) H) ∨ rCat x y H Q
theorem op_addA {X : Cx} : OpR X (binaryOp .Add) (rAddA X.K) := OpR.or op_add (OpR.or op_add_str op_cat)
theorem ok_add : BinOk K ct (rAddA K) gAdd := by
  rintro M N io S H x y ⟨a, fa⟩ ⟨b, fb⟩ res Q ra rb q md e w
  unfold gAdd at e
  dsimp only at e ra rb
  split at e
  · rename_i i j
    cases e
    exact .inl ⟨i, j, int_of ra, int_of rb, w _ _ Stp.refl (ResOk.c (.int _) q)⟩
  · rename_i i j
    split at e
    · rename_i hz
      cases e
      exact .inr (.inl ⟨i, j, str_of ra, str_of rb, hz, w _ _ Stp.refl (ResOk.c (.str _) q)⟩)
    · cases e
  · rename_i xs ys
    split at e
    · rename_i hz
      cases e
      obtain ⟨p, vs, rfl, h1, h2⟩ := nt_lst hz.1 ra
      obtain ⟨p', ws, rfl, h3, h4⟩ := nt_lst hz.2.1 rb
      refine .inr (.inr ⟨p, p', vs, ws, rfl, rfl, h1, h3, by rw [← h2.len, ← h4.len]; exact hz.2.2, fun l hl => w _ _ (Stp.upd hl) (new_lst hl hl md q (h2.app h4))⟩)
    · cases e
  · cases e
def mulOk (i j : Int) : Bool := decide (-(2 ^ 64) < i ∧ i < 2 ^ 64) || decide (-(2 ^ 64) < j ∧ j < 2 ^ 64) || decide (i.natAbs.log2 + j.natAbs.log2 < 1000000)
def gMul : D × Fl → D × Fl → Option (D × Fl) := fun a b => match a.1, b.1 with
  | .int i, .int j => if mulOk i j then some (.int (i * j), .c) else none
  | .lst xs, .int k => if a.2 ≠ .t ∧ -(2 ^ 63) ≤ k ∧ k < 2 ^ 63 ∧ xs.length * k.toNat ≤ sizeLine then some (.lst (List.replicate k.toNat xs).flatten, .n) else none
  | _, _ => none
def rMulA (K : PySem.W.Frag) : R2 := fun x y H Q => (rI CMul (fun i j => .int (i * j)) x y H Q) ∨ (rI CMulW (fun i j => .int (i * j)) x y H Q) ∨ rRep x y H Q
theorem op_mulA {X : Cx} : OpR X (binaryOp .Mult) (rMulA X.K) := OpR.or op_mul (OpR.or op_mulW op_rep)
theorem Reps.rep {xs : List D} {vs : List V} (h : Reps K M io H xs vs) : ∀ k : Nat, Reps K M io H (List.replicate k xs).flatten (List.replicate k vs).flatten
  | 0 => .nil
  | k + 1 => by
    rw [List.replicate_succ, List.replicate_succ, List.flatten_cons, List.flatten_cons]
    exact h.app (Reps.rep h k)
theorem ok_mul : BinOk K ct (rMulA K) gMul := by
  rintro M N io S H x y ⟨a, fa⟩ ⟨b, fb⟩ res Q ra rb q md e w
  unfold gMul at e
  dsimp only at e ra rb
  split at e
  · rename_i i j
    split at e
    · rename_i hc
      cases e
      have w := w _ _ Stp.refl (ResOk.c (.int (i * j)) q)
      unfold mulOk at hc
      simp only [Bool.or_eq_true, decide_eq_true_eq] at hc
      rcases hc with hc | hc
      · exact .inl ⟨i, j, int_of ra, int_of rb, hc, w⟩
      · exact .inr (.inl ⟨i, j, int_of ra, int_of rb, hc, w⟩)
    · cases e
  · rename_i xs k
    split at e
    · rename_i hz
      cases e
      obtain ⟨p, vs, rfl, h1, h2⟩ := nt_lst hz.1 ra
      exact .inr (.inr ⟨p, k, vs, rfl, int_of rb, h1, hz.2.1, hz.2.2.1, by rw [← h2.len]; exact hz.2.2.2, fun l hl => w _ _ (Stp.upd hl) (new_lst hl hl md q (h2.rep _))⟩)
    · cases e
  · cases e
/-! ### == of data -/
mutual
def toPy : D → Option PyData
  | .non => some .none
  | .bl b => some (.bool b)
  | .int i => some (.int i)
  | .str z => some (.str z)
  | .lst xs => (toPys xs).map .list
  | .frz xs => (toPys xs).map .list
  | .tup xs => (toPys xs).map .tuple
  | _ => none
def toPys : List D → Option (List PyData)
  | [] => some []
  | d :: ds => match toPy d, toPys ds with
    | some p, some ps => some (p :: ps)
    | _, _ => none
end
mutual
theorem Rep.dp : ∀ {d : D} {v : V} {p : PyData}, Rep K M io H d v → toPy d = some p → Dp K H v p
  | _, _, _, .non, e => by cases e; exact .non
  | _, _, _, .bl b, e => by cases e; exact .bl b
  | _, _, _, .int i, e => by cases e; exact .int i
  | _, _, _, .str z, e => by cases e; exact .str z
  | _, _, _, .lst h _ r, e => by
    unfold toPy at e
    obtain ⟨ps, e1, rfl⟩ := Option.map_eq_some_iff.mp e
    exact .lst (SqL.of h) (Reps.dp r e1)
  | _, _, _, .frz h r, e => by
    unfold toPy at e
    obtain ⟨ps, e1, rfl⟩ := Option.map_eq_some_iff.mp e
    exact .lst h.sq (Reps.dp r e1)
  | _, _, _, .tup h r, e => by
    unfold toPy at e
    obtain ⟨ps, e1, rfl⟩ := Option.map_eq_some_iff.mp e
    exact .tup h (Reps.dp r e1)
  | _, _, _, .dic _ _ _ _, e => by cases e
  | _, _, _, .ins _, e => by cases e
  | _, _, _, .cst, e => by cases e
theorem Reps.dp : ∀ {ds : List D} {vs : List V} {ps : List PyData}, Reps K M io H ds vs → toPys ds = some ps → DpAll K H vs ps
  | _, _, _, .nil, e => by cases e; exact .nil
  | _, _, _, .cons r t, e => by
    unfold toPys at e
    split at e
    · rename_i e1 e2
      cases e
      exact .cons (Rep.dp r e1) (Reps.dp t e2)
    · cases e
end
/-- the answer of ==, where it is told -/
def eqO : D → D → Option Bool
  | .int i, .int j => some (decide (i = j))
  | .str i, .str j => some (decide (i = j))
  | .bl i, .bl j => some (decide (i = j))
  | d, e => match toPy d, toPy e with
    | some p, some q => if SeqAt.shaped p && SeqAt.shaped q then some (PyData.eqv p q) else none
    | _, _ => none
def gEq (neg : Bool) : D × Fl → D × Fl → Option (D × Fl) := fun a b => (eqO a.1 b.1).map fun k => (.bl (if neg then !k else k), .c)
def rEqA (K : PySem.W.Frag) : R2 := fun x y H Q => rEq x y H Q ∨ rEqD K x y H Q
def rNeA (K : PySem.W.Frag) : R2 := fun x y H Q => rNe x y H Q ∨ rNeD K x y H Q
theorem op_eqA {X : Cx} (hu : X.A.units + 64 < cLine) : OpR X (compareOp .Eq) (rEqA X.K) := OpR.or op_eq (op_eqD hu)
theorem op_neA {X : Cx} (hu : X.A.units + 64 < cLine) : OpR X (compareOp .NotEq) (rNeA X.K) := OpR.or op_ne (op_neD hu)
theorem eqO_cases {d e : D} {k : Bool} (h : eqO d e = some k) : (∃ i j, d = .int i ∧ e = .int j ∧ k = decide (i = j)) ∨ (∃ i j, d = .str i ∧ e = .str j ∧ k = decide (i = j)) ∨ (∃ i j, d = .bl i ∧ e = .bl j ∧ k = decide (i = j)) ∨
    ∃ p q, toPy d = some p ∧ toPy e = some q ∧ SeqAt.shaped p = true ∧ SeqAt.shaped q = true ∧ k = PyData.eqv p q := by
  unfold eqO at h
  split at h
  · cases h; exact .inl ⟨_, _, rfl, rfl, rfl⟩
  · cases h; exact .inr (.inl ⟨_, _, rfl, rfl, rfl⟩)
  · cases h; exact .inr (.inr (.inl ⟨_, _, rfl, rfl, rfl⟩))
  · split at h
    · rename_i p q e1 e2
      split at h
      · rename_i g
        rw [Bool.and_eq_true] at g
        cases h
        exact .inr (.inr (.inr ⟨p, q, e1, e2, g.1, g.2, rfl⟩))
      · cases h
    · cases h
theorem ok_eq : BinOk K ct (rEqA K) (gEq false) := by
  rintro M N io S H x y ⟨a, fa⟩ ⟨b, fb⟩ res Q ra rb q md e w
  unfold gEq at e
  obtain ⟨k, e1, rfl⟩ := Option.map_eq_some_iff.mp e
  dsimp only at e1 ra rb w
  have w := w _ _ Stp.refl (ResOk.c (.bl _) q)
  rcases eqO_cases e1 with ⟨i, j, rfl, rfl, rfl⟩ | ⟨i, j, rfl, rfl, rfl⟩ | ⟨i, j, rfl, rfl, rfl⟩ | ⟨p, p', h1, h2, h3, h4, rfl⟩
  · rw [int_of ra, int_of rb]
    refine .inl ⟨rfl, ?_⟩
    rw [dec_int, ← Bool.beq_eq_decide_eq] at *
    exact w
  · rw [str_of ra, str_of rb]
    refine .inl ⟨rfl, ?_⟩
    rw [dec_str, ← Bool.beq_eq_decide_eq] at *
    exact w
  · rw [bl_of ra, bl_of rb]
    refine .inl ⟨rfl, ?_⟩
    rw [dec_bl, ← Bool.beq_eq_decide_eq] at *
    exact w
  · exact .inr ⟨p, p', ra.weak.dp h1, rb.weak.dp h2, h3, h4, w⟩
theorem ok_ne : BinOk K ct (rNeA K) (gEq true) := by
  rintro M N io S H x y ⟨a, fa⟩ ⟨b, fb⟩ res Q ra rb q md e w
  unfold gEq at e
  obtain ⟨k, e1, rfl⟩ := Option.map_eq_some_iff.mp e
  dsimp only at e1 ra rb w
  have w := w _ _ Stp.refl (ResOk.c (.bl _) q)
  rcases eqO_cases e1 with ⟨i, j, rfl, rfl, rfl⟩ | ⟨i, j, rfl, rfl, rfl⟩ | ⟨i, j, rfl, rfl, rfl⟩ | ⟨p, p', h1, h2, h3, h4, rfl⟩
  · rw [int_of ra, int_of rb]
    refine .inl ⟨rfl, ?_⟩
    rw [dec_int, ← Bool.beq_eq_decide_eq] at *
    exact w
  · rw [str_of ra, str_of rb]
    refine .inl ⟨rfl, ?_⟩
    rw [dec_str, ← Bool.beq_eq_decide_eq] at *
    exact w
  · rw [bl_of ra, bl_of rb]
    refine .inl ⟨rfl, ?_⟩
    rw [dec_bl, ← Bool.beq_eq_decide_eq] at *
    exact w
  · exact .inr ⟨p, p', ra.weak.dp h1, rb.weak.dp h2, h3, h4, w⟩
/-! ### is None -/
def isNon : D → Bool
  | .non => true
  | .cst v => decide (v = .non)
  | _ => false
def gIsN (neg : Bool) : D × Fl → D × Fl → Option (D × Fl) := fun a b => match b.1 with
  | .non => some (.bl (if neg then !isNon a.1 else isNon a.1), .c)
  | _ => none
theorem isn_of {f : Fl} {d : D} {v : V} (h : RepF K M N io H f d v) : decide (v = .non) = isNon d := by
  have q := h.weak
  cases q <;> rfl
theorem ok_isN : BinOk K ct (fun x y H Q => y = .non ∧ Q (.bl (decide (x = .non))) H) (gIsN false) := by
  rintro M N io S H x y ⟨a, fa⟩ ⟨b, fb⟩ res Q ra rb q md e w
  unfold gIsN at e
  dsimp only at e ra rb
  split at e
  · cases e
    refine ⟨non_of rb, ?_⟩
    rw [isn_of ra]
    exact w _ _ Stp.refl (ResOk.c (.bl _) q)
  · cases e
theorem ok_notN : BinOk K ct (fun x y H Q => y = .non ∧ Q (.bl (!decide (x = .non))) H) (gIsN true) := by
  rintro M N io S H x y ⟨a, fa⟩ ⟨b, fb⟩ res Q ra rb q md e w
  unfold gIsN at e
  dsimp only at e ra rb
  split at e
  · cases e
    refine ⟨non_of rb, ?_⟩
    rw [isn_of ra]
    exact w _ _ Stp.refl (ResOk.c (.bl _) q)
  · cases e
/-! ### in -/
def toV : D → V
  | .bl b => .bl b
  | .int i => .int i
  | .str z => .str z
  | _ => .non
def flatD : D → Bool
  | .non => true
  | .bl _ => true
  | .int _ => true
  | .str _ => true
  | _ => false
theorem flat_of {d : D} {v : V} (g : flatD d = true) (h : Rep K M io H d v) : v = toV d ∧ flatV v = true := by
  cases h with
  | non => exact ⟨rfl, rfl⟩
  | bl b => exact ⟨rfl, rfl⟩
  | int b => exact ⟨rfl, rfl⟩
  | str b => exact ⟨rfl, rfl⟩
  | _ => cases g
theorem flats_of : ∀ {ds : List D} {vs : List V}, ds.all flatD = true → Reps K M io H ds vs → vs = ds.map toV ∧ vs.all flatV = true
  | _, _, _, .nil => ⟨rfl, rfl⟩
  | _, _, g, .cons r t => by
    rw [List.all_cons, Bool.and_eq_true] at g
    obtain ⟨e1, f1⟩ := flat_of g.1 r
    obtain ⟨e2, f2⟩ := flats_of g.2 t
    rw [List.map_cons, List.all_cons, ← e1, ← e2, f1, f2]
    exact ⟨rfl, rfl⟩
def inD (d : D) (ds : List D) : Bool := inV (toV d) (ds.map toV)
def gIn (neg : Bool) : D × Fl → D × Fl → Option (D × Fl) := fun a b => match b.1 with
  | .lst xs => if flatD a.1 && xs.all flatD then some (.bl (if neg then !inD a.1 xs else inD a.1 xs), .c) else none
  | .frz xs => if flatD a.1 && xs.all flatD then some (.bl (if neg then !inD a.1 xs else inD a.1 xs), .c) else none
  | .tup xs => if flatD a.1 && xs.all flatD then some (.bl (if neg then !inD a.1 xs else inD a.1 xs), .c) else none
  | .str z => match a.1 with
    | .str i => some (.bl (if neg then !(!(Builtin.Str.occurrences z i 0 z.length 1).isEmpty) else !(Builtin.Str.occurrences z i 0 z.length 1).isEmpty), .c)
    | _ => none
  | _ => none
def rInA (K : PySem.W.Frag) : R2 := fun x y H Q => rIn K false x y H Q ∨ (∃ i j, x = .str i ∧ y = .str j ∧ Q (.bl (!(Builtin.Str.occurrences j i 0 j.length 1).isEmpty)) H)
def rNotInA (K : PySem.W.Frag) : R2 := fun x y H Q => rIn K true x y H Q ∨ (∃ i j, x = .str i ∧ y = .str j ∧ Q (.bl (!(!(Builtin.Str.occurrences j i 0 j.length 1).isEmpty))) H)
theorem op_inA {X : Cx} : OpR X (compareOp .In) (rInA X.K) := OpR.or op_in_seq op_in_str
theorem op_notInA {X : Cx} : OpR X (compareOp .NotIn) (rNotInA X.K) := OpR.or op_notIn_seq op_notin_str
theorem in_seq {neg : Bool} {x y : V} {d : D} {f : Fl} {xs : List D} {Q : VK} (ra : RepF K M N io H f d x) (g : (flatD d && xs.all flatD) = true) (h : ∃ p vs, y = .ref p ∧ (SqL K H p vs ∨ SqT K H p vs) ∧ Reps K (fun _ => False) io H xs vs)
    (w : Q (.bl (if neg then !inD d xs else inD d xs)) H) : rIn K neg x y H Q := by
  rw [Bool.and_eq_true] at g
  obtain ⟨p, vs, rfl, hs, r⟩ := h
  obtain ⟨e1, f1⟩ := flat_of g.1 ra.weak
  obtain ⟨e2, f2⟩ := flats_of g.2 r
  refine ⟨p, vs, rfl, hs, f1, f2, ?_⟩
  rw [e1, e2]
  exact w
theorem ok_inN : ∀ neg : Bool, BinOk K ct (fun x y H Q => rIn K neg x y H Q ∨ (∃ i j, x = .str i ∧ y = .str j ∧ Q (.bl (if neg then !(!(Builtin.Str.occurrences j i 0 j.length 1).isEmpty) else !(Builtin.Str.occurrences j i 0 j.length 1).isEmpty)) H)) (gIn neg) := by
  rintro neg M N io S H x y ⟨a, fa⟩ ⟨b, fb⟩ res Q ra rb q md e w
  unfold gIn at e
  dsimp only at e ra rb
  split at e
  · rename_i xs
    split at e
    · rename_i g
      cases e
      obtain ⟨p, vs, e1, h1, h2⟩ := lst_of rb
      exact .inl (in_seq ra g ⟨p, vs, e1, .inl (SqL.of h1), h2⟩ (w _ _ Stp.refl (ResOk.c (.bl _) q)))
    · cases e
  · rename_i xs
    split at e
    · rename_i g
      cases e
      obtain ⟨p, vs, e1, h1, h2⟩ := frz_of rb
      exact .inl (in_seq ra g ⟨p, vs, e1, .inl h1, h2⟩ (w _ _ Stp.refl (ResOk.c (.bl _) q)))
    · cases e
  · rename_i xs
    split at e
    · rename_i g
      cases e
      obtain ⟨p, vs, e1, h1, h2⟩ := tup_of rb
      exact .inl (in_seq ra g ⟨p, vs, e1, .inr h1, h2⟩ (w _ _ Stp.refl (ResOk.c (.bl _) q)))
    · cases e
  · rename_i z
    split at e
    · rename_i i
      cases e
      exact .inr ⟨i, z, str_of ra, str_of rb, w _ _ Stp.refl (ResOk.c (.bl _) q)⟩
    · cases e
  · cases e
theorem ok_in : BinOk K ct (rInA K) (gIn false) := ok_inN false
theorem ok_notIn : BinOk K ct (rNotInA K) (gIn true) := ok_inN true
/-! ### a[i] -/
def gIx : D × Fl → D × Fl → Option (D × Fl) := fun a b => match a.1, b.1 with
  | .lst xs, .int i => (atI xs i).map fun d => (d, if a.2 = .t then .t else .c)
  | .frz xs, .int i => (atI xs i).map fun d => (d, if a.2 = .t then .t else .c)
  | .tup xs, .int i => (atI xs i).map fun d => (d, if a.2 = .t then .t else .c)
  | .str z, .int i => if z.length ≤ sizeLine then (atI z.cps.toList i).map fun c => (.str ⟨#[c]⟩, .c) else none
  | _, _ => none
theorem atI_rep {xs : List D} {vs : List V} {i : Int} {d : D} (h : Reps K M io H xs vs) (e : atI xs i = some d) : ∃ v, atI vs i = some v ∧ Rep K M io H d v := by
  unfold atI at e ⊢
  rw [← h.len]
  cases e1 : ixN xs.length i with
  | none => rw [e1] at e; cases e
  | some j =>
    rw [e1] at e
    exact h.get (i := j) e
theorem ResOk.ct' {Hs : Hp} {f : Fl} {d : D} {v : V} (h : f ≠ .t → Rep K M io H d v) (h' : Rep K (fun _ => False) io H d v) (q : StoOk K ct M io S H) : ResOk K ct M N Hs io S H (if f = .t then .t else .c) d v := by
  split
  · exact ⟨h', q⟩
  · rename_i g
    exact ⟨h g, q⟩
theorem ok_ix : BinOk K ct (rIx K) gIx := by
  rintro M N io S H x y ⟨a, fa⟩ ⟨b, fb⟩ res Q ra rb q md e w
  unfold gIx at e
  dsimp only at e ra rb
  have fin : ∀ {p : Addr} {xs : List D} {vs : List V} {i : Int} {d : D}, x = .ref p → (SqL K H p vs ∨ SqT K H p vs) → b = .int i → (fa ≠ .t → Reps K M io H xs vs) → Reps K (fun _ => False) io H xs vs → atI xs i = some d → res = (d, if fa = .t then Fl.t else Fl.c) → rIx K x y H Q := fun {p xs vs i d} e1 hs eb h2 h3 ea er => by
    obtain ⟨v, z1, z2⟩ := atI_rep h3 ea
    subst er eb
    have z3 : fa ≠ .t → Rep K M io H d v := fun g => by
      obtain ⟨v', y1, y2⟩ := atI_rep (h2 g) ea
      rw [z1] at y1
      cases y1
      exact y2
    have w := w _ _ Stp.refl (ResOk.ct' (f := fa) z3 z2 q)
    rcases hs with hs | hs
    · exact .inl ⟨p, vs, i, v, e1, int_of rb, hs, z1, w⟩
    · exact .inr (.inl ⟨p, vs, i, v, e1, int_of rb, hs, z1, w⟩)
  split at e
  · rename_i xs i
    obtain ⟨d, ea, er⟩ := Option.map_eq_some_iff.mp e
    obtain ⟨p, vs, e1, h1, h3⟩ := lst_of ra
    refine fin e1 (.inl (SqL.of h1)) rfl (fun g => ?_) h3 ea er.symm
    obtain ⟨p', vs', e1', h1', h2⟩ := nt_lst g ra
    rw [e1] at e1'
    cases e1'
    rw [h1] at h1'
    cases h1'
    exact h2
  · rename_i xs i
    obtain ⟨d, ea, er⟩ := Option.map_eq_some_iff.mp e
    by_cases g : fa = .t
    · obtain ⟨p, vs, e1, h1, h3⟩ := frz_of ra
      exact fin e1 (.inl h1) rfl (fun g' => absurd g g') h3 ea er.symm
    · obtain ⟨p, vs, e1, h1, h2⟩ := nt_frz g ra
      exact fin e1 (.inl h1) rfl (fun _ => h2) (h2.anti fun _ z => z.elim) ea er.symm
  · rename_i xs i
    obtain ⟨d, ea, er⟩ := Option.map_eq_some_iff.mp e
    by_cases g : fa = .t
    · obtain ⟨p, vs, e1, h1, h3⟩ := tup_of ra
      exact fin e1 (.inr h1) rfl (fun g' => absurd g g') h3 ea er.symm
    · obtain ⟨p, vs, e1, h1, h2⟩ := nt_tup g ra
      exact fin e1 (.inr h1) rfl (fun _ => h2) (h2.anti fun _ z => z.elim) ea er.symm
  · rename_i z i
    split at e
    · rename_i hz
      obtain ⟨c, ec, rfl⟩ := Option.map_eq_some_iff.mp e
      exact .inr (.inr ⟨z, i, c, str_of ra, int_of rb, hz, ec, w _ _ Stp.refl (ResOk.c (.str _) q)⟩)
    · cases e
  · cases e
end
section
variable {X : Cx} {ct : CT} {pos : Pos}
theorem me_ix {a b : Expr} {ma mb : EM} (ha : ME X ct a ma) (hb : ME X ct b mb) (hs : PlainIx b := by exact fun _ _ => rfl) : ME X ct (.Subscript a b pos) (eBin gIx ma mb) :=
  ⟨fun G W tk => (pe_ix ix_seq (ha.run G W tk) (hb.run G W tk) hs).imp fun s H Q h => bin_go ok_ix h⟩
end
end Mv

set_option maxRecDepth 100000
namespace Mv
open PySem PySem.Spec PyProof.Rows L2
section
variable {X : Cx} {ct : CT} {pos : Pos}
/-! ### chains, unary -/
def eChain (g g' : D × Fl → D × Fl → Option (D × Fl)) (ma mb mc : EM) : EM := fun r S => (ma r S).bind fun a S1 => (mb r S1).bind fun b S2 => match g a b with
  | some (.bl true, _) => (mc r S2).bind fun c S3 => lift0 (g' b c) S3
  | some (.bl false, _) => .ok (.bl false, .c) S2
  | _ => .no
theorem chain_go {rd rd' : R2} {g g' : D × Fl → D × Fl → Option (D × Fl)} {ma mb mc : EM} (hg : BinOk X.K ct rd g) (hg' : BinOk X.K ct rd' g') {G : Gx} {W : WX} {s : St} {H : Hp} {Q : VK} (h : tE X.K ct G W (eChain g g' ma mb mc) s H Q) :
    tChain rd rd' (tE X.K ct G W ma) (tE X.K ct G W mb) (tE X.K ct G W mc) s H Q := by
  obtain ⟨r, S, io, k, h⟩ := h
  refine ⟨r, S, io, k, Res.first h fun x S1 io1 H1 e1 t1 q1 h1 v1 o1 => ?_⟩
  have k1 := k.step t1 q1
  refine ⟨r, S1, io1, k1, Res.first h1 fun y S2 io2 H2 e2 t2 q2 h2 v2 o2 => ?_⟩
  have k2 := k1.step t2 q2
  have go : ∀ b f, g x y = some (.bl b, f) → (∀ H', Stp ct io2 H2 io2 H' → StoOk X.K ct (Mall G r s) io2 S2 H' → (if b = true then (tE X.K ct G W mc s H' fun w H5 => rd' v2 w H5 Q) else Q (.bl false) H')) → rd v1 v2 H2 fun z H3 => ∃ k, z = .bl k ∧
      if k = true then (tE X.K ct G W mc s H3 fun w H5 => rd' v2 w H5 Q) else Q (.bl false) H3 := fun b f e w => by
    refine hg _ _ io2 S2 H2 v1 v2 x y (.bl b, f) _ (o1.repF.stp t2) o2.repF q2 k2.mdom e fun v H' t o => ?_
    exact ⟨b, bl_of o.repF, w H' t o.sto⟩
  split at h2
  · rename_i f e
    exact go true f e fun H' t q => iteT ⟨r, S2, io2, k2.step t q, Res.first (h2.shift t) fun z S3 io3 H3 e3 t3 q3 h3 v3 o3 => by
      unfold lift0 at h3
      split at h3
      · rename_i res e4
        have k3 := (k2.step t q).step t3 q3
        refine hg' _ _ io3 S3 H3 v2 v3 y z res Q ((o2.repF.stp t).stp t3) o3.repF q3 k3.mdom e4 fun v H' t' o' => ?_
        exact h3.go t' o'.sto v (o'.back fun a z => t1.free (t2.free (t.free (t3.free z))))
      · exact h3.elim⟩
  · rename_i f e
    exact go false f e fun H' t q => iteF (h2.go t q _ (ResOk.c (.bl _) q))
  · exact h2.elim
theorem me_chain {op op' : CmpOp} {rd rd' : R2} {a b c : Expr} {g g' : D × Fl → D × Fl → Option (D × Fl)} {ma mb mc : EM} (ho : OpR X (compareOp op) rd) (hg : BinOk X.K ct rd g) (ho' : OpR X (compareOp op') rd') (hg' : BinOk X.K ct rd' g') (ha : ME X ct a ma) (hb : ME X ct b mb) (hc : ME X ct c mc)
    (hm : lastMarks [op, op'] [b, c] = false := by with_unfolding_all rfl) : ME X ct (.Compare a [op, op'] [b, c] pos) (eChain g g' ma mb mc) :=
  ⟨fun G W tk => (pe_chain ho ho' (ha.run G W tk) (hb.run G W tk) (hc.run G W tk) hm).imp fun s H Q h => chain_go hg hg' h⟩
theorem mt_chain {op op' : CmpOp} {rd rd' : R2} {a b c : Expr} {g g' : D × Fl → D × Fl → Option (D × Fl)} {ma mb mc : EM} (ho : OpR X (compareOp op) rd) (hg : BinOk X.K ct rd g) (ho' : OpR X (compareOp op') rd') (hg' : BinOk X.K ct rd' g') (ha : ME X ct a ma) (hb : ME X ct b mb) (hc : ME X ct c mc)
    (hm : lastMarks [op, op'] [b, c] = false := by with_unfolding_all rfl) : MT X ct (.Compare a [op, op'] [b, c] pos) (tVal (eChain g g' ma mb mc)) :=
  ⟨fun G W tk => (pt_chain ho ho' (ha.run G W tk) (hb.run G W tk) (hc.run G W tk) hm).imp fun s H Q ⟨r, S, io, k, h⟩ => chain_go hg hg' ⟨r, S, io, k, Res.first h fun x S1 io1 H1 e1 t1 q1 h1 v1 o1 => by
    split at h1
    · rename_i b e
      have o2 := o1.repF
      rw [e] at o2
      exact ⟨b, bl_of o2, h1.here q1⟩
    · exact h1.elim⟩⟩
def eUn (g : D → Option D) (m : EM) : EM := fun r S => (m r S).bind fun x S1 => lift0 ((g x.1).map fun d => (d, .c)) S1
def gNeg : D → Option D := fun d => match d with
  | .int i => some (.int (-i))
  | _ => none
theorem me_neg {a : Expr} {m : EM} (ha : ME X ct a m) : ME X ct (.UnaryOp .USub a pos) (eUn gNeg m) :=
  ⟨fun G W tk => (pe_un un_neg (ha.run G W tk)).imp fun s H Q ⟨r, S, io, k, h⟩ => ⟨r, S, io, k, Res.first h fun x S1 io1 H1 e1 t1 q1 h1 v o => by
    unfold lift0 at h1
    split at h1
    · rename_i res e
      obtain ⟨d, e2, rfl⟩ := Option.map_eq_some_iff.mp e
      unfold gNeg at e2
      split at e2
      · rename_i i e3
        cases e2
        have o2 := o.repF
        rw [e3] at o2
        exact ⟨i, int_of o2, h1.here q1 _ (ResOk.c (.int _) q1)⟩
      · cases e2
    · exact h1.elim⟩⟩
/-! ### slices -/
abbrev OM := Env → Store → Rs (Option Int)
structure MO (X : Cx) (ct : CT) (e : Option Expr) (m : OM) : Prop where
  run : ∀ (G : Gx) (W : WX), Takes X W → PO X e (fun s H Q => ∃ r S io, Ok X.K ct G r S io s H ∧ Res X.K ct W (Mall G r s) s io H (m r S) (fun o S' io' H' => Q o H'))
def oNo : OM := fun _ S => .ok none S
def oSo (m : EM) : OM := fun r S => (m r S).bind fun x S1 => match x.1 with
  | .int i => .ok (some i) S1
  | _ => .no
theorem PO.imp {X : Cx} {e : Option Expr} {t t' : TO} (h : PO X e t) (q : ∀ s H Q, t' s H Q → t s H Q) : PO X e t' := by
  first
    | exact ⟨fun pins s σ H Q I w => h.run pins s σ H Q I (q _ _ _ w)⟩
    | exact fun pins s σ H Q I w => h pins s σ H Q I (q _ _ _ w)
theorem mo_no : MO X ct none oNo := ⟨fun G W tk => PO.imp po_none fun s H Q ⟨r, S, io, k, h⟩ => h.here k.sto⟩
theorem mo_so {e : Expr} {m : EM} (h : ME X ct e m) : MO X ct (some e) (oSo m) := ⟨fun G W tk => PO.imp (po_some (h.run G W tk)) fun s H Q ⟨r, S, io, k, h⟩ => ⟨r, S, io, k, Res.first h fun x S1 io1 H1 e1 t1 q1 h1 v o => by
  split at h1
  · rename_i i e
    have o2 := o.repF
    rw [e] at o2
    exact ⟨i, int_of o2, h1.here q1⟩
  · exact h1.elim⟩⟩
def cutD (xs : List D) (lo hi : Option Int) : List D := (xs.drop (HT.sIx xs.length 0 lo)).take (HT.sIx xs.length xs.length hi - HT.sIx xs.length 0 lo)
def gSl (a : D × Fl) (lo hi : Option Int) : Option (D × Fl) := match a.1 with
  | .lst xs => some (.lst (cutD xs lo hi), if a.2 = .t then .t else .n)
  | .frz xs => some (.lst (cutD xs lo hi), if a.2 = .t then .t else .n)
  | .str z => if z.length ≤ sizeLine then some (.str (cutS z lo hi), .c) else none
  | _ => none
def eSl (ma : EM) (lo hi : OM) : EM := fun r S => (ma r S).bind fun a S1 => (lo r S1).bind fun l S2 => (hi r S2).bind fun u S3 => lift0 (gSl a l u) S3
theorem sl_seq : SlR X (fun x lo hi H Q => rSlL X.K x lo hi H Q ∨ rSlS x lo hi H Q) := SlR.or sl_list sl_str
theorem new_lstT {K : PySem.W.Frag} {M N : Addr → Prop} {io : List Addr} {H H0 : Hp} {S : Store} {p : Addr} {f : Fl} {xs : List D} {vs : List V} (hp : H p = none) (h0 : H0 p = none) (md : ∀ a, M a → ∃ o, H a = some o ∧ NI o) (q : StoOk K ct M io S H)
    (h : f ≠ .t → Reps K M io H xs vs) (h' : Reps K (fun _ => False) io H xs vs) : ResOk K ct M N H0 io S (upd H p (.lst vs)) (if f = .t then .t else .n) (.lst xs) (.ref p) := by
  split
  · exact ⟨.lst upd_same (fun z => z) (h'.stp (Stp.upd (ct := ct) hp)), q.upd hp⟩
  · rename_i g
    exact new_lst hp h0 md q (h g)
theorem seq_both {K : PySem.W.Frag} {M N : Addr → Prop} {io : List Addr} {H : Hp} {f : Fl} {d : D} {xs : List D} {v : V} (e : seqOf d = some xs) (h : RepF K M N io H f d v) : ∃ a vs, v = .ref a ∧ SqL K H a vs ∧ (f ≠ .t → Reps K M io H xs vs) ∧ Reps K (fun _ => False) io H xs vs := by
  by_cases g : f = .t
  · obtain ⟨a, vs, e1, h1, h2⟩ := wk_seq e h
    exact ⟨a, vs, e1, h1, fun g' => absurd g g', h2⟩
  · obtain ⟨a, vs, e1, h1, h2⟩ := nt_seq g e h
    exact ⟨a, vs, e1, h1, fun _ => h2, h2.anti fun _ z => z.elim⟩
theorem Reps.cut {K : PySem.W.Frag} {M : Addr → Prop} {io : List Addr} {H : Hp} {xs : List D} {vs : List V} (h : Reps K M io H xs vs) (lo hi : Option Int) : Reps K M io H (cutD xs lo hi) (cutV vs lo hi) := by
  unfold cutD cutV
  rw [← h.len]
  exact (h.drop _).take _
theorem me_sl {e : Expr} {lo hi : Option Expr} {p2 : Pos} {m : EM} {ml mh : OM} (he : ME X ct e m) (hl : MO X ct lo ml) (hh : MO X ct hi mh) : ME X ct (.Subscript e (.Slice lo hi none p2) pos) (eSl m ml mh) :=
  ⟨fun G W tk => (pe_slice sl_seq (he.run G W tk) (hl.run G W tk) (hh.run G W tk)).imp fun s H Q ⟨r, S, io, k, h⟩ => ⟨r, S, io, k, Res.first h fun x S1 io1 H1 e1 t1 q1 h1 v o => ⟨r, S1, io1, k.step t1 q1, Res.first h1 fun l S2 io2 H2 e2 t2 q2 h2 =>
    ⟨r, S2, io2, (k.step t1 q1).step t2 q2, Res.first h2 fun u S3 io3 H3 e3 t3 q3 h3 => by
      have k3 := ((k.step t1 q1).step t2 q2).step t3 q3
      have o3 := (o.repF.stp t2).stp t3
      unfold lift0 at h3
      split at h3
      · rename_i res e
        have fin : ∀ {xs : List D}, seqOf x.1 = some xs → res = (.lst (cutD xs l u), if x.2 = .t then .t else .n) → rSlL X.K v l u H3 Q := fun {xs} es er => by
          subst er
          obtain ⟨a, vs, ev, h4, h5, h6⟩ := seq_both es o3
          exact ⟨a, vs, ev, h4, fun p hp => h3.go (Stp.upd hp) (q3.upd hp) _ (new_lstT hp (t1.free (t2.free (t3.free hp))) k3.mdom q3 (fun g => (h5 g).cut l u) (h6.cut l u))⟩
        obtain ⟨d, f⟩ := x
        unfold gSl at e
        dsimp only at e o3 fin
        split at e
        · cases e
          exact .inl (fin rfl rfl)
        · cases e
          exact .inl (fin rfl rfl)
        · rename_i z
          split at e
          · rename_i hz
            cases e
            exact .inr ⟨z, str_of o3, hz, h3.here q3 _ (ResOk.c (.str _) q3)⟩
          · cases e
        · cases e
      · exact h3.elim⟩⟩⟩⟩
/-- xs[::-1] -/
def eRevL (m : EM) : EM := fun r S => (m r S).bind fun x S1 => match seqOf x.1 with
  | some xs => .ok (.lst xs.reverse, if x.2 = .t then .t else .n) S1
  | none => .no
theorem me_revL {e : Expr} {k : Nat} {p1 p2 p3 : Pos} {m : EM} (he : ME X ct e m) : ME X ct (.Subscript e (.Slice none none (some (.UnaryOp .USub (.Constant (.int 1) k p1) p2)) p3) pos) (eRevL m) :=
  ⟨fun G W tk => (pe_revL (he.run G W tk)).imp fun s H Q ⟨r, S, io, k, h⟩ => ⟨r, S, io, k, Res.first h fun x S1 io1 H1 e1 t1 q1 h1 v o => by
    have k1 := k.step t1 q1
    split at h1
    · rename_i xs e
      obtain ⟨a, vs, ev, h4, h5, h6⟩ := seq_both e o.repF
      exact ⟨a, vs, ev, h4, fun p hp => h1.go (Stp.upd hp) (q1.upd hp) _ (new_lstT hp (t1.free hp) k1.mdom q1 (fun g => (h5 g).rev) h6.rev)⟩
    · exact h1.elim⟩⟩
end
/-! ### built-in functions -/
section
variable {K : PySem.W.Frag} {ct : CT}
def gLen : List (Fl × D) → Option (D × Fl) := fun as => match as with
  | [(_, .lst xs)] => some (.int xs.length, .c)
  | [(_, .frz xs)] => some (.int xs.length, .c)
  | [(_, .tup xs)] => some (.int xs.length, .c)
  | [(_, .str z)] => if z.length ≤ sizeLine then some (.int z.length, .c) else none
  | _ => none
def rLen (K : PySem.W.Frag) : List V → Hp → VK → Prop := fun xs H Q => (∃ p ys, xs = [.ref p] ∧ (SqL K H p ys ∨ SqT K H p ys) ∧ Q (.int ys.length) H) ∨ (∃ z, xs = [.str z] ∧ z.length ≤ sizeLine ∧ Q (.int z.length) H)
theorem call_lenA {X : Cx} : CallR X (.builtin "len") (rLen X.K) := CallR.or call_len_seq call_len_str
theorem ok_len : CalOk K ct (rLen K) gLen := by
  intro M N io S H vs as res Q o q md e w
  unfold gLen at e
  split at e
  · rename_i f xs
    cases e
    obtain ⟨v, rfl, r⟩ := args1 o
    obtain ⟨a, us, rfl, h1, h2⟩ := lst_of r
    have w := w _ _ Stp.refl (ResOk.c (.int xs.length) q)
    rw [h2.len] at w
    exact .inl ⟨a, us, rfl, .inl (SqL.of h1), w⟩
  · rename_i f xs
    cases e
    obtain ⟨v, rfl, r⟩ := args1 o
    obtain ⟨a, us, rfl, h1, h2⟩ := frz_of r
    have w := w _ _ Stp.refl (ResOk.c (.int xs.length) q)
    rw [h2.len] at w
    exact .inl ⟨a, us, rfl, .inl h1, w⟩
  · rename_i f xs
    cases e
    obtain ⟨v, rfl, r⟩ := args1 o
    obtain ⟨a, us, rfl, h1, h2⟩ := tup_of r
    have w := w _ _ Stp.refl (ResOk.c (.int xs.length) q)
    rw [h2.len] at w
    exact .inl ⟨a, us, rfl, .inr h1, w⟩
  · rename_i f z
    split at e
    · rename_i hz
      cases e
      obtain ⟨v, rfl, r⟩ := args1 o
      exact .inr ⟨z, by rw [str_of r], hz, w _ _ Stp.refl (ResOk.c (.int _) q)⟩
    · cases e
  · cases e
def gList : List (Fl × D) → Option (D × Fl) := fun as => match as with
  | [(f, .lst xs)] => some (.lst xs, if f = .t then .t else .n)
  | [(f, .frz xs)] => some (.lst xs, if f = .t then .t else .n)
  | [(f, .tup xs)] => if f = .t then none else some (.lst xs, .n)
  | _ => none
theorem ok_list : CalOk K ct (fun xs H Q => ∃ p ys, xs = [.ref p] ∧ (SqL K H p ys ∨ SqT K H p ys) ∧ ∀ l, H l = none → Q (.ref l) (upd H l (.lst ys))) gList := by
  intro M N io S H vs as res Q o q md e w
  unfold gList at e
  split at e
  · rename_i f xs
    cases e
    obtain ⟨v, rfl, r⟩ := args1 o
    obtain ⟨a, us, rfl, h1, h2, h3⟩ := seq_both (d := .lst xs) rfl r
    exact ⟨a, us, rfl, .inl h1, fun l hl => w _ _ (Stp.upd hl) (new_lstT hl hl md q h2 h3)⟩
  · rename_i f xs
    cases e
    obtain ⟨v, rfl, r⟩ := args1 o
    obtain ⟨a, us, rfl, h1, h2, h3⟩ := seq_both (d := .frz xs) rfl r
    exact ⟨a, us, rfl, .inl h1, fun l hl => w _ _ (Stp.upd hl) (new_lstT hl hl md q h2 h3)⟩
  · rename_i f xs
    split at e
    · cases e
    · rename_i g
      cases e
      obtain ⟨v, rfl, r⟩ := args1 o
      obtain ⟨a, us, rfl, h1, h2⟩ := nt_tup g r
      exact ⟨a, us, rfl, .inr h1, fun l hl => w _ _ (Stp.upd hl) (new_lst hl hl md q h2)⟩
  · cases e
/-- a list of ints, of truths -/
def intsOf : List D → Option (List Int)
  | [] => some []
  | .int i :: ds => (intsOf ds).map (i :: ·)
  | _ => none
theorem intsOf_eq : ∀ {ds : List D} {is : List Int}, intsOf ds = some is → ds = is.map D.int
  | [], is, e => by cases e; rfl
  | .int i :: ds, is, e => by
    unfold intsOf at e
    obtain ⟨js, e1, rfl⟩ := Option.map_eq_some_iff.mp e
    rw [intsOf_eq e1]
    rfl
  | .non :: _, _, e => by cases e
  | .bl _ :: _, _, e => by cases e
  | .str _ :: _, _, e => by cases e
  | .lst _ :: _, _, e => by cases e
  | .tup _ :: _, _, e => by cases e
  | .dic _ _ :: _, _, e => by cases e
  | .frz _ :: _, _, e => by cases e
  | .ins _ :: _, _, e => by cases e
  | .cst _ :: _, _, e => by cases e
@[simp] theorem intsOf_map : ∀ is : List Int, intsOf (is.map D.int) = some is
  | [] => rfl
  | i :: is => by
    rw [List.map_cons]
    unfold intsOf
    rw [intsOf_map is]
    rfl
def blsOf : List D → Option (List Bool)
  | [] => some []
  | .bl i :: ds => (blsOf ds).map (i :: ·)
  | _ => none
theorem blsOf_eq : ∀ {ds : List D} {is : List Bool}, blsOf ds = some is → ds = is.map D.bl
  | [], is, e => by cases e; rfl
  | .bl i :: ds, is, e => by
    unfold blsOf at e
    obtain ⟨js, e1, rfl⟩ := Option.map_eq_some_iff.mp e
    rw [blsOf_eq e1]
    rfl
  | .non :: _, _, e => by cases e
  | .int _ :: _, _, e => by cases e
  | .str _ :: _, _, e => by cases e
  | .lst _ :: _, _, e => by cases e
  | .tup _ :: _, _, e => by cases e
  | .dic _ _ :: _, _, e => by cases e
  | .frz _ :: _, _, e => by cases e
  | .ins _ :: _, _, e => by cases e
  | .cst _ :: _, _, e => by cases e
@[simp] theorem blsOf_map : ∀ is : List Bool, blsOf (is.map D.bl) = some is
  | [] => rfl
  | i :: is => by
    rw [List.map_cons]
    unfold blsOf
    rw [blsOf_map is]
    rfl
theorem args_ints {M N : Addr → Prop} {io : List Addr} {H : Hp} {f : Fl} {d : D} {xs : List D} {is : List Int} {vs : List V} (o : ArgsOk K M N io H [(f, d)] vs) (e : seqOf d = some xs) (e2 : intsOf xs = some is) : ∃ a, vs = [.ref a] ∧ SqL K H a (is.map V.int) := by
  obtain ⟨v, rfl, r⟩ := args1 o
  obtain ⟨a, us, e3, h1, h2⟩ := wk_seq e r
  rw [intsOf_eq e2] at h2
  rw [h2.ints] at h1
  exact ⟨a, by rw [e3], h1⟩
theorem args_bls {M N : Addr → Prop} {io : List Addr} {H : Hp} {f : Fl} {d : D} {xs : List D} {is : List Bool} {vs : List V} (o : ArgsOk K M N io H [(f, d)] vs) (e : seqOf d = some xs) (e2 : blsOf xs = some is) : ∃ a, vs = [.ref a] ∧ SqL K H a (is.map V.bl) := by
  obtain ⟨v, rfl, r⟩ := args1 o
  obtain ⟨a, us, e3, h1, h2⟩ := wk_seq e r
  rw [blsOf_eq e2] at h2
  rw [h2.bls] at h1
  exact ⟨a, by rw [e3], h1⟩
def gInts (g : List Int → Option D) : List (Fl × D) → Option (D × Fl) := fun as => match as with
  | [(_, d)] => match seqOf d with
    | some xs => match intsOf xs with
      | some is => (g is).map fun d => (d, .c)
      | none => none
    | none => none
  | _ => none
theorem gInts_of {g : List Int → Option D} {as : List (Fl × D)} {res : D × Fl} (e : gInts g as = some res) : ∃ f d xs is r, as = [(f, d)] ∧ seqOf d = some xs ∧ intsOf xs = some is ∧ g is = some r ∧ res = (r, .c) := by
  unfold gInts at e
  split at e
  · rename_i f d
    split at e
    · rename_i xs e1
      split at e
      · rename_i is e2
        obtain ⟨r, e3, e4⟩ := Option.map_eq_some_iff.mp e
        exact ⟨f, d, xs, is, r, rfl, e1, e2, e3, e4.symm⟩
      · cases e
    · cases e
  · cases e
abbrev gSum := gInts fun is => some (.int is.sum)
theorem ok_sum : CalOk K ct (rSum K) gSum := by
  intro M N io S H vs as res Q o q md e w
  obtain ⟨f, d, xs, is, r, rfl, e1, e2, e3, rfl⟩ := gInts_of e
  cases e3
  obtain ⟨a, rfl, h⟩ := args_ints o e1 e2
  exact ⟨a, is, rfl, h, w _ _ Stp.refl (ResOk.c (.int _) q)⟩
/-- the greatest, the least of some ints -/
def maxL : List Int → Option Int
  | [] => none
  | i :: is => some (is.foldl max i)
def minL : List Int → Option Int
  | [] => none
  | i :: is => some (is.foldl min i)
theorem foldl_max : ∀ (is : List Int) (i : Int), (i ≤ is.foldl max i ∧ ∀ j ∈ is, j ≤ is.foldl max i) ∧ (is.foldl max i = i ∨ is.foldl max i ∈ is)
  | [], i => ⟨⟨Int.le_refl _, fun _ h => nomatch h⟩, .inl rfl⟩
  | k :: is, i => by
    obtain ⟨⟨h1, h2⟩, h3⟩ := foldl_max is (max i k)
    rw [List.foldl_cons]
    refine ⟨⟨by omega, fun j hj => ?_⟩, ?_⟩
    · rcases List.mem_cons.mp hj with rfl | hj
      · omega
      · exact h2 j hj
    · rcases h3 with h3 | h3
      · rw [h3]
        rcases Int.le_total i k with h | h
        · right; rw [Int.max_eq_right h]; exact List.mem_cons_self
        · left; exact Int.max_eq_left h
      · exact .inr (List.mem_cons_of_mem _ h3)
theorem foldl_min : ∀ (is : List Int) (i : Int), (is.foldl min i ≤ i ∧ ∀ j ∈ is, is.foldl min i ≤ j) ∧ (is.foldl min i = i ∨ is.foldl min i ∈ is)
  | [], i => ⟨⟨Int.le_refl _, fun _ h => nomatch h⟩, .inl rfl⟩
  | k :: is, i => by
    obtain ⟨⟨h1, h2⟩, h3⟩ := foldl_min is (min i k)
    rw [List.foldl_cons]
    refine ⟨⟨by omega, fun j hj => ?_⟩, ?_⟩
    · rcases List.mem_cons.mp hj with rfl | hj
      · omega
      · exact h2 j hj
    · rcases h3 with h3 | h3
      · rw [h3]
        rcases Int.le_total i k with h | h
        · left; exact Int.min_eq_left h
        · right; rw [Int.min_eq_right h]; exact List.mem_cons_self
      · exact .inr (List.mem_cons_of_mem _ h3)
theorem maxL_of {is : List Int} {m : Int} (h : m ∈ is) (u : ∀ y ∈ is, y ≤ m) : maxL is = some m := by
  cases is with
  | nil => cases h
  | cons i is =>
    obtain ⟨⟨h1, h2⟩, h3⟩ := foldl_max is i
    have : is.foldl max i = m := by
      have a : m ≤ is.foldl max i := by
        rcases List.mem_cons.mp h with rfl | h
        · exact h1
        · exact h2 m h
      have b : is.foldl max i ≤ m := by
        rcases h3 with h3 | h3
        · rw [h3]; exact u i List.mem_cons_self
        · exact u _ (List.mem_cons_of_mem _ h3)
      omega
    show some (is.foldl max i) = some m
    rw [this]
theorem minL_of {is : List Int} {m : Int} (h : m ∈ is) (u : ∀ y ∈ is, m ≤ y) : minL is = some m := by
  cases is with
  | nil => cases h
  | cons i is =>
    obtain ⟨⟨h1, h2⟩, h3⟩ := foldl_min is i
    have : is.foldl min i = m := by
      have a : is.foldl min i ≤ m := by
        rcases List.mem_cons.mp h with rfl | h
        · exact h1
        · exact h2 m h
      have b : m ≤ is.foldl min i := by
        rcases h3 with h3 | h3
        · rw [h3]; exact u i List.mem_cons_self
        · exact u _ (List.mem_cons_of_mem _ h3)
      omega
    show some (is.foldl min i) = some m
    rw [this]
def gMax : List (Fl × D) → Option (D × Fl) := fun as => match as with
  | [(_, .int i), (_, .int j)] => some (.int (max i j), .c)
  | as => gInts (fun is => (maxL is).map .int) as
def gMin : List (Fl × D) → Option (D × Fl) := fun as => match as with
  | [(_, .int i), (_, .int j)] => some (.int (min i j), .c)
  | as => gInts (fun is => (minL is).map .int) as
def rMaxA (K : PySem.W.Frag) : List V → Hp → VK → Prop := fun xs H Q => (∃ i j, xs = [.int i, .int j] ∧ Q (.int (if j > i then j else i)) H) ∨ rMax K xs H Q
def rMinA (K : PySem.W.Frag) : List V → Hp → VK → Prop := fun xs H Q => (∃ i j, xs = [.int i, .int j] ∧ Q (.int (if j < i then j else i)) H) ∨ rMin K xs H Q
theorem call_maxA {X : Cx} (hc : X.calm = true) : CallR X (.builtin "max") (rMaxA X.K) := CallR.or (call_max2 hc) (cr_max hc)
theorem call_minA {X : Cx} (hc : X.calm = true) : CallR X (.builtin "min") (rMinA X.K) := CallR.or (call_min2 hc) (cr_min hc)
theorem ok_max : CalOk K ct (rMaxA K) gMax := by
  intro M N io S H vs as res Q o q md e w
  unfold gMax at e
  split at e
  · rename_i f i f' j
    cases e
    obtain ⟨v, u, rfl, r, r'⟩ := args2 o
    refine .inl ⟨i, j, by rw [int_of r, int_of r'], ?_⟩
    have w := w _ _ Stp.refl (ResOk.c (.int (max i j)) q)
    have e : (if j > i then j else i) = max i j := by split <;> omega
    rw [e]
    exact w
  · obtain ⟨f, d, xs, is, r, rfl, e1, e2, e3, rfl⟩ := gInts_of e
    obtain ⟨m, em, rfl⟩ := Option.map_eq_some_iff.mp e3
    obtain ⟨a, rfl, h⟩ := args_ints o e1 e2
    refine .inr ⟨a, is, rfl, h, ?_, fun m' hm hu => ?_⟩
    · cases is with
      | nil => cases em
      | cons _ _ => simp
    · rw [maxL_of hm hu] at em
      cases em
      exact w _ _ Stp.refl (ResOk.c (.int _) q)
theorem ok_min : CalOk K ct (rMinA K) gMin := by
  intro M N io S H vs as res Q o q md e w
  unfold gMin at e
  split at e
  · rename_i f i f' j
    cases e
    obtain ⟨v, u, rfl, r, r'⟩ := args2 o
    refine .inl ⟨i, j, by rw [int_of r, int_of r'], ?_⟩
    have w := w _ _ Stp.refl (ResOk.c (.int (min i j)) q)
    have e : (if j < i then j else i) = min i j := by split <;> omega
    rw [e]
    exact w
  · obtain ⟨f, d, xs, is, r, rfl, e1, e2, e3, rfl⟩ := gInts_of e
    obtain ⟨m, em, rfl⟩ := Option.map_eq_some_iff.mp e3
    obtain ⟨a, rfl, h⟩ := args_ints o e1 e2
    refine .inr ⟨a, is, rfl, h, ?_, fun m' hm hu => ?_⟩
    · cases is with
      | nil => cases em
      | cons _ _ => simp
    · rw [minL_of hm hu] at em
      cases em
      exact w _ _ Stp.refl (ResOk.c (.int _) q)
def gBls (g : List Bool → Bool) : List (Fl × D) → Option (D × Fl) := fun as => match as with
  | [(_, d)] => match seqOf d with
    | some xs => match blsOf xs with
      | some is => some (.bl (g is), .c)
      | none => none
    | none => none
  | _ => none
theorem gBls_of {g : List Bool → Bool} {as : List (Fl × D)} {res : D × Fl} (e : gBls g as = some res) : ∃ f d xs is, as = [(f, d)] ∧ seqOf d = some xs ∧ blsOf xs = some is ∧ res = (.bl (g is), .c) := by
  unfold gBls at e
  split at e
  · rename_i f d
    split at e
    · rename_i xs e1
      split at e
      · rename_i is e2
        cases e
        exact ⟨f, d, xs, is, rfl, e1, e2, rfl⟩
      · cases e
    · cases e
  · cases e
abbrev gAll := gBls fun is => is.all id
abbrev gAny := gBls fun is => is.any id
theorem ok_all : CalOk K ct (rAll K) gAll := by
  intro M N io S H vs as res Q o q md e w
  obtain ⟨f, d, xs, is, rfl, e1, e2, rfl⟩ := gBls_of e
  obtain ⟨a, rfl, h⟩ := args_bls o e1 e2
  exact ⟨a, is, rfl, h, w _ _ Stp.refl (ResOk.c (.bl _) q)⟩
theorem ok_any : CalOk K ct (rAny K) gAny := by
  intro M N io S H vs as res Q o q md e w
  obtain ⟨f, d, xs, is, rfl, e1, e2, rfl⟩ := gBls_of e
  obtain ⟨a, rfl, h⟩ := args_bls o e1 e2
  exact ⟨a, is, rfl, h, w _ _ Stp.refl (ResOk.c (.bl _) q)⟩
def gIntT : List (Fl × D) → Option (D × Fl) := fun as => match as with
  | [(_, .int i)] => some (.int i, .c)
  | [(_, .bl b)] => some (.int (if b then 1 else 0), .c)
  | _ => none
theorem ok_intT : CalOk K ct (fun xs H Q => (∃ i, xs = [.int i] ∧ Q (.int i) H) ∨ ∃ k, xs = [.bl k] ∧ Q (.int (if k then 1 else 0)) H) gIntT := by
  intro M N io S H vs as res Q o q md e w
  unfold gIntT at e
  split at e
  · cases e
    obtain ⟨v, rfl, r⟩ := args1 o
    exact .inl ⟨_, by rw [int_of r], w _ _ Stp.refl (ResOk.c (.int _) q)⟩
  · cases e
    obtain ⟨v, rfl, r⟩ := args1 o
    exact .inr ⟨_, by rw [bl_of r], w _ _ Stp.refl (ResOk.c (.int _) q)⟩
  · cases e
def gAbs : List (Fl × D) → Option (D × Fl) := fun as => match as with
  | [(_, .int i)] => some (.int (if i < 0 then -i else i), .c)
  | _ => none
theorem ok_abs : CalOk K ct (fun xs H Q => ∃ i, xs = [.int i] ∧ Q (.int (if i < 0 then -i else i)) H) gAbs := by
  intro M N io S H vs as res Q o q md e w
  unfold gAbs at e
  split at e
  · cases e
    obtain ⟨v, rfl, r⟩ := args1 o
    exact ⟨_, by rw [int_of r], w _ _ Stp.refl (ResOk.c (.int _) q)⟩
  · cases e
/-- sorted of ints -/
def insI (i : Int) : List Int → List Int
  | [] => [i]
  | j :: js => if i ≤ j then i :: j :: js else j :: insI i js
def sortI : List Int → List Int
  | [] => []
  | i :: is => insI i (sortI is)
theorem insI_perm (i : Int) : ∀ is, (insI i is).Perm (i :: is)
  | [] => .refl _
  | j :: js => by
    unfold insI
    split
    · exact .refl _
    · exact ((insI_perm i js).cons j).trans (.swap i j js)
theorem sortI_perm : ∀ is, (sortI is).Perm is
  | [] => .refl _
  | i :: is => (insI_perm i _).trans ((sortI_perm is).cons i)
theorem insI_sorted (i : Int) : ∀ is, is.Pairwise (· ≤ ·) → (insI i is).Pairwise (· ≤ ·)
  | [], _ => by simp [insI]
  | j :: js, h => by
    unfold insI
    rw [List.pairwise_cons] at h
    split
    · rename_i hij
      rw [List.pairwise_cons, List.pairwise_cons]
      refine ⟨fun k hk => ?_, h⟩
      rcases List.mem_cons.mp hk with rfl | hk
      · exact hij
      · exact Int.le_trans hij (h.1 k hk)
    · rename_i hij
      rw [List.pairwise_cons]
      refine ⟨fun k hk => ?_, insI_sorted i js h.2⟩
      rcases List.mem_cons.mp ((insI_perm i js).mem_iff.mp hk) with rfl | hk
      · omega
      · exact h.1 k hk
theorem sortI_sorted : ∀ is, (sortI is).Pairwise (· ≤ ·)
  | [] => .nil
  | i :: is => insI_sorted i _ (sortI_sorted is)
theorem sorted_one {a b : List Int} (p : a.Perm b) (ha : a.Pairwise (· ≤ ·)) (hb : b.Pairwise (· ≤ ·)) : a = b := by
  induction a generalizing b with
  | nil => exact p.nil_eq
  | cons x xs ih =>
    cases b with
    | nil => exact absurd p.symm (List.not_perm_nil_cons x xs)
    | cons y ys =>
      rw [List.pairwise_cons] at ha hb
      have e : x = y := by
        have h1 : x ≤ y := by
          rcases List.mem_cons.mp (p.mem_iff.mpr List.mem_cons_self) with h | h
          · omega
          · exact ha.1 y h
        have h2 : y ≤ x := by
          rcases List.mem_cons.mp (p.mem_iff.mp List.mem_cons_self) with h | h
          · omega
          · exact hb.1 x h
        omega
      subst e
      rw [ih (List.Perm.cons_inv p) ha.2 hb.2]
def gSorted : List (Fl × D) → Option (D × Fl) := fun as => match as with
  | [(_, d)] => match seqOf d with
    | some xs => match intsOf xs with
      | some is => some (.lst ((sortI is).map .int), .n)
      | none => none
    | none => none
  | _ => none
theorem ok_sorted : CalOk K ct (rSortedI K) gSorted := by
  intro M N io S H vs as res Q o q md e w
  unfold gSorted at e
  split at e
  · rename_i f d
    split at e
    · rename_i xs e1
      split at e
      · rename_i is e2
        cases e
        obtain ⟨a, rfl, h⟩ := args_ints o e1 e2
        refine ⟨a, is, rfl, h, fun ns' p hp hs hn => ?_⟩
        have e3 : ns' = sortI is := sorted_one (hp.trans (sortI_perm is).symm) hs (sortI_sorted is)
        subst e3
        exact w _ _ (Stp.upd hn) (new_lst hn hn md q (Reps.ofInts _))
      · cases e
    · cases e
  · cases e
/-! ### isinstance of built-in types -/
def tyD : D → Option String
  | .non => some "NoneType"
  | .bl _ => some "bool"
  | .int _ => some "int"
  | .str _ => some "str"
  | .lst _ => some "list"
  | .frz _ => some "list"
  | .tup _ => some "tuple"
  | .dic _ _ => some "dict"
  | _ => none
theorem tyD_of {M : Addr → Prop} {io : List Addr} {H : Hp} {d : D} {v : V} {n : String} (h : Rep K M io H d v) (e : tyD d = some n) : TyX K H v (.type n) := by
  cases h with
  | non => cases e; exact .base .non
  | bl b => cases e; exact .base (.bl b)
  | int i => cases e; exact .base (.int i)
  | str z => cases e; exact .base (.str z)
  | lst h1 _ _ => cases e; exact .base (.lst h1)
  | frz h1 _ =>
    cases e
    rcases h1 with ⟨h1 | ⟨o, h1⟩, _⟩ | ⟨o, its, n, h1, h2, _⟩
    · exact .base (.lst h1)
    · exact .base (.frz h1)
    · exact .kList h1 h2
  | tup h1 _ =>
    cases e
    rcases h1 with (h1 | ⟨o, h1⟩) | ⟨o, its, n, h1, h2, _⟩
    · exact .base (.tup h1)
    · exact .fTuple h1
    · exact .kTuple h1 h2
  | dic h1 _ _ _ => cases e; exact .base (.dK h1)
  | ins _ => cases e
  | cst => cases e
/-- isinstance(x, T) -/
def gIsi (T : String) (g : String → Option Bool) : List (Fl × D) → Option (D × Fl) := fun as => match as with
  | [(_, d), (_, .cst (.ty n))] => if n = T then (match tyD d with
    | some t => (g t).map fun b => (.bl b, .c)
    | none => none) else none
  | _ => none
theorem ok_isi {T : String} {g : String → Option Bool} (hg : ∀ t b, g t = some b → kitB t T = some b) : CalOk K ct (rIsi K) (gIsi T g) := by
  intro M N io S H vs as res Q o q md e w
  unfold gIsi at e
  split at e
  · rename_i f d f' n
    split at e
    · rename_i en
      subst en
      split at e
      · rename_i t et
        obtain ⟨b, e1, rfl⟩ := Option.map_eq_some_iff.mp e
        obtain ⟨v, u, rfl, r, r'⟩ := args2 o
        have r' := r'.weak
        cases r'
        exact ⟨v, _, .type t, .type n, b, rfl, .ty n, tyD_of r.weak et, kit_ty (hg t b e1), w _ _ Stp.refl (ResOk.c (.bl _) q)⟩
      · cases e
    · cases e
  · cases e
def isiInt : String → Option Bool
  | "NoneType" => some false
  | "bool" => some true
  | "int" => some true
  | "str" => some false
  | "list" => some false
  | "tuple" => some false
  | "dict" => some false
  | _ => none
def isiOne (T : String) : String → Option Bool := fun t =>
  if t = "NoneType" ∨ t = "bool" ∨ t = "int" ∨ t = "str" ∨ t = "list" ∨ t = "tuple" ∨ t = "dict" then some (decide (t = T)) else none
theorem isi_int : ∀ t b, isiInt t = some b → kitB t "int" = some b := by
  intro t b h
  unfold isiInt at h
  split at h <;> first | cases h; decide +kernel | cases h
theorem isi_bool : ∀ t b, isiOne "bool" t = some b → kitB t "bool" = some b := by
  intro t b h
  unfold isiOne at h
  split at h
  · rename_i z
    rcases z with rfl | rfl | rfl | rfl | rfl | rfl | rfl <;> (cases h; decide +kernel)
  · cases h
theorem isi_list : ∀ t b, isiOne "list" t = some b → kitB t "list" = some b := by
  intro t b h
  unfold isiOne at h
  split at h
  · rename_i z
    rcases z with rfl | rfl | rfl | rfl | rfl | rfl | rfl <;> (cases h; decide +kernel)
  · cases h
theorem isi_tuple : ∀ t b, isiOne "tuple" t = some b → kitB t "tuple" = some b := by
  intro t b h
  unfold isiOne at h
  split at h
  · rename_i z
    rcases z with rfl | rfl | rfl | rfl | rfl | rfl | rfl <;> (cases h; decide +kernel)
  · cases h
theorem isi_str : ∀ t b, isiOne "str" t = some b → kitB t "str" = some b := by
  intro t b h
  unfold isiOne at h
  split at h
  · rename_i z
    rcases z with rfl | rfl | rfl | rfl | rfl | rfl | rfl <;> (cases h; decide +kernel)
  · cases h
theorem isi_dict : ∀ t b, isiOne "dict" t = some b → kitB t "dict" = some b := by
  intro t b h
  unfold isiOne at h
  split at h
  · rename_i z
    rcases z with rfl | rfl | rfl | rfl | rfl | rfl | rfl <;> (cases h; decide +kernel)
  · cases h
end
section
variable {X : Cx} {ct : CT} {pos : Pos}
/-- a built-in class's name as a value -/
theorem me_ty {x : Str} {n : String} (hg : Gl X x) (hm : X.mg x = none) (hv : bootBuiltins x = some (.type n)) (hn : x ≠ "__name__" := by decide) (hd : (x == ("__debug__" : Str)) = false := by decide) : ME X ct (.Name x pos) (eC (.cst (.ty n))) :=
  me_const (pe_bltn (v := .ty n) hg hm hv rfl hn hd) fun _ _ _ _ => .cst
/-! ### what writes one's own lists -/
theorem own_lst {K : PySem.W.Frag} {M : Addr → Prop} {io : List Addr} {H : Hp} {xs : List D} {a : Addr} (h : OwnAt K M io H (.lst xs) a) : ∃ vs, H a = some (.lst vs) ∧ Reps K M io H xs vs := by
  rcases h with ⟨xs', vs, e', h1, h2⟩ | ⟨ks, xs', kvs, e', _⟩
  · cases e'
    exact ⟨vs, h1, h2⟩
  · cases e'
theorem own_new {K : PySem.W.Frag} {M : Addr → Prop} {io : List Addr} {H : Hp} {xs ys : List D} {a : Addr} {vs ws : List V} (ma : M a) (h : H a = some (.lst vs)) (r : Reps K M io H ys ws) : OwnAt K M io (upd H a (.lst ws)) (.lst ys) a :=
  .inl ⟨ys, ws, rfl, upd_same, r.mono (fun b u q ni z => by
    rw [upd_ne]
    · exact q
    · rintro rfl
      rcases z with z | z
      · exact z ma
      · rw [h] at q
        cases q
        exact not_im_lst z) (fun _ _ n => n) io_refl⟩
/-- xs.append(e) -/
def sApp (i : Nat) (m : EM) : SM := fun r S => match r[i]? with
  | some (.own (.lst xs)) => (m r S).sb r fun x S1 => if okst x.2 x.1 && decide (xs.length < sizeLine) then .nx (r.set i (.own (.lst (xs ++ [x.1])))) S1 else .no
  | _ => .no
theorem ms_app {i : Nat} {x : Str} {p apos cpos : Pos} {e : Expr} {m : EM} (hx : PE X (.Name x p) (tVar i)) (he : ME X ct e m)
    (hb : ∀ {to : TE} {t : TA}, PE X (.Name x p) to → PA X [e] t → PE X (.Call (.Attribute (.Name x p) "append" apos) [e] [] cpos) (tBM X.K "list" rAppend to t))
    (hs1 : starEach [e] X.env = (false, eval e X.env) :: starEach [] X.env := by rfl) (hs : swapsWith (.Call (.Attribute (.Name x p) "append" apos) [e] [] cpos) none pos.line X.env = pure false := by rfl) : MS X ct (.Expr (.Call (.Attribute (.Name x p) "append" apos) [e] [] cpos) pos) (sApp i m) :=
  ⟨fun G W tk _ => (ps_expr (hb hx (pa_cons (he.run G W tk) pa_nil hs1)) hs).imp fun D s H ⟨r, S, io, k, h⟩ => by
    unfold sApp at h
    split at h
    · rename_i xs e
      obtain ⟨a, h1, h2, h3, h4⟩ := k.own i _ e
      obtain ⟨vs, h5, h6⟩ := own_lst h2
      refine ⟨.ref a, h1, .inl ⟨rfl, _, .inl (.inl h5)⟩, r, S, io, k, SRes.first k h fun x S1 io1 H1 _ t1 q1 k1 h1' v ov => ?_⟩
      split at h1'
      · rename_i g
        rw [Bool.and_eq_true, decide_eq_true_eq] at g
        have h5' := t1.k1 a _ h5 NI.lst
        have h6' := h6.stp t1
        refine ⟨a, vs, v, rfl, rfl, h5', by rw [← h6.len]; exact g.2, h1' s io1 _ (k1.mut e h1 (own_new (xs := xs) (.inr (.inr ⟨i, _, e, h1⟩)) h5' (h6'.app (.cons (RepF.clean g.1 ov.repF) .nil))))⟩
      · exact h1'.elim
    · exact h.elim⟩
/-- xs.extend(e) -/
def sExt (i : Nat) (m : EM) : SM := fun r S => match r[i]? with
  | some (.own (.lst xs)) => (m r S).sb r fun x S1 => match x.1 with
    | .lst ys => if x.2 ≠ .t ∧ xs.length + ys.length ≤ sizeLine then .nx (r.set i (.own (.lst (xs ++ ys)))) S1 else .no
    | _ => .no
  | _ => .no
theorem ms_ext {i : Nat} {x : Str} {p apos cpos : Pos} {e : Expr} {m : EM} (hx : PE X (.Name x p) (tVar i)) (he : ME X ct e m)
    (hb : ∀ {to : TE} {t : TA}, PE X (.Name x p) to → PA X [e] t → PE X (.Call (.Attribute (.Name x p) "extend" apos) [e] [] cpos) (tBM X.K "list" rExtend to t))
    (hs1 : starEach [e] X.env = (false, eval e X.env) :: starEach [] X.env := by rfl) (hs : swapsWith (.Call (.Attribute (.Name x p) "extend" apos) [e] [] cpos) none pos.line X.env = pure false := by rfl) : MS X ct (.Expr (.Call (.Attribute (.Name x p) "extend" apos) [e] [] cpos) pos) (sExt i m) :=
  ⟨fun G W tk _ => (ps_expr (hb hx (pa_cons (he.run G W tk) pa_nil hs1)) hs).imp fun D s H ⟨r, S, io, k, h⟩ => by
    unfold sExt at h
    split at h
    · rename_i xs e
      obtain ⟨a, h1, h2, h3, h4⟩ := k.own i _ e
      obtain ⟨vs, h5, h6⟩ := own_lst h2
      refine ⟨.ref a, h1, .inl ⟨rfl, _, .inl (.inl h5)⟩, r, S, io, k, SRes.first k h fun x S1 io1 H1 _ t1 q1 k1 h1' v ov => ?_⟩
      split at h1'
      · rename_i ys ey
        split at h1'
        · rename_i g
          have h5' := t1.k1 a _ h5 NI.lst
          have h6' := h6.stp t1
          have o2 := ov.repF
          rw [ey] at o2
          obtain ⟨b, ws, rfl, h7, h8⟩ := nt_lst g.1 o2
          refine ⟨a, b, vs, ws, rfl, rfl, h5', h7, by rw [← h6.len, ← h8.len]; exact g.2, h1' s io1 _ (k1.mut e h1 (own_new (xs := xs) (.inr (.inr ⟨i, _, e, h1⟩)) h5' (h6'.app h8)))⟩
        · exact h1'.elim
      · exact h1'.elim
    · exact h.elim⟩
/-- xs.clear() -/
def sClr (i : Nat) : SM := fun r S => match r[i]? with
  | some (.own (.lst xs)) => .nx (r.set i (.own (.lst []))) S
  | _ => .no
theorem ms_clr {i : Nat} {x : Str} {p apos cpos : Pos} (hx : PE X (.Name x p) (tVar i))
    (hb : ∀ {to : TE}, PE X (.Name x p) to → PE X (.Call (.Attribute (.Name x p) "clear" apos) [] [] cpos) (tBM0 X.K "list" rClear to))
    (hs : swapsWith (.Call (.Attribute (.Name x p) "clear" apos) [] [] cpos) none pos.line X.env = pure false := by rfl) : MS X ct (.Expr (.Call (.Attribute (.Name x p) "clear" apos) [] [] cpos) pos) (sClr i) :=
  ⟨fun G W tk _ => (ps_expr (hb hx) hs).imp fun D s H ⟨r, S, io, k, h⟩ => by
    unfold sClr at h
    split at h
    · rename_i xs e
      obtain ⟨a, h1, h2, h3, h4⟩ := k.own i _ e
      obtain ⟨vs, h5, h6⟩ := own_lst h2
      exact ⟨.ref a, h1, .inl ⟨rfl, _, .inl (.inl h5)⟩, a, vs, rfl, rfl, h5, h s io _ (k.mut e h1 (own_new (xs := xs) (.inr (.inr ⟨i, _, e, h1⟩)) h5 .nil))⟩
    · exact h.elim⟩
/-- xs.pop() whose value is dropped -/
def sPop (i : Nat) : SM := fun r S => match r[i]? with
  | some (.own (.lst xs)) => if xs = [] then .no else .nx (r.set i (.own (.lst xs.dropLast))) S
  | _ => .no
/-- xs[i] = e -/
def sSub (i : Nat) (mi m : EM) : SM := fun r S => (m r S).sb r fun x S1 => match r[i]? with
  | some (.own (.lst xs)) => (mi r S1).sb r fun j S2 => match j.1 with
    | .int k => match ixN xs.length k with
      | some n => if okst x.2 x.1 then .nx (r.set i (.own (.lst (xs.set n x.1)))) S2 else .no
      | none => .no
    | _ => .no
  | _ => .no
theorem ms_sub {i : Nat} {y : Str} {p spos : Pos} {e ei : Expr} {m mi : EM} (hx : PE X (.Name y p) (tVar i)) (hi : ME X ct ei mi) (he : ME X ct e m)
    (ha : ∀ v, assign (.Subscript (.Name y p) ei spos) X.env v = (do
      let ov ← holding [v] (eval (.Name y p) X.env)
      let iv ← holding [v, ov] (eval ei X.env)
      standAt spos
      holding [v, ov, iv] (setItem ov iv v)
      release [v, ov, iv] []) := by intro _; rfl)
    (hs : swapsWithSole [.Subscript (.Name y p) ei spos] e pos.line X.env = pure false := by rfl) (hw : swappedStores [.Subscript (.Name y p) ei spos] e X.env = pure none := by rfl)
    (h1 : (assignEach [.Subscript (.Name y p) ei spos] X.env).map (·.2) = [assign (.Subscript (.Name y p) ei spos) X.env] := by rfl) : MS X ct (.Assign [.Subscript (.Name y p) ei spos] e pos) (sSub i mi m) :=
  ⟨fun G W tk _ => (ps_asg (he.run G W tk) (pg_sub hx (hi.run G W tk) set_list ha) hs hw h1).imp fun D s H ⟨r, S, io, k, h⟩ => ⟨r, S, io, k, SRes.first k h fun x S1 io1 H1 _ t1 q1 k1 h1' v ov => by
    split at h1'
    · rename_i xs e
      obtain ⟨a, h1, h2, h3, h4⟩ := k1.own i _ e
      obtain ⟨vs, h5, h6⟩ := own_lst h2
      refine ⟨.ref a, h1, r, S1, io1, k1, SRes.first k1 h1' fun j S2 io2 H2 _ t2 q2 k2 h2' u ou => ?_⟩
      split at h2'
      · rename_i kk ej
        split at h2'
        · rename_i n en
          split at h2'
          · rename_i g
            have h5' := t2.k1 a _ h5 NI.lst
            have h6' := h6.stp t2
            have o2 := ou.repF
            rw [ej] at o2
            refine ⟨a, vs, kk, n, rfl, int_of o2, h5', by rw [← h6.len]; exact en, h2' s io2 _ (k2.mut e h1 (own_new (xs := xs) (.inr (.inr ⟨i, _, e, h1⟩)) h5' (h6'.set n (RepF.clean g (ov.repF.stp t2)))))⟩
          · exact h2'.elim
        · exact h2'.elim
      · exact h2'.elim
    · exact h1'.elim⟩⟩
/-- x += e, ints -/
def sInc (i : Nat) (m : EM) : SM := fun r S => match r[i]? with
  | some (.ar _ (.int a)) => (m r S).sb r fun x S1 => match x.1 with
    | .int b => .nx (r.set i (.ar .c (.int (a + b)))) S1
    | _ => .no
  | _ => .no
theorem ms_inc {i : Nat} {x : Str} {e : Expr} {m : EM} {pos' : Pos} (hN : X.N.Nodup) (hi : X.N[i]? = some x) (hx : Loc X.env.scope x) (he : ME X ct e m) (hf : X.fn x = true ∨ X.env.scope.names.lookup x = some .local := by first | exact .inl rfl | exact .inr rfl | assumption) :
    MS X ct (.AugAssign (.Name x pos') .Add e pos) (sInc i m) :=
  ⟨fun G W tk _ => (ps_aug hN hi hx (he.run G W tk) ip_add hf).imp fun D s H ⟨r, S, io, k, h⟩ => by
    unfold sInc at h
    split at h
    · rename_i f a e
      obtain ⟨v, h1, h2⟩ := k.arg i _ _ e
      have ev := int_of h2.repF
      refine ⟨v, h1, r, S, io, k, SRes.first k h fun x S1 io1 H1 _ t1 q1 k1 h1' u ou => ?_⟩
      split at h1'
      · rename_i b eb
        have o2 := ou.repF
        rw [eb] at o2
        exact ⟨a, b, ev, int_of o2, h1' _ io1 H1 (k1.setc (.int _))⟩
      · exact h1'.elim
    · exact h.elim⟩
end
end Mv

set_option maxRecDepth 100000
set_option maxHeartbeats 2000000
namespace L2
open PySem PySem.Spec PyProof.Rows
section
variable {X : Cx} {pins : List (Addr × Obj)} {σ : St} {H : Hp} {s : Shared}
/-- a thing that stands in the heap is tracked from now on -/
theorem Inv.track {a : Addr} {o : HO} (I : Inv X pins σ H s) (n0 : X.s_0.heap.get? a = none) (nL : a ≠ X.env.locals) (nC : ∀ x c, X.env.cells.lookup x = some c → c ≠ a) (nP : ∀ p ∈ X.pn ++ pins, p.1 ≠ a) (na : H a = none)
    (new : ObjOk X.prog X.w (upd H a o) s.heap a o) : Inv X pins σ (upd H a o) s where
  ok := I.ok
  os := I.os
  bare := I.bare
  base := {
    keep := I.base.keep
    slot := I.base.slot
    free := fun b u e n x => by
      rw [upd_ne (fun z => by rw [z, n0] at e; cases e)]
      exact I.base.free b u e n x
    there := I.base.there
    tups := fun b xs e => by
      have q := I.base.tups b xs e
      rw [upd_ne (ne_of_none q na)]
      exact q
    frzs := fun b u xs e => by
      have q := I.base.frzs b u xs e
      rw [upd_ne (ne_of_none q na)]
      exact q
    tbls := fun b ps e => by
      obtain ⟨m, q⟩ := I.base.tbls b ps e
      exact ⟨m, by rw [upd_ne (ne_of_none q na)]; exact q⟩ }
  loc := I.loc
  cell := I.cell
  free := by
    rw [upd_ne (Ne.symm nL)]
    exact I.free
  freeC := fun x c e => by
    rw [upd_ne (nC x c e)]
    exact I.freeC x c e
  pin := fun p hp => by
    obtain ⟨h1, h2, h3⟩ := I.pin p hp
    exact ⟨h1, by rw [upd_ne (nP p hp)]; exact h2, h3⟩
  hok := I.hok.laidN (fun _ _ z => z) na new
  len := I.len
end
/-- what 'except x as n: y = n' wishes of an exception of the body: slot i is n's, slot j y's -/
def wKeep (K : PySem.W.Frag) (c : Value) (i j : Nat) (Wout : WX) (D : Ends) : WX := fun cls d σ H =>
  ∃ b, PySem.W.exmOne K cls c = some b ∧ (b = true → ∀ a, H a = none → D.nx (((σ.set i (some (.ref a))).set j (some (.ref a))).set i none) (upd H a (Mv.ExV cls d a))) ∧ (b = false → Wout cls d σ H)
section
variable {X : Cx} {x n y : Str} {c : Value} {i j : Nat} {body : List Stmt} {np pos pos' p1 p2 p3 : Pos} {tb : WX → TS} {Wout : WX}
theorem ps_try_keep (hs : X.stack = X.env :: X.outer) (hf : X.env.frame = some X.env.locals) (hxx : X.ex = []) (hN : X.N.Nodup) (hi : X.N[i]? = some n) (hj : X.N[j]? = some y) (hln : X.env.kindOf n = some .local) (hly : X.env.kindOf y = some .local) (hc : Names X x c) (tk : Takes X Wout)
    (hv : ∀ (a : Addr) (pn : List (Addr × Obj)), PE (X.suite a pn) (.Name n p2) (tVar i)) (hy : ∀ (a : Addr) (pn : List (Addr × Obj)) (t : TE), PE (X.suite a pn) (.Name n p2) t → PS (X.suite a pn) (.Assign [.Name y p1] (.Name n p2) p3) (tAsg t (gName j)))
    (hb : ∀ (W : WX) (pn : List (Addr × Obj)) (xe : Value → Shared → Prop), Takes (X.tr pn xe) W → PassesOwn (model X.prog X.w) X.A X.env xe → PSs (X.tr pn xe) body (tb W)) :
    PS X (.Try body [.ExceptHandler (some (.Name x np)) (some n) [.Assign [.Name y p1] (.Name n p2) p3] pos'] [] [] pos) (fun D σ H => tb (wKeep X.K c i j Wout D) D σ H) := by
  refine ⟨fun pins s0 σ0 H0 D I0 h0 => ?_⟩
  have okX := I0.ok
  have frX : X.A.frames = some (X.env :: X.outer) := okX.frames.trans (by rw [hs])
  have lcn : Loc X.env.scope n := .inl hln
  refine wpAny_Try_except ?_
  refine wpAny_mono ((hb (wKeep X.K c i j Wout D) (X.pn ++ pins) (fun e s₁ => wpAny (model X.prog X.w) X.A (noteFrame e X.env) (fun _ s₂ => wpAny (model X.prog X.w) X.A (setFlight e none) (fun _ s₃ =>
    wpAny (model X.prog X.w) X.A (handleBy e X.env [.ExceptHandler (some (.Name x np)) (some n) [.Assign [.Name y p1] (.Name n p2) p3] pos']) (SP X pins D) X.xe s₃) X.xe s₂) X.xe s₁) (fun u sT xx => ?_) PassesOwn.looking).run [] s0 σ0 H0 D (I0.toTry _) h0) (fun f s1 hsp => ?_) (fun e s1 he => he)
  · obtain ⟨a, B, sI, pinsT, σT, HT, cls, d, rfl, JT, nb, up, sky, na, os, ag, b, hb1, hyes, hno⟩ := xx
    have J : Inv X pins σT HT sI := JT.ofTry okX
    rw [hs] at sky
    show wpAny (model X.prog X.w) X.A (noteFrame (.ref a) X.env) _ _ _
    refine Sky.land Zc.steady frX hf sky fun g3 fly3 up3 => ?_
    have K3 : Inv X pins σT HT { sT with heap := g3 } := J.landed nb fly3.1 (up.trans up3) os ag
    obtain ⟨ob3, vs3, at3, zc3, dt3⟩ := fly3.there
    have noFr : a ∉ frs (X.env :: X.outer) := fun hm => by
      obtain ⟨_, o', e', hnf⟩ := fly3.2.2.1.mem hm
      rw [at3] at e'
      cases e'
      exact hnf _ dt3
    have noL : a ≠ X.env.locals := fun z => noFr (List.mem_filterMap.mpr ⟨X.env, List.mem_cons_self, hf.trans (by rw [z])⟩)
    have noF : a ∉ X.fs := fun hm => by
      obtain ⟨e, he, q⟩ := List.mem_filterMap.mp hm
      exact noFr (List.mem_filterMap.mpr ⟨e, List.mem_cons_of_mem _ he, q⟩)
    have noI : sI.heap.get? a = none := by
      cases e : sI.heap.get? a with
      | none => rfl
      | some o =>
        have q := nb a o e (by rw [hs]; exact noFr)
        have q2 : B.get? a = none := fly3.2.1
        rw [q2] at q
        cases q
    have no0 : X.s_0.heap.get? a = none := by
      cases e : X.s_0.heap.get? a with
      | none => rfl
      | some o =>
        obtain ⟨o', e'⟩ := J.base.there a o e (by rw [hxx]; exact List.not_mem_nil)
        rw [noI] at e'
        cases e'
    have pinsA : ∀ p ∈ X.pn ++ pins, p.1 ≠ a := fun p hp z => by
      have q := (J.pin p hp).1
      rw [z, noI] at q
      cases q
    have T3 := K3.suite at3 dt3 na noL noF
    refine wpAny_handleBy_cons (codeAny_handlers_test ?_) (by intro q; cases q)
    have ty3 : PySem.W.Looks (model X.prog X.w) g3 (typeOf (.ref a)) cls := fun A Q E s k q => wpAny_typeOf_ref (k _ _ at3) (by rw [zc3.1]; exact q)
    have one3 := PySem.W.exm_one (M := model X.prog X.w) (K3.kIn) ty3 hb1
    have cls3 : ∀ {Q : Value → Shared → Prop} {E : Value → Shared → Prop}, Q c { sT with heap := g3 } → wpAny (model X.prog X.w) (X.A.mark (some (.ref a))) (eval (.Name x np) X.env) Q E { sT with heap := g3 } := fun {Q E} q => by
      obtain ⟨hg, hdbg, hm | ⟨hm, hv, hnn⟩⟩ := hc
      · exact ld_glob (X := X.suite a ((a, ob3) :: (X.pn ++ pins))) T3 hg hm q hdbg
      · exact ld_blt (X := X.suite a ((a, ob3) :: (X.pn ++ pins))) T3 hg hm hv q hnn hdbg
    refine cls3 (one3.here ?_)
    cases b with
    | true =>
      refine codeAny_handlers_suite_as ?_
      refine HandSPX.lands_againZ fly3 fun g4 fly4 up4 => ?_
      have K4 : Inv X pins σT HT { sT with heap := g4 } := J.landed nb fly4.1 ((up.trans up3).trans up4) os ag
      obtain ⟨ob4, vs4, at4, zc4, dt4⟩ := fly4.there
      have T4 := K4.suite at4 dt4 na noL noF
      refine store_ok (X := X.suite a ((a, ob4) :: (X.pn ++ pins))) (v := .ref a) T4 hN hi lcn rfl (fun s5 T5 => ?_) (.inr hln)
      have go := (pss_one (hy a ((a, ob4) :: (X.pn ++ pins)) _ (hv a ((a, ob4) :: (X.pn ++ pins))))).run [] s5 _ HT { nx := fun σ6 H6 => σ6 = (σT.set i (some (.ref a))).set j (some (.ref a)) ∧ H6 = HT, rt := fun _ _ => False, bk := fun _ _ => False, ct := fun _ _ => False } T5
        ⟨.ref a, List.getElem?_set_self (by rw [K4.len]; exact (List.getElem?_eq_some_iff.mp hi).1), rfl, rfl⟩
      refine wpAny_mono go (fun f s6 hsp => ?_) (fun _ _ z => False.elim z)
      cases f with
      | next =>
        obtain ⟨σ6, H6, T6, rfl, rfl⟩ := hsp
        refine gone_ok (X := X.suite a ((a, ob4) :: (X.pn ++ pins))) T6 hN hi hln fun s7 T7 => ?_
        obtain ⟨at7, _⟩ := T7.pin (a, ob4) (List.mem_append_left _ List.mem_cons_self)
        have K7 : Inv X pins (((σT.set i (some (.ref a))).set j (some (.ref a))).set i none) H6 s7 := T7.unsuite okX
        refine ⟨_, _, K7.track (o := Mv.ExV cls d a) no0 noL (fun y' c' e z => ?_) pinsA na ⟨⟨ob4, vs4, at7, zc4, dt4⟩, ⟨ob4, at7⟩, fun _ _ ⟨o, v, q, r⟩ k => ⟨o, v, k o q, r⟩⟩, hyes rfl a na⟩
        obtain ⟨v, o, ho, hd⟩ := K7.cell y' c' e
        rw [z, at7] at ho
        cases ho
        rw [dt4] at hd
        cases hd
      | brk => obtain ⟨_, _, _, q⟩ := hsp; exact q.elim
      | cont => obtain ⟨_, _, _, q⟩ := hsp; exact q.elim
      | ret u => obtain ⟨_, _, _, _, _, q⟩ := hsp; exact q.elim
    | false =>
      show wpAny _ X.A (handleBy (.ref a) X.env []) _ _ _
      refine wpAny_handleBy_nil ?_
      obtain ⟨f1, f2, f3, oe, vs, T, oT, ts', he, hz, hd, h1, hr⟩ := id fly3
      unfold PySem.passOn
      refine wpAny_bind (wpAny_field he hd h1 ?_)
      rw [if_neg (show ¬ ((Value.ref T == Value.none) = true) from by simp)]
      have on : wpAny (model X.prog X.w) X.A (setFlight (.ref a) X.env.frame) (fun _ s4 => wpAny (model X.prog X.w) X.A (throw (.ref a) : Sem Flow) (SP X pins D) X.xe s4) X.xe { sT with heap := g3 } := by
        rw [hf]
        refine HandSPX.setFlight_upZ fly3 fun g4 held4 up4 => wpAny_throw (tk _ _ ?_)
        exact ⟨a, B, sI, pins, σT, HT, cls, d, rfl, J, nb, (up.trans up3).trans up4, .inr (.inr (by rw [hs]; exact held4)), na, os, ag, hno rfl⟩
      first
        | exact wpAny_bind (wpAny_pure (wpAny_bind on))
        | exact wpAny_bind on
  · cases f with
    | next => obtain ⟨σ1, H1, J1, q⟩ := hsp; exact wpAny_execs_nil ⟨σ1, H1, J1.ofTry okX, q⟩
    | brk => obtain ⟨σ1, H1, J1, q⟩ := hsp; exact ⟨σ1, H1, J1.ofTry okX, q⟩
    | cont => obtain ⟨σ1, H1, J1, q⟩ := hsp; exact ⟨σ1, H1, J1.ofTry okX, q⟩
    | ret u => obtain ⟨v, σ1, H1, J1, r, q⟩ := hsp; exact ⟨v, σ1, H1, J1.ofTry okX, r, q⟩
end
end L2

set_option maxRecDepth 100000
set_option maxHeartbeats 2000000
namespace L2
open PySem PySem.Spec PyProof.Rows
/-- isinstance asked of an exception without a dict, or of any other thing -/
def KindZ (K : PySem.W.Frag) (H : Hp) (x : V) (t : Value) : Prop := TyX K H x t ∨ ∃ (a D : Addr), x = .ref a ∧ t = .ref D ∧ H a = some (Mv.ExV (.ref D) none a) ∧ ExcC K D
def rIsZ (K : PySem.W.Frag) : List V → Hp → VK → Prop := fun xs H Q => ∃ (x c : V) (t u : Value) (b : Bool), xs = [x, c] ∧ ClsV c u ∧ KindZ K H x t ∧ PySem.W.kitOne K t u = some b ∧ Q (.bl b) H
def rIsZT (K : PySem.W.Frag) : List V → Hp → VK → Prop := fun xs H Q => ∃ (x : V) (tp : Addr) (cs : List V) (t : Value) (us : List Value) (b : Bool), xs = [x, .ref tp] ∧ H tp = some (.tup cs) ∧ Paired ClsV cs us ∧ KindZ K H x t ∧ PySem.W.kitAny K t us = some b ∧ Q (.bl b) H
section
variable {X : Cx} {pins : List (Addr × Obj)} {σ : St} {H : Hp} {s : Shared}
theorem kitZ {x : V} {u t : Value} (I : Inv X pins σ H s) (rx : RelV x u) (k : KindZ X.K H x t) : ∃ P : Heap → Prop, PySem.W.KitX X.K u t P ∧ P s.heap ∧ u ≠ .builtin "__main__.__loader__#opaque" := by
  rcases k with k | ⟨a, D, rfl, rfl, ea, C⟩
  · exact kit_of I rx k
  · cases rx
    obtain ⟨⟨oe, vs, h1, h2, h3⟩, _⟩ := (show ObjOk X.prog X.w H s.heap a (Mv.ExV (.ref D) none a) from I.hok a _ ea)
    refine ⟨_, PySem.W.handS_kitx_exc (ox := oe) C.hg C.hk C.hs C.hd C.ha C.hn C.ht C.hm, ?_, fun z => nomatch z⟩
    obtain ⟨oc, od, dt, sl⟩ := oe
    obtain ⟨z1, z2⟩ := h2
    dsimp only at z1 z2 h3
    subst z1 z2 h3
    exact ⟨h1, rfl, rfl, trivial⟩
theorem call_isZ : CallR X (.builtin "isinstance") (rIsZ X.K) := by
  intro pins s σ H xs us Q I r h
  obtain ⟨x, c, t, u, b, rfl, k, ty, e, q⟩ := h
  obtain ⟨u1, u2, rfl, r1, r2⟩ := vals2 r
  have e2 := k.eq r2
  subst e2
  obtain ⟨P, Z, p, hx⟩ := kitZ I r1 ty
  exact PySem.W.kia_one Z I.kIn p e hx fun tk => ⟨.bl b, H, I.tok tk, rfl, q⟩
theorem call_isZT : CallR X (.builtin "isinstance") (rIsZT X.K) := by
  intro pins s σ H xs us Q I r h
  obtain ⟨x, tp, cs, t, ws, b, rfl, hT, k, ty, e, q⟩ := h
  obtain ⟨u1, u2, rfl, r1, r2⟩ := vals2 r
  cases (show u2 = Value.ref tp from r2)
  obtain ⟨P, Z, p, hx⟩ := kitZ I r1 ty
  obtain ⟨_, its, rv, o, h1, h2, n, h3⟩ := (show ObjOk X.prog X.w H s.heap tp (.tup cs) from I.hok tp _ hT)
  have e3 := ClsV.all k rv
  subst e3
  obtain ⟨oc, od, dt, sl⟩ := o
  simp only at h2 h3
  subst h2 h3
  exact PySem.W.kia_tup Z I.kIn p h1 e hx fun tk => ⟨.bl b, H, I.tok tk, rfl, q⟩
theorem pcs_nil : PA X [] (fun _ H Q => Q [] H) := pa_nil
theorem pcs_cons {e : Expr} {es : List Expr} {v : V} {vs : List V} (he : PE X e (tC v)) (hr : PA X es (fun _ H Q => Q vs H)) (hs : starEach (e :: es) X.env = (false, eval e X.env) :: starEach es X.env := by rfl) : PA X (e :: es) (fun _ H Q => Q (v :: vs) H) := pa_cons he hr hs
end
end L2
namespace Mv
open PySem PySem.Spec PyProof.Rows L2
/-! ### raise -/
/-- an exception class called as n: its number c -/
structure RaC (K : PySem.W.Frag) (mg : Str → Option Value) (A : Addr) (n : Str) : Prop where
  ex : PySem.W.excIn K A [.type "ValueError", .type "Exception", .type "BaseException", .type "object"] "ValueError.__new__" = true
  gl : mg n = some (.ref A)
  kp : PySem.W.keepIn K (.ref A) = true
  sb : PySem.W.subIn K (.ref A) (.type "BaseException") = some true
  ty : PySem.W.typeIn K (.ref A) = some (.type "type")
section
variable {X : Cx} {ct : CT} {pos : Pos}
/-- raise C('..') -/
def sRaise (c : Nat) : SM := fun r S => .er c [] r S
theorem ms_raise {n : Str} {c : Nat} {m : Str} {j : Nat} {p p2 pos' : Pos} (hc : X.calm = true) (R : RaC X.K X.mg (ct.ad c) n) (hg : Gl X n) (hd : (n == ("__debug__" : Str)) = false := by decide) :
    MS X ct (.Raise (some (.Call (.Name n p) [.Constant (.str m) j p2] [] pos')) none pos) (sRaise c) :=
  ⟨fun G W tk _ => (ps_raise hc tk (pmk_own PySem.F.excBase_ValueError R.ex R.gl R.kp (raises_own R.sb R.ty) hg hd)).imp fun D s H ⟨r, S, io, k, h⟩ => h none s io H k (.inl ⟨rfl, rfl⟩)⟩
end
/-! ### an exception in the store -/
section
variable {K : PySem.W.Frag} {ct : CT} {G : Gx} {r : Env} {S S' S1 : Store} {io io' io1 : List Addr} {s : St} {H H' H1 : Hp} {M : Addr → Prop}
theorem kept_sto {c : Nat} {p : List D} {d : Option Addr} {a : Addr} (q : StoOk K ct M io S H) (ex : ct.ex c = true) (ha : H a = none) (e : ErrOk K (ct.fd c) io H p d) :
    Stp ct io H (io ++ [a]) (upd H a (ExV (.ref (ct.ad c)) d a)) ∧ StoOk K ct M (io ++ [a]) (S ++ [(c, p)]) (upd H a (ExV (.ref (ct.ad c)) d a)) := by
  have t0 : Stp ct io H io (upd H a (ExV (.ref (ct.ad c)) d a)) := Stp.upd ha
  have nx : a ∉ io := fun z => by
    obtain ⟨i, hi, e⟩ := List.getElem_of_mem z
    obtain ⟨b, o', h1, h2⟩ := q.io_at (n := i) (by rw [q.len]; exact hi)
    rw [List.getElem?_eq_getElem hi, e] at h1
    cases h1
    rw [ha] at h2
    cases h2
  have t : Stp ct io H (io ++ [a]) (upd H a (ExV (.ref (ct.ad c)) d a)) := ⟨t0.k1, t0.k2, ⟨[a], rfl⟩, fun b h n => by
    rcases List.mem_append.mp h with h | h
    · exact absurd h n
    · rw [List.mem_singleton.mp h]
      exact ha, t0.dom, t0.k3⟩
  refine ⟨t, by simp [q.len], fun n C' fs e' x' => ?_, fun n C' fs e' x' => ?_, ?_, tabs_mono (M := fun _ => False) q.tb t.kp fun b ps e' => by rw [upd_ne (ne_of_none e' ha)]; exact e'⟩
  · rcases Nat.lt_or_ge n S.length with hn | hn
    · rw [List.getElem?_append_left hn] at e'
      obtain ⟨b, dx', gs, h1, h2, h3, h4⟩ := q.at_ n C' fs e' x'
      exact ⟨b, dx', gs, by rw [List.getElem?_append_left (by rw [← q.len]; exact hn)]; exact h1, by rw [upd_ne (ne_of_none h2 ha)]; exact h2, h3, h4.stp t⟩
    · rw [List.getElem?_append_right hn] at e'
      have hn0 : n - S.length = 0 := by
        have := (List.getElem?_eq_some_iff.mp e').1
        simp at this
        omega
      rw [hn0] at e'
      cases e'
      rw [ex] at x'
      cases x'
  · rcases Nat.lt_or_ge n S.length with hn | hn
    · rw [List.getElem?_append_left hn] at e'
      obtain ⟨b, d', h1, h2, h3⟩ := q.ax n C' fs e' x'
      exact ⟨b, d', by rw [List.getElem?_append_left (by rw [← q.len]; exact hn)]; exact h1, by rw [upd_ne (ne_of_none h2 ha)]; exact h2, h3.mono (M := fun _ => False) t.kp t.pre⟩
    · rw [List.getElem?_append_right hn] at e'
      have hn0 : n - S.length = 0 := by
        have := (List.getElem?_eq_some_iff.mp e').1
        simp at this
        omega
      rw [hn0] at e'
      cases e'
      refine ⟨a, d, ?_, upd_same, e.mono (M := fun _ => False) t.kp t.pre⟩
      rw [List.getElem?_append_right (by rw [← q.len]; exact hn), ← q.len, hn0]
      rfl
  · rw [List.nodup_append]
    refine ⟨q.nd, by simp, fun b hb a' ha' e => ?_⟩
    rw [List.mem_singleton.mp ha'] at e
    exact nx (e ▸ hb)
/-- a slot of which nothing is known -/
theorem Ok.blank {i : Nat} {v : Option V} (k : Ok K ct G r S io s H) (e : r[i]? = some .no) : Ok K ct G r S io (s.set i v) H := by
  have ne : ∀ {j : Nat} {x : Slot}, r[j]? = some x → x ≠ .no → i ≠ j := fun {j x} q n z => by
    subst z
    rw [e] at q
    exact n (Option.some.inj q).symm
  have em : Mown G r (s.set i v) = Mown G r s := by
    funext a
    refine propext ⟨fun z => ?_, fun z => ?_⟩
    · rcases z with z | ⟨j, d, h1, h2⟩
      · exact .inl z
      · rw [List.getElem?_set_ne (ne h1 (by simp))] at h2
        exact .inr ⟨j, d, h1, h2⟩
    · rcases z with z | ⟨j, d, h1, h2⟩
      · exact .inl z
      · exact .inr ⟨j, d, h1, by rw [List.getElem?_set_ne (ne h1 (by simp))]; exact h2⟩
  have eM : Mall G r (s.set i v) = Mall G r s := by unfold Mall; rw [em]
  refine ⟨by simp [k.len], fun j f d q => ?_, fun j d q => ?_, fun j j' d d' a q q' z z' => ?_, by rw [eM]; exact k.sto, k.stp, k.m0, k.n0, by rw [eM, em]; exact k.held, k.dp.env rfl (fun _ z => z) fun j b d q => ⟨q, List.getElem?_set_ne (ne q (by simp))⟩⟩
  · obtain ⟨w, h1, h2⟩ := k.arg j f d q
    exact ⟨w, by rw [List.getElem?_set_ne (ne q (by simp))]; exact h1, by rw [eM, em]; exact h2⟩
  · obtain ⟨w, h1, h2⟩ := k.own j d q
    exact ⟨w, by rw [List.getElem?_set_ne (ne q (by simp))]; exact h1, by rw [eM]; exact h2⟩
  · rw [List.getElem?_set_ne (ne q (by simp))] at z
    rw [List.getElem?_set_ne (ne q' (by simp))] at z'
    exact k.inj j j' d d' a q q' z z'
end
/-! ### try -/
/-- what the except clause's class says of each class number -/
def TabX (K : PySem.W.Frag) (ct : CT) (c : Value) (l : List (Nat × Bool)) : Prop := ∀ p ∈ l, PySem.W.exmOne K (.ref (ct.ad p.1)) c = some p.2 ∧ ct.ex p.1 = true
theorem mem_of_lk {α : Type} {n : Nat} {b : α} : ∀ {l : List (Nat × α)}, l.lookup n = some b → (n, b) ∈ l
  | [], h => by simp at h
  | (m, c) :: l, h => by
    rw [List.lookup_cons] at h
    split at h
    · rename_i e
      rw [beq_iff_eq.mp e]
      cases h
      exact List.mem_cons_self
    · exact List.mem_cons_of_mem _ (mem_of_lk h)
section
variable {X : Cx} {ct : CT} {pos : Pos}
/-- try: b, except C as n: y = n (n's slot i, y's j) -/
def sTry (l : List (Nat × Bool)) (i j : Nat) (b : SM) : SM := fun r S => match b r S with
  | .er c p r' S' => match l.lookup c with
    | some true => match r'[i]? with
      | some .no => .nx (r'.set j (.ar .c (.ins S'.length))) (S' ++ [(c, p)])
      | _ => .no
    | some false => .er c p r' S'
    | none => .no
  | x => x
theorem try_go {K : PySem.W.Frag} {c : Value} {l : List (Nat × Bool)} {i j : Nat} {b : SM} {G : Gx} {W : WX} {D : Ends} {s : St} {H : Hp} (hij : i ≠ j) (T : TabX K ct c l) (h : tS K ct G W (sTry l i j b) D s H) : tS K ct G (wKeep K c i j W D) b D s H := by
  obtain ⟨r, S, io, k, h⟩ := h
  refine ⟨r, S, io, k, ?_⟩
  unfold sTry at h
  cases e : b r S with
  | er c' p r' S' =>
    rw [e] at h
    intro dx s' io' H' k' er
    dsimp only at h
    split at h
    · rename_i e2
      obtain ⟨t1, t2⟩ := T _ (mem_of_lk e2)
      split at h
      · rename_i e3
        refine ⟨true, t1, fun _ a ha => ?_, fun z => by cases z⟩
        obtain ⟨st, sq⟩ := kept_sto k'.sto t2 ha er
        have k1 := k'.step st sq
        have k2 := (k1.blank (v := some (.ref a)) e3).setc (i := j) (d := .ins S'.length) (v := .ref a) (Rep.ins (by
          rw [List.getElem?_append_right (by rw [k'.sto.len]; exact Nat.le_refl _), k'.sto.len, Nat.sub_self]
          rfl))
        exact h _ _ _ (k2.blank (v := none) (by rw [List.getElem?_set_ne (Ne.symm hij)]; exact e3))
      · exact h.elim
    · rename_i e2
      obtain ⟨t1, t2⟩ := T _ (mem_of_lk e2)
      exact ⟨false, t1, (fun z => by cases z), fun _ => h dx s' io' H' k' er⟩
    · exact h.elim
  | nx r' S' => rw [e] at h; exact h
  | rt d f S' => rw [e] at h; exact h
  | bk r' S' => rw [e] at h; exact h
  | ct r' S' => rw [e] at h; exact h
  | no => rw [e] at h; exact h
theorem ms_try {x n y : Str} {c : Value} {i j : Nat} {body : List Stmt} {np pos' p1 p2 p3 : Pos} {l : List (Nat × Bool)} {b : SM} (hs : X.stack = X.env :: X.outer) (hf : X.env.frame = some X.env.locals) (hxx : X.ex = []) (hN : X.N.Nodup) (hi : X.N[i]? = some n) (hj : X.N[j]? = some y)
    (hln : X.env.kindOf n = some .local) (hly : X.env.kindOf y = some .local) (hij : i ≠ j) (hc : Names X x c) (T : TabX X.K ct c l) (hv : ∀ (a : Addr) (pn : List (Addr × Obj)), PE (X.suite a pn) (.Name n p2) (tVar i))
    (hy : ∀ (a : Addr) (pn : List (Addr × Obj)) (t : TE), PE (X.suite a pn) (.Name n p2) t → PS (X.suite a pn) (.Assign [.Name y p1] (.Name n p2) p3) (tAsg t (gName j)))
    (hb : ∀ (pn : List (Addr × Obj)) (xe : Value → Shared → Prop), MSs (X.tr pn xe) ct body b) : MS X ct (.Try body [.ExceptHandler (some (.Name x np)) (some n) [.Assign [.Name y p1] (.Name n p2) p3] pos'] [] [] pos) (sTry l i j b) :=
  ⟨fun G W tk po => (ps_try_keep (tb := fun W => tS X.K ct G W b) hs hf hxx hN hi hj hln hly hc tk hv hy fun W pn xe tk' po' => (hb pn xe).run G W tk' po').imp fun D s H h => try_go hij T h⟩
/-- try: b, except C: su -/
def sTryO (l : List (Nat × Bool)) (b su : SM) : SM := fun r S => match b r S with
  | .er c p r' S' => match l.lookup c with
    | some true => match su r' S' with
      | .er _ _ _ _ => .no
      | x => x
    | some false => .er c p r' S'
    | none => .no
  | x => x
theorem ms_tryO {x : Str} {c : Value} {body suite : List Stmt} {b₀ : Stmt} {np pos' : Pos} {l : List (Nat × Bool)} {b su : SM} (hs : X.stack = X.env :: X.outer) (hf : X.env.frame = some X.env.locals) (hc : Names X x c) (T : TabX X.K ct c l)
    (hb : ∀ (pn : List (Addr × Obj)) (xe : Value → Shared → Prop), MSs (X.tr pn xe) ct body b) (hsu : ∀ (a : Addr) (pn : List (Addr × Obj)), MSs (X.suite a pn) ct (b₀ :: suite) su) :
    MS X ct (.Try body [.ExceptHandler (some (.Name x np)) none (b₀ :: suite) pos'] [] [] pos) (sTryO l b su) :=
  ⟨fun G W tk po => (ps_try_only (tb := fun W => tS X.K ct G W b) (ts := fun _ _ _ => tS X.K ct G W0 su) hs hf hc tk (fun W pn xe tk' po' => (hb pn xe).run G W tk' po') fun a oe cls d pn _ _ => (hsu a ((a, oe) :: pn)).run G W0 (fun _ _ ⟨_, _, _, _, _, _, _, _, _, _, _, _, _, _, _, _, w⟩ => w) PassesOwn.never).imp fun D s H h => by
    obtain ⟨r, S, io, k, h⟩ := h
    refine ⟨r, S, io, k, ?_⟩
    unfold sTryO at h
    cases e : b r S with
    | er c' p r' S' =>
      rw [e] at h
      intro dx s' io' H' k' er
      dsimp only at h
      split at h
      · rename_i e2
        obtain ⟨t1, t2⟩ := T _ (mem_of_lk e2)
        refine ⟨true, t1, fun _ a ha => ⟨r', S', io', k', ?_⟩, fun z => by cases z⟩
        cases e3 : su r' S' with
        | er c2 p2 r2 S2 =>
          rw [e3] at h
          exact h.elim
        | nx r2 S2 => rw [e3] at h; exact h
        | rt d f S2 => rw [e3] at h; exact h
        | bk r2 S2 => rw [e3] at h; exact h
        | ct r2 S2 => rw [e3] at h; exact h
        | no => rw [e3] at h; exact h
      · rename_i e2
        obtain ⟨t1, t2⟩ := T _ (mem_of_lk e2)
        exact ⟨false, t1, (fun z => by cases z), fun _ => h dx s' io' H' k' er⟩
      · exact h.elim
    | nx r' S' => rw [e] at h; exact h
    | rt d f S' => rw [e] at h; exact h
    | bk r' S' => rw [e] at h; exact h
    | ct r' S' => rw [e] at h; exact h
    | no => rw [e] at h; exact h⟩
end
end Mv

set_option maxRecDepth 100000
set_option maxHeartbeats 2000000
namespace Mv
open PySem PySem.Spec PyProof.Rows L2
/-! ### isinstance of one's own classes -/
def kindB (tt : List (String × Bool)) (l : List (Nat × Bool)) (d : D) (S : Store) : Option Bool := match d with
  | .ins n => match S[n]? with
    | some (c, []) => l.lookup c
    | _ => none
  | d => match tyD d with
    | some t => tt.lookup t
    | none => none
def eIsx (tt : List (String × Bool)) (l : List (Nat × Bool)) (m : EM) : EM := fun r S => (m r S).bind fun x S1 => match kindB tt l x.1 S1 with
  | some b => .ok (.bl b, .c) S1
  | none => .no
theorem mem_of_lkS {α : Type} {n : String} {b : α} : ∀ {l : List (String × α)}, l.lookup n = some b → (n, b) ∈ l
  | [], h => by simp at h
  | (m, c) :: l, h => by
    rw [List.lookup_cons] at h
    split at h
    · rename_i e
      rw [beq_iff_eq.mp e]
      cases h
      exact List.mem_cons_self
    · exact List.mem_cons_of_mem _ (mem_of_lkS h)
structure IsC (K : PySem.W.Frag) (ct : CT) (f : Value → Option Bool) (tt : List (String × Bool)) (l : List (Nat × Bool)) : Prop where
  ty : ∀ p ∈ tt, f (.type p.1) = some p.2
  cl : ∀ p ∈ l, f (.ref (ct.ad p.1)) = some p.2 ∧ ct.ex p.1 = true ∧ ExcC K (ct.ad p.1)
theorem kindB_of {K : PySem.W.Frag} {ct : CT} {M : Addr → Prop} {io : List Addr} {H : Hp} {S : Store} {f : Value → Option Bool} {tt : List (String × Bool)} {l : List (Nat × Bool)} {d : D} {v : V} {b : Bool} (I : IsC K ct f tt l) (e : kindB tt l d S = some b) (h : Rep K M io H d v) (q : StoOk K ct M io S H) :
    ∃ t, KindZ K H v t ∧ f t = some b := by
  have go : ∀ {d : D}, Rep K M io H d v → (match tyD d with
    | some t => tt.lookup t
    | none => none) = some b → ∃ t, KindZ K H v t ∧ f t = some b := fun {d} h e => by
    split at e
    · rename_i t et
      exact ⟨_, .inl (tyD_of h et), I.ty _ (mem_of_lkS e)⟩
    · cases e
  cases h with
  | ins h1 =>
    rename_i n a
    unfold kindB at e
    dsimp only at e
    split at e
    · rename_i c e2
      obtain ⟨z1, z2, z3⟩ := I.cl _ (mem_of_lk e)
      obtain ⟨a', d, y1, y2, y3⟩ := q.ax n c [] e2 z2
      rw [h1] at y1
      cases y1
      rcases y3 with ⟨_, rfl⟩ | ⟨_, _, _, z, _⟩
      · exact ⟨_, .inr ⟨a, ct.ad c, rfl, rfl, y2, z3⟩, z1⟩
      · exact absurd rfl z
    · cases e
  | non => exact go .non e
  | bl x => exact go (.bl x) e
  | int x => exact go (.int x) e
  | str x => exact go (.str x) e
  | lst h1 h2 h3 => exact go (.lst h1 h2 h3) e
  | frz h1 h2 => exact go (.frz h1 h2) e
  | tup h1 h2 => exact go (.tup h1 h2) e
  | dic h1 h2 h3 h4 => exact go (.dic h1 h2 h3 h4) e
  | cst => cases e
theorem StoOk.weak {K : PySem.W.Frag} {ct : CT} {M : Addr → Prop} {io : List Addr} {S : Store} {H : Hp} (q : StoOk K ct M io S H) : StoOk K ct (fun _ => False) io S H := q.anti fun _ z => z.elim
section
variable {X : Cx} {ct : CT} {pos : Pos}
theorem me_isx {e c : Expr} {p : Pos} {v : V} {u : Value} {m : EM} {tt : List (String × Bool)} {l : List (Nat × Bool)} (he : ME X ct e m) (hc : PE X c (tC v)) (cv : ClsV v u) (I : IsC X.K ct (fun t => PySem.W.kitOne X.K t u) tt l) (hgl : Gl X "isinstance") (hm : X.mg "isinstance" = none) (hv : bootBuiltins "isinstance" = some (.builtin "isinstance"))
    (hs : starEach [c] X.env = (false, eval c X.env) :: starEach [] X.env := by rfl) (hs2 : starEach [e, c] X.env = (false, eval e X.env) :: starEach [c] X.env := by rfl) (hpl : (backTo pos (starEach [c] X.env)).any (·.1) = false := by rfl) :
    ME X ct (.Call (.Name "isinstance" p) [e, c] [] pos) (eIsx tt l m) :=
  ⟨fun G W tk => (pe_callB call_isZ hgl hm hv (pa_cons (he.run G W tk) (pcs_cons hc pcs_nil hs) hs2) (he := hs2) (hpl := hpl)).imp fun s H Q ⟨r, S, io, k, h⟩ => ⟨r, S, io, k, Res.first h fun x S1 io1 H1 e1 t1 q1 h1 w o => by
    split at h1
    · rename_i b e2
      obtain ⟨t, z1, z2⟩ := kindB_of I e2 o.repF.weak q1.weak
      exact ⟨w, v, t, u, b, rfl, cv, z1, z2, h1.here q1 _ (ResOk.sc (f := .c) (by simp) (.bl _) q1)⟩
    · exact h1.elim⟩⟩
theorem me_isxT {e : Expr} {es : List Expr} {p : Pos} {vs : List V} {us : List Value} {m : EM} {x1 pt} {tt : List (String × Bool)} {l : List (Nat × Bool)} (he : ME X ct e m) (hc : PA X es (fun _ H Q => Q vs H)) (cv : Paired ClsV vs us) (hl : vs.length ≤ sizeLine) (I : IsC X.K ct (fun t => PySem.W.kitAny X.K t us) tt l) (hgl : Gl X "isinstance") (hm : X.mg "isinstance" = none) (hv : bootBuiltins "isinstance" = some (.builtin "isinstance"))
    (hs : starEach [.Tuple es x1 pt] X.env = (false, eval (.Tuple es x1 pt) X.env) :: starEach [] X.env := by rfl) (hs2 : starEach [e, .Tuple es x1 pt] X.env = (false, eval e X.env) :: starEach [.Tuple es x1 pt] X.env := by rfl) (hpl : (backTo pos (starEach [.Tuple es x1 pt] X.env)).any (·.1) = false := by rfl) :
    ME X ct (.Call (.Name "isinstance" p) [e, .Tuple es x1 pt] [] pos) (eIsx tt l m) :=
  ⟨fun G W tk => (pe_callB call_isZT hgl hm hv (pa_cons (he.run G W tk) (pa_cons (pe_tup hc) pa_nil hs) hs2) (he := hs2) (hpl := hpl)).imp fun s H Q ⟨r, S, io, k, h⟩ => ⟨r, S, io, k, Res.first h fun x S1 io1 H1 e1 t1 q1 h1 w o => by
    split at h1
    · rename_i b e2
      refine ⟨hl, fun pp hp => ?_⟩
      obtain ⟨t, z1, z2⟩ := kindB_of I e2 (o.repF.stp (Stp.upd (ct := ct) (o := .tup vs) hp)).weak (q1.upd (o := .tup vs) hp).weak
      exact ⟨w, pp, vs, t, us, b, rfl, upd_same, cv, z1, z2, h1.go (Stp.upd hp) (q1.upd hp) _ (ResOk.sc (f := .c) (by simp) (.bl _) (q1.upd hp))⟩
    · exact h1.elim⟩⟩
/-- an own class's name -/
theorem pe_cls {x : Str} {A : Addr} (hg : Gl X x) (hm : X.mg x = some (.ref A)) (hd : (x == ("__debug__" : Str)) = false := by decide) : PE X (.Name x pos) (tC (.ref A)) := pe_glob hg hm rfl hd
theorem pe_bcls {x : Str} {n : String} (hg : Gl X x) (hm : X.mg x = none) (hv : bootBuiltins x = some (.type n)) (hn : x ≠ "__name__" := by decide) (hd : (x == ("__debug__" : Str)) = false := by decide) : PE X (.Name x pos) (tC (.ty n)) := pe_bltn (v := .ty n) hg hm hv rfl hn hd
end
end Mv
namespace Mv
open PySem PySem.Spec PyProof.Rows L2
section
variable {K : PySem.W.Frag} {ct : CT} {M N : Addr → Prop} {io : List Addr} {S : Store} {H : Hp}
/-- tuple(x) -/
def gTupOf : D × Fl → Option (D × Fl)
  | (.lst xs, f) => some (.tup xs, if f = .t then .t else .c)
  | (.frz xs, f) => some (.tup xs, if f = .t then .t else .c)
  | (.tup xs, f) => if f = .t then none else some (.tup xs, .c)
  | _ => none
theorem new_tupT {H0 : Hp} {p : Addr} {f : Fl} {xs : List D} {vs : List V} (hp : H p = none) (q : StoOk K ct M io S H) (hw : Reps K (fun _ => False) io H xs vs) (h : f ≠ .t → Reps K M io H xs vs) :
    ResOk K ct M N H0 io S (upd H p (.tup vs)) (if f = .t then .t else .c) (.tup xs) (.ref p) := by
  by_cases e : f = .t
  · rw [if_pos e]
    exact ⟨.tup (.inl (.inl upd_same)) (hw.stp (Stp.upd (ct := ct) hp)), q.upd hp⟩
  · rw [if_neg e]
    exact new_tup hp q (h e)
theorem ok_tupOf {x : V} {a res : D × Fl} {Q : VK} (o : RepF K M N io H a.2 a.1 x) (q : StoOk K ct M io S H) (e : gTupOf a = some res) (w : ∀ v H', Stp ct io H io H' → ResOk K ct M N H io S H' res.2 res.1 v → Q v H') : kTup K x H Q := by
  obtain ⟨d, f⟩ := a
  unfold gTupOf at e
  split at e
  · rename_i xs f' e2
    cases e2
    cases e
    obtain ⟨a, us, rfl, h1, h2, h3⟩ := seq_both (d := .lst xs) rfl o
    exact .inl ⟨a, us, rfl, h1, fun p hp => w _ _ (Stp.upd hp) (new_tupT hp q h3 h2)⟩
  · rename_i xs f' e2
    cases e2
    cases e
    obtain ⟨a, us, rfl, h1, h2, h3⟩ := seq_both (d := .frz xs) rfl o
    exact .inl ⟨a, us, rfl, h1, fun p hp => w _ _ (Stp.upd hp) (new_tupT hp q h3 h2)⟩
  · rename_i xs f' e2
    cases e2
    split at e
    · cases e
    · rename_i g
      cases e
      have o2 := o
      obtain ⟨a, us, rfl, h1, h2⟩ := nt_tup g o
      exact .inr ⟨a, us, rfl, h1, w _ _ Stp.refl ⟨.tup h1 h2, q⟩⟩
  · cases e
end
section
variable {X : Cx} {ct : CT} {pos : Pos}
def eG1 (g : D × Fl → Option (D × Fl)) (m : EM) : EM := fun r S => (m r S).bind fun x S1 => lift0 (g x) S1
theorem me_tupOf {a : Expr} {p : Pos} {m : EM} (hg : Gl X "tuple") (hm : X.mg "tuple" = none) (ha : ME X ct a m) (na : starEach [a] X.env = (false, eval a X.env) :: starEach [] X.env := by rfl) : ME X ct (.Call (.Name "tuple" p) [a] [] pos) (eG1 gTupOf m) :=
  ⟨fun G W tk => (pe_tupleOf hg hm (ha.run G W tk) na).imp fun s H Q ⟨r, S, io, k, h⟩ => ⟨r, S, io, k, Res.first h fun x S1 io1 H1 e1 t1 q1 h1 v o => by
    unfold lift0 at h1
    split at h1
    · rename_i res e
      refine ok_tupOf o.repF q1 e fun v H' t' o' => ?_
      exact h1.go t' o'.sto v (o'.back fun a z => t1.free z)
    · exact h1.elim⟩⟩
end
end Mv
namespace Mv
open PySem PySem.Spec PyProof.Rows L2
section
variable {X : Cx} {ct : CT} {pos : Pos}
/-- {} -/
def eDict0 : EM := fun _ S => .ok (.dic [] [], .n) S
theorem me_dict0 : ME X ct (.Dict [] [] pos) eDict0 :=
  ⟨fun G W tk => pe_dnewK.imp fun s H Q ⟨r, S, io, k, h⟩ p hp => by
    have np : ¬ Mall G r s p := fun z => by
      obtain ⟨o, e, _⟩ := k.mdom p z
      rw [hp] at e
      cases e
    exact h.go (Stp.upd hp) (k.sto.upd hp) _ ⟨p, rfl, hp, np, .inr ⟨[], [], [], rfl, upd_same, rfl, .nil⟩, (k.sto.off hp).upd hp⟩⟩
end
end Mv
namespace Mv
open PySem PySem.Spec PyProof.Rows
theorem ex_int {mg : Str → Option Value} {x : Str} {i : Int} {t : Tok} (h : mg x = some (.int i t)) : ∃ t, mg x = some (.int i t) := ⟨t, h⟩
theorem ex_str {mg : Str → Option Value} {x : Str} {i : Str} {t : Tok} (h : mg x = some (.str i t)) : ∃ t, mg x = some (.str i t) := ⟨t, h⟩
end Mv

set_option maxRecDepth 100000
set_option maxHeartbeats 2000000
namespace Mv
open PySem PySem.Spec PyProof.Rows L2
/-! ### more that a for walks -/
def gRng3 : List (Fl × D) → Option (List D) := fun as => match as with
  | [(_, .int i), (_, .int j), (_, .int c)] => if decide (c ≠ 0) && decide (c.natAbs < 1073741824) && Builtin.Range.small i j c && decide (Builtin.Range.rangeSize i j c = ((Builtin.Range.rangeSize i j c).toNat : Int)) then some (rangeD i c (Builtin.Range.rangeSize i j c).toNat) else none
  | _ => none
section
variable {X : Cx} {ct : CT} {tg : Expr} {pos : Pos}
theorem mi_range3 {a b c : Expr} {t : AM} {p : Pos} (hg : Gl X "range") (hm : X.mg "range" = none) (ha : MA X ct [a, b, c] t) (hs : starEach [a, b, c] X.env = (false, eval a X.env) :: starEach [b, c] X.env := by rfl) (hpl : (backTo pos (starEach [b, c] X.env)).any (·.1) = false := by rfl) :
    MI X ct tg (.Call (.Name "range" p) [a, b, c] [] pos) (iArgs gRng3 t) :=
  ⟨fun G W tk => (pi_range3 hg hm (ha.run G W tk) hs hpl).imp fun s H R h => iargs_go h fun M N io H1 as vs ds o e w => by
    unfold gRng3 at e
    split at e
    · rename_i f i f' j f2 c
      split at e
      · rename_i g
        simp only [Bool.and_eq_true, decide_eq_true_eq] at g
        obtain ⟨⟨⟨g1, g2⟩, g3⟩, g4⟩ := g
        cases e
        obtain ⟨v, u, z, rfl, r, r', r2⟩ := args3 o
        exact ⟨i, j, c, _, by rw [int_of r, int_of r', int_of r2], ⟨g1, g2, g3, g4⟩, w _ [] walk_rangeCD fun p hp => nomatch hp⟩
      · cases e
    · cases e⟩
/-- reversed(range(n)) -/
def iRevR (m : EM) : Env → Store → Rs (List D) := fun r S => (m r S).bind fun x S1 => match x.1 with
  | .int j => if inR j then .ok (rangeD ((j.toNat : Int) - 1) (-1) j.toNat) S1 else .no
  | _ => .no
theorem mi_revR {a : Expr} {m : EM} {p p2 pos2 : Pos} (hg : Gl X "reversed") (hm : X.mg "reversed" = none) (hg2 : Gl X "range") (hm2 : X.mg "range" = none) (ha : ME X ct a m) (na : starEach [a] X.env = (false, eval a X.env) :: starEach [] X.env := by rfl)
    (hs : starEach [.Call (.Name "range" p2) [a] [] pos2] X.env = (false, eval (.Call (.Name "range" p2) [a] [] pos2) X.env) :: starEach [] X.env := by rfl) :
    MI X ct tg (.Call (.Name "reversed" p) [.Call (.Name "range" p2) [a] [] pos2] [] pos) (iRevR m) :=
  ⟨fun G W tk => (pi_revR hg hm (prg_1 hg2 hm2 (ha.run G W tk) na) hs).imp fun s H R ⟨r, S, io, k, h⟩ => ⟨r, S, io, k, Res.first h fun x S1 io1 H1 e1 t1 q1 h1 v o => by
    split at h1
    · rename_i j e2
      split at h1
      · rename_i g
        have o2 := o.repF
        rw [e2] at o2
        refine ⟨j, int_of o2, by decide, by decide, (inR_of g).1, (inR_of g).2, ?_⟩
        rw [Int.sub_zero, Int.zero_add]
        exact h1.here q1 _ [] walk_rangeCD fun p hp => nomatch hp
      · exact h1.elim
    · exact h1.elim⟩⟩
end
end Mv

set_option maxRecDepth 100000
set_option maxHeartbeats 2000000
namespace L2
open PySem PySem.Spec PyProof.Rows LamX
section
variable {X : Cx} {pins : List (Addr × Obj)} {σ : L2.St} {H HZ : Hp} {s s1 : Shared}
/-- a lambda is made: what is tracked stays, but tables may grow; nothing is tracked no more -/
theorem lam_make3 {T : List (Addr × Str)} {c P : Addr} {params : Arguments} {body : Expr} {scope : Scope} {pos : Pos} {E : Value → Shared → Prop} {Q : Value → Shared → Prop}
    (I : Inv X pins σ H s) (TB : TabB X.base X.mg c P) (hcode : X.env.code = .ref c)
    (hm : (P, X.env.qual ++ "<lambda>") ∈ T) (hu : ∀ p ∈ T, p.1 = P → p.2 = X.env.qual ++ "<lambda>")
    (hT : Tabs T H) (hdef : defaultsOf params X.env = ([], [])) (hfree : ∀ y ∈ scope.names, y.2 = .free → ∃ c, X.env.cells.lookup y.1 = some c)
    (h : ∀ (f c' : Addr) (pm ctv : Value) (H1 : Hp) (s' : Shared), Inv X pins σ H1 s' → ExtN H H1 → (∀ b o, H b = some o → ∃ o', H1 b = some o') → Tabs T H1 →
      s'.heap.get? f = some (PySem.W.kla_obj "<lambda>" (X.env.qual ++ "<lambda>") params body scope (cloFrom X.env.cells scope.names []) pm c' ctv) → H1 f = none → f ∉ frs X.stack → H1 c' = some (CodeO c' (X.env.qual ++ "<lambda>")) → Q (.ref f) s') :
    wpAny (model X.prog X.w) X.A (eval (.Lambda params body scope pos) X.env) Q E s := by
  obtain ⟨ps, hP, ht, ha⟩ := hT _ hm
  have bP : s.heap.BuiltinsAt X.mg P := TB.bm.keeps I.bk
  have hP' : s.heap.get? P = some { cls := .none, data := .fields ps } := I.hok P _ hP
  have noF : ∀ f, s.heap.objs.size ≤ f → f ∉ frs X.stack := fun f hf z => by
    rcases List.mem_cons.mp (I.stkSub _ z) with e | e
    · have lt := I.lt
      rw [← e] at lt
      exact absurd hf (Nat.not_le_of_lt lt)
    · exact I.nofs hf e
  refine PySem.W.kla_eval hdef ?_
  cases hc : codeAmong pos ps.toList with
  | some cv =>
    obtain ⟨c', rfl, hco⟩ := ha pos cv hc
    refine PySem.W.kla_makeFunctionHit (mg := X.mg) (c := c) (P := P) (ps := ps) (closure_ok hfree) I.ok.glob (I.mod.glob.keeps I.bk) hcode
      (TB.code.keeps I.bk) hP' ht hc bP fun ctv h' tk hx hsz => ?_
    exact h h'.objs.size c' ((X.mg "__name__").getD .none) ctv H _
      (I.kept fun b o e => Heap.get?_push_of_some _ (hx b o e)) (ExtN.refl H) (fun _ o e => ⟨o, e⟩) hT (Heap.get?_push_size _ rfl) (I.hok.fresh hsz) (noF _ hsz) hco
  | none =>
    refine PySem.W.kla_makeFunction (mg := X.mg) (c := c) (P := P) (ps := ps) (closure_ok hfree) I.ok.glob (I.mod.glob.keeps I.bk) hcode
      (TB.code.keeps I.bk) hP' ht hc TB.gP bP fun c' ctv h' tk hx hge hlt hrec htb => ?_
    obtain ⟨c2, oc, vs, t, e2, hoc, hd, hv⟩ := hrec
    cases e2
    have nC : H c' = none := I.hok.fresh hge
    have hsz : s.heap.objs.size ≤ h'.objs.size := by omega
    have nPc : P ≠ c' := ne_of_none hP nC
    have I1 := inv_table (t' := tk) (more := #[rawInt pos.line, rawInt pos.col, .ref c'])
      (h' := h'.push (PySem.W.kla_obj "<lambda>" (X.env.qual ++ "<lambda>") params body scope (cloFrom X.env.cells scope.names []) ((X.mg "__name__").getD .none) c' ctv)) I hP
      (fun b o hb e => Heap.get?_push_of_some _ (hx b o hb e)) (Heap.get?_push_of_some _ htb) hge
      ⟨oc, vs, t, Heap.get?_push_of_some _ hoc, hd, hv⟩
    generalize hH1 : upd (upd H P (.tbl (ps ++ #[rawInt pos.line, rawInt pos.col, .ref c']))) c' (CodeO c' (X.env.qual ++ "<lambda>")) = H1 at I1
    have atP : H1 P = some (.tbl (ps ++ #[rawInt pos.line, rawInt pos.col, .ref c'])) := by rw [← hH1, upd_ne nPc, upd_same]
    have atC : H1 c' = some (CodeO c' (X.env.qual ++ "<lambda>")) := by rw [← hH1, upd_same]
    have oth : ∀ b, b ≠ P → b ≠ c' → H1 b = H b := fun b h1 h2 => by rw [← hH1, upd_ne h2, upd_ne h1]
    have hE : ExtN H H1 := fun b o e n => by
      rw [oth b (fun z => n ps (Option.some.inj (e.symm.trans (by rw [z]; exact hP)))) (ne_of_none e nC)]
      exact e
    have hD : ∀ b o, H b = some o → ∃ o', H1 b = some o' := fun b o e => by
      by_cases hb : b = P
      · exact ⟨_, by rw [hb]; exact atP⟩
      · exact ⟨o, by rw [oth b hb (ne_of_none e nC)]; exact e⟩
    have eL : (ps ++ #[rawInt pos.line, rawInt pos.col, .ref c']).toList = ps.toList ++ [rawInt pos.line, rawInt pos.col, .ref c'] := by simp
    have hT1 : Tabs T H1 := fun p hp => by
      by_cases hb : p.1 = P
      · rw [hu p hp hb, hb]
        refine ⟨_, atP, by rw [eL]; exact PySem.TriplesOk_snoc _ _ _ _ ht, fun p' cv hcv => ?_⟩
        rw [eL] at hcv
        rcases among_app _ ht hcv with z | z
        · obtain ⟨c0, e1, e2⟩ := ha p' cv z
          exact ⟨c0, e1, hE _ _ e2 codeO_ne⟩
        · exact ⟨c', z, atC⟩
      · obtain ⟨ps', a1, a2, a3⟩ := hT p hp
        refine ⟨ps', by rw [oth _ hb (ne_of_none a1 nC)]; exact a1, a2, fun p' cv hcv => ?_⟩
        obtain ⟨c0, e1, e2⟩ := a3 p' cv hcv
        exact ⟨c0, e1, hE _ _ e2 codeO_ne⟩
    refine h h'.objs.size c' ((X.mg "__name__").getD .none) ctv H1 _ I1 hE hD hT1 (Heap.get?_push_size _ rfl) ?_ (noF _ hsz) atC
    rw [oth _ (Nat.ne_of_gt (Nat.lt_of_lt_of_le (Heap.lt_size hP') hsz)) (Nat.ne_of_gt hlt)]
    exact I.hok.fresh hsz
/-- the context of the def that got the lambda -/
abbrev gotCx (X : Cx) (Ng : List Str) (x : Str) (sg : Scope) (g : Addr) (cdg : Value) (s : Shared) (H : Hp) : Cx :=
  cxOf (L2.CX X.prog X.w) X.prog X.w X.K X.mg X.base Ng x sg g cdg X.A X.stack s H fun _ _ _ => False
/-- x(), the lambda's body read at the maker's slots -/
theorem pe_got {Ng : List Str} {x : Str} {sg : Scope} {g f c' : Addr} {cdg pm ctv : Value} {params : Arguments} {body : Expr} {scope : Scope} {k i : Nat} {a : Str}
    {pn : List (Addr × Obj)} {xe : Value → Shared → Prop} {W : WX} {tb : XK → TE} {p1 p2 : Pos} (I : Inv X pins σ H s) (L : LamS X.env.scope scope)
    (hf : s.heap.get? f = some (PySem.W.kla_obj "<lambda>" (X.env.qual ++ "<lambda>") params body scope (cloFrom X.env.cells scope.names []) pm c' ctv))
    (hfn : H f = none) (hfr : f ∉ frs X.stack)
    (hbind : bindArgs (PySem.W.kla_fn "<lambda>" (X.env.qual ++ "<lambda>") params body scope (cloFrom X.env.cells scope.names []) pm (.ref c') ctv) ⟨[], []⟩ = pure [])
    (tk : Takes ((gotCx X Ng x sg g cdg s H).tr pn xe) W) (hr : Room (k + 1) (X.A.deeper (envOfC x sg s.heap.objs.size g cdg)))
    (hbody : ∀ (A : Around) (outer : List Env) (s : Shared) (H : Hp) (E : XK), Room k (A.deeper (lamEnv X scope s.heap.objs.size f c')) → PE (lamCx X A outer s H E scope f c') body (tb E))
    (hN : Ng[i]? = some a) (hv : Vis sg a) (hd : (a == ("__debug__" : Str)) = false) (hcd : (a == ("__classdict__" : Str)) = false) :
    PE ((gotCx X Ng x sg g cdg s H).tr pn xe) (.Call (.Name a p1) [] [] p2)
      (fun σZ HZ Q => σZ[i]? = some (some (.ref f)) ∧ HZ c' = some (CodeO c' (X.env.qual ++ "<lambda>")) ∧ tb (WE W σZ) σ HZ Q) := by
  refine ⟨fun pinsZ sZ σZ HZ Q IZ ⟨hs, hc, ht⟩ => ?_⟩
  refine wpAny_Call_Name_kw (thn ((pe_var (pos := p1) (i := i) hN hv hd hcd).run pinsZ sZ σZ HZ (fun v H1 => v = .ref f ∧ H1 = HZ) IZ
    ⟨.ref f, hs, rfl, rfl⟩) fun u s1 ⟨v, H1, I1, r1, ev, eH⟩ => ?_)
  subst ev eH
  obtain rfl : u = Value.ref f := r1
  have of1 : s1.heap.get? f = some (PySem.W.kla_obj "<lambda>" (X.env.qual ++ "<lambda>") params body scope (cloFrom X.env.cells scope.names []) pm c' ctv) :=
    I1.base.keep f _ hf hfn hfr (fun z => nomatch (show f ∈ ([] : List Addr) from z))
  refine PySem.W.callWith_F0 ⟨_, _, _, _, of1⟩ (wpAny_call (codeAny_mono
    (show codeAny (model X.prog X.w) (X.A.deeper (envOfC x sg s.heap.objs.size g cdg)) (.call (.ref f) ⟨[], []⟩)
      (CR (L2.CX X.prog X.w) (envOfC x sg s.heap.objs.size g cdg :: X.stack) X.prog X.w H1 s1 Q (WE W σZ)) s1 from ?_) fun r s' hq => ?_))
  · obtain ⟨⟨oc, vs, t, hoc, hdc, hvc⟩, _, _⟩ := I1.hok c' _ hc
    refine PySem.W.kla_callFunE hr.depth of1 rfl L.co L.gen rfl ⟨c', oc, vs, t, rfl, hoc, hdc, hvc⟩ ?_
    rw [hbind]
    refine wpAny_pure (wpAny_newFunctionEnv (fun y hy => (L.own y hy).2) (fun y hy => absurd hy (by simp)) (fun h₁ hns hsb => ⟨I1.nolimit.fresh _ hsb, ?_⟩) L.kind)
    have un : Un (frs X.stack) [] H H1 s.heap s1.heap := I1.base
    have kp : ∀ b o, s1.heap.get? b = some o → h₁.get? b = some o := fun b o e => hsb.extBut b o (Nat.ne_of_lt (Heap.lt_size e)) (Heap.get?_push_of_some _ e)
    refine PySem.W.kla_codeExpr (wpAny_mono ((hbody (X.A.deeper (envOfC x sg s.heap.objs.size g cdg)) (envOfC x sg s.heap.objs.size g cdg :: X.stack) s1 H1 (WE W σZ)
      (hr.deeper _)).run [] _ _ H1 Q (lam_start2 I L I1.env0 hr.hd un hns kp) ht) (fun v s' ⟨w', H', J', rv, q⟩ => ?_) fun e s' hq => hq)
    exact ⟨w', H', J'.os, J'.bare, J'.base, J'.hok, rv, q⟩
  · cases r with
    | error e => exact passAt tk σZ pinsZ H1 s1 e s' I1 hq
    | ok fl =>
      cases fl with
      | ret u => exact I1.after hq
      | next => exact hq.elim
      | brk => exact hq.elim
      | cont => exact hq.elim
end
end L2

set_option maxRecDepth 100000
set_option maxHeartbeats 2000000
namespace Mv
open PySem PySem.Spec PyProof.Rows L2 LamX
/-! ### statements, the frame's ghost told -/
structure MSG (X : Cx) (ct : CT) (G : Gx) (st : Stmt) (m : SM) : Prop where
  run : ∀ (W : WX), Takes X W → PassesOwn (model X.prog X.w) X.A X.env X.xe → PS X st (tS X.K ct G W m)
structure MSGs (X : Cx) (ct : CT) (G : Gx) (st : List Stmt) (m : SM) : Prop where
  run : ∀ (W : WX), Takes X W → PassesOwn (model X.prog X.w) X.A X.env X.xe → PSs X st (tS X.K ct G W m)
section
variable {X : Cx} {ct : CT} {G : Gx} {pos : Pos}
theorem MS.gh {st : Stmt} {m : SM} (h : MS X ct st m) : MSG X ct G st m := ⟨h.run G⟩
theorem MSs.gh {st : List Stmt} {m : SM} (h : MSs X ct st m) : MSGs X ct G st m := ⟨h.run G⟩
theorem msg_one {st : Stmt} {m : SM} (h : MSG X ct G st m) : MSGs X ct G [st] m := ⟨fun W tk po => pss_one (h.run W tk po)⟩
theorem msg_cons {st : Stmt} {rest : List Stmt} {m t : SM} (ha : MSG X ct G st m) (hb : MSGs X ct G rest t) : MSGs X ct G (st :: rest) (sSeq m t) :=
  ⟨fun W tk po => (pss_cons (ha.run W tk po) (hb.run W tk po)).imp fun D s H ⟨r, S, io, k, h⟩ => by
    refine ⟨r, S, io, k, ?_⟩
    unfold sSeq at h
    cases e : m r S with
    | nx r' S' =>
      rw [e] at h
      exact fun s' io' H' k' => ⟨r', S', io', k', h⟩
    | rt d f S' => rw [e] at h; exact h
    | bk r' S' => rw [e] at h; exact h
    | ct r' S' => rw [e] at h; exact h
    | er c p r' S' => rw [e] at h; exact h
    | no => rw [e] at h; exact h⟩
theorem msg_try {x n y : Str} {c : Value} {i j : Nat} {body : List Stmt} {np pos' p1 p2 p3 : Pos} {l : List (Nat × Bool)} {b : SM} (hs : X.stack = X.env :: X.outer) (hf : X.env.frame = some X.env.locals) (hxx : X.ex = []) (hN : X.N.Nodup) (hi : X.N[i]? = some n) (hj : X.N[j]? = some y)
    (hln : X.env.kindOf n = some .local) (hly : X.env.kindOf y = some .local) (hij : i ≠ j) (hc : Names X x c) (T : TabX X.K ct c l) (hv : ∀ (a : Addr) (pn : List (Addr × Obj)), PE (X.suite a pn) (.Name n p2) (tVar i))
    (hy : ∀ (a : Addr) (pn : List (Addr × Obj)) (t : TE), PE (X.suite a pn) (.Name n p2) t → PS (X.suite a pn) (.Assign [.Name y p1] (.Name n p2) p3) (tAsg t (gName j)))
    (hb : ∀ (pn : List (Addr × Obj)) (xe : Value → Shared → Prop), MSGs (X.tr pn xe) ct G body b) : MSG X ct G (.Try body [.ExceptHandler (some (.Name x np)) (some n) [.Assign [.Name y p1] (.Name n p2) p3] pos'] [] [] pos) (sTry l i j b) :=
  ⟨fun W tk po => (ps_try_keep (tb := fun W => tS X.K ct G W b) hs hf hxx hN hi hj hln hly hc tk hv hy fun W pn xe tk' po' => (hb pn xe).run W tk' po').imp fun D s H h => try_go hij T h⟩
end
/-- the first slot is known no more -/
def sFg0 (m : SM) : SM := fun r S => m (r.set 0 .no) S
def sFgt (m : SM) : SM := fun r S => match r[0]? with
  | some (Slot.ar _ _) => sFg0 m r S
  | _ => .no
theorem Ok.forget {K : PySem.W.Frag} {ct : CT} {G : Gx} {r : Env} {S : Store} {io : List Addr} {s : St} {H : Hp} {i : Nat} {f : Fl} {d : D} (k : Ok K ct G r S io s H) (e : r[i]? = some (.ar f d)) : Ok K ct G (r.set i .no) S io s H := by
  have em : Mown G (r.set i .no) s = Mown G r s := by
    funext a
    refine propext ⟨fun z => ?_, fun z => ?_⟩
    · rcases z with z | ⟨j, d', h1, h2⟩
      · exact .inl z
      · rcases get_set h1 with ⟨rfl, q, _⟩ | ⟨hj, q⟩
        · cases q
        · exact .inr ⟨j, d', q, h2⟩
    · rcases z with z | ⟨j, d', h1, h2⟩
      · exact .inl z
      · refine .inr ⟨j, d', ?_, h2⟩
        rw [List.getElem?_set_ne]
        · exact h1
        · rintro rfl
          rw [e] at h1
          cases h1
  have eM : Mall G (r.set i .no) s = Mall G r s := by unfold Mall; rw [em]
  refine ⟨by simp [k.len], fun j f d q => ?_, fun j d q => ?_, fun j j' d d' a q q' z z' => ?_, by rw [eM]; exact k.sto, k.stp, k.m0, k.n0, by rw [eM, em]; exact k.held, k.dp.env rfl (fun _ z => z) (dp_set0 fun _ _ z => by cases z)⟩
  · rcases get_set q with ⟨rfl, q, _⟩ | ⟨hj, q⟩
    · cases q
    · rw [eM, em]
      exact k.arg j f d q
  · rcases get_set q with ⟨rfl, q, _⟩ | ⟨hj, q⟩
    · cases q
    · rw [eM]
      exact k.own j d q
  · rcases get_set q with ⟨rfl, q, _⟩ | ⟨hj, q⟩
    · cases q
    · rcases get_set q' with ⟨rfl, q', _⟩ | ⟨hj', q'⟩
      · cases q'
      · exact k.inj j j' d d' a q q' z z'
section
variable {X : Cx} {ct : CT} {G : Gx} {pos : Pos}
theorem mss_for0 {st : List Stmt} {m : SM} (h : MSs X ct st m) : MSs X ct st (sFgt m) :=
  ⟨fun G W tk po => (h.run G W tk po).imp fun D s H ⟨r, S, io, k, h⟩ => by
    unfold sFgt at h
    split at h
    · rename_i e
      exact ⟨_, S, io, k.forget e, h⟩
    · exact h.elim⟩
end
/-! ### a def that calls what it gets -/
def noOwnB : Env → Bool := fun r => r.all fun x => match x with
  | .own _ => false
  | _ => true
def sGot (x : Store → Rs (D × Fl)) (f : Addr) : SM := fun rZ S => match rZ with
  | .ar .c (.cst (.ref g)) :: rest => if g = f ∧ noOwnB (.ar .c (.cst (.ref g)) :: rest) = true then (x S).sb rZ fun _ S1 => .nx rZ S1 else .no
  | _ => .no
def gvB (i j : Nat) (l : List (Nat × Bool)) (mr : SM) (act : SM) : SM := sSeq (sSet j (eC .non)) (sSeq (sTry l i j act) (sFgt mr))
def refEnd : SR → Rs (D × Fl)
  | .rt d f S => .ok (d, outf f) S
  | _ => .no
/-- x(lambda: e): n more slots, the exception's place j -/
def eRef (n j : Nat) (l : List (Nat × Bool)) (mr : SM) (m : EM) : EM := fun r S => match m r S with
  | .ok _ S1 => refEnd (mr (.no :: (List.replicate n Slot.no).set j (.ar .c .non)) S1)
  | .er c p S1 => match l.lookup c with
    | some true => refEnd (mr (.no :: (List.replicate n Slot.no).set j (.ar .c (.ins S1.length))) (S1 ++ [(c, p)]))
    | _ => .no
  | .no => .no
def gvRun (n j : Nat) (l : List (Nat × Bool)) (mr : SM) (x : Rs (D × Fl)) (r0 : Env) : SR := match x with
  | .ok _ S1 => mr (.no :: (List.replicate n Slot.no).set j (.ar .c .non)) S1
  | .er c p S1 => match l.lookup c with
    | some true => mr (.no :: (List.replicate n Slot.no).set j (.ar .c (.ins S1.length))) (S1 ++ [(c, p)])
    | some false => .er c p r0 S1
    | none => .no
  | .no => .no
theorem gv_run {n i j : Nat} {l : List (Nat × Bool)} {mr : SM} {x : Store → Rs (D × Fl)} {f : Addr} {S : Store} (h1 : noOwnB ((List.replicate n Slot.no).set j (.ar .c .non)) = true) (h2 : ((List.replicate n Slot.no).set j (.ar .c .non))[i]? = some .no) :
    ∃ r0, gvB (i + 1) (j + 1) l mr (sGot x f) (startE [(.c, .cst (.ref f))] (n + 1)) S = gvRun n j l mr (x S) r0 := by
  refine ⟨.ar .c (.cst (.ref f)) :: (List.replicate n Slot.no).set j (.ar .c .non), ?_⟩
  have e0 : startE [(.c, .cst (.ref f))] (n + 1) = .ar .c (.cst (.ref f)) :: List.replicate n Slot.no := rfl
  have h3 : noOwnB (.ar .c (.cst (.ref f)) :: (List.replicate n Slot.no).set j (.ar .c .non)) = true := h1
  rw [e0]
  show SR.bind (sTry l (i + 1) (j + 1) (sGot x f) (.ar .c (.cst (.ref f)) :: (List.replicate n Slot.no).set j (.ar .c .non)) S) (sFgt mr) = _
  have eg : sGot x f (.ar .c (.cst (.ref f)) :: (List.replicate n Slot.no).set j (.ar .c .non)) S = (x S).sb (.ar .c (.cst (.ref f)) :: (List.replicate n Slot.no).set j (.ar .c .non)) fun _ S1 => .nx (.ar .c (.cst (.ref f)) :: (List.replicate n Slot.no).set j (.ar .c .non)) S1 := by
    unfold sGot
    exact if_pos ⟨rfl, h3⟩
  unfold sTry
  rw [eg]
  cases x S with
  | ok y S1 => rfl
  | no => rfl
  | er c p S1 =>
    show SR.bind (match l.lookup c with
      | some true => match ((List.replicate n Slot.no).set j (.ar .c .non))[i]? with
        | some .no => .nx (.ar .c (.cst (.ref f)) :: ((List.replicate n Slot.no).set j (.ar .c .non)).set j (.ar .c (.ins S1.length))) (S1 ++ [(c, p)])
        | _ => .no
      | some false => .er c p (.ar .c (.cst (.ref f)) :: (List.replicate n Slot.no).set j (.ar .c .non)) S1
      | none => .no) (sFgt mr) = gvRun n j l mr (.er c p S1) _
    unfold gvRun
    rw [h2]
    dsimp only
    cases l.lookup c with
    | none => rfl
    | some b =>
      cases b with
      | false => rfl
      | true =>
        dsimp only
        rw [List.set_set]
        rfl
structure GvG (P : Program) (w : World) (K : PySem.W.Frag) (mg : Str → Option Value) (base : Heap) (ct : CT) (k : Nat) (x : Str) (n i j : Nat) (l : List (Nat × Bool)) (mr : SM) : Prop where
  ex : ∃ (g : Addr) (fd : FuncData) (N : List Str) (a : Str) (st : Stmt), Fun K x x st g fd ∧ mg x = some (.ref g) ∧ Binds K fd [a] [] ∧ FnScope N [a] (defScope st) ∧ N.length = n + 1 ∧ N[0]? = some a ∧ Vis (defScope st) a ∧ (a == ("__debug__" : Str)) = false ∧ (a == ("__classdict__" : Str)) = false ∧
    ∀ (cdv : Value) (A : Around) (outer : List PySem.Env) (s : Shared) (H : Hp) (E : XK) (G : Gx) (act : SM), Room k (A.deeper (envOfC x (defScope st) s.heap.objs.size g cdv)) →
      (∀ (pn : List (Addr × Obj)) (xe : Value → Shared → Prop) (p1 p2 p3 : Pos), MSG ((cxOf (L2.CX P w) P w K mg base N x (defScope st) g cdv A outer s H E).tr pn xe) ct G (.Expr (.Call (.Name a p1) [] [] p2) p3) act) →
      MSGs (cxOf (L2.CX P w) P w K mg base N x (defScope st) g cdv A outer s H E) ct G (defBody st) (gvB (i + 1) (j + 1) l mr act)
  h1 : noOwnB ((List.replicate n Slot.no).set j (.ar .c .non)) = true
  h2 : ((List.replicate n Slot.no).set j (.ar .c .non))[i]? = some .no
theorem no_own {r : Env} {i : Nat} {d : D} (h : noOwnB r = true) (e : r[i]? = some (.own d)) : False := by
  have h := List.all_eq_true.mp h _ (List.mem_of_getElem? e)
  cases h
section
variable {X : Cx} {ct : CT} {pos : Pos}
theorem me_lam {x : Str} {c P : Addr} {k n i j : Nat} {l : List (Nat × Bool)} {mr : SM} {m : EM} {params : Arguments} {body : Expr} {scope : Scope} {p lpos : Pos} (F : GvG X.prog X.w X.K X.mg X.base ct (k + 1) x n i j l mr) (TB : TabB X.base X.mg c P) (hcode : X.env.code = .ref c)
    (hmT : (P, X.env.qual ++ "<lambda>") ∈ ct.tb) (hu : ∀ p ∈ ct.tb, p.1 = P → p.2 = X.env.qual ++ "<lambda>") (hr : Room (k + 2) X.A) (hg : Gl X x) (L : LamS X.env.scope scope) (hdef : defaultsOf params X.env = ([], []))
    (hbind : ∀ (q : Str) (cl : List (Str × Addr)) (pm cv ctv : Value), bindArgs (PySem.W.kla_fn "<lambda>" q params body scope cl pm cv ctv) ⟨[], []⟩ = pure [])
    (hbody : ∀ (A : Around) (outer : List PySem.Env) (s : Shared) (H : Hp) (E : XK) (f c' : Addr), Room k (A.deeper (lamEnv X scope s.heap.objs.size f c')) → ME (lamCx X A outer s H E scope f c') ct body m)
    (hpu : ct.pu = false := by rfl)
    (hdb : (x == ("__debug__" : Str)) = false := by decide) : ME X ct (.Call (.Name x p) [.Lambda params body scope lpos] [] pos) (eRef n j l mr m) := by
  obtain ⟨g, fd, N, a, st, FF, hm, hb, Sc, hNl, hN0, hva, hd1, hd2, hG⟩ := F.ex
  obtain ⟨oc, od, kV, doc, pm, an, cdv, ctv, osl, efd, lk, hcd⟩ := FF.ex
  refine ⟨fun G W tk => ⟨fun pins s σ H Q I ⟨r, S, io, k0, h⟩ => ?_⟩⟩
  refine wpAny_Call_Name_kw (ld_glob I hg hm ?_ hdb)
  refine PySem.W.callWith_K (h₀ := X.base) I.ok.mod.kin FF.kp ?_ (by rfl) (by rfl)
  show wpAny _ _ (spliced ((false, eval (.Lambda params body scope lpos) X.env) :: backTo pos (starEach [] X.env))) _ _ s
  refine Calls.spliced_cons (lam_make3 I TB hcode hmT hu k0.sto.tb hdef (L.has I.ok) fun f c' pm' ctv' H1 s' I1 eN dm T1 hf hfn hfr hco => ?_)
  refine Calls.spliced_nil ⟨I1.kIn, ?_⟩
  have st1 : Stp ct io H io H1 := ⟨fun a o e n => eN a o e n.2, fun a o e _ n => eN a o e n, io_refl, fun a z n => absurd z n, dm, fun z => by rw [hpu] at z; cases z⟩
  have q1 : StoOk X.K ct (Mall G r σ) io S H1 := ⟨k0.sto.len, fun n C fs e x => by
    obtain ⟨a, dx, gs, y1, y2, y3, y4⟩ := k0.sto.at_ n C fs e x
    exact ⟨a, dx, gs, y1, eN _ _ y2 (fun _ z => by cases z), y3, y4.stp st1⟩, fun n C fs e x => by
    obtain ⟨a, d, y1, y2, y3⟩ := k0.sto.ax n C fs e x
    exact ⟨a, d, y1, st1.k1 _ _ y2 NI.ext, y3.mono (M := fun _ => False) st1.kp io_refl⟩, k0.sto.nd, T1⟩
  have k1 : Ok X.K ct G r S io σ H1 := k0.step st1 q1
  have rc : codeAny (model X.prog X.w) X.A (.call (.ref g) ⟨[.ref f], []⟩) (CR (L2.CX X.prog X.w) X.stack X.prog X.w H1 s' Q (fun _ _ _ => False)) s' := by
    subst efd
    refine run_ofS (N := N) (ps := [a]) (us := [.ref f]) (vs := [.ref f]) lk hcd Sc hr I1.env0 (hb s' [.ref f] I1.kIn rfl) (.cons rfl .nil) rfl fun hr' => ?_
    have hact : ∀ (pn : List (Addr × Obj)) (xe : Value → Shared → Prop) (p1 p2 p3 : Pos), MSG ((gotCx X N x (defScope st) g cdv s' H1).tr pn xe) ct ⟨Mall G r σ, H1, io, [], fun _ => False, fun _ _ => False⟩ (.Expr (.Call (.Name a p1) [] [] p2) p3) (sGot (m r) f) := fun pn xe p1 p2 p3 => ⟨fun WZ tkZ _ => by
      refine (ps_expr (pe_got (tb := fun E => tE X.K ct G (fun cls d _ H => E cls d H) m) I1 L hf hfn hfr (hbind _ _ _ _ _) tkZ hr' (fun A outer s H E hr2 => (hbody A outer s H E f c' hr2).run G _ ?_) hN0 hva hd1 hd2) (by rfl)).imp fun D σZ HZ hZ => ?_
      · exact takes_of rfl rfl rfl rfl
      · obtain ⟨rZ, SZ, ioZ, kZ, hZ⟩ := hZ
        unfold sGot at hZ
        split at hZ
        · rename_i gg rest
          split at hZ
          · rename_i hc
            obtain ⟨rfl, no⟩ := hc
            obtain ⟨v, y1, y2⟩ := kZ.arg 0 .c (.cst (.ref gg)) rfl
            cases y2
            have noM : ∀ a, Mall ⟨Mall G r σ, H1, io, [], fun _ => False, fun _ _ => False⟩ (.ar .c (.cst (.ref gg)) :: rest) σZ a → Mall G r σ a := fun a z => by
              rcases z with z | z | ⟨i, d, z, _⟩
              · exact z
              · exact z.elim
              · exact (no_own no z).elim
            refine ⟨y1, kZ.stp.k1 c' _ hco NI.ext, r, SZ, ioZ, k1.step kZ.stp (kZ.sto.anti fun a z => .inl z), ?_⟩
            cases e : m r SZ with
            | ok y S' =>
              rw [e] at hZ
              exact fun io' H' t q v _ => hZ σZ io' H' (kZ.step t (q.anti noM))
            | er c p S' =>
              rw [e] at hZ
              exact fun dx io' H' t q eo => hZ dx σZ io' H' (kZ.step t (q.anti noM)) eo
            | no =>
              rw [e] at hZ
              exact hZ
          · exact hZ.elim
        · exact hZ.elim⟩
    refine ⟨_, (hG cdv X.A X.stack s' H1 (fun _ _ _ => False) ⟨Mall G r σ, H1, io, [], fun _ => False, fun _ _ => False⟩ (sGot (m r) f) hr' hact).run (fun cls d _ H => False) (takes_of rfl rfl rfl rfl) (passes_of rfl),
      startE [(.c, .cst (.ref f))] N.length, S, io, ok_start rfl (by rw [hNl]; exact Nat.succ_le_succ (Nat.zero_le _)) (.cons Rep.cst .nil) q1 k1.mdom, ?_⟩
    obtain ⟨r0, er⟩ := gv_run (n := n) (i := i) (j := j) (l := l) (mr := mr) (x := m r) (f := f) (S := S) F.h1 F.h2
    rw [hNl, er]
    have fin : ∀ (rr : Env) (S1 : Store) (io1 : List Addr), Res X.K ct W (Mall G r σ) σ io H (refEnd (mr rr S1)) (fun x S' io' H' => ∀ v, ResOk X.K ct (Mall G r σ) (Mown G r σ) H io' S' H' x.2 x.1 v → Q v H') →
        SRes X.K ct ⟨Mall G r σ, H1, io, [], fun _ => False, fun _ _ => False⟩ (fun cls d _ H => False) { nx := fun _ H' => Q .non H', rt := Q } (mr rr S1) := fun rr S1 io1 hh => by
      cases e : mr rr S1 with
      | rt d fl S' =>
        rw [e] at hh
        exact fun v io' H' t z => hh io' H' (st1.trans t) z.sto v (z.outf.back fun a y => st1.free y)
      | nx r' S' => rw [e] at hh; exact hh.elim
      | bk r' S' => rw [e] at hh; exact hh.elim
      | ct r' S' => rw [e] at hh; exact hh.elim
      | er c p r' S' => rw [e] at hh; exact hh.elim
      | no => rw [e] at hh; exact hh.elim
    unfold eRef at h
    cases e : m r S with
    | ok y S1 =>
      rw [e] at h
      exact fin _ S1 io h
    | er c p S1 =>
      rw [e] at h
      unfold gvRun
      dsimp only at h ⊢
      cases e2 : l.lookup c with
      | none =>
        rw [e2] at h
        exact h.elim
      | some b =>
        rw [e2] at h
        cases b with
        | true => exact fin _ _ io h
        | false => exact h.elim
    | no =>
      rw [e] at h
      exact h.elim
  refine wpAny_call (codeAny_mono rc fun z s2 hq => ?_)
  cases z with
  | ok fl =>
    cases fl with
    | ret u => exact I1.after hq
    | next => exact hq.elim
    | brk => exact hq.elim
    | cont => exact hq.elim
  | error e =>
    obtain ⟨_, _, _, _, _, _, _, _, _, _, _, _, z⟩ := hq
    exact z.elim
end
end Mv

set_option maxRecDepth 100000
set_option maxHeartbeats 2000000
namespace Mv
open PySem PySem.Spec PyProof.Rows L2 LamX
/-! ### defs that make lambdas: the code object's address is told -/
section
variable {P : Program} {w : World} {K : PySem.W.Frag} {mg : Str → Option Value} {base : Heap} {ct : CT}
def FunOC (K : PySem.W.Frag) (mg : Str → Option Value) (x : Str) (st : Stmt) (ps : List Str) (c : Addr) : Prop :=
  ∃ (f : Addr) (oc : Value) (od an : Option Addr) (osl : Array (Option Value)) (kV doc pm ctv : Value),
    K.lookup f = some ⟨oc, od, .func (PySem.W.fnOf x x (defArgs st) (defBody st) (defScope st) .none kV doc pm an (.ref c) ctv), osl⟩ ∧ PySem.W.codeIn K (.ref c) x = true ∧ PySem.W.keepIn K (.ref f) = true ∧ mg x = some (.ref f) ∧
      ∀ us : List Value, us.length = ps.length → bindArgs (PySem.W.fnOf x x (defArgs st) (defBody st) (defScope st) .none kV doc pm an (.ref c) ctv) ⟨us, []⟩ = pure (ps.zip us)
theorem FunOC.mk' {x : Str} {st : Stmt} {ps : List Str} {f c : Addr} {oc : Value} {od an : Option Addr} {osl : Array (Option Value)} {kV doc pm ctv : Value} {h : Heap} (X : K.In h) (G : h.Ns mainGlobals mg) (a : PySem.W.nsIn K mainGlobals x = some (some (.ref f)))
    (l : K.lookup f = some ⟨oc, od, .func (PySem.W.fnOf x x (defArgs st) (defBody st) (defScope st) .none kV doc pm an (.ref c) ctv), osl⟩) (cc : PySem.W.codeIn K (.ref c) x = true) (k : PySem.W.keepIn K (.ref f) = true)
    (hb : ∀ (kV doc pm : Value) (an : Option Addr) (cdv ct : Value) (us : List Value), us.length = ps.length → bindArgs (PySem.W.fnOf x x (defArgs st) (defBody st) (defScope st) .none kV doc pm an cdv ct) ⟨us, []⟩ = pure (ps.zip us)) : FunOC K mg x st ps c :=
  ⟨f, oc, od, an, osl, kV, doc, pm, ctv, l, cc, k, PySem.W.mg_of X G a, hb kV doc pm an (.ref c) ctv⟩
theorem fn_okC {x qual : Str} {st : Stmt} {f c : Addr} {oc : Value} {od an : Option Addr} {osl : Array (Option Value)} {kV doc pm ctv : Value} {N ps : List Str} {k : Nat} {b : SM}
    (lk : K.lookup f = some ⟨oc, od, .func (PySem.W.fnOf x qual (defArgs st) (defBody st) (defScope st) .none kV doc pm an (.ref c) ctv), osl⟩) (hcd : PySem.W.codeIn K (.ref c) qual = true) (Sc : FnScope N ps (defScope st))
    (hbody : ∀ (A : Around) (outer : List PySem.Env) (s : Shared) (H : Hp) (E : XK), Room k (A.deeper (envOfC qual (defScope st) s.heap.objs.size f (.ref c))) →
      MSs (cxOf (L2.CX P w) P w K mg base N qual (defScope st) f (.ref c) A outer s H E) ct (defBody st) b) :
    FnOk P w K mg base (L2.CX P w) (k + 1) f (PySem.W.fnOf x qual (defArgs st) (defBody st) (defScope st) .none kV doc pm an (.ref c) ctv) ps (spM K ct ps.length (fnM N.length b)) := by
  refine fn_of lk hcd Sc (fun vs H Q E h => h.1) fun A outer s H vs Q E hr h => ?_
  obtain ⟨hl, as, S, io, M0, o, q, m, h⟩ := h
  have hpl : ps.length ≤ N.length := by
    have z := congrArg List.length Sc.pre
    rw [List.length_take] at z
    omega
  refine ⟨_, (hbody A outer s H E hr).run ⟨M0, H, io, [], fun _ => False, fun _ _ => False⟩ (fun cls d _ H => E cls d H) (takes_of rfl rfl rfl rfl) (passes_of rfl), startE as N.length, S, io, ok_start rfl (by omega) o q m, ?_⟩
  unfold fnM at h
  cases e : b (startE as N.length) S with
  | rt d f S' => rw [e] at h; exact h
  | nx r' S' =>
    rw [e] at h
    exact fun s' io' H' k' => h .non io' H' k'.stp (ResOk.sc (f := .c) (by simp) .non (k'.sto.anti fun a z => .inl z))
  | er c p r' S' =>
    rw [e] at h
    exact fun dx s' io' H' k' eo => h dx io' H' k'.stp (k'.sto.anti fun a z => .inl z) eo
  | bk r' S' => rw [e] at h; exact h.elim
  | ct r' S' => rw [e] at h; exact h.elim
  | no => rw [e] at h; exact h.elim
theorem fn_gC {x : Str} {st : Stmt} {N ps : List Str} {c : Addr} {k n np : Nat} {b : SM} (F : FunOC K mg x st ps c) (Sc : FnScope N ps (defScope st))
    (hN : N.length = n) (hp : ps.length = np) (hbody : ∀ (f : Addr) (A : Around) (outer : List PySem.Env) (s : Shared) (H : Hp) (E : XK), Room k (A.deeper (envOfC x (defScope st) s.heap.objs.size f (.ref c))) →
      MSs (cxOf (L2.CX P w) P w K mg base N x (defScope st) f (.ref c) A outer s H E) ct (defBody st) b) : FnG P w K mg base ct (k + 1) x np (fnM n b) := by
  subst hN hp
  obtain ⟨f, oc, od, an, osl, kV, doc, pm, ctv, lk, cc, kp, hm, hb⟩ := F
  exact ⟨f, _, ps, fn_okC lk cc Sc (hbody f), hm, kp, .all hb⟩
/-- a def that calls what it gets, by its walk -/
theorem gv_g {x : Str} {st : Stmt} {N : List Str} {a : Str} {k n i j : Nat} {l : List (Nat × Bool)} {mr : SM} (F : FunO K mg x st [a]) (Sc : FnScope N [a] (defScope st)) (hN : N.length = n + 1) (h0 : N[0]? = some a) (hv : Vis (defScope st) a)
    (h1 : noOwnB ((List.replicate n Slot.no).set j (.ar .c .non)) = true) (h2 : ((List.replicate n Slot.no).set j (.ar .c .non))[i]? = some .no)
    (hbody : ∀ (g : Addr) (cdv : Value) (A : Around) (outer : List PySem.Env) (s : Shared) (H : Hp) (E : XK) (G : Gx) (act : SM), Room k (A.deeper (envOfC x (defScope st) s.heap.objs.size g cdv)) →
      (∀ (pn : List (Addr × Obj)) (xe : Value → Shared → Prop) (p1 p2 p3 : Pos), MSG ((cxOf (L2.CX P w) P w K mg base N x (defScope st) g cdv A outer s H E).tr pn xe) ct G (.Expr (.Call (.Name a p1) [] [] p2) p3) act) →
      MSGs (cxOf (L2.CX P w) P w K mg base N x (defScope st) g cdv A outer s H E) ct G (defBody st) (gvB (i + 1) (j + 1) l mr act))
    (hd1 : (a == ("__debug__" : Str)) = false := by decide) (hd2 : (a == ("__classdict__" : Str)) = false := by decide) : GvG P w K mg base ct k x n i j l mr := by
  obtain ⟨f, fd, F, hm, hb⟩ := F
  exact ⟨⟨f, fd, N, a, st, F, hm, .all hb, Sc, hN, h0, hv, hd1, hd2, hbody f⟩, h1, h2⟩
def spLawT (K : PySem.W.Frag) (ps : List Addr) : Sp := fun vs H Q _ => ∃ (a : Addr) (ns : List Int), vs = [.ref a] ∧ SqL K H a (ns.map V.int) ∧ ns.length ≤ 63 ∧ (∀ p ∈ ps, H p = some (.tbl #[])) ∧ ∀ H', Q (.bl true) H'
theorem law_endT {m : SM} {st : Stmt} {N : List Str} {k n : Nat} {fa c : Addr} {cs : List (Addr × Addr)} {xs : List Str} (F : FunOC K mg "law" st ["script"] c) (hfa : mg "law" = some (.ref fa)) (Sc : FnScope N ["script"] (defScope st)) (hN : N.length = n)
    (ht : ∀ p ∈ ct.tb, p.1 ∈ cs.map (·.2)) (hx : ∀ p ∈ cs, ∃ x ∈ xs, PySem.W.tabIn K x = some p) (hK : ∀ p ∈ cs, K.lookup p.2 = none)
    (hbody : ∀ (base : Heap), (∀ p ∈ cs, TabB base mg p.1 p.2) → ∀ (f : Addr) (A : Around) (outer : List PySem.Env) (s : Shared) (H : Hp) (E : XK), Room k (A.deeper (envOfC "law" (defScope st) s.heap.objs.size f (.ref c))) →
      MSs (cxOf (L2.CX P w) P w K mg base N "law" (defScope st) f (.ref c) A outer s H E) ct (defBody st) m)
    (math : ∀ ns : List Int, ns.length ≤ 63 → ∃ S f, fnM n m [(.c, .frz (ns.map D.int))] [] = .ok (.bl true, f) S) :
    ∃ (fd : FuncData) (cs : List (Addr × Addr)), (∀ p ∈ cs, ∃ x ∈ xs, PySem.W.tabIn K x = some p) ∧ (∀ p ∈ cs, K.lookup p.2 = none) ∧ (∀ (s : Shared) (u : Value), BindsTo s fd ⟨[u], []⟩ [("script", u)]) ∧
      ∀ base : Heap, K.In base → base.Ns mainGlobals mg → (∀ p ∈ cs, TabB base mg p.1 p.2) → FnOk P w K mg base (L2.CX P w) (k + 1) fa fd ["script"] (spLawT K (cs.map (·.2))) := by
  subst hN
  obtain ⟨f, oc, od, an, osl, kV, doc, pm, ctv, lk, cc, kp, hm, hb⟩ := F
  rw [hfa] at hm
  cases hm
  refine ⟨_, cs, hx, hK, fun s u => .of_eq (hb [u] rfl), fun base _ _ TB => (fn_okC (ct := ct) lk cc Sc (hbody base TB fa)).imp fun vs H Q E h => ?_⟩
  obtain ⟨a, ns, rfl, hS, hl, hP, q⟩ := h
  obtain ⟨S, f, e⟩ := math ns hl
  obtain ⟨h1, as, S0, io, M0, h2, h3, h4, h5⟩ := law_sp (ct := ct) hS (fun p hp => TabS.nil (hP _ (ht p hp))) ⟨S, f, e⟩
  refine ⟨h1, as, S0, io, M0, h2, h3, h4, ?_⟩
  cases e2 : fnM N.length m as S0 with
  | ok x S' =>
    rw [e2] at h5
    intro v io' H' t o
    have ev : v = .bl true := h5 v io' H' t o
    rw [ev]
    exact q H'
  | er c p S' =>
    rw [e2] at h5
    exact fun dx io' H' t1 t2 t3 => (h5 dx io' H' t1 t2 t3).elim
  | no =>
    rw [e2] at h5
    exact h5.elim
open PyProof in
theorem law_walkT {l : PySem.W.OpenLaw} {k : Nat} {q : Program} {loose : List Str} {XP : (Str → Option Value) → Heap → Prop} {YP : World → Heap → Prop} {d : DefRec} {K : Params → PySem.W.Frag} (xs : List Str) (hn : l.most = some 63) (hdf : d.params.defaults = []) (hr : Room k callerA)
    (hY : ∀ (w : World) (h : Heap), YP w h → (K w.params).In h) (hq : (xs.all fun x => ((recsOf q).find? (fun e => e.name == x)).isSome) = true)
    (F : ∀ (w : World) (mg : Str → Option Value) (fa : Addr) (h : Heap), (K w.params).In h → h.Ns mainGlobals mg → mg d.name = some (.ref fa) →
      ∃ (fd : FuncData) (cs : List (Addr × Addr)), (∀ p ∈ cs, ∃ x ∈ xs, PySem.W.tabIn (K w.params) x = some p) ∧ (∀ p ∈ cs, (K w.params).lookup p.2 = none) ∧ (∀ (s : Shared) (u : Value), BindsTo s fd ⟨[u], []⟩ [("script", u)]) ∧
        ∀ base : Heap, (K w.params).In base → base.Ns mainGlobals mg → (∀ p ∈ cs, TabB base mg p.1 p.2) → FnOk l.prog w (K w.params) mg base (L2.CX l.prog w) k fa fd ["script"] (spLawT (K w.params) (cs.map (·.2)))) :
    PySem.W.WalkO q loose XP YP l.row.toRowW d [] (fun f vs => PySem.call f vs) := by
  refine Att.attach_callB hn hdf fun w s₀ s₁ mg mb fa o pm cd doc a vs ns G Y ho hd hcd hmg hobj hints hlen hbits hg => ?_
  have KX := hY w _ Y
  obtain ⟨fd, cs, hx, hK, hb, hF⟩ := F w mg fa _ KX G.T.g hmg
  have tabs : ∀ p ∈ cs, PySem.W.CodeHd s₁.heap p.1 p.2 ∧ s₁.heap.get? p.2 = some (PySem.W.tabObj #[]) := fun p hp => by
    obtain ⟨x, hx1, hx2⟩ := hx p hp
    obtain ⟨dd, hdd⟩ := Option.isSome_iff_exists.mp (List.all_eq_true.mp hq x hx1)
    exact PySem.W.tab_of G.T KX hdd hx2
  exact law_callTs KX G.T.g G.T.b G.T.builtins G.T.nolimit hg (fun p hp => (tabs p hp).2) hK (fun p hp => (tabs p hp).1) G.T.bmain hobj hints (Nat.le_trans hlen (by decide)) hr hF hb
    (fun H hH hS => ⟨a, ns, rfl, hS, hlen, fun p hp => by
      obtain ⟨p', h1, rfl⟩ := List.mem_map.mp hp
      exact hH p' h1, fun _ => rfl⟩) fun H e s' h => by
    obtain ⟨_, _, _, _, _, _, _, _, _, _, _, _, z⟩ := h
    exact z
end
end Mv
namespace Mv
open PySem
/-- each table bears one name -/
def TabU (l : List (Addr × Str)) : Prop := ∀ p ∈ l, ∀ p' ∈ l, p.1 = p'.1 → p.2 = p'.2
theorem TabU.one (p : Addr × Str) : TabU [p] := fun a ha b hb _ => by
  rw [List.mem_singleton.mp ha, List.mem_singleton.mp hb]
end Mv
namespace Mv
open PySem
theorem tab_mk {K : PySem.W.Frag} {x : Str} {f c P : Addr} {o1 o3 : Value} {o2 o4 : Option Addr} {fd : FuncData} {s1 s2 : Array (Option Value)} {vs : Array Value} (a : PySem.W.nsIn K mainGlobals x = some (some (.ref f))) (l : K.lookup f = some ⟨o1, o2, .func fd, s1⟩) (hc : fd.code = .ref c)
    (lc : K.lookup c = some ⟨o3, o4, .fields vs, s2⟩) (hv : vs[11]? = some (.ref P)) : PySem.W.tabIn K x = some (c, P) := by
  unfold PySem.W.tabIn
  rw [a]
  dsimp only
  rw [l]
  dsimp only
  rw [hc]
  dsimp only
  rw [lc]
  dsimp only
  rw [hv]
end Mv

set_option maxRecDepth 100000
set_option maxHeartbeats 2000000
namespace L2
open PySem PySem.Spec PyProof.Rows
/-- a list's count of a flat value -/
def rCntF (K : PySem.W.Frag) : V → List V → Hp → VK → Prop := fun x xs H Q => ∃ (p : Addr) (ys : List V) (y : V), x = .ref p ∧ xs = [y] ∧ SqL K H p ys ∧ flatV y = true ∧ ys.all flatV = true ∧ Q (.int (ys.countP fun z => eqV z y : Nat)) H
theorem countP_eqU {x : V} : ∀ {xs : List V} {us : List Value}, Vals xs us → xs.all flatV = true → us.countP (eqU x) = xs.countP fun y => eqV y x
  | _, _, .nil, _ => rfl
  | y :: xs, u :: us, .cons r t, f => by
    rw [List.all_cons, Bool.and_eq_true] at f
    rw [List.countP_cons, List.countP_cons, eqU_of r f.1, countP_eqU t f.2]
theorem mt_cntF {X : Cx} : MtR X "list.count" (rCntF X.K) := by
  intro pins s σ H x xs v us Q I rx rxs h
  obtain ⟨p, ys, y, rfl, rfl, hs, fy, fys, q⟩ := h
  cases rx
  obtain ⟨u, rfl, ru⟩ := rxs.one
  obtain ⟨its, rv, ⟨⟨cls, dd, data, sl⟩, n, ho, hc, hdn, hd⟩, hlen⟩ := I.list hs
  dsimp only at hc hd
  subst hc hd
  refine call_meets PySem.F.slot_list_count ⟨_, ho, rfl⟩ PySem.F.entry_list_count (PySem.F.args_list_count_2 _ _) (SeqAt.list_countAt p its.toArray n dd sl u (eqU y))
    ⟨ho, fun u' hu' => mem_eqAt ru fy rv fys u' (by simpa using hu'), .int (ys.countP fun z => eqV z y : Nat), H, I.tok _, ⟨s.toks, ?_⟩, q⟩
  rw [show its.toArray.toList = its from rfl, countP_eqU rv fys]
end L2
namespace Mv
open PySem PySem.Spec PyProof.Rows L2
/-! ### a list's method by values -/
def BmOk (K : PySem.W.Frag) (ct : CT) (rd : V → List V → Hp → VK → Prop) (g : List D → List (Fl × D) → Option (D × Fl)) : Prop :=
  ∀ (M N : Addr → Prop) (io : List Addr) (S : Store) (H : Hp) (a : Addr) (vs ws : List V) (xs : List D) (as : List (Fl × D)) (res : D × Fl) (Q : VK), H a = some (.lst vs) → Reps K (fun _ => False) io H xs vs → ArgsOk K M N io H as ws → StoOk K ct M io S H → g xs as = some res →
    (∀ v H', Stp ct io H io H' → ResOk K ct M N H io S H' res.2 res.1 v → Q v H') → rd (.ref a) ws H Q
def eBm (g : List D → List (Fl × D) → Option (D × Fl)) (mo : EM) (t : AM) : EM := fun r S => (mo r S).bind fun x S1 => match x.1 with
  | .lst xs => (t r S1).bind fun as S2 => lift0 (g xs as) S2
  | _ => .no
section
variable {X : Cx} {ct : CT} {pos apos : Pos}
theorem me_bm {o e : Expr} {es : List Expr} {name : Str} {id : String} {rd : V → List V → Hp → VK → Prop} {g : List D → List (Fl × D) → Option (D × Fl)} {mo : EM} {t : AM} (slot : PySem.Slot "list" name id) (hty : typeOf (.builtin id) = pure (.type "method_descriptor")) (hm : MtR X id rd) (hg : BmOk X.K ct rd g)
    (ho : ME X ct o mo) (ha : MA X ct (e :: es) t)
    (hbase : attributeBase o name X.env (eval o X.env) = eval o X.env := by rfl)
    (hfew : ((backTo pos (starEach (e :: es) X.env)).all (fun x => !x.1) && (backToKw pos (keywordEach [] X.env)).all (fun x => x.1.isSome)
      && decide ((e :: es).length + ([] : List Keyword).length + (if ([] : List Keyword).isEmpty then 0 else 1) < 30)) = true := by rfl)
    (hline : (apos.endLine == pos.line) = true := by rfl) (hs : starEach (e :: es) X.env = (false, eval e X.env) :: starEach es X.env := by rfl) (hplain : (backTo pos (starEach es X.env)).any (·.1) = false := by rfl) :
    ME X ct (.Call (.Attribute o name apos) (e :: es) [] pos) (eBm g mo t) :=
  ⟨fun G W tk => (pe_bm PySem.F.plainAttrs_list slot hty hm (ho.run G W tk) (ha.run G W tk) hbase hfew hline hs hplain).imp fun s H Q ⟨r, S, io, k, h⟩ => by
    refine ⟨r, S, io, k, Res.first h fun x S1 io1 H1 e1 t1 q1 h1 v o => ?_⟩
    split at h1
    · rename_i xs ex
      have o1 := o.repF
      rw [ex] at o1
      obtain ⟨a, vs, rfl, ea, ra⟩ := lst_of o1
      have k1 := k.step t1 q1
      refine ⟨.inl ⟨rfl, vs, .inl (.inl ea)⟩, r, S1, io1, k1, Res.first h1 fun as S2 io2 H2 e2 t2 q2 h2 ws o2 => ?_⟩
      unfold lift0 at h2
      split at h2
      · rename_i res e
        exact hg _ _ io2 S2 H2 a vs ws xs as res Q (t2.k1 a _ ea NI.lst) (ra.stp t2) o2 q2 e fun v H' t' o' => h2.go t' o'.sto v (o'.back fun a z => t1.free (t2.free z))
      · exact h2.elim
    · exact h1.elim⟩
end
def gCntB (xs : List D) (as : List (Fl × D)) : Option (D × Fl) := match as with
  | [(_, .bl b)] => (blsOf xs).map fun bs => (.int (bs.count b : Nat), .c)
  | _ => none
def gIdxB (xs : List D) (as : List (Fl × D)) : Option (D × Fl) := match as with
  | [(_, .bl b)] => (blsOf xs).bind fun bs => (bs.findIdx? (· == b)).map fun j => (.int (j : Nat), .c)
  | _ => none
theorem flat_bls : ∀ bs : List Bool, (bs.map V.bl).all flatV = true
  | [] => rfl
  | _ :: bs => flat_bls bs
theorem eqV_bl (b c : Bool) : eqV (.bl b) (.bl c) = (b == c) := by
  cases b <;> cases c <;> rfl
theorem cnt_bls (b : Bool) : ∀ bs : List Bool, (bs.map V.bl).countP (fun z => eqV z (.bl b)) = bs.count b
  | [] => rfl
  | c :: bs => by
    rw [List.map_cons, List.countP_cons, List.count_cons, cnt_bls b bs, eqV_bl]
theorem args_one {K : PySem.W.Frag} {M N : Addr → Prop} {io : List Addr} {H : Hp} {p : Fl × D} {ws : List V} (o : ArgsOk K M N io H [p] ws) : ∃ v, ws = [v] ∧ RepF K M N io H p.1 p.2 v := by
  cases o with
  | cons h t =>
    cases t
    exact ⟨_, rfl, h⟩
theorem ok_cntB {K : PySem.W.Frag} {ct : CT} : BmOk K ct (rCntF K) gCntB := by
  intro M N io S H a vs ws xs as res Q ea ra o q e h
  unfold gCntB at e
  split at e
  · rename_i f b
    obtain ⟨bs, e1, rfl⟩ := Option.map_eq_some_iff.mp e
    rw [blsOf_eq e1] at ra
    have := ra.bls
    subst this
    obtain ⟨v, rfl, rv⟩ := args_one o
    rw [bl_of rv]
    refine ⟨a, _, .bl b, rfl, rfl, .inl (.inl ea), rfl, flat_bls bs, ?_⟩
    rw [cnt_bls]
    exact h _ H Stp.refl (ResOk.sc (f := .c) (by simp) (.int _) q)
  · cases e
theorem ok_idxB {K : PySem.W.Frag} {ct : CT} : BmOk K ct (rIndex K) gIdxB := by
  intro M N io S H a vs ws xs as res Q ea ra o q e h
  unfold gIdxB at e
  split at e
  · rename_i f b
    obtain ⟨bs, e1, e⟩ := Option.bind_eq_some_iff.mp e
    obtain ⟨j, e2, rfl⟩ := Option.map_eq_some_iff.mp e
    rw [blsOf_eq e1] at ra
    have := ra.bls
    subst this
    obtain ⟨v, rfl, rv⟩ := args_one o
    rw [bl_of rv]
    obtain ⟨hj, hp, hn⟩ := List.findIdx?_eq_some_iff_getElem.mp e2
    refine ⟨a, _, .bl b, j, .bl bs[j], rfl, rfl, .inl (.inl ea), rfl, flat_bls bs, by rw [List.getElem?_map, List.getElem?_eq_getElem hj]; rfl, by rw [eqV_bl]; exact hp, fun m z' hm e => ?_, h _ H Stp.refl (ResOk.sc (f := .c) (by simp) (.int _) q)⟩
    rw [List.getElem?_map, List.getElem?_eq_getElem (Nat.lt_trans hm hj)] at e
    cases e
    rw [eqV_bl]
    exact eq_false_of_ne_true (hn m hm)
  · cases e
end Mv

set_option maxRecDepth 100000
set_option maxHeartbeats 2000000
namespace L2
open PySem PySem.Spec PyProof.Rows
theorem PT.ex {X : Cx} {e : Expr} {ι : Sort _} {t : ι → TT} (h : ∀ i, PT X e (t i)) : PT X e (fun s H Q => ∃ i, t i s H Q) := ⟨fun pins s σ H Q I ⟨i, w⟩ => (h i).run pins s σ H Q I w⟩
end L2
namespace Mv
open PySem PySem.Spec PyProof.Rows L2
/-! ### a list of one's own, lent while a test is asked -/
def Gx.lend (G : Gx) (a : Addr) : Gx := { G with M0 := fun x => G.M0 x ∨ x = a }
section
variable {K : PySem.W.Frag} {ct : CT} {G : Gx} {r : Env} {S : Store} {io : List Addr} {s : St} {H : Hp} {i : Nat} {d : D} {a : Addr}
theorem mown_lend (k : Ok K ct G r S io s H) (e : r[i]? = some (.own d)) (ea : s[i]? = some (some (V.ref a))) {x : Addr} (h : Mown (G.lend a) (r.set i (.ar .b d)) s x) : Mown G r s x ∧ x ≠ a := by
  obtain ⟨a', e1, _, _, n0, _⟩ := k.own i d e
  rw [ea] at e1
  cases e1
  rcases h with h | ⟨j, u, h1, h2⟩
  · exact ⟨.inl h, fun z => n0 (z ▸ h)⟩
  · rcases get_set h1 with ⟨rfl, q, _⟩ | ⟨hj, q⟩
    · cases q
    · exact ⟨.inr ⟨j, u, q, h2⟩, fun z => hj (k.inj j i u d a q e (z ▸ h2) ea).symm⟩
theorem mall_lend (k : Ok K ct G r S io s H) (e : r[i]? = some (.own d)) (ea : s[i]? = some (some (V.ref a))) : Mall (G.lend a) (r.set i (.ar .b d)) s = Mall G r s := by
  funext x
  refine propext ⟨fun h => ?_, fun h => ?_⟩
  · rcases h with (h | h) | h
    · exact .inl h
    · exact .inr (.inr ⟨i, d, e, h ▸ ea⟩)
    · exact .inr (mown_lend k e ea h).1
  · rcases h with h | h | ⟨j, u, h1, h2⟩
    · exact .inl (.inl h)
    · exact .inr (.inl h)
    · by_cases hj : j = i
      · subst hj
        rw [ea] at h2
        cases h2
        exact .inl (.inr rfl)
      · exact .inr (.inr ⟨j, u, by rw [List.getElem?_set_ne (fun z => hj z.symm)]; exact h1, h2⟩)
theorem Ok.lend (k : Ok K ct G r S io s H) (e : r[i]? = some (.own d)) (ea : s[i]? = some (some (V.ref a))) : Ok K ct (G.lend a) (r.set i (.ar .b d)) S io s H := by
  obtain ⟨a', e1, ow, m0, n0, h0⟩ := k.own i d e
  have eM := mall_lend k e ea
  have mo := fun {x} => mown_lend (x := x) k e ea
  rw [ea] at e1
  cases e1
  refine ⟨by rw [List.length_set]; exact k.len, fun j f u q => ?_, fun j u q => ?_, fun j j' u u' b q q' z z' => ?_, by rw [eM]; exact k.sto, k.stp, fun b h => ?_, fun b h => ?_, fun p hp => ?_, k.dp.env rfl (fun _ z => z) (dp_set0 fun _ _ z => by cases z)⟩
  · rcases get_set q with ⟨rfl, q, _⟩ | ⟨hj, q⟩
    · cases q
      exact ⟨.ref a, ea, .inr ⟨a, rfl, by rw [eM]; exact ow, fun z => (mo z).2 rfl⟩⟩
    · obtain ⟨v, h1, h2⟩ := k.arg j f u q
      refine ⟨v, h1, ?_⟩
      rw [eM]
      exact h2.mono Kp.refl Kp.refl (fun _ _ n => n) (fun _ _ n z => n (mo z).1) io_refl
  · rcases get_set q with ⟨rfl, q, _⟩ | ⟨hj, q⟩
    · cases q
    · obtain ⟨b, h1, h2, h3, h4, h5⟩ := k.own j u q
      refine ⟨b, h1, by rw [eM]; exact h2, fun z => z.elim h3 fun z => hj (k.inj j i u d a q e (z ▸ h1) ea).symm, h4, h5⟩
  · rcases get_set q with ⟨rfl, q, _⟩ | ⟨hj, q⟩
    · cases q
    · rcases get_set q' with ⟨rfl, q', _⟩ | ⟨hj', q'⟩
      · cases q'
      · exact k.inj j j' u u' b q q' z z'
  · rcases h with h | rfl
    · exact k.m0 b h
    · exact ow.there
  · obtain ⟨o, h1, h2, h3⟩ := k.n0 b h
    exact ⟨o, h1, fun z => z.elim h2 fun z => n0 (z ▸ h), h3⟩
  · rw [eM]
    exact (k.held p hp).mono Kp.refl Kp.refl (fun _ _ n => n) (fun _ _ n z => n (mo z).1) io_refl
end
section
variable {X : Cx} {ct : CT}
def tLend (i : Nat) (t : TM) : TM := fun r S => match r[i]? with
  | some (.own d) => t (r.set i (.ar .b d)) S
  | _ => t r S
theorem mt_lend {i : Nat} {e : Expr} {t : TM} (h : MT X ct e t) : MT X ct e (tLend i t) := ⟨fun G W tk => by
  have all := PT.ex fun G' : Gx => h.run G' W tk
  exact all.imp fun s H Q ⟨r, S, io, k, w⟩ => by
    unfold tLend at w
    split at w
    · rename_i d e
      obtain ⟨a, ea, _⟩ := k.own i d e
      refine ⟨G.lend a, _, S, io, k.lend e ea, ?_⟩
      rw [mall_lend k e ea]
      exact w
    · exact ⟨G, r, S, io, k, w⟩⟩
end
end Mv
namespace Mv
open PySem
theorem TabU.of : ∀ {l : List (Addr × Str)}, (l.map (·.1)).Nodup → TabU l
  | [], _ => fun _ h => nomatch h
  | x :: l, nd => fun a ha b hb e => by
    have q := List.nodup_cons.mp nd
    rcases List.mem_cons.mp ha with ha | ha
    · rcases List.mem_cons.mp hb with hb | hb
      · rw [ha, hb]
      · rw [ha] at e
        exact absurd (List.mem_map.mpr ⟨b, hb, e.symm⟩) q.1
    · rcases List.mem_cons.mp hb with hb | hb
      · rw [hb] at e
        exact absurd (List.mem_map.mpr ⟨a, ha, e⟩) q.1
      · exact TabU.of q.2 a ha b hb e
end Mv

set_option maxRecDepth 100000
set_option maxHeartbeats 2000000
namespace Mv
open PySem PySem.Spec PyProof.Rows L2
/-! ### list(range(n)) -/
def gLRg (a : D × Fl) : Option (D × Fl) := match a.1 with
  | .int n => if 0 ≤ n ∧ n ≤ 1000000 then some (.lst (rangeD 0 1 n.toNat), .n) else none
  | _ => none
end Mv
namespace Mv
open PySem PySem.Spec PyProof.Rows L2
theorem reps_rg {K : PySem.W.Frag} {M : Addr → Prop} {io : List Addr} {H : Hp} (n : Int) : Reps K M io H (rangeD 0 1 n.toNat) (rgV 0 n) := by
  have h := Reps.ofInts (K := K) (M := M) (io := io) (H := H) ((List.range n.toNat).map fun i => (0 : Int) + (i : Nat) * 1)
  have e1 : ((List.range n.toNat).map fun i => (0 : Int) + (i : Nat) * 1).map D.int = rangeD 0 1 n.toNat := by
    unfold rangeD
    rw [List.map_map]
    rfl
  have e2 : ((List.range n.toNat).map fun i => (0 : Int) + (i : Nat) * 1).map V.int = rgV 0 n := by
    unfold rgV
    rw [List.map_map, Int.sub_zero]
    refine List.map_congr_left fun i _ => ?_
    show V.int ((0 : Int) + (i : Nat) * 1) = V.int (0 + (i : Nat))
    rw [Int.mul_one]
  rw [e1, e2] at h
  exact h
section
variable {X : Cx} {ct : CT} {pos : Pos}
theorem me_lRg {a : Expr} {p p2 pos2 : Pos} {m : EM} (hc : X.calm = true) (hg : Gl X "list") (hm : X.mg "list" = none) (hg2 : Gl X "range") (hm2 : X.mg "range" = none) (ha : ME X ct a m)
    (na : starEach [a] X.env = (false, eval a X.env) :: starEach [] X.env := by rfl)
    (na2 : starEach [Expr.Call (.Name "range" p2) [a] [] pos2] X.env = (false, eval (Expr.Call (.Name "range" p2) [a] [] pos2) X.env) :: starEach [] X.env := by rfl) :
    ME X ct (.Call (.Name "list" p) [.Call (.Name "range" p2) [a] [] pos2] [] pos) (eG1 gLRg m) :=
  ⟨fun G W tk => (pe_listRg hc hg hm (prg_1 hg2 hm2 (ha.run G W tk) na) na2).imp fun s H Q ⟨r, S, io, k, h⟩ => ⟨r, S, io, k, Res.first h fun x S1 io1 H1 e1 t1 q1 h1 v o => by
    have k1 := k.step t1 q1
    unfold lift0 at h1
    split at h1
    · rename_i res e
      unfold gLRg at e
      split at e
      · rename_i n en
        split at e
        · rename_i hn
          cases e
          have o1 := o.repF
          rw [en] at o1
          refine ⟨n, int_of o1, ?_, fun q hq => ?_⟩
          · exact RgOk.of_le (Int.le_refl 0) (by omega) (by omega) hn.1
          · exact h1.go (Stp.upd hq) (q1.upd hq) _ (new_lst hq (t1.free hq) k1.mdom q1 (reps_rg n))
        · cases e
      · cases e
    · exact h1.elim⟩⟩
end
end Mv

set_option maxRecDepth 100000
set_option maxHeartbeats 2000000
/-! Mv19: dicts with keys that are ints or texts; sorted of pairs of ints; unpacking of lists -/
namespace Mv
open PySem PySem.Spec PyProof.Rows L2
def keyD : D → Option Key
  | .int i => some (.inl i)
  | .str z => some (.inr z)
  | _ => none
def getK : List Key → List D → Key → Option D
  | k :: ks, x :: xs, j => if k = j then some x else getK ks xs j
  | _, _, _ => none
def putX : List Key → List D → Key → D → List D
  | k :: ks, x :: xs, j, d => (if k = j then d else x) :: putX ks xs j d
  | _, xs, _, _ => xs
def putKD (ks : List Key) (xs : List D) (k : Key) (d : D) : List Key × List D := if ks.any (fun j => decide (j = k)) = true then (ks, putX ks xs k d) else (ks ++ [k], xs ++ [d])
section
variable {K : PySem.W.Frag} {ct : CT} {M N : Addr → Prop} {io : List Addr} {H : Hp}
theorem key_val {f : Fl} {d : D} {v : V} {k : Key} (e : keyD d = some k) (h : RepF K M N io H f d v) : v = kV k := by
  unfold keyD at e
  split at e
  · cases e
    exact int_of h
  · cases e
    exact str_of h
  · cases e
theorem getK_val : ∀ {kvs : List (Key × V)} {xs : List D} (k : Key), Reps K M io H xs (kvs.map Prod.snd) → match getK (kvs.map Prod.fst) xs k with
    | some d => ∃ v, valV kvs k = some v ∧ Rep K M io H d v
    | none => valV kvs k = none
  | [], xs, k, h => by
    unfold getK
    exact valV_nil
  | (j, w) :: kvs, xs, k, h => by
    cases h with
    | @cons x xs _ _ h1 h2 =>
      show match (if j = k then some x else getK (kvs.map Prod.fst) xs k) with
        | some d => ∃ v, valV ((j, w) :: kvs) k = some v ∧ Rep K M io H d v
        | none => valV ((j, w) :: kvs) k = none
      by_cases e : j = k
      · rw [if_pos e]
        exact ⟨w, valV_pos (p := (j, w)) e, h1⟩
      · rw [if_neg e, valV_neg (p := (j, w)) e]
        exact getK_val k h2
theorem putX_len : ∀ (ks : List Key) (xs : List D) (k : Key) (d : D), (putX ks xs k d).length = xs.length
  | [], _, _, _ => by unfold putX; rfl
  | _ :: _, [], _, _ => by unfold putX; rfl
  | j :: ks, x :: xs, k, d => by
    unfold putX
    rw [List.length_cons, List.length_cons, putX_len ks xs k d]
theorem putX_rep {v : V} {d : D} (hv : Rep K M io H d v) (k : Key) : ∀ {kvs : List (Key × V)} {xs : List D}, Reps K M io H xs (kvs.map Prod.snd) → Reps K M io H (putX (kvs.map Prod.fst) xs k d) ((kvs.map fun kv => if kv.1 = k then (kv.1, v) else kv).map Prod.snd)
  | [], xs, h => by
    cases h
    exact .nil
  | (j, w) :: kvs, xs, h => by
    cases h with
    | @cons x xs _ _ h1 h2 =>
      have ih := putX_rep hv k h2
      show Reps K M io H ((if j = k then d else x) :: putX (kvs.map Prod.fst) xs k d) ((if j = k then (j, v) else (j, w)).2 :: _)
      by_cases e : j = k
      · rw [if_pos e, if_pos e]
        exact .cons hv ih
      · rw [if_neg e, if_neg e]
        exact .cons h1 ih
theorem put_any (kvs : List (Key × V)) (k : Key) : (kvs.any fun kv => decide (kv.1 = k)) = (kvs.map Prod.fst).any fun j => decide (j = k) := by
  rw [List.any_map]
  rfl
theorem put_keys (kvs : List (Key × V)) (k : Key) (v : V) (xs : List D) (d : D) : (putK kvs k v).map Prod.fst = (putKD (kvs.map Prod.fst) xs k d).1 := by
  unfold putK putKD
  rw [put_any]
  by_cases q : ((kvs.map Prod.fst).any fun j => decide (j = k)) = true
  · rw [if_pos q, if_pos q, List.map_map]
    refine List.map_congr_left fun p _ => ?_
    show (if p.1 = k then (p.1, v) else p).1 = p.1
    split <;> rfl
  · rw [if_neg q, if_neg q, List.map_append]
    rfl
theorem put_vals {kvs : List (Key × V)} {k : Key} {v : V} {xs : List D} {d : D} (h : Reps K M io H xs (kvs.map Prod.snd)) (hv : Rep K M io H d v) : Reps K M io H (putKD (kvs.map Prod.fst) xs k d).2 ((putK kvs k v).map Prod.snd) := by
  unfold putK putKD
  rw [put_any]
  by_cases q : ((kvs.map Prod.fst).any fun j => decide (j = k)) = true
  · rw [if_pos q, if_pos q]
    exact putX_rep hv k h
  · rw [if_neg q, if_neg q, List.map_append]
    exact h.app (.cons hv .nil)
theorem dic_of {f : Fl} {ks : List Key} {xs : List D} {v : V} (h : RepF K M N io H f (.dic ks xs) v) : ∃ a kvs, v = .ref a ∧ H a = some (.dK kvs) ∧ kvs.map Prod.fst = ks ∧ (f ≠ .t → Reps K M io H xs (kvs.map Prod.snd)) ∧ Reps K (fun _ => False) io H xs (kvs.map Prod.snd) := by
  have go : Rep K M io H (.dic ks xs) v → ∃ a kvs, v = .ref a ∧ H a = some (.dK kvs) ∧ kvs.map Prod.fst = ks ∧ Reps K M io H xs (kvs.map Prod.snd) := fun h => by
    cases h with
    | dic h1 _ h2 h3 => exact ⟨_, _, rfl, h1, h2, h3⟩
  have go2 : ∀ {a}, OwnAt K M io H (.dic ks xs) a → ∃ kvs, H a = some (.dK kvs) ∧ kvs.map Prod.fst = ks ∧ Reps K M io H xs (kvs.map Prod.snd) := fun h => by
    rcases h with ⟨xs', vs, e', _⟩ | ⟨ks, xs', kvs, e', h1, h2, h3⟩
    · cases e'
    · cases e'
      exact ⟨kvs, h1, h2, h3⟩
  have fin : (∃ a kvs, v = .ref a ∧ H a = some (.dK kvs) ∧ kvs.map Prod.fst = ks ∧ Reps K M io H xs (kvs.map Prod.snd)) → ∃ a kvs, v = .ref a ∧ H a = some (.dK kvs) ∧ kvs.map Prod.fst = ks ∧ (f ≠ .t → Reps K M io H xs (kvs.map Prod.snd)) ∧ Reps K (fun _ => False) io H xs (kvs.map Prod.snd) :=
    fun ⟨a, kvs, e, h1, h2, h3⟩ => ⟨a, kvs, e, h1, h2, fun _ => h3, h3.anti fun _ z => z.elim⟩
  cases f with
  | c => exact fin (go h)
  | n => exact fin (go h)
  | b => exact h.elim (fun h => fin (go h)) fun ⟨a, e, h, _⟩ => let ⟨kvs, z⟩ := go2 h; fin ⟨a, kvs, e, z⟩
  | o => exact h.elim (fun h => fin (go h)) fun ⟨a, e, h⟩ => let ⟨kvs, z⟩ := go2 h; fin ⟨a, kvs, e, z⟩
  | t =>
    cases h with
    | dic h1 _ h2 h3 => exact ⟨_, _, rfl, h1, h2, fun g => absurd rfl g, h3⟩
/-- d[e], there -/
def gDIx : D × Fl → D × Fl → Option (D × Fl) := fun a b => match a.1 with
  | .dic ks xs => match keyD b.1 with
    | some k => (getK ks xs k).map fun d => (d, if a.2 = .t then .t else .c)
    | none => none
  | _ => none
def rDIx : R2 := fun x y H Q => ∃ a v, x = .ref a ∧ DGet H a y (some v) ∧ Q v H
theorem ok_dix : BinOk K ct rDIx gDIx := by
  rintro M N io S H x y ⟨a, fa⟩ ⟨b, fb⟩ res Q ra rb q md e w
  unfold gDIx at e
  dsimp only at e ra rb
  split at e
  · rename_i ks xs
    split at e
    · rename_i k ek
      obtain ⟨p, kvs, rfl, h1, rfl, h2, h3⟩ := dic_of ra
      obtain rfl := key_val ek rb
      obtain ⟨d, ed, rfl⟩ := Option.map_eq_some_iff.mp e
      have g3 := getK_val k h3
      rw [ed] at g3
      obtain ⟨v, y1, y2⟩ := g3
      refine ⟨p, v, rfl, by rw [← y1]; exact DGet.k h1, w _ _ Stp.refl (ResOk.ct' (f := fa) (fun g => ?_) y2 q)⟩
      have g2 := getK_val k (h2 g)
      rw [ed] at g2
      obtain ⟨v', z1, z2⟩ := g2
      rw [y1] at z1
      cases z1
      exact z2
    · cases e
  · cases e
/-- list(d) -/
def kD : Key → D
  | .inl i => .int i
  | .inr z => .str z
def gListD : List (Fl × D) → Option (D × Fl) := fun as => match as with
  | [(_, .dic ks _)] => some (.lst (ks.map kD), .n)
  | _ => none
theorem reps_keys : ∀ ks : List Key, Reps K M io H (ks.map kD) (ks.map kV)
  | [] => .nil
  | .inl i :: ks => .cons (.int i) (reps_keys ks)
  | .inr z :: ks => .cons (.str z) (reps_keys ks)
theorem ok_listD : CalOk K ct (fun xs H Q => ∃ (a : Addr) (kvs : List (Key × V)), xs = [.ref a] ∧ Rd H a (.dK kvs) ∧ ∀ p, H p = none → Q (.ref p) (upd H p (.lst (kvs.map fun kv => kV kv.1)))) gListD := by
  intro M N io S H vs as res Q o q md e w
  unfold gListD at e
  split at e
  · rename_i f ks xs
    cases e
    obtain ⟨v, rfl, r⟩ := args1 o
    obtain ⟨a, kvs, rfl, h1, rfl, h2, h3⟩ := dic_of r
    refine ⟨a, kvs, rfl, .inl h1, fun p hp => w _ _ (Stp.upd hp) (new_lst hp hp md q ?_)⟩
    have := reps_keys (K := K) (M := M) (io := io) (H := H) (kvs.map Prod.fst)
    rw [List.map_map (g := kV)] at this
    exact this
  · cases e
/-- d != e, of dicts of ints that are alike -/
def alikeD (ls : List Key) (ys : List D) : List Key → List D → Bool
  | [], [] => true
  | k :: ks, .int i :: xs => (match getK ls ys k with
    | some (.int j) => decide (j = i)
    | _ => false) && alikeD ls ys ks xs
  | _, _ => false
def gNeD : D × Fl → D × Fl → Option (D × Fl) := fun a b => match a.1, b.1 with
  | .dic ks xs, .dic ls ys => if ks.length = ls.length ∧ alikeD ls ys ks xs = true then some (.bl false, .c) else none
  | _, _ => none
theorem alike_val {ls : List (Key × V)} {ys : List D} (h2 : Reps K M io H ys (ls.map Prod.snd)) : ∀ {ks : List (Key × V)} {xs : List D}, Reps K M io H xs (ks.map Prod.snd) → alikeD (ls.map Prod.fst) ys (ks.map Prod.fst) xs = true → ∀ p ∈ ks, valV ls p.1 = some p.2 ∧ flatB p.2 = true
  | [], _, _, _, p, hp => nomatch hp
  | (k, w) :: ks, xs, h, e, p, hp => by
    cases h with
    | @cons x xs _ _ r1 r2 =>
      have e' : alikeD (ls.map Prod.fst) ys (k :: ks.map Prod.fst) (x :: xs) = true := e
      unfold alikeD at e'
      split at e'
      · rename_i heq
        cases heq
      · rename_i heq1 heq2
        cases heq1
        cases heq2
        rw [Bool.and_eq_true] at e'
        rcases List.mem_cons.mp hp with rfl | hp
        · have g := getK_val k h2
          have e1 := e'.1
          split at e1
          · rename_i ej
            rw [ej] at g
            obtain ⟨v, g1, g2⟩ := g
            obtain rfl := of_decide_eq_true e1
            cases g2
            cases r1
            exact ⟨g1, rfl⟩
          · cases e1
        · exact alike_val h2 r2 e'.2 p hp
      · cases e'
theorem ok_neD : BinOk K ct rNeDA gNeD := by
  rintro M N io S H x y ⟨a, fa⟩ ⟨b, fb⟩ res Q ra rb q md e w
  unfold gNeD at e
  dsimp only at e ra rb
  split at e
  · rename_i ks xs ls ys
    split at e
    · rename_i g
      cases e
      obtain ⟨p, kvs, rfl, h1, rfl, _, h3⟩ := dic_of ra
      obtain ⟨p', kvs', rfl, h1', rfl, _, h3'⟩ := dic_of rb
      rw [List.length_map, List.length_map] at g
      exact ⟨p, p', kvs, kvs', rfl, rfl, h1, h1', g.1, alike_val h3' h3 g.2, w _ _ Stp.refl (ResOk.c (.bl _) q)⟩
    · cases e
  · cases e
end
section
variable {X : Cx} {ct : CT} {pos : Pos}
theorem hu1 (hu : X.A.units + 64 < cLine) : X.A.units + 1 < cLine := Nat.lt_of_le_of_lt (by omega) hu
theorem me_dix {a b : Expr} {ma mb : EM} (hu : X.A.units + 64 < cLine) (ha : ME X ct a ma) (hb : ME X ct b mb) (hs : NoSl b := by exact fun _ _ => rfl) : ME X ct (.Subscript a b pos) (eBin gDIx ma mb) :=
  ⟨fun G W tk => (pe_dget (hu1 hu) (ha.run G W tk) (hb.run G W tk) hs).imp fun s H Q h => bin_go ok_dix h⟩
theorem me_neD {a b : Expr} {ma mb : EM} (hu : X.A.units + 64 < cLine) (ha : ME X ct a ma) (hb : ME X ct b mb) (hm : behindInMarks .NotEq b = false) : ME X ct (.Compare a [.NotEq] [b] pos) (eBin gNeD ma mb) :=
  me_cmp (op_ne_dictA (Nat.lt_of_le_of_lt (by omega) hu)) ok_neD ha hb hm
theorem mt_neD {a b : Expr} {ma mb : EM} (hu : X.A.units + 64 < cLine) (ha : ME X ct a ma) (hb : ME X ct b mb) (hm : behindInMarks .NotEq b = false) : MT X ct (.Compare a [.NotEq] [b] pos) (tVal (eBin gNeD ma mb)) :=
  mt_cmp (op_ne_dictA (Nat.lt_of_le_of_lt (by omega) hu)) ok_neD ha hb hm
/-- d.get(k, x) -/
def eDGet (mo mi mx : EM) : EM := fun r S => (mo r S).bind fun o S1 => match o.1 with
  | .dic ks xs => (mi r S1).bind fun i S2 => (mx r S2).bind fun x S3 => match keyD i.1 with
    | some k => match getK ks xs k with
      | some d => .ok (d, if o.2 = .t then .t else .c) S3
      | none => if okst x.2 x.1 then .ok (x.1, .c) S3 else .no
    | none => .no
  | _ => .no
theorem me_dget2 {o e f : Expr} {apos : Pos} {mo mi mx : EM} (hu : X.A.units + 64 < cLine) (ho : ME X ct o mo) (he : ME X ct e mi) (hf : ME X ct f mx) (m : M2 X o "get" apos e f pos) : ME X ct (.Call (.Attribute o "get" apos) [e, f] [] pos) (eDGet mo mi mx) :=
  ⟨fun G W tk => (pe_dget2 (hu1 hu) (ho.run G W tk) (he.run G W tk) (hf.run G W tk) m).imp fun s H Q ⟨r, S, io, k, h⟩ => ⟨r, S, io, k, Res.first h fun x S1 io1 H1 e1 t1 q1 h1 v o => by
    have k1 := k.step t1 q1
    split at h1
    · rename_i ks xs ed
      have o1 := o.repF
      rw [ed] at o1
      obtain ⟨a, kvs, rfl, y1, rfl, y2, y3⟩ := dic_of o1
      refine ⟨a, rfl, .inl ⟨kvs, .inl y1⟩, r, S1, io1, k1, Res.first h1 fun y S2 io2 H2 e2 t2 q2 h2 u ou => ?_⟩
      have k2 := k1.step t2 q2
      refine ⟨r, S2, io2, k2, Res.first h2 fun z S3 io3 H3 e3 t3 q3 h3 w ow => ?_⟩
      split at h3
      · rename_i kk ek
        obtain rfl := key_val ek ou.repF
        have y1' := t3.k1 a _ (t2.k1 a _ y1 NI.dK) NI.dK
        have g3 := getK_val kk ((y3.stp t2).stp t3)
        split at h3
        · rename_i d ed2
          rw [ed2] at g3
          obtain ⟨v', g4, g5⟩ := g3
          refine ⟨some v', by rw [← g4]; exact DGet.k y1', h3.go Stp.refl q3 _ (ResOk.ct' (f := x.2) (fun g => ?_) g5 q3)⟩
          have g2 := getK_val kk (((y2 g).stp t2).stp t3)
          rw [ed2] at g2
          obtain ⟨v2, z1, z2⟩ := g2
          rw [g4] at z1
          cases z1
          exact z2
        · rename_i ed2
          rw [ed2] at g3
          split at h3
          · rename_i g
            refine ⟨none, by rw [← (show valV kvs kk = none from g3)]; exact DGet.k y1', h3.go Stp.refl q3 _ (ResOk.c (RepF.clean g ow.repF) q3)⟩
          · exact h3.elim
      · exact h3.elim
    · exact h1.elim⟩⟩
theorem own_dic {K : PySem.W.Frag} {M : Addr → Prop} {io : List Addr} {H : Hp} {ks : List Key} {xs : List D} {a : Addr} (h : OwnAt K M io H (.dic ks xs) a) : ∃ kvs, H a = some (.dK kvs) ∧ kvs.map Prod.fst = ks ∧ Reps K M io H xs (kvs.map Prod.snd) := by
  rcases h with ⟨xs', vs, e', _⟩ | ⟨ks, xs', kvs, e', h1, h2, h3⟩
  · cases e'
  · cases e'
    exact ⟨kvs, h1, h2, h3⟩
theorem own_newD {K : PySem.W.Frag} {M : Addr → Prop} {io : List Addr} {H : Hp} {ks : List Key} {ys : List D} {a : Addr} {vs ws : List (Key × V)} (ma : M a) (h : H a = some (.dK vs)) (e : ws.map Prod.fst = ks) (r : Reps K M io H ys (ws.map Prod.snd)) : OwnAt K M io (upd H a (.dK ws)) (.dic ks ys) a :=
  .inr ⟨ks, ys, ws, rfl, upd_same, e, r.mono (fun b u q ni z => by
    rw [upd_ne]
    · exact q
    · rintro rfl
      rcases z with z | z
      · exact z ma
      · rw [h] at q
        cases q
        exact not_im_dK z) (fun _ _ n => n) io_refl⟩
/-- d[k] = e -/
def sDSub (i : Nat) (mi m : EM) : SM := fun r S => (m r S).sb r fun x S1 => match r[i]? with
  | some (.own (.dic ks xs)) => (mi r S1).sb r fun j S2 => match keyD j.1 with
    | some k => if okst x.2 x.1 && decide (ks.length < sizeLine) then .nx (r.set i (.own (.dic (putKD ks xs k x.1).1 (putKD ks xs k x.1).2))) S2 else .no
    | none => .no
  | _ => .no
theorem ms_dsub {i : Nat} {y : Str} {p spos : Pos} {e ei : Expr} {m mi : EM} (hu : X.A.units + 64 < cLine) (hx : PE X (.Name y p) (tVar i)) (hi : ME X ct ei mi) (he : ME X ct e m)
    (ha : ∀ v, assign (.Subscript (.Name y p) ei spos) X.env v = (do
      let ov ← holding [v] (eval (.Name y p) X.env)
      let iv ← holding [v, ov] (eval ei X.env)
      standAt spos
      holding [v, ov, iv] (setItem ov iv v)
      release [v, ov, iv] []) := by intro _; rfl)
    (hs : swapsWithSole [.Subscript (.Name y p) ei spos] e pos.line X.env = pure false := by rfl) (hw : swappedStores [.Subscript (.Name y p) ei spos] e X.env = pure none := by rfl)
    (h1 : (assignEach [.Subscript (.Name y p) ei spos] X.env).map (·.2) = [assign (.Subscript (.Name y p) ei spos) X.env] := by rfl) : MS X ct (.Assign [.Subscript (.Name y p) ei spos] e pos) (sDSub i mi m) :=
  ⟨fun G W tk _ => (ps_asg (he.run G W tk) (pg_sub hx (hi.run G W tk) (set_dict (hu1 hu)) ha) hs hw h1).imp fun D s H ⟨r, S, io, k, h⟩ => ⟨r, S, io, k, SRes.first k h fun x S1 io1 H1 _ t1 q1 k1 h1' v ov => by
    split at h1'
    · rename_i ks xs e
      obtain ⟨a, h1, h2, h3, h4⟩ := k1.own i _ e
      obtain ⟨kvs, h5, h6, h7⟩ := own_dic h2
      refine ⟨.ref a, h1, r, S1, io1, k1, SRes.first k1 h1' fun j S2 io2 H2 _ t2 q2 k2 h2' u ou => ?_⟩
      split at h2'
      · rename_i kk ej
        split at h2'
        · rename_i g
          rw [Bool.and_eq_true, decide_eq_true_eq] at g
          have h5' := t2.k1 a _ h5 NI.dK
          have h7' := h7.stp t2
          obtain rfl := key_val ej ou.repF
          subst h6
          refine ⟨a, _, rfl, DPut.k h5' (by rw [← List.length_map Prod.fst]; exact g.2), h2' s io2 _ (k2.mut e h1 (own_newD (.inr (.inr ⟨i, _, e, h1⟩)) h5' (put_keys kvs kk v xs x.1) (put_vals h7' (RepF.clean g.1 (ov.repF.stp t2)))))⟩
        · exact h2'.elim
      · exact h2'.elim
    · exact h1'.elim⟩⟩
/-- a, b = [.., ..] -/
def gL (n : Nat) (gs : List D → Env → Option Env) : GM := fun d r => match d with
  | .lst ds => if ds.length = n then gs ds r else none
  | _ => none
theorem mg_unl {es : List Expr} {k n : Nat} {ts : List Nat} {gs : List D → Env → Option Env} (hc : X.calm = true) (h : MGs X ct es ts gs) (hn : (assignEach es X.env).length = n := by rfl) (hst : (assignEach es X.env).findIdx? (·.1) = none := by rfl) : MG X ct (.Tuple es k pos) ts (gL n gs) :=
  ⟨fun G => (pg_unl hc (h.run G) hn hst).imp fun v s H Q ⟨r, S, io, d, k, rv, h⟩ => by
    cases rv with
    | lst h1 _ h2 =>
      unfold gL at h
      simp only at h
      split at h
      · rename_i r' e
        split at e
        · rename_i hl
          refine ⟨_, _, rfl, SqL.of h1, by rw [← h2.len]; exact hl, r, S, io, _, k, h2, ?_⟩
          rw [e]
          exact h
        · cases e
      · exact h.elim
    | _ => exact h.elim⟩
end
end Mv

set_option maxRecDepth 100000
set_option maxHeartbeats 2000000
/-! Mv20: sorted of pairs of ints, however they came to be -/
namespace Mv
open PySem PySem.Spec PyProof.Rows L2
def leP (p q : Int × Int) : Bool := !SrtO.lexB q p
theorem leP_iff {p q : Int × Int} : leP p q = true ↔ p.1 < q.1 ∨ (p.1 = q.1 ∧ p.2 ≤ q.2) := by
  unfold leP
  rw [Bool.not_eq_true', SrtO.lexB_no]
  omega
def sortP (ps : List (Int × Int)) : List (Int × Int) := ps.mergeSort leP
theorem sortP_perm (ps : List (Int × Int)) : (sortP ps).Perm ps := List.mergeSort_perm ps leP
theorem sortP_sorted (ps : List (Int × Int)) : (sortP ps).Pairwise fun p q => leP p q = true := List.pairwise_mergeSort (le := leP) (fun a b c h1 h2 => by
  rw [leP_iff] at *
  omega) (fun a b => by
  rw [Bool.or_eq_true, leP_iff, leP_iff]
  omega) ps
theorem leP_one {a b : List (Int × Int)} (p : a.Perm b) (ha : a.Pairwise fun p q => leP p q = true) (hb : b.Pairwise fun p q => leP p q = true) : a = b := by
  induction a generalizing b with
  | nil => exact (List.Perm.eq_nil p.symm).symm
  | cons x a ih =>
    cases b with
    | nil => exact absurd p.length_eq (by simp)
    | cons y b =>
      rw [List.pairwise_cons] at ha hb
      have e : x = y := by
        rcases List.mem_cons.mp (p.mem_iff.mp (List.mem_cons_self (a := x) (l := a))) with h | h
        · exact h
        · rcases List.mem_cons.mp (p.mem_iff.mpr (List.mem_cons_self (a := y) (l := b))) with h' | h'
          · exact h'.symm
          · have h1 := leP_iff.mp (hb.1 x h)
            have h2 := leP_iff.mp (ha.1 y h')
            exact Prod.ext (by omega) (by omega)
      subst e
      rw [ih (List.Perm.cons_inv p) ha.2 hb.2]
/-- x is the pair p -/
def PrV (K : PySem.W.Frag) (H : Hp) (x : V) (p : Int × Int) : Prop := ∃ t, x = .ref t ∧ SqT K H t [.int p.1, .int p.2]
def rSortPT (K : PySem.W.Frag) : List V → Hp → VK → Prop := fun vs H Q => ∃ (a : Addr) (xs : List V) (ps : List (Int × Int)), vs = [V.ref a] ∧ SqL K H a xs ∧ Paired (PrV K H) xs ps ∧
  ∀ ys l, Paired (PrV K H) ys (sortP ps) → H l = none → Q (.ref l) (upd H l (.lst ys))
theorem prv_inj {X : Cx} {pins : List (Addr × Obj)} {σ : St} {H : Hp} {s : Shared} (I : Inv X pins σ H s) {x : V} {p q : Int × Int} (h : PrV X.K H x p) (h' : PrV X.K H x q) : p = q := by
  obtain ⟨t, rfl, e⟩ := h
  obtain ⟨t', e', f⟩ := h'
  cases e'
  have := I.tuple_inj e f
  injection this with e1 e2
  injection e2 with e2 _
  exact Prod.ext (V.int.inj e1) (V.int.inj e2)
theorem paired_back {K : PySem.W.Frag} {H : Hp} (k : V → Int × Int) : ∀ {ys : List V}, (∀ y ∈ ys, PrV K H y (k y)) → Paired (PrV K H) ys (ys.map k)
  | [], _ => .nil
  | y :: ys, h => .cons (h y (.head _)) (paired_back k fun z hz => h z (.tail _ hz))
theorem cr_sortPT {X : Cx} : CallR X (.builtin "sorted") (rSortPT X.K) := by
  intro pins s σ H vs us Q I r h
  obtain ⟨a, xs, ps, rfl, hs, hp, q⟩ := h
  have ex : ∀ x : V, ∃ p : Int × Int, (∃ p', PrV X.K H x p') → PrV X.K H x p := fun x => by
    by_cases e : ∃ p', PrV X.K H x p'
    · obtain ⟨p, e⟩ := e
      exact ⟨p, fun _ => e⟩
    · exact ⟨(0, 0), fun z => absurd z e⟩
  obtain ⟨k, hk⟩ := Classical.axiomOfChoice ex
  have hx : ∀ {xs : List V} {ps : List (Int × Int)}, Paired (PrV X.K H) xs ps → (∀ x ∈ xs, PrV X.K H x (k x)) ∧ xs.map k = ps := by
    intro xs ps hp
    induction hp with
    | nil => exact ⟨fun x hx => absurd hx (by simp), rfl⟩
    | @cons x p xs ps h1 h2 ih =>
      have h3 := hk x ⟨p, h1⟩
      refine ⟨fun y hy => ?_, ?_⟩
      · rcases List.mem_cons.mp hy with rfl | hy
        · exact h3
        · exact ih.1 y hy
      · rw [List.map_cons, ih.2, prv_inj I h3 h1]
  obtain ⟨hx1, hx2⟩ := hx hp
  obtain ⟨its, rv, hl, hz⟩ := I.list hs
  obtain ⟨u, rfl, ru⟩ := vals1 r
  obtain rfl : u = Value.ref a := ru
  obtain ⟨e1, e2⟩ := refs_back rv fun x m => by
    obtain ⟨t, e, _⟩ := hx1 x m
    exact ⟨t, e⟩
  refine SrtO.sorted_pairsO (k := fun u => k (backV u)) hl.isList (by rw [← rv.length]; exact hz) (fun v hv => ?_) fun h' d out h1 h2 kp hd hn => ?_
  · obtain ⟨t, rfl⟩ := e2 v hv
    have hm : V.ref t ∈ xs := by rw [e1]; exact List.mem_map.mpr ⟨_, hv, rfl⟩
    obtain ⟨t', e, ht⟩ := hx1 _ hm
    cases e
    obtain ⟨its2, r2, ⟨o, ho, hc, n, hd⟩, _⟩ := I.tuple ht
    obtain ⟨u1, u2, rfl, ri, rj⟩ := vals2 r2
    obtain ⟨t1, rfl⟩ := ri
    obtain ⟨t2, rfl⟩ := rj
    exact ⟨t, o, t1, t2, n, rfl, ho, hc, hd⟩
  · have h3 : ∀ u ∈ out, ∃ a, u = Value.ref a := fun u hu => e2 u (h2.perm.mem_iff.mp hu)
    obtain ⟨n, hn⟩ := hn
    have hb : SrtO.Stb (ltP k) (out.map backV) xs := by
      rw [e1]
      exact SrtO.Stb.map (ltP_swo k) backV h2
    have hs2 : SrtO.Srtd (ltP k) (out.map backV) := SrtO.srtd_map h1
    have hy : ∀ y ∈ out.map backV, PrV X.K H y (k y) := fun y hy => hx1 y (hb.perm.mem_iff.mp hy)
    have eq : (out.map backV).map k = sortP ps := by
      refine leP_one ?_ ?_ (sortP_sorted ps)
      · rw [← hx2]
        exact (hb.perm.map k).trans (sortP_perm _).symm
      · rw [List.pairwise_map]
        refine hs2.imp fun {p q} h => ?_
        show (!SrtO.lexB (k q) (k p)) = true
        rw [show SrtO.lexB (k q) (k p) = false from h]
        rfl
    refine ⟨.ref d, upd H d (.lst (out.map backV)), I.laid (t' := s.toks) kp hd ⟨?_, out, n, vals_back h3, hn⟩, rfl, q _ d (by rw [← eq]; exact paired_back k hy) (I.hok.fresh hd)⟩
    rw [hb.len]
    exact hz
def pairsOf : List D → Option (List (Int × Int))
  | [] => some []
  | .tup [.int i, .int j] :: ds => (pairsOf ds).map fun ps => (i, j) :: ps
  | _ => none
def pD (p : Int × Int) : D := .tup [.int p.1, .int p.2]
section
variable {K : PySem.W.Frag} {ct : CT} {M : Addr → Prop} {io : List Addr} {H : Hp}
theorem pairs_eq : ∀ {ds : List D} {ps : List (Int × Int)}, pairsOf ds = some ps → ds = ps.map pD
  | [], ps, e => by
    unfold pairsOf at e
    cases e
    rfl
  | d :: ds, ps, e => by
    unfold pairsOf at e
    split at e
    · rename_i heq
      cases heq
    · rename_i i j ds' heq
      cases heq
      obtain ⟨qs, e1, rfl⟩ := Option.map_eq_some_iff.mp e
      rw [pairs_eq e1]
      rfl
    · cases e
theorem pairs_of : ∀ ps : List (Int × Int), pairsOf (ps.map pD) = some ps
  | [] => rfl
  | p :: ps => by
    show (pairsOf (ps.map pD)).map _ = _
    rw [pairs_of ps]
    rfl
theorem reps_prv : ∀ {ps : List (Int × Int)} {vs : List V}, Reps K M io H (ps.map pD) vs → Paired (PrV K H) vs ps
  | [], _, h => by
    cases h
    exact .nil
  | p :: ps, _, h => by
    cases h with
    | cons h1 h2 =>
      refine .cons ?_ (reps_prv h2)
      cases h1 with
      | @tup a vs _ h3 h4 =>
        have := Reps.ints (is := [p.1, p.2]) h4
        subst this
        exact ⟨a, rfl, h3⟩
theorem prv_reps {ps : List (Int × Int)} {vs : List V} (h : Paired (PrV K H) vs ps) : Reps K M io H (ps.map pD) vs := by
  induction h with
  | nil => exact .nil
  | @cons x p xs ps h1 h2 ih =>
    obtain ⟨t, rfl, e⟩ := h1
    exact .cons (.tup e (.cons (.int _) (.cons (.int _) .nil))) ih
def gSortP : List (Fl × D) → Option (D × Fl) := fun as => match as with
  | [(_, .lst ds)] => (pairsOf ds).map fun ps => (.lst ((sortP ps).map pD), .n)
  | _ => none
theorem ok_sortP : CalOk K ct (rSortPT K) gSortP := by
  intro M N io S H vs as res Q o q md e w
  unfold gSortP at e
  split at e
  · rename_i f ds
    obtain ⟨ps, e1, rfl⟩ := Option.map_eq_some_iff.mp e
    obtain ⟨v, rfl, r⟩ := args1 o
    obtain ⟨a, us, rfl, h1, h2⟩ := lst_of r
    rw [pairs_eq e1] at h2
    refine ⟨a, us, ps, rfl, SqL.of h1, reps_prv h2, fun ys l hy hl => w _ _ (Stp.upd hl) (new_lst hl hl md q (prv_reps hy))⟩
  · cases e
end
end Mv

set_option maxRecDepth 100000
set_option maxHeartbeats 2000000
/-! Mv21: a walk over the items of a dict of one's own; moving what is one's own; a display of one pair; `in` of dicts; pairs compared; dict(d) -/
namespace Mv
open PySem PySem.Spec PyProof.Rows L2
section
variable {K : PySem.W.Frag} {ct : CT} {M N : Addr → Prop} {io : List Addr} {H : Hp} {a : Addr} {od : Obj} {kvs : List (Key × V)}
mutual
theorem Rep.av (h : H a = some (.frz od (.dK kvs))) : ∀ {d : D} {v : V}, Rep K M io H d v → Rep K (fun b => M b ∨ b = a) io H d v
  | _, _, .non => .non
  | _, _, .bl b => .bl b
  | _, _, .int i => .int i
  | _, _, .str z => .str z
  | _, _, .lst e n r => .lst e (fun z => z.elim n fun q => by subst q; rw [h] at e; cases e) (Reps.av h r)
  | _, _, .frz e r => .frz (e.elim (fun e => .inl ⟨e.1, fun z => z.elim e.2 fun q => by
      subst q
      rcases e.1 with e | ⟨o, e⟩
      · rw [h] at e; cases e
      · rw [h] at e; cases e⟩) .inr) (Reps.av h r)
  | _, _, .tup e r => .tup e (Reps.av h r)
  | _, _, .dic e n q r => .dic e (fun z => z.elim n fun q => by subst q; rw [h] at e; cases e) q (Reps.av h r)
  | _, _, .ins e => .ins e
  | _, _, .cst => .cst
theorem Reps.av (h : H a = some (.frz od (.dK kvs))) : ∀ {d : List D} {v : List V}, Reps K M io H d v → Reps K (fun b => M b ∨ b = a) io H d v
  | _, _, .nil => .nil
  | _, _, .cons r t => .cons (Rep.av h r) (Reps.av h t)
end
end
section
variable {K : PySem.W.Frag} {ct : CT} {G : Gx} {r : Env} {S : Store} {io : List Addr} {s : St} {H : Hp} {i : Nat} {ks : List Key} {xs : List D} {a : Addr} {od : Obj} {kvs : List (Key × V)}
/-- the thing at a is locked -/
def Gx.lock (G : Gx) (a : Addr) (o : HO) : Gx := { G with M0 := fun x => G.M0 x ∨ x = a, H0 := upd G.H0 a o }
theorem frz_not_im : ¬ Im (.frz od (.dK kvs)) := fun h => by
  rcases h with ⟨_, h⟩ | ⟨_, _, h⟩ | ⟨_, h⟩ | ⟨_, h⟩ <;> cases h
theorem Ok.lock (k : Ok K ct G r S io s H) (e : r[i]? = some (.own (.dic ks xs))) (ea : s[i]? = some (some (V.ref a))) (hH : H a = some (.dK kvs)) : Ok K ct (G.lock a (.frz od (.dK kvs))) (r.set i .no) S io s (upd H a (.frz od (.dK kvs))) := by
  obtain ⟨a', e1, ow, m0, n0, h0⟩ := k.own i _ e
  rw [ea] at e1
  cases e1
  have mo : ∀ {x}, Mown (G.lock a (.frz od (.dK kvs))) (r.set i .no) s x → Mown G r s x ∧ x ≠ a := fun {x} h => by
    rcases h with h | ⟨j, u, h1, h2⟩
    · exact ⟨.inl h, fun z => n0 (z ▸ h)⟩
    · rcases get_set h1 with ⟨rfl, q, _⟩ | ⟨hj, q⟩
      · cases q
      · exact ⟨.inr ⟨j, u, q, h2⟩, fun z => hj (k.inj j i u _ a q e (z ▸ h2) ea).symm⟩
  have ma : Mown G r s a := .inr ⟨i, _, e, ea⟩
  have ml : ∀ {x}, Mall (G.lock a (.frz od (.dK kvs))) (r.set i .no) s x → Mall G r s x := fun {x} h => by
    rcases h with (h | h) | h
    · exact .inl h
    · exact .inr (h ▸ ma)
    · exact .inr (mo h).1
  have kp : ∀ N : Addr → Prop, N a → Kp N H (upd H a (.frz od (.dK kvs))) := fun N na b u q ni z => by
    rw [upd_ne]
    · exact q
    · rintro rfl
      rcases z with z | z
      · exact z na
      · rw [hH] at q
        cases q
        exact not_im_dK z
  have ne : ∀ {b o}, H b = some o → (∀ l, o ≠ .dK l) → b ≠ a := fun q n z => by
    subst z
    rw [hH] at q
    cases q
    exact n _ rfl
  refine ⟨by rw [List.length_set]; exact k.len, fun j f u q => ?_, fun j u q => ?_, fun j j' u u' b q q' z z' => ?_, ?_, ?_, fun b h => ?_, fun b h => ?_, fun p hp => ?_, k.dp.gen (M := Mown G r s) rfl (fun _ z => z) (dp_set0 fun _ _ z => by cases z) (kp _ ma) (fun b o nb _ q _ => by rw [upd_ne (show b ≠ a from fun z => n0 (z ▸ nb))]; exact q) io_refl⟩
  · rcases get_set q with ⟨rfl, q, _⟩ | ⟨hj, q⟩
    · cases q
    · obtain ⟨v, h1, h2⟩ := k.arg j f u q
      exact ⟨v, h1, h2.mono (kp _ (.inr ma)) (kp _ ma) (fun _ _ n z => n (ml z)) (fun _ _ n z => n (mo z).1) io_refl⟩
  · rcases get_set q with ⟨rfl, q, _⟩ | ⟨hj, q⟩
    · cases q
    · obtain ⟨b, h1, h2, h3, h4, h5⟩ := k.own j u q
      have nb : b ≠ a := fun z => hj (k.inj j i u _ a q e (z ▸ h1) ea).symm
      refine ⟨b, h1, h2.mono (kp _ (.inr ma)) (fun _ _ n z => n (ml z)) io_refl fun o q _ => by rw [upd_ne nb]; exact q, fun z => z.elim h3 nb, h4, ?_⟩
      show (upd G.H0 a _) b = none
      rw [upd_ne nb]
      exact h5
  · rcases get_set q with ⟨rfl, q, _⟩ | ⟨hj, q⟩
    · cases q
    · rcases get_set q' with ⟨rfl, q', _⟩ | ⟨hj', q'⟩
      · cases q'
      · exact k.inj j j' u u' b q q' z z'
  · exact k.sto.mono (kp _ (.inr ma)) (fun _ _ n z => n (ml z)) (fun b C dx fs _ q => by rw [upd_ne (ne q fun _ z => by cases z)]; exact q) fun b ps q => by rw [upd_ne (ne q fun _ z => by cases z)]; exact q
  · have T := k.stp
    have hn : ∀ {b o}, G.H0 b = some o → b ≠ a := fun q z => by
      subst z
      rw [h0] at q
      cases q
    refine ⟨fun b o q n => ?_, fun b o q n nt => ?_, T.pre, fun b z n => ?_, fun b o q => ?_, fun pu b o q => by
      by_cases hb : b = a
      · subst hb
        have q : (upd G.H0 b (HO.frz od (.dK kvs))) b = some o := q
        rw [upd_same] at q ⊢
        exact q
      · have q : (upd G.H0 a (HO.frz od (.dK kvs))) b = some o := q
        rw [upd_ne hb] at q ⊢
        exact T.k3 pu b o q⟩
    · by_cases hb : b = a
      · subst hb
        have q : (upd G.H0 b (HO.frz od (.dK kvs))) b = some o := q
        rw [upd_same] at q ⊢
        exact q
      · have q : (upd G.H0 a (HO.frz od (.dK kvs))) b = some o := q
        rw [upd_ne hb] at q ⊢
        exact T.k1 b o q n
    · by_cases hb : b = a
      · subst hb
        have q : (upd G.H0 b (HO.frz od (.dK kvs))) b = some o := q
        rw [upd_same] at q ⊢
        exact q
      · have q : (upd G.H0 a (HO.frz od (.dK kvs))) b = some o := q
        rw [upd_ne hb] at q ⊢
        exact T.k2 b o q n nt
    · have hb : b ≠ a := fun y => by
        subst y
        obtain ⟨n', hn'⟩ := List.getElem?_of_mem z
        have hl := (List.getElem?_eq_some_iff.mp hn').1
        rw [← k.sto.len] at hl
        obtain ⟨a2, o2, q1, q2⟩ := k.sto.io_at hl
        rw [hn'] at q1
        cases q1
        cases hx : ct.ex (S[n']'hl).1 with
        | false =>
          obtain ⟨a3, dx, gs, w1, w2, _⟩ := k.sto.at_ n' _ _ (List.getElem?_eq_getElem hl) hx
          rw [hn'] at w1
          cases w1
          rw [hH] at w2
          cases w2
        | true =>
          obtain ⟨a3, d3, w1, w2, _⟩ := k.sto.ax n' _ _ (List.getElem?_eq_getElem hl) hx
          rw [hn'] at w1
          cases w1
          rw [hH] at w2
          cases w2
      show (upd G.H0 a _) b = none
      rw [upd_ne hb]
      exact T.new b z n
    · by_cases hb : b = a
      · subst hb
        exact ⟨_, upd_same⟩
      · have q : (upd G.H0 a (HO.frz od (.dK kvs))) b = some o := q
        rw [upd_ne hb] at q
        obtain ⟨o', q'⟩ := T.dom b o q
        exact ⟨o', by rw [upd_ne hb]; exact q'⟩
  · rcases h with h | rfl
    · obtain ⟨o, q, n⟩ := k.m0 b h
      exact ⟨o, by rw [upd_ne (show b ≠ a from fun z => m0 (z ▸ h))]; exact q, n⟩
    · exact ⟨_, upd_same, NI.frz⟩
  · obtain ⟨o, ⟨h1, h1'⟩, h2, h3, h4⟩ := k.n0 b h
    have nb : b ≠ a := fun z => n0 (z ▸ h)
    refine ⟨o, ⟨by rw [upd_ne nb]; exact h1, h1'⟩, fun z => z.elim h2 nb, ?_, h4⟩
    show (upd G.H0 a _) b = none
    rw [upd_ne nb]
    exact h3
  · exact (k.held p hp).mono (kp _ (.inr ma)) (kp _ ma) (fun _ _ n z => n (ml z)) (fun _ _ n z => n (mo z).1) io_refl
theorem Ok.unlock (h0 : G.H0 a = none) (m0 : ¬ G.M0 a) (n0 : ¬ G.N0 a) (k : Ok K ct (G.lock a (.frz od (.dK kvs))) r S io s H) : Ok K ct G r S io s (upd H a (.dK kvs)) := by
  have hf : H a = some (.frz od (.dK kvs)) := k.stp.k1 a _ upd_same NI.frz
  have mo : Mown (G.lock a (.frz od (.dK kvs))) r s = Mown G r s := rfl
  have ml : ∀ {x}, Mall G r s x → Mall (G.lock a (.frz od (.dK kvs))) r s x := fun {x} h => h.elim (fun h => .inl (.inl h)) .inr
  have ma : Mall (G.lock a (.frz od (.dK kvs))) r s a := .inl (.inr rfl)
  have kp : ∀ N : Addr → Prop, N a → Kp N H (upd H a (.dK kvs)) := fun N na b u q ni z => by
    rw [upd_ne]
    · exact q
    · rintro rfl
      rcases z with z | z
      · exact z na
      · rw [hf] at q
        cases q
        exact frz_not_im z
  have ne : ∀ {b o}, H b = some o → o ≠ .frz od (.dK kvs) → b ≠ a := fun q n z => by
    subst z
    rw [hf] at q
    cases q
    exact n rfl
  have hn : ∀ {b o}, G.H0 b = some o → b ≠ a := fun q z => by
    subst z
    rw [h0] at q
    cases q
  have ar : ∀ {f d v}, ArgF K (Mall (G.lock a (.frz od (.dK kvs))) r s) (Mown G r s) io H f d v → ArgF K (Mall G r s) (Mown G r s) io (upd H a (.dK kvs)) f d v := fun {f d v} h => by
    have m : ∀ b, (∃ o, H b = some o) → ¬ Mall (G.lock a (.frz od (.dK kvs))) r s b → ¬ Mall G r s b := fun b _ n z => n (ml z)
    have go : (Rep K (Mall (G.lock a (.frz od (.dK kvs))) r s) io H d v ∨ ∃ b, v = .ref b ∧ OwnAt K (Mall (G.lock a (.frz od (.dK kvs))) r s) io H d b ∧ ¬ Mown G r s b) → (Rep K (Mall G r s) io (upd H a (.dK kvs)) d v ∨ ∃ b, v = .ref b ∧ OwnAt K (Mall G r s) io (upd H a (.dK kvs)) d b ∧ ¬ Mown G r s b) := fun h => by
      rcases h with h | ⟨b, e, h, z⟩
      · exact .inl (Rep.mono (kp _ ma) m io_refl h)
      · refine .inr ⟨b, e, h.mono (kp _ ma) m io_refl fun o q _ => ?_, z⟩
        rw [upd_ne]
        · exact q
        · rcases h with ⟨_, _, _, w, _⟩ | ⟨_, _, _, _, w, _⟩
          · exact ne w fun z => by cases z
          · exact ne w fun z => by cases z
    cases f with
    | c => exact Rep.mono (kp _ ma) m io_refl h
    | n => exact Rep.mono (kp _ ma) m io_refl h
    | b => exact go h
    | o => exact go h
    | t => exact Rep.mono (kp _ (.inr rfl)) (fun b _ n z => n (.inl z)) io_refl (Rep.av hf h)
  refine ⟨k.len, fun j f u q => ?_, fun j u q => ?_, k.inj, ?_, ?_, fun b h => ?_, fun b h => ?_, fun p hp => ar (k.held p hp), k.dp.gen rfl (fun _ z => z) (fun _ _ _ e => ⟨e, rfl⟩) (kp _ ma) (fun b o nb _ q _ => by rw [upd_ne (show b ≠ a from fun z => n0 (z ▸ nb))]; exact q) io_refl⟩
  · obtain ⟨v, h1, h2⟩ := k.arg j f u q
    exact ⟨v, h1, ar h2⟩
  · obtain ⟨b, h1, h2, h3, h4, h5⟩ := k.own j u q
    have nb : b ≠ a := fun z => h3 (.inr z)
    have h5 : (upd G.H0 a _) b = none := h5
    rw [upd_ne nb] at h5
    exact ⟨b, h1, h2.mono (kp _ ma) (fun _ _ n z => n (ml z)) io_refl fun o q _ => by rw [upd_ne nb]; exact q, fun z => h3 (.inl z), h4, h5⟩
  · exact k.sto.mono (kp _ ma) (fun _ _ n z => n (ml z)) (fun b C dx fs _ q => by rw [upd_ne (ne q fun z => by cases z)]; exact q) fun b ps q => by rw [upd_ne (ne q fun z => by cases z)]; exact q
  · have T := k.stp
    refine ⟨fun b o q n => ?_, fun b o q n nt => ?_, T.pre, fun b z n => ?_, fun b o q => ?_, fun pu b o q => by
      have nb := hn q
      rw [upd_ne nb]
      exact T.k3 pu b o (by show (upd G.H0 a _) b = some o; rw [upd_ne nb]; exact q)⟩
    · have nb := hn q
      rw [upd_ne nb]
      exact T.k1 b o (by show (upd G.H0 a _) b = some o; rw [upd_ne nb]; exact q) n
    · have nb := hn q
      rw [upd_ne nb]
      exact T.k2 b o (by show (upd G.H0 a _) b = some o; rw [upd_ne nb]; exact q) n nt
    · have q : (upd G.H0 a (HO.frz od (.dK kvs))) b = none := T.new b z n
      by_cases hb : b = a
      · subst hb
        exact h0
      · rw [upd_ne hb] at q
        exact q
    · have nb := hn q
      obtain ⟨o', q'⟩ := T.dom b o (by show (upd G.H0 a _) b = some o; rw [upd_ne nb]; exact q)
      exact ⟨o', by rw [upd_ne nb]; exact q'⟩
  · obtain ⟨o, q, n⟩ := k.m0 b (.inl h)
    exact ⟨o, by rw [upd_ne (show b ≠ a from fun z => m0 (z ▸ h))]; exact q, n⟩
  · obtain ⟨o, ⟨h1, h1'⟩, h2, h3, h4⟩ := k.n0 b h
    have nb : b ≠ a := fun z => n0 (z ▸ h)
    have h3 : (upd G.H0 a _) b = none := h3
    rw [upd_ne nb] at h3
    exact ⟨o, ⟨by rw [upd_ne nb]; exact h1, h1'⟩, fun z => h2 (.inl z), h3, h4⟩
end
/-! ### for k, x in d.items(), d one's own -/
def itemsD : List Key → List D → List D
  | k :: ks, x :: xs => .tup [kD k, x] :: itemsD ks xs
  | _, _ => []
theorem itemsD_len : ∀ (ks : List Key) (xs : List D), ks.length = xs.length → (itemsD ks xs).length = ks.length
  | [], [], _ => rfl
  | k :: ks, x :: xs, h => by
    show (itemsD ks xs).length + 1 = ks.length + 1
    rw [itemsD_len ks xs (by simpa using h)]
  | [], _ :: _, h => by cases h
  | _ :: _, [], h => by cases h
theorem itemsD_get : ∀ (ks : List Key) (xs : List D) (j : Nat) (k : Key) (x : D), ks[j]? = some k → xs[j]? = some x → (itemsD ks xs)[j]? = some (.tup [kD k, x])
  | k' :: ks, x' :: xs, 0, k, x, h1, h2 => by
    cases h1
    cases h2
    rfl
  | k' :: ks, x' :: xs, j + 1, k, x, h1, h2 => itemsD_get ks xs j k x h1 h2
  | [], _, _, _, _, h1, _ => by simp at h1
  | _ :: _, [], _, _, _, _, h2 => by simp at h2
def sItm (i : Nat) (g : GM) (b : SM) : SM := fun r S => match r[i]? with
  | some (.own (.dic ks xs)) => match forL g b (itemsD ks xs) (r.set i .no) S with
    | .nx r' S' => .nx r' S'
    | _ => .no
  | _ => .no
section
variable {X : Cx} {ct : CT} {pos : Pos}
theorem ms_itm {i kk : Nat} {y : Str} {p apos cpos tpos : Pos} {elts : List Expr} {body : List Stmt} {ts : List Nat} {g : GM} {b : SM} (hc : X.calm = true) (hx : PE X (.Name y p) (tVar i)) (hg : MG X ct (.Tuple elts kk tpos) ts g) (hb : MSs X ct body b)
    (hbase : attributeBase (.Name y p) "items" X.env (eval (.Name y p) X.env) = eval (.Name y p) X.env := by rfl) (hline : (apos.endLine == cpos.line) = true := by rfl)
    (hs : ∀ x, foldedSetIterable (.Call (.Attribute (.Name y p) "items" apos) [] [] cpos) X.env x = pure x := by intro _; rfl) : MS X ct (.For (.Tuple elts kk tpos) (.Call (.Attribute (.Name y p) "items" apos) [] [] cpos) body [] pos) (sItm i g b) := by
  refine ⟨fun G W tk po => (ps_lock (ps_for po hc (pi_items hx hbase hline) (PG.ex fun G' : Gx => hg.run G') (PSs.ex fun G' : Gx => hb.run G' W tk po) hs)).imp fun De s H h => ?_⟩
  obtain ⟨r, S, io, k, h⟩ := h
  unfold sItm at h
  split at h
  · rename_i ks xs e
    obtain ⟨a, ea, ow, m0, n0, h0⟩ := k.own i _ e
    obtain ⟨kvs, hH, rfl, hr⟩ := own_dic ow
    refine ⟨a, .dK kvs, hH, trivial, fun od => ⟨.ref a, ea, a, od, kvs, rfl, upd_same, ?_⟩⟩
    have kl := k.lock (od := od) e ea hH
    have ekl : (itemsD (kvs.map Prod.fst) xs).length = kvs.length := by
      rw [itemsD_len _ _ (by rw [List.length_map, hr.len, List.length_map]), List.length_map]
    -- the values of the dict are held
    have hv : ∀ p ∈ (List.zipWith (fun x (v : V) => (Fl.c, x, v)) xs (kvs.map Prod.snd)), ArgF X.K (Mall (G.lock a (.frz od (.dK kvs))) (r.set i .no) s) (Mown (G.lock a (.frz od (.dK kvs))) (r.set i .no) s) io (upd H a (.frz od (.dK kvs))) p.1 p.2.1 p.2.2 := fun p hp => by
      obtain ⟨j, hj⟩ := List.getElem?_of_mem hp
      rw [List.getElem?_zipWith] at hj
      have ex : ∃ x v, xs[j]? = some x ∧ (kvs.map Prod.snd)[j]? = some v ∧ p = (Fl.c, x, v) := by
        cases q1 : xs[j]? with
        | none => rw [q1] at hj; cases hj
        | some x =>
          cases q2 : (kvs.map Prod.snd)[j]? with
          | none => rw [q1, q2] at hj; cases hj
          | some v =>
            rw [q1, q2] at hj
            cases hj
            exact ⟨x, v, rfl, rfl, rfl⟩
      obtain ⟨x, v, q1, q2, rfl⟩ := ex
      obtain ⟨v', q3, q4⟩ := hr.get q1
      rw [q2] at q3
      cases q3
      -- a value of one's own dict does not hold what is one's own
      refine Rep.mono (M := Mall G r s) (fun b u q ni z => ?_) (fun b _ n z => n ?_) io_refl q4
      · rw [upd_ne]
        · exact q
        · rintro rfl
          rcases z with z | z
          · exact z (.inr (.inr ⟨i, _, e, ea⟩))
          · rw [hH] at q
            cases q
            exact not_im_dK z
      · rcases z with (z | z) | z
        · exact .inl z
        · exact .inr (.inr ⟨i, _, e, z ▸ ea⟩)
        · rcases z with z | ⟨j, u, z1, z2⟩
          · exact .inr (.inl z)
          · rcases get_set z1 with ⟨_, z1, _⟩ | ⟨_, z1⟩
            · cases z1
            · exact .inr (.inr ⟨j, u, z1, z2⟩)
    have kh := kl.hold hv
    generalize hhv : List.zipWith (fun x (v : V) => (Fl.c, x, v)) xs (kvs.map Prod.snd) = held at *
    generalize hds : itemsD (kvs.map Prod.fst) xs = ds at *
    have hfin : ∀ {r' S' s' io' H'}, Ok X.K ct { G.lock a (.frz od (.dK kvs)) with held := held ++ (G.lock a (.frz od (.dK kvs))).held } r' S' io' s' H' → H' a = some (.frz od (.dK kvs)) := fun k' => k'.stp.k1 a _ upd_same NI.frz
    have h1 : ∃ r1 S1, forL g b ds (r.set i .no) S = .nx r1 S1 ∧ SRes X.K ct G W De (.nx r1 S1) := by
      cases q : forL g b ds (r.set i .no) S with
      | nx r1 S1 => rw [q] at h; exact ⟨r1, S1, rfl, h⟩
      | ct r1 S1 => rw [q] at h; exact h.elim
      | bk r1 S1 => rw [q] at h; exact h.elim
      | rt d f S1 => rw [q] at h; exact h.elim
      | er c p r1 S1 => rw [q] at h; exact h.elim
      | no => rw [q] at h; exact h.elim
    obtain ⟨r1, S1, q1, h1⟩ := h1
    have h2 : SRes X.K ct (G.lock a (.frz od (.dK kvs))) W ⟨fun σ' H' => H' a = some (.frz od (.dK kvs)) ∧ De.nx σ' (upd H' a (.dK kvs)), fun v H' => H' a = some (.frz od (.dK kvs)) ∧ De.rt v (upd H' a (.dK kvs)), fun σ' H' => H' a = some (.frz od (.dK kvs)) ∧ De.bk σ' (upd H' a (.dK kvs)), fun σ' H' => H' a = some (.frz od (.dK kvs)) ∧ De.ct σ' (upd H' a (.dK kvs))⟩ (forL g b ds (r.set i .no) S) := by
      rw [q1]
      exact fun s' io' H' k' => ⟨k'.stp.k1 a _ upd_same NI.frz, h1 s' io' _ (k'.unlock h0 m0 n0)⟩
    generalize (⟨fun σ' H' => H' a = some (.frz od (.dK kvs)) ∧ De.nx σ' (upd H' a (.dK kvs)), fun v H' => H' a = some (.frz od (.dK kvs)) ∧ De.rt v (upd H' a (.dK kvs)), fun σ' H' => H' a = some (.frz od (.dK kvs)) ∧ De.bk σ' (upd H' a (.dK kvs)), fun σ' H' => H' a = some (.frz od (.dK kvs)) ∧ De.ct σ' (upd H' a (.dK kvs))⟩ : Ends) = D1 at *
    have w := walk_items (d := a) (o := od) (kvs := kvs)
    refine ⟨fun j m s H => m = ds.length - j ∧ j ≤ ds.length ∧ ∃ r S io, Ok X.K ct { G.lock a (.frz od (.dK kvs)) with held := held ++ (G.lock a (.frz od (.dK kvs))).held } r S io s H ∧ SRes X.K ct (G.lock a (.frz od (.dK kvs))) W D1 (forL g b (ds.drop j) r S), ⟨_, rfl, Nat.zero_le _, _, S, io, kh, h2⟩, fun j m s H ⟨hm, hj, r, S, io, k, h⟩ => ?_⟩
    by_cases hlt : j < ds.length
    · refine .inr ⟨w.goes j H (by omega) (hfin k), fun s' H' => ∃ r S io, Ok X.K ct { G.lock a (.frz od (.dK kvs)) with held := held ++ (G.lock a (.frz od (.dK kvs))).held } r S io s' H' ∧ SRes X.K ct (G.lock a (.frz od (.dK kvs))) W D1 (forL g b (ds.drop (j + 1)) r S), fun s' H' n => ⟨ds.length - (j + 1), by omega, rfl, hlt, n⟩, fun x H' y => ?_⟩
      obtain ⟨T, kx, vx, rfl, nT, rfl, e1, e2⟩ := w.yields j H x H' (by omega) (hfin k) y
      have hjk : j < kvs.length := by omega
      dsimp only at e1 e2
      rw [List.getElem?_eq_getElem hjk] at e1 e2
      cases e1
      cases e2
      have gv : (kvs.map Prod.snd)[j]? = some kvs[j].2 := by rw [List.getElem?_map, List.getElem?_eq_getElem hjk]; rfl
      have gk : (kvs.map Prod.fst)[j]? = some kvs[j].1 := by rw [List.getElem?_map, List.getElem?_eq_getElem hjk]; rfl
      obtain ⟨d, gd, _⟩ := hr.getV gv
      have hd : ds[j]? = some (.tup [kD kvs[j].1, d]) := by
        rw [← hds]
        exact itemsD_get _ _ _ _ _ gk gd
      have rd : Rep X.K (Mall (G.lock a (.frz od (.dK kvs))) r s) io H d kvs[j].2 := k.held (Fl.c, d, kvs[j].2) (List.mem_append_left _ (by
        rw [← hhv]
        refine List.mem_of_getElem? (i := j) ?_
        rw [List.getElem?_zipWith, gd, gv]))
      have ed : ds.drop j = .tup [kD kvs[j].1, d] :: ds.drop (j + 1) := by
        rw [List.drop_eq_getElem_cons hlt]
        rw [List.getElem?_eq_getElem hlt] at hd
        rw [Option.some.inj hd]
      rw [ed] at h
      have k' := k.step (Stp.upd nT) (k.sto.upd nT (o := .tup [kV kvs[j].1, kvs[j].2]))
      have rk : Rep X.K (Mall (G.lock a (.frz od (.dK kvs))) r s) io (upd H T (.tup [kV kvs[j].1, kvs[j].2])) (kD kvs[j].1) (kV kvs[j].1) := by
        cases kvs[j].1 with
        | inl i => exact .int i
        | inr z => exact .str z
      refine ⟨{ G.lock a (.frz od (.dK kvs)) with held := held ++ (G.lock a (.frz od (.dK kvs))).held }, r, S, io, _, k', .tup (SqT.of upd_same) (.cons rk (.cons (rd.stp (Stp.upd (ct := ct) nT)) .nil)), ?_⟩
      unfold forL at h
      cases e2 : g (.tup [kD kvs[j].1, d]) r with
      | none => rw [e2] at h; exact h
      | some r1 =>
        rw [e2] at h
        intro s2 _ _ k2
        refine ⟨{ G.lock a (.frz od (.dK kvs)) with held := held ++ (G.lock a (.frz od (.dK kvs))).held }, r1, S, io, k2, ?_⟩
        have h : SRes X.K ct (G.lock a (.frz od (.dK kvs))) W D1 (match b r1 S with
          | .nx r' S' => forL g b (ds.drop (j + 1)) r' S'
          | .ct r' S' => forL g b (ds.drop (j + 1)) r' S'
          | .bk r' S' => .nx r' S'
          | x => x) := h
        cases e3 : b r1 S with
        | nx r' S' => rw [e3] at h; exact fun s' io' H' k' => ⟨r', S', io', k', h⟩
        | ct r' S' => rw [e3] at h; exact fun s' io' H' k' => ⟨r', S', io', k', h⟩
        | bk r' S' => rw [e3] at h; exact fun s' io' H' k' => h s' io' H' k'.drop
        | rt d f S' => rw [e3] at h; exact h
        | er c p r' S' => rw [e3] at h; exact fun dx s' io' H' k' e => h dx s' io' H' k'.drop e
        | no => rw [e3] at h; exact h
    · have ei : j = ds.length := by omega
      subst ei
      have hs2 := w.stops H (hfin k)
      rw [← ekl] at hs2
      refine .inl ⟨hs2, ?_⟩
      rw [List.drop_length] at h
      exact h s io H k.drop
  · exact h.elim
end
/-! ### x = y, y one's own: it is x's own from now on, y is known no more -/
section
variable {K : PySem.W.Frag} {ct : CT} {G : Gx} {r : Env} {S : Store} {io : List Addr} {s : St} {H : Hp} {i j : Nat} {d : D} {a : Addr}
theorem Ok.move (k : Ok K ct G r S io s H) (e : r[j]? = some (.own d)) (ea : s[j]? = some (some (V.ref a))) (hij : i ≠ j) (hi : i < r.length) : Ok K ct G ((r.set j .no).set i (.own d)) S io (s.set i (some (V.ref a))) H := by
  obtain ⟨a', e1, ow, m0, n0, h0⟩ := k.own j _ e
  rw [ea] at e1
  cases e1
  have at_ : ∀ {l u}, ((r.set j .no).set i (.own d))[l]? = some u → (l = i ∧ u = .own d) ∨ (l ≠ i ∧ l ≠ j ∧ r[l]? = some u) ∨ (l ≠ i ∧ u = .no) := fun {l u} q => by
    rcases get_set q with ⟨rfl, q, _⟩ | ⟨hl, q⟩
    · exact .inl ⟨rfl, q.symm⟩
    · rcases get_set q with ⟨rfl, q, _⟩ | ⟨hl', q⟩
      · exact .inr (.inr ⟨fun z => hl z.symm, q.symm⟩)
      · exact .inr (.inl ⟨fun z => hl z.symm, fun z => hl' z.symm, q⟩)
  have sl : i < s.length := by rw [← k.len]; exact hi
  have si : (s.set i (some (V.ref a)))[i]? = some (some (V.ref a)) := List.getElem?_set_self sl
  have sn : ∀ {l}, l ≠ i → (s.set i (some (V.ref a)))[l]? = s[l]? := fun h => List.getElem?_set_ne fun z => h z.symm
  have mo : ∀ {x}, Mown G ((r.set j .no).set i (.own d)) (s.set i (some (V.ref a))) x → Mown G r s x := fun {x} h => by
    rcases h with h | ⟨l, u, h1, h2⟩
    · exact .inl h
    · rcases at_ h1 with ⟨rfl, _⟩ | ⟨n1, n2, q⟩ | ⟨_, q⟩
      · rw [si] at h2
        cases h2
        exact .inr ⟨j, d, e, ea⟩
      · rw [sn n1] at h2
        exact .inr ⟨l, u, q, h2⟩
      · cases q
  have ml : ∀ {x}, Mall G ((r.set j .no).set i (.own d)) (s.set i (some (V.ref a))) x → Mall G r s x := fun h => h.elim .inl fun h => .inr (mo h)
  refine ⟨by simp [k.len], fun l f u q => ?_, fun l u q => ?_, fun l l' u u' b q q' z z' => ?_, k.sto.anti fun _ z => ml z, k.stp, k.m0, k.n0, fun p hp => (k.held p hp).mono Kp.refl Kp.refl (fun _ _ n z => n (ml z)) (fun _ _ n z => n (mo z)) io_refl, k.dp.env rfl (fun _ z => z) fun l b u q => by
    rcases at_ q with ⟨_, q2⟩ | ⟨n1, n2, q2⟩ | ⟨_, q2⟩
    · cases q2
    · exact ⟨q2, sn n1⟩
    · cases q2⟩
  · rcases at_ q with ⟨_, q2⟩ | ⟨n1, n2, q2⟩ | ⟨_, q2⟩
    · cases q2
    · obtain ⟨v, h1, h2⟩ := k.arg l f u q2
      exact ⟨v, by rw [sn n1]; exact h1, h2.mono Kp.refl Kp.refl (fun _ _ n z => n (ml z)) (fun _ _ n z => n (mo z)) io_refl⟩
    · cases q2
  · rcases at_ q with ⟨rfl, q2⟩ | ⟨n1, n2, q2⟩ | ⟨_, q2⟩
    · cases q2
      exact ⟨a, si, ow.anti fun _ z => ml z, m0, n0, h0⟩
    · obtain ⟨b, h1, h2, h3⟩ := k.own l u q2
      exact ⟨b, by rw [sn n1]; exact h1, h2.anti fun _ z => ml z, h3⟩
    · cases q2
  · rcases at_ q with ⟨e1, _⟩ | ⟨n1, n2, q2⟩ | ⟨_, q2⟩
    · subst e1
      rcases at_ q' with ⟨e2, _⟩ | ⟨n1', n2', q2'⟩ | ⟨_, q2'⟩
      · exact e2.symm
      · rw [si] at z
        cases z
        rw [sn n1'] at z'
        exact absurd (k.inj l' j u' d a q2' e z' ea) n2'
      · cases q2'
    · rcases at_ q' with ⟨e2, _⟩ | ⟨n1', n2', q2'⟩ | ⟨_, q2'⟩
      · subst e2
        rw [si] at z'
        cases z'
        rw [sn n1] at z
        exact absurd (k.inj l j u d a q2 e z ea) n2
      · rw [sn n1] at z
        rw [sn n1'] at z'
        exact k.inj l l' u u' b q2 q2' z z'
      · cases q2'
    · cases q2
end
def sMove (i j : Nat) : SM := fun r S => match r[j]? with
  | some (.own d) => if i ≠ j ∧ i < r.length then .nx ((r.set j .no).set i (.own d)) S else .no
  | _ => .no
section
variable {X : Cx} {ct : CT} {pos : Pos}
theorem ms_move {i j : Nat} {x y : Str} {p pos' : Pos} (hN : X.N.Nodup) (hi : X.N[i]? = some x) (hx : Loc X.env.scope x) (hy : PE X (.Name y p) (tVar j)) (hs : swapsWith (.Name y p) (some (.Name x pos')) pos.line X.env = pure false := by rfl) (hf : X.fn x = true ∨ X.env.scope.names.lookup x = some .local := by first | exact .inl rfl | exact .inr rfl | assumption) :
    MS X ct (.Assign [.Name x pos'] (.Name y p) pos) (sMove i j) := ⟨fun G W tk _ => (ps_set hN hi hx hy hs hf).imp fun De s H ⟨r, S, io, k, h⟩ => by
  unfold sMove at h
  split at h
  · rename_i d e
    split at h
    · rename_i g
      obtain ⟨a, ea, _⟩ := k.own j _ e
      exact ⟨.ref a, ea, h _ io H (k.move e ea g.1 g.2)⟩
    · exact h.elim
  · exact h.elim⟩
/-! ### {k: (i, j)} of constants -/
def eDict1 (k i j : Int) : EM := fun _ S => .ok (.dic [.inl k] [.tup [.int i, .int j]], .n) S
theorem me_dict1 {k i j : Int} {p1 p2 p3 p4 : Pos} {k1 k2 k3 : Nat} {kt : Nat} : ME X ct (.Dict [some (.Constant (.int k) k1 p1)] [.Tuple [.Constant (.int i) k2 p2, .Constant (.int j) k3 p3] kt p4] pos) (eDict1 k i j) :=
  ⟨fun G W tk => (pe_disp (pps_cons (pe_int (i := k)) (pe_tup (pa_cons (pe_int (i := i)) (pa_cons (pe_int (i := j)) pa_nil))) pps_nil) rfl rfl (by simp) (Nat.le_of_ble_eq_true rfl)).imp fun s H Q ⟨r, S, io, kk, h⟩ p hp => by
    refine ⟨by show 2 ≤ sizeLine; decide, fun t ht => ?_⟩
    have nt : t ≠ p := fun z => by
      subst z
      rw [upd_same] at ht
      cases ht
    have hH : (upd (upd H p (.dK [])) t (.tup [.int i, .int j])) p = some (.dK []) := by
      rw [upd_ne nt.symm, upd_same]
    refine ⟨hH, [(.inl k, .ref t)], rfl, Nat.le_of_ble_eq_true rfl, ?_⟩
    have tH : H t = none := by
      rw [upd_ne nt] at ht
      exact ht
    have s1 : Stp ct io H io (upd (upd H t (.tup [.int i, .int j])) p (.dK [(.inl k, .ref t)])) := (Stp.upd tH).trans (Stp.upd (by rw [upd_ne nt.symm]; exact hp))
    have eH : upd (upd (upd H p (.dK [])) t (.tup [.int i, .int j])) p (.dK [(.inl k, .ref t)]) = upd (upd H t (.tup [.int i, .int j])) p (.dK [(.inl k, .ref t)]) := by
      funext b
      by_cases hb : b = p
      · subst hb
        rw [upd_same, upd_same]
      · rw [upd_ne hb, upd_ne hb]
        by_cases ht' : b = t
        · subst ht'
          rw [upd_same, upd_same]
        · rw [upd_ne ht', upd_ne ht', upd_ne hb]
    show Q (.ref p) (upd (upd (upd H p (.dK [])) t (.tup [.int i, .int j])) p (.dK [(.inl k, .ref t)]))
    rw [eH]
    have np : ¬ Mall G r s p := fun z => by
      obtain ⟨o, e, _⟩ := kk.mdom p z
      rw [hp] at e
      cases e
    have q1 : StoOk X.K ct (Mall G r s) io S (upd (upd H t (.tup [.int i, .int j])) p (.dK [(.inl k, .ref t)])) := (kk.sto.upd tH).upd (by rw [upd_ne nt.symm]; exact hp)
    have hu : (upd H t (.tup [.int i, .int j])) p = none := by rw [upd_ne nt.symm]; exact hp
    refine h io _ s1 q1 (.ref p) ⟨p, rfl, hp, np, .inr ⟨[.inl k], [.tup [.int i, .int j]], [(.inl k, .ref t)], rfl, upd_same, rfl, .cons (.tup (SqT.of ?_) (.cons (.int i) (.cons (.int j) .nil))) .nil⟩, ?_⟩
    · rw [upd_ne nt, upd_same]
    · exact ((kk.sto.upd tH).off hu).upd hu⟩
/-! ### k not in d; pairs compared; dict(d) -/
def gDNi : D × Fl → D × Fl → Option (D × Fl) := fun a b => match b.1 with
  | .dic ks xs => match keyD a.1 with
    | some k => some (.bl (!(getK ks xs k).isSome), .c)
    | none => none
  | _ => none
def rDNi : R2 := fun x y H Q => ∃ a o, y = .ref a ∧ DGet H a x o ∧ Q (.bl (!o.isSome)) H
theorem ok_dni {K : PySem.W.Frag} {ct : CT} : BinOk K ct rDNi gDNi := by
  rintro M N io S H x y ⟨a, fa⟩ ⟨b, fb⟩ res Q ra rb q md e w
  unfold gDNi at e
  dsimp only at e ra rb
  split at e
  · rename_i ks xs
    split at e
    · rename_i k ek
      cases e
      obtain ⟨p, kvs, rfl, h1, rfl, h2, h3⟩ := dic_of rb
      obtain rfl := key_val ek ra
      have g3 := getK_val k h3
      have w := w _ _ Stp.refl (ResOk.c (.bl _) q)
      refine ⟨p, valV kvs k, rfl, DGet.k h1, ?_⟩
      cases hg : getK (kvs.map Prod.fst) xs k with
      | none =>
        rw [hg] at g3 w
        have g3 : valV kvs k = none := g3
        rw [g3]
        exact w
      | some d =>
        rw [hg] at g3 w
        obtain ⟨v, y1, y2⟩ := g3
        rw [y1]
        exact w
    · cases e
  · cases e
theorem me_dni {a b : Expr} {ma mb : EM} (hu : X.A.units + 64 < cLine) (ha : ME X ct a ma) (hb : ME X ct b mb) (hm : behindInMarks .NotIn b = false := by rfl) : ME X ct (.Compare a [.NotIn] [b] pos) (eBin gDNi ma mb) :=
  ⟨fun G W tk => (pe_cmp (pc_dnotin (hu1 hu) (ha.run G W tk) (hb.run G W tk)) hm).imp fun s H Q h => bin_go ok_dni h⟩
theorem mt_dni {a b : Expr} {ma mb : EM} (hu : X.A.units + 64 < cLine) (ha : ME X ct a ma) (hb : ME X ct b mb) (hm : behindInMarks .NotIn b = false := by rfl) : MT X ct (.Compare a [.NotIn] [b] pos) (tVal (eBin gDNi ma mb)) :=
  ⟨fun G W tk => (pt_cmp (pc_dnotin (hu1 hu) (ha.run G W tk) (hb.run G W tk)) hm).imp fun s H Q h => by
    obtain ⟨r, S, io, k, h⟩ := h
    refine show tOp rDNi (tE X.K ct G W ma) (tE X.K ct G W mb) s H (fun v H' => ∃ b, v = .bl b ∧ Q b H') from bin_go ok_dni ⟨r, S, io, k, Res.first h fun x S1 io1 H1 e1 t1 q1 h1 v1 o1 => ?_⟩
    split at h1
    · rename_i b e
      have o2 := o1.repF
      rw [e] at o2
      exact ⟨b, bl_of o2, h1.here q1⟩
    · exact h1.elim⟩
end
end Mv

set_option maxRecDepth 100000
set_option maxHeartbeats 2000000
/-! Mv22: min of pairs of ints; pairs compared; dict(d); e[::s] -/
namespace MinP
open PySem PyProof.Rows
section
variable {prog : Program} {w : World} {A : Around} {R : Result → Shared → Prop} {I : Addr} {fp wr : List Addr} {n : Nat} {P : Nat → Value → Prop} {St : Nat → Heap → Prop}
/-- what is compared stands in the heap: B -/
structure CmpB (prog : Program) (w : World) (A : Around) (wr : List Addr) (S : Addr) (P : Nat → Value → Prop) (bt : Nat → Nat → Bool) (B : Heap → Prop) : Prop where
  keep : ∀ h h' : Heap, B h → (∀ b o, b ∉ wr → b ≠ S → h.get? b = some o → h'.get? b = some o) → B h'
  cmp : ∀ (i j : Nat) (vi vj : Value) (s : Shared) (Q : Value → Shared → Prop) (E : Value → Shared → Prop), B s.heap → P i vi → P j vj → Q (.bool (bt i j)) s → wpAny (model prog w) A (richCompare .Lt vi vj) Q E s
theorem loop (W : Walks prog w A.in1 I fp wr n P St) (bt : Nat → Nat → Bool) (B : Heap → Prop) (S : Addr) (C : CmpB prog w A.in1 wr S P bt B) (hSf : S ∉ fp) :
    ∀ (k j : Nat) (s : Shared) (vb : Value) (c : Nat), n - (j + 1) = k → j + 1 ≤ n → St (j + 1) s.heap → B s.heap → P (argBest bt j) vb →
    s.heap.get? S = some { cls := .type "list", dict := none, data := .seq #[vb, vb] c, slots := #[] } →
    (∀ v h' tk, P (argBest bt (n - 1)) v → (∀ b o, b ∉ wr → b ≠ S → s.heap.get? b = some o → h'.get? b = some o) → R (.ok (.ret v)) { s with heap := h', toks := tk }) →
    codeAny (model prog w) A (.builtin "min.loop" ⟨[.ref I, .none, .ref S], []⟩) R s := by
  have hSw : S ∉ wr := fun h => hSf (W.sub _ h)
  have nm : (toString "min" ++ toString ".loop" : String) = "min.loop" := by decide
  intro k
  induction k with
  | zero =>
    intro j s vb c hk hj hst hB hPb hS hR
    have hin : j + 1 = n := by omega
    refine codeAny_builtin F.entry_min_loop ?_
    rw [Around.under_plainId F.plain_min_loop _]
    show wpAny _ A.in1 (seqItems? (.ref S) >>= _) _ _ s
    refine wpAny_bind (wpAny_seqItems hS rfl ?_)
    show wpAny _ A.in1 (tryCatch (pyNext (.ref I)) _ >>= _) _ _ s
    refine wpAny_bind (wpAny_tryCatch (W.done s _ _ (hin ▸ hst) fun h' tk hk' => ?_))
    have hS' := hk' S _ hSw hS
    show wpAny _ A.in1 (updateSeq S (fun _ => #[]) >>= _) _ _ _
    refine wpAny_bind ?_
    refine wpAny_updateSeq hS' rfl (wpAny_bind (wpAny_letGo (wpAny_pure ?_)))
    exact hR vb _ tk (by rw [← hin]; exact hPb) fun b o hbw hbS e => (Heap.get?_update_other _ _ (Ne.symm hbS)).trans (hk' b o hbw e)
  | succ k ih =>
    intro j s vb c hk hj hst hB hPb hS hR
    have hlt : j + 1 < n := by omega
    refine codeAny_builtin F.entry_min_loop ?_
    rw [Around.under_plainId F.plain_min_loop _]
    show wpAny _ A.in1 (seqItems? (.ref S) >>= _) _ _ s
    refine wpAny_bind (wpAny_seqItems hS rfl ?_)
    show wpAny _ A.in1 (tryCatch (pyNext (.ref I)) _ >>= _) _ _ s
    refine wpAny_bind (wpAny_tryCatch (W.item (j + 1) s _ _ hlt hst fun v h' tk hP hst' hk' => ?_))
    have hS' := hk' S _ hSw hS
    have hB' : B h' := C.keep _ _ hB fun b o h1 _ e => hk' b o h1 e
    show wpAny _ A.in1 (tryCatch (holding [v, v] (richCompare .Lt v vb >>= _)) _ >>= _) _ _ _
    refine wpAny_bind (wpAny_tryCatch (wpAny_holding (wpAny_bind (C.cmp (j + 1) (argBest bt j) v vb _ _ _ hB' hP hPb ?_))))
    refine wpAny_bind (wpAny_holding (wpAny_truthy_bool ?_))
    refine wpAny_bind (wpAny_letGo (wpAny_pure ?_))
    cases hb : bt (j + 1) (argBest bt j) with
    | true =>
      simp only [if_true]
      refine wpAny_bind ?_
      refine wpAny_updateSeq hS' rfl (wpAny_bind (wpAny_letGo ?_))
      rw [nm]
      refine wpAny_pure ⟨plainId_quiet F.plain_min_loop _, ih (j + 1) _ v _ (by omega) hlt (W.frame _ _ _ hst' fun b hbf o e => ?_) (C.keep _ _ hB' fun b o _ hbS e => (Heap.get?_update_other _ _ (Ne.symm hbS)).trans e) (by simp only [argBest, hb, if_true]; exact hP) (Heap.get?_update_self _ hS' rfl)
        fun v' h'' tk'' hP' hk'' => ?_⟩
      · exact (Heap.get?_update_other _ _ (fun h : S = b => hSf (by rw [h]; exact hbf))).trans e
      · exact hR v' h'' tk'' hP' fun b o hbw hbS e => hk'' b o hbw hbS ((Heap.get?_update_other _ _ (Ne.symm hbS)).trans (hk' b o hbw e))
    | false =>
      simp only [Bool.false_eq_true, if_false]
      refine wpAny_bind (wpAny_letGo ?_)
      rw [nm]
      refine wpAny_pure ⟨plainId_quiet F.plain_min_loop _, ih (j + 1) _ vb c (by omega) hlt hst' hB' (by simp only [argBest, hb, Bool.false_eq_true, if_false]; exact hPb) hS' fun v' h'' tk'' hP' hk'' => ?_⟩
      exact hR v' h'' tk'' hP' fun b o hbw hbS e => hk'' b o hbw hbS (hk' b o hbw e)
theorem first (W : Walks prog w A.in1 I fp wr n P St) (bt : Nat → Nat → Bool) (B : Heap → Prop) (S : Addr) (C : CmpB prog w A.in1 wr S P bt B) (hSf : S ∉ fp) (hn : 0 < n) {s : Shared} {c : Nat} (hst : St 0 s.heap) (hB : B s.heap)
    (hS : s.heap.get? S = some { cls := .type "list", dict := none, data := .seq #[] c, slots := #[] })
    (hR : ∀ v h' tk, P (argBest bt (n - 1)) v → (∀ b o, b ∉ wr → b ≠ S → s.heap.get? b = some o → h'.get? b = some o) → R (.ok (.ret v)) { s with heap := h', toks := tk }) :
    codeAny (model prog w) A (.builtin "min.loop" ⟨[.ref I, .none, .ref S], []⟩) R s := by
  have hSw : S ∉ wr := fun h => hSf (W.sub _ h)
  have nm : (toString "min" ++ toString ".loop" : String) = "min.loop" := by decide
  refine codeAny_builtin F.entry_min_loop ?_
  rw [Around.under_plainId F.plain_min_loop _]
  show wpAny _ A.in1 (seqItems? (.ref S) >>= _) _ _ s
  refine wpAny_bind (wpAny_seqItems hS rfl ?_)
  show wpAny _ A.in1 (tryCatch (pyNext (.ref I)) _ >>= _) _ _ s
  refine wpAny_bind (wpAny_tryCatch (W.item 0 s _ _ hn hst fun v h' tk hP hst' hk' => ?_))
  have hS' := hk' S _ hSw hS
  have hB' : B h' := C.keep _ _ hB fun b o h1 _ e => hk' b o h1 e
  show wpAny _ A.in1 (updateSeq S (fun _ => #[v, v]) >>= _) _ _ _
  refine wpAny_bind ?_
  refine wpAny_updateSeq hS' rfl ?_
  rw [nm]
  refine wpAny_pure ⟨plainId_quiet F.plain_min_loop _, loop W bt B S C hSf _ 0 _ v _ rfl hn (W.frame _ _ _ hst' fun b hbf o e => ?_) (C.keep _ _ hB' fun b o _ hbS e => (Heap.get?_update_other _ _ (Ne.symm hbS)).trans e) hP (Heap.get?_update_self _ hS' rfl) fun v' h'' tk'' hP' hk'' => ?_⟩
  · exact (Heap.get?_update_other _ _ (fun h : S = b => hSf (by rw [h]; exact hbf))).trans e
  · exact hR v' h'' tk'' hP' fun b o hbw hbS e => hk'' b o hbw hbS ((Heap.get?_update_other _ _ (Ne.symm hbS)).trans (hk' b o hbw e))
end
section
variable {prog : Program} {w : World} {A : Around} {E : Value → Shared → Prop} {s : Shared}
theorem call {x : Value} {Q : Value → Shared → Prop}
    (h : wpAny (model prog w) A.in1 (pyIter x) (fun it s₂ => ∃ I fp wr n P St bt B, it = .ref I ∧ Walks prog w A.in1 I fp wr n P St ∧ St 0 s₂.heap ∧ (∀ b ∈ fp, b < s₂.heap.objs.size) ∧ 0 < n ∧ CmpB prog w A.in1 wr s₂.heap.objs.size P bt B ∧ B s₂.heap ∧
      ∀ v h' tk, P (argBest bt (n - 1)) v → (∀ b o, b ∉ wr → s₂.heap.get? b = some o → h'.get? b = some o) → Q v { s₂ with heap := h', toks := tk }) E s) :
    wpAny (model prog w) A (PySem.call (.builtin "min") [x]) Q E s := by
  have nm : (toString "min" ++ toString ".loop" : String) = "min.loop" := by decide
  refine call_function_tree F.kind_min F.plain_min F.entry_min (F.args_min1 _) ?_
  show wpAny _ A.in1 (Builtin.Builtins.bindParams "min" ["key", "default"] 0 ⟨[], []⟩ >>= _) _ _ s
  refine wpAny_bind (wpAny_of_eq (show Builtin.Builtins.bindParams "min" ["key", "default"] 0 ⟨[], []⟩ = pure [none, none] from rfl) ?_)
  refine wpAny_bind (wpAny_pure ?_)
  refine wpAny_bind (wpAny_mono h (fun it s₂ h₂ => ?_) fun _ _ e => e)
  obtain ⟨I, fp, wr, n, P, St, bt, B, rfl, W, hst, hfp, hn, C, hB, hQ⟩ := h₂
  refine wpAny_bind (wpAny_newObj_type ?_)
  have hSf : s₂.heap.objs.size ∉ fp := fun hm => Nat.lt_irrefl _ (hfp _ hm)
  rw [nm]
  refine wpAny_pure ⟨plainId_quiet F.plain_min_loop _, first W bt B s₂.heap.objs.size C hSf hn (W.frame _ _ _ hst fun b _ o e => Heap.get?_push_of_some _ e) (C.keep _ _ hB fun b o _ _ e => Heap.get?_push_of_some _ e) (Heap.get?_push_size _ rfl) fun v h' tk hP hk => ?_⟩
  exact hQ v h' tk hP fun b o hbw e => hk b o hbw (Nat.ne_of_lt (Heap.lt_size e)) (Heap.get?_push_of_some _ e)
end
end MinP
namespace Mv
open PySem PySem.Spec PyProof.Rows L2
theorem lexLt_B (p q : Int × Int) : HT.lexLt [p.1, p.2] [q.1, q.2] = SrtO.lexB p q := by
  unfold HT.lexLt SrtO.lexB
  by_cases h : p.1 = q.1
  · rw [if_pos h, if_pos h]
    unfold HT.lexLt
    by_cases h2 : p.2 = q.2
    · rw [if_pos h2]
      unfold HT.lexLt
      exact (decide_eq_false (by omega)).symm
    · rw [if_neg h2]
  · rw [if_neg h, if_neg h]
theorem argBest_lex (k : Nat → Int × Int) : ∀ m, argBest (fun i j => SrtO.lexB (k i) (k j)) m ≤ m ∧ ∀ j ≤ m, leP (k (argBest (fun i j => SrtO.lexB (k i) (k j)) m)) (k j) = true
  | 0 => ⟨Nat.le_refl _, fun j hj => by
    obtain rfl : j = 0 := by omega
    exact leP_iff.mpr (by show _ < _ ∨ _; simp [argBest])⟩
  | m + 1 => by
    obtain ⟨h1, h2⟩ := argBest_lex k m
    unfold argBest
    cases hb : SrtO.lexB (k (m + 1)) (k (argBest (fun i j => SrtO.lexB (k i) (k j)) m)) with
    | true =>
      rw [if_pos rfl]
      refine ⟨Nat.le_refl _, fun j hj => ?_⟩
      have q := SrtO.lexB_iff.mp hb
      by_cases e : j = m + 1
      · subst e
        exact leP_iff.mpr (by omega)
      · have := leP_iff.mp (h2 j (by omega))
        exact leP_iff.mpr (by omega)
    | false =>
      rw [if_neg (by decide)]
      refine ⟨by omega, fun j hj => ?_⟩
      have q := SrtO.lexB_no.mp hb
      by_cases e : j = m + 1
      · subst e
        exact leP_iff.mpr (by omega)
      · exact h2 j (by omega)
def rMinPT (K : PySem.W.Frag) : List V → Hp → VK → Prop := fun vs H Q => ∃ (a : Addr) (xs : List V) (ps : List (Int × Int)), vs = [V.ref a] ∧ SqL K H a xs ∧ Paired (PrV K H) xs ps ∧ ps ≠ [] ∧
  ∀ x p, p ∈ ps → (∀ q ∈ ps, leP p q = true) → PrV K H x p → Q x H
theorem paired_len {K : PySem.W.Frag} {H : Hp} {xs : List V} {ps : List (Int × Int)} (h : Paired (PrV K H) xs ps) : xs.length = ps.length := by
  induction h with
  | nil => rfl
  | cons h1 h2 ih => rw [List.length_cons, List.length_cons, ih]
theorem paired_at {K : PySem.W.Frag} {H : Hp} {xs : List V} {ps : List (Int × Int)} (h : Paired (PrV K H) xs ps) : ∀ (i : Nat) (x : V), xs[i]? = some x → ∃ p, ps[i]? = some p ∧ PrV K H x p := by
  induction h with
  | nil => intro i x e; simp at e
  | @cons y p xs ps h1 h2 ih =>
    intro i x e
    cases i with
    | zero =>
      cases e
      exact ⟨p, rfl, h1⟩
    | succ i => exact ih i x e
theorem vals_at {xs : List V} {us : List Value} (r : Vals xs us) : ∀ (i : Nat) (u : Value), us[i]? = some u → ∃ x, xs[i]? = some x ∧ RelV x u := by
  induction r with
  | nil => intro i u e; simp at e
  | @cons x u xs us h1 h2 ih =>
    intro i v e
    cases i with
    | zero =>
      cases e
      exact ⟨x, rfl, h1⟩
    | succ i => exact ih i v e
theorem cr_minPT {X : Cx} (hc : X.calm = true) (hu : X.A.units + 64 < cLine) : CallR X (.builtin "min") (rMinPT X.K) := by
  intro pins s σ H vs us Q I r h
  obtain ⟨a, xs, ps, rfl, hs, hp, hne, q⟩ := h
  obtain ⟨its, rv, hl, hz⟩ := I.list hs
  rw [Vals.ref1 r]
  have hlen := paired_len hp
  have hlen2 := rv.length
  have at_ : ∀ (i : Nat) (u : Value), its[i]? = some u → ∃ p x t, ps[i]? = some p ∧ xs[i]? = some x ∧ x = V.ref t ∧ u = Value.ref t ∧ SqT X.K H t [.int p.1, .int p.2] := fun i u e => by
    obtain ⟨x, e1, rx⟩ := vals_at rv i u e
    obtain ⟨p, e2, t, rfl, e3⟩ := paired_at hp i x e1
    exact ⟨p, _, t, e2, e1, rfl, rx, e3⟩
  have hlt : a < s.heap.objs.size := by obtain ⟨_, e, _⟩ := hl.isList; exact Heap.lt_size e
  refine MinP.call (wpAny_pyIter_list hl.isList ?_)
  refine ⟨_, _, _, _, _, _, fun i j => SrtO.lexB ((ps[i]?).getD (0, 0)) ((ps[j]?).getD (0, 0)), fun h => ∀ (i : Nat) (u : Value), its[i]? = some u → ∃ t p its2, u = Value.ref t ∧ t < s.heap.objs.size ∧ ps[i]? = some p ∧ h.IsTuple t its2 ∧ IntsAre its2.toList [p.1, p.2], rfl,
    Walks.list (A := X.A.in1) (I.ok.hd hc) s.heap.objs.size a (Nat.ne_of_lt hlt) its.toArray, ⟨⟨_, Heap.get?_push_size _ rfl, rfl, rfl⟩, hl.isList.push _⟩, fun b hb => ?_, ?_, ⟨fun h h' hB hk i u e => ?_, fun i j vi vj s' Q' E' hB hi hj hq => ?_⟩, fun i u e => ?_, fun v h' tk hP hk => ?_⟩
  · show b < (s.heap.push _).objs.size
    rw [Heap.size_push]
    rcases List.mem_cons.mp hb with rfl | hb
    · exact Nat.lt_succ_self _
    · rw [List.mem_singleton.mp hb]
      exact Nat.lt_succ_of_lt hlt
  · have h0 : 0 < ps.length := List.length_pos_iff.mpr hne
    show 0 < its.toArray.size
    rw [List.size_toArray, ← hlen2, hlen]
    exact h0
  · obtain ⟨t, p, its2, e1, e2, e3, ⟨o, e4, e5⟩, e6⟩ := hB i u e
    refine ⟨t, p, its2, e1, e2, e3, ⟨o, hk t o (fun z => ?_) (fun z => ?_) e4, e5⟩, e6⟩
    · rw [List.mem_singleton.mp z] at e2
      exact Nat.lt_irrefl _ e2
    · have z : t = (s.heap.push _).objs.size := z
      rw [Heap.size_push] at z
      rw [z] at e2
      exact Nat.lt_irrefl _ (Nat.lt_trans (Nat.lt_succ_self _) e2)
  · have hi : its[i]? = some vi := by simpa using hi
    have hj : its[j]? = some vj := by simpa using hj
    obtain ⟨t, p, its2, rfl, _, e3, e4, e5⟩ := hB i vi hi
    obtain ⟨t', p', its2', rfl, _, e3', e4', e5'⟩ := hB j vj hj
    rw [e3, e3'] at hq
    show wpAny (model X.prog X.w) X.A.in1 (compareOp .Lt (.ref t) (.ref t')) Q' E' s'
    refine HT.lt_tupInts e4 e4' e5 e5' ?_ ?_
    · show X.A.in1.units < cLine
      exact Nat.lt_of_le_of_lt (show X.A.in1.units ≤ X.A.units + 1 from Nat.le_refl _) (hu1 hu)
    · rw [lexLt_B]
      exact hq
  · obtain ⟨p, x, t, e1, e2, rfl, rfl, e3⟩ := at_ i u e
    obtain ⟨its2, r2, p2, _⟩ := I.tuple e3
    have lt : t < s.heap.objs.size := by
      obtain ⟨o, e, _⟩ := p2
      exact Heap.lt_size e
    refine ⟨t, p, its2.toArray, rfl, lt, e1, ?_, intsAre_of (ns := [p.1, p.2]) r2⟩
    obtain ⟨o, e4, e5⟩ := p2
    exact ⟨o, Heap.get?_push_of_some _ e4, e5⟩
  · have hP : its[argBest (fun i j => SrtO.lexB ((ps[i]?).getD (0, 0)) ((ps[j]?).getD (0, 0))) (its.toArray.size - 1)]? = some v := by simpa using hP
    obtain ⟨p, x, t, e1, e2, rfl, rfl, e3⟩ := at_ _ _ hP
    obtain ⟨b1, b2⟩ := argBest_lex (fun i => (ps[i]?).getD (0, 0)) (its.toArray.size - 1)
    refine ⟨.ref t, H, I.kept fun b o e => hk b o (fun z => ?_) (Heap.get?_push_of_some _ e), rfl, q _ p (List.mem_of_getElem? e1) (fun y hy => ?_) ⟨t, rfl, e3⟩⟩
    · rw [List.mem_singleton.mp z] at e
      exact absurd (Heap.lt_size e) (Nat.lt_irrefl _)
    · obtain ⟨j, hj⟩ := List.getElem?_of_mem hy
      have hjl := (List.getElem?_eq_some_iff.mp hj).1
      have := b2 j (by rw [List.size_toArray]; omega)
      rw [e1, hj] at this
      exact this
section
variable {K : PySem.W.Frag} {ct : CT} {M : Addr → Prop} {io : List Addr} {H : Hp}
def minP (ps : List (Int × Int)) : Option (Int × Int) := (sortP ps).head?
theorem minP_of {ps : List (Int × Int)} {p : Int × Int} (h : p ∈ ps) (u : ∀ q ∈ ps, leP p q = true) : minP ps = some p := by
  have m := (sortP_perm ps).mem_iff.mpr h
  have s := sortP_sorted ps
  have pm := sortP_perm ps
  unfold minP
  generalize sortP ps = L at *
  cases L with
  | nil => cases m
  | cons x L =>
    have h1 := leP_iff.mp (u x (pm.mem_iff.mp (.head _)))
    rcases List.mem_cons.mp m with e | m
    · rw [e]
      rfl
    · have h2 := leP_iff.mp ((List.pairwise_cons.mp s).1 p m)
      have : x = p := Prod.ext (by omega) (by omega)
      rw [this]
      rfl
def gMinP : List (Fl × D) → Option (D × Fl) := fun as => match as with
  | [(_, .lst ds)] => match pairsOf ds with
    | some ps => (minP ps).map fun p => (pD p, .c)
    | none => none
  | _ => none
theorem ok_minP : CalOk K ct (rMinPT K) gMinP := by
  intro M N io S H vs as res Q o q md e w
  unfold gMinP at e
  split at e
  · rename_i f ds
    split at e
    · rename_i ps e1
      obtain ⟨p, e2, rfl⟩ := Option.map_eq_some_iff.mp e
      obtain ⟨v, rfl, r⟩ := args1 o
      obtain ⟨a, us, rfl, h1, h2⟩ := lst_of r
      rw [pairs_eq e1] at h2
      refine ⟨a, us, ps, rfl, SqL.of h1, reps_prv h2, fun z => ?_, fun x p' hp' hu ⟨t, ex, et⟩ => ?_⟩
      · subst z
        have e2 : (sortP []).head? = some p := e2
        have : sortP [] = [] := List.length_eq_zero_iff.mp (by rw [(sortP_perm []).length_eq]; rfl)
        rw [this] at e2
        cases e2
      · rw [minP_of hp' hu] at e2
        cases e2
        exact w _ _ Stp.refl (ResOk.c (by rw [ex]; exact .tup et (.cons (.int _) (.cons (.int _) .nil))) q)
    · cases e
  · cases e
/-- t < u, tuples of ints -/
def gLtP : D × Fl → D × Fl → Option (D × Fl) := fun a b => match a.1, b.1 with
  | .tup xs, .tup ys => match intsOf xs, intsOf ys with
    | some is, some js => some (.bl (HT.lexLt is js), .c)
    | _, _ => none
  | _, _ => none
theorem ok_ltP : BinOk K ct (rLtT K) gLtP := by
  rintro M N io S H x y ⟨a, fa⟩ ⟨b, fb⟩ res Q ra rb q md e w
  unfold gLtP at e
  dsimp only at e ra rb
  split at e
  · rename_i xs ys
    split at e
    · rename_i is js e1 e2
      cases e
      obtain ⟨p, vs, rfl, h1, h2⟩ := tup_of ra
      obtain ⟨p', vs', rfl, h1', h2'⟩ := tup_of rb
      rw [intsOf_eq e1] at h2
      rw [intsOf_eq e2] at h2'
      rw [h2.ints] at h1
      rw [h2'.ints] at h1'
      exact ⟨p, p', is, js, rfl, rfl, h1, h1', w _ _ Stp.refl (ResOk.c (.bl _) q)⟩
    · cases e
  · cases e
/-- dict(d) -/
def gDictD : List (Fl × D) → Option (D × Fl) := fun as => match as with
  | [(f, .dic ks xs)] => if f = .t then none else some (.dic ks xs, .n)
  | _ => none
theorem ok_dictD : CalOk K ct (fun xs H Q => ∃ (a : Addr) (kvs : List (Key × V)), xs = [.ref a] ∧ Rd H a (.dK kvs) ∧ ∀ p, H p = none → Q (.ref p) (upd H p (.dK kvs))) gDictD := by
  intro M N io S H vs as res Q o q md e w
  unfold gDictD at e
  split at e
  · rename_i f ks xs
    split at e
    · cases e
    · rename_i g
      cases e
      obtain ⟨v, rfl, r⟩ := args1 o
      obtain ⟨a, kvs, rfl, h1, rfl, h2, _⟩ := dic_of r
      refine ⟨a, kvs, rfl, .inl h1, fun p hp => w _ _ (Stp.upd hp) ⟨p, rfl, hp, fun z => ?_, .inr ⟨_, xs, kvs, rfl, upd_same, rfl, ((h2 g).off hp).stp (Stp.upd (ct := ct) hp)⟩, (q.off hp).upd hp⟩⟩
      obtain ⟨o, e, _⟩ := md p z
      rw [hp] at e
      cases e
  · cases e
end
end Mv

set_option maxRecDepth 100000
set_option maxHeartbeats 2000000
/-! Mv23: e[::s], s 1 or -1 -/
namespace Mv
open PySem PySem.Spec PyProof.Rows L2
theorem pick_one (items : List Value) : slicePick items.toArray none none (some 1) = items.toArray := by
  have e : slicePick items.toArray none none (some 1) = slicePick items.toArray none none none := rfl
  rw [e, slicePick_cut]
  congr 1
  rw [HT.sIx_none, HT.sIx_none, Nat.sub_zero, List.drop_zero]
  exact List.take_of_length_le (Nat.le_refl _)
def tStp (K : PySem.W.Frag) (te ts : TE) : TE := fun σ H Q => te σ H fun x H1 => tPart ts σ H1 fun o H2 => ∃ y, o = some y ∧ ∃ a xs, x = .ref a ∧ SqL K H2 a xs ∧
  ((y = -1 ∧ ∀ p, H2 p = none → Q (.ref p) (upd H2 p (.lst xs.reverse))) ∨ (y = 1 ∧ ∀ p, H2 p = none → Q (.ref p) (upd H2 p (.lst xs))))
section
variable {X : Cx} {ct : CT} {pos : Pos}
theorem pe_stp {e st : Expr} {te ts : TE} {p3 : Pos} (he : PE X e te) (hst : PE X st ts) : PE X (.Subscript e (.Slice none none (some st) p3) pos) (tStp X.K te ts) := by
  refine ⟨fun pins s σ H Q I h => ?_⟩
  refine Subscript_ (thn (he.run pins s σ H _ I h) fun v s1 ⟨x, H1, I1, r1, q1⟩ => ?_)
  refine wpAny_Slice (thn (po_none.run pins s1 σ H1 (fun o H2 => o = none ∧ H2 = H1) I1 ⟨rfl, rfl⟩) fun vl s2 ⟨l, H2, I2, pl, el, e2⟩ => ?_)
  subst el e2
  refine thn (po_none.run pins s2 σ H2 (fun o H3 => o = none ∧ H3 = H2) I2 ⟨rfl, rfl⟩) fun vu s3 ⟨u, H3, I3, pu, eu, e3⟩ => ?_
  subst eu e3
  refine thn ((po_some hst).run pins s3 σ H3 _ I3 q1) fun vs s4 ⟨o, H4, I4, ps, y, eo, a, xs, ex, hx, hq⟩ => ?_
  subst eo ex
  cases r1
  have I5 : Inv X pins σ H4 { s4 with heap := s4.heap.push { cls := .type "slice", data := .fields #[vl, vu, vs] } } := I4.kept (t' := s4.toks) fun b ob q => Heap.get?_push_of_some _ q
  obtain ⟨its, r, htl, hz⟩ := I5.list hx
  have hlen := r.length
  show wpAny (model X.prog X.w) X.A (subscriptTail e (.Slice none none (some st) p3) (.ref a) (.ref s4.heap.objs.size)) (EP X pins σ Q) X.xe { s4 with heap := s4.heap.push { cls := .type "slice", data := .fields #[vl, vu, vs] } }
  refine tail_any (ops := [.ref a, .ref s4.heap.objs.size]) htl.isList.typeIs (PySem.slot_list_getitem.lookup) ?_ (by with_unfolding_all rfl)
  rcases hq with ⟨rfl, q⟩ | ⟨rfl, q⟩
  · refine wpAny_getItem_list_slice htl.isList (Heap.IsSliceOf.new _ vl vu vs) pl pu ps (by decide) ?_ (by rw [List.size_toArray]; omega)
    rw [PySem.W.krv_pick]
    refine ⟨.ref _, _, I5.laid (t' := s4.toks) (o := .lst xs.reverse) (fun b ob q => Heap.get?_push_of_some _ q) (Nat.le_refl _) ?_, rfl, q _ (I5.hok.fresh (Nat.le_refl _))⟩
    exact ⟨by rw [List.length_reverse]; exact hz, _, 0, r.reverse, Heap.get?_push_size _ rfl⟩
  · refine wpAny_getItem_list_slice htl.isList (Heap.IsSliceOf.new _ vl vu vs) pl pu ps (by decide) ?_ (by rw [List.size_toArray]; omega)
    rw [pick_one]
    refine ⟨.ref _, _, I5.laid (t' := s4.toks) (o := .lst xs) (fun b ob q => Heap.get?_push_of_some _ q) (Nat.le_refl _) ?_, rfl, q _ (I5.hok.fresh (Nat.le_refl _))⟩
    exact ⟨hz, _, 0, r, Heap.get?_push_size _ rfl⟩
def gStp : D × Fl → D × Fl → Option (D × Fl) := fun a b => match a.1, b.1 with
  | .lst xs, .int i => if i = -1 then some (.lst xs.reverse, if a.2 = .t then .t else .n) else if i = 1 then some (.lst xs, if a.2 = .t then .t else .n) else none
  | _, _ => none
theorem me_stp {e st : Expr} {me ms : EM} {p3 : Pos} (he : ME X ct e me) (hs : ME X ct st ms) : ME X ct (.Subscript e (.Slice none none (some st) p3) pos) (eBin gStp me ms) :=
  ⟨fun G W tk => (pe_stp (he.run G W tk) (hs.run G W tk)).imp fun s H Q ⟨r, S, io, k, h⟩ => by
    refine ⟨r, S, io, k, Res.first h fun x S1 io1 H1 e1 t1 q1 h1 v1 o1 => ?_⟩
    have k1 := k.step t1 q1
    refine ⟨r, S1, io1, k1, Res.first h1 fun y S2 io2 H2 e2 t2 q2 h2 v2 o2 => ?_⟩
    have k2 := k1.step t2 q2
    unfold lift0 at h2
    split at h2
    · rename_i res eg
      unfold gStp at eg
      split at eg
      · rename_i xs i ex ey
        have r1 := o1.repF.stp t2
        have r2 := o2.repF
        rw [ex] at r1
        rw [ey] at r2
        obtain ⟨a, us, rfl, w1, w2, w3⟩ := seq_both (d := .lst xs) rfl r1
        refine ⟨i, int_of r2, i, rfl, a, us, rfl, w1, ?_⟩
        split at eg
        · rename_i gi
          cases eg
          refine .inl ⟨gi, fun p hp => h2.go (Stp.upd hp) (q2.upd hp) _ ?_⟩
          exact new_lstT hp (t1.free (t2.free hp)) k2.mdom q2 (fun z => (w2 z).rev) w3.rev
        · split at eg
          · rename_i gi
            cases eg
            refine .inr ⟨gi, fun p hp => h2.go (Stp.upd hp) (q2.upd hp) _ ?_⟩
            exact new_lstT hp (t1.free (t2.free hp)) k2.mdom q2 w2 w3
          · cases eg
      · cases eg
    · exact h2.elim⟩
end
end Mv

set_option maxRecDepth 100000
set_option maxHeartbeats 2000000
/-! Mv24: == of lists of lists of ints and of dicts of ints that are alike -/
namespace Mv
open PySem PySem.Spec PyProof.Rows L2
def elEq : D → D → Bool
  | .lst xs, .lst ys => match intsOf xs, intsOf ys with
    | some is, some js => decide (is = js)
    | _, _ => false
  | .dic ks xs, .dic ls ys => decide (ks.length = ls.length) && alikeD ls ys ks xs
  | _, _ => false
def elsEq : List D → List D → Bool
  | [], [] => true
  | x :: xs, y :: ys => elEq x y && elsEq xs ys
  | _, _ => false
def gEqV : D × Fl → D × Fl → Option (D × Fl) := fun a b => match a.1, b.1 with
  | .lst xs, .lst ys => if elsEq xs ys = true then some (.bl true, .c) else none
  | _, _ => none
section
variable {K : PySem.W.Frag} {ct : CT} {M : Addr → Prop} {io : List Addr} {H : Hp}
theorem ints_paired : ∀ is : List Int, Paired (EqV K H 1) (is.map V.int) (is.map V.int)
  | [] => .nil
  | i :: is => .cons (.inl ⟨rfl, rfl⟩) (ints_paired is)
theorem elEq_val {x y : D} {v u : V} (hx : Rep K M io H x v) (hy : Rep K M io H y u) (e : elEq x y = true) : EqV K H 2 v u := by
  unfold elEq at e
  split at e
  · rename_i xs ys
    split at e
    · rename_i is js e1 e2
      obtain rfl := of_decide_eq_true e
      cases hx with
      | @lst a vs _ h1 _ h2 =>
        cases hy with
        | @lst b us _ h3 _ h4 =>
          rw [intsOf_eq e1] at h2
          rw [intsOf_eq e2] at h4
          rw [h2.ints] at h1
          rw [h4.ints] at h3
          exact .inr (.inr (.inl ⟨a, b, _, _, rfl, rfl, SqL.of h1, SqL.of h3, ints_paired is⟩))
    · cases e
  · rename_i ks xs ls ys
    rw [Bool.and_eq_true, decide_eq_true_eq] at e
    cases hx with
    | @dic a kvs _ _ h1 _ hk h2 =>
      cases hy with
      | @dic b lvs _ _ h3 _ hl h4 =>
        subst hk hl
        rw [List.length_map, List.length_map] at e
        have al := alike_val h4 h2 e.2
        exact .inr (.inr (.inr ⟨a, b, kvs, lvs, rfl, rfl, h1, h3, e.1, fun p hp => ⟨p.2, (al p hp).1, .inl ⟨rfl, (al p hp).2⟩⟩⟩))
  · cases e
theorem elsEq_val : ∀ {xs ys : List D} {vs us : List V}, Reps K M io H xs vs → Reps K M io H ys us → elsEq xs ys = true → Paired (EqV K H 2) vs us
  | _, _, _, _, .nil, .nil, _ => .nil
  | _, _, _, _, .cons h1 t1, .cons h2 t2, e => by
    have e : (_ && _) = true := e
    rw [Bool.and_eq_true] at e
    exact .cons (elEq_val h1 h2 e.1) (elsEq_val t1 t2 e.2)
  | _, _, _, _, .nil, .cons _ _, e => by cases e
  | _, _, _, _, .cons _ _, .nil, e => by cases e
theorem ok_eqV : BinOk K ct (rEqV K) gEqV := by
  rintro M N io S H x y ⟨a, fa⟩ ⟨b, fb⟩ res Q ra rb q md e w
  unfold gEqV at e
  dsimp only at e ra rb
  split at e
  · rename_i xs ys
    split at e
    · rename_i g
      cases e
      obtain ⟨p, vs, rfl, h1, h2⟩ := lst_of ra
      obtain ⟨p', vs', rfl, h1', h2'⟩ := lst_of rb
      exact ⟨2, by decide, .inl ⟨p, p', vs, vs', rfl, rfl, SqL.of h1, SqL.of h1', elsEq_val h2 h2' g⟩, w _ _ Stp.refl (ResOk.c (.bl _) q)⟩
    · cases e
  · cases e
end
end Mv

set_option maxRecDepth 100000
set_option maxHeartbeats 2000000
/-! Mv25: dict(pairs); a, b, c = x, y, z -/
namespace Mv
open PySem PySem.Spec PyProof.Rows L2
def pairK : D → Option (Key × D)
  | .tup [k, d] => (keyD k).map fun j => (j, d)
  | _ => none
def mergeD : List D → List Key → List D → Option (List Key × List D)
  | [], ks, xs => some (ks, xs)
  | p :: ps, ks, xs => match pairK p with
    | some kd => mergeD ps (putKD ks xs kd.1 kd.2).1 (putKD ks xs kd.1 kd.2).2
    | none => none
/-- dict([(k, x), ..]) -/
def gDictP : List (Fl × D) → Option (D × Fl) := fun as => match as with
  | [(f, .lst ps)] => if f = .t then none else (mergeD ps [] []).map fun r => (.dic r.1 r.2, .n)
  | _ => none
section
variable {K : PySem.W.Frag} {ct : CT} {M N : Addr → Prop} {io : List Addr} {H : Hp}
theorem pair_val {p : D} {v : V} {kd : Key × D} (e : pairK p = some kd) (h : Rep K M io H p v) : ∃ (a : Addr) (w : V), v = .ref a ∧ SqT K H a [kV kd.1, w] ∧ Rep K M io H kd.2 w := by
  unfold pairK at e
  split at e
  · rename_i k d
    obtain ⟨j, ej, rfl⟩ := Option.map_eq_some_iff.mp e
    cases h with
    | tup h1 h2 =>
      cases h2 with
      | cons r1 h3 =>
        cases h3 with
        | cons r2 h4 =>
          cases h4
          obtain rfl := key_val (f := .c) (N := M) ej r1
          exact ⟨_, _, rfl, h1, r2⟩
  · cases e
theorem merge_val : ∀ {ps : List D} {vs : List V} {ks : List Key} {xs : List D} {kvs : List (Key × V)} {r : List Key × List D}, Reps K M io H ps vs → mergeD ps ks xs = some r → kvs.map Prod.fst = ks → Reps K M io H xs (kvs.map Prod.snd) →
    ∃ (as : List Addr) (more : List (Key × V)), vs = as.map V.ref ∧ Paired (fun p kv => SqT K H p [kV kv.1, kv.2]) as more ∧ (mergeK kvs more).map Prod.fst = r.1 ∧ Reps K M io H r.2 ((mergeK kvs more).map Prod.snd)
  | [], _, ks, xs, kvs, r, h, e, hk, hx => by
    cases h
    cases e
    exact ⟨[], [], rfl, .nil, hk, hx⟩
  | p :: ps, _, ks, xs, kvs, r, h, e, hk, hx => by
    cases h with
    | @cons _ _ v vs r1 r2 =>
      unfold mergeD at e
      split at e
      · rename_i kd ek
        obtain ⟨a, w, rfl, h1, h2⟩ := pair_val ek r1
        subst hk
        obtain ⟨as, more, rfl, q1, q2, q3⟩ := merge_val (kvs := putK kvs kd.1 w) r2 e (put_keys kvs kd.1 w xs kd.2) (put_vals hx h2)
        exact ⟨a :: as, (kd.1, w) :: more, rfl, .cons h1 q1, q2, q3⟩
      · cases e
theorem ok_dictP : CalOk K ct (fun xs H Q => ∃ (a : Addr) (ps : List Addr) (kvs : List (Key × V)), xs = [.ref a] ∧ SqL K H a (ps.map V.ref) ∧ Paired (fun p kv => SqT K H p [kV kv.1, kv.2]) ps kvs ∧
    ∀ p, H p = none → Q (.ref p) (upd H p (.dK (mergeK [] kvs)))) gDictP := by
  intro M N io S H vs as res Q o q md e w
  unfold gDictP at e
  split at e
  · rename_i f ps
    split at e
    · cases e
    · rename_i g
      obtain ⟨r, er, rfl⟩ := Option.map_eq_some_iff.mp e
      obtain ⟨v, rfl, rv⟩ := args1 o
      obtain ⟨a, us, rfl, h1, h2, _⟩ := seq_both (d := .lst ps) rfl rv
      obtain ⟨as, more, rfl, q1, q2, q3⟩ := merge_val (kvs := []) (h2 g) er rfl .nil
      refine ⟨a, as, more, rfl, h1, q1, fun p hp => w _ _ (Stp.upd hp) ⟨p, rfl, hp, fun z => ?_, .inr ⟨_, _, _, rfl, upd_same, q2, (q3.off hp).stp (Stp.upd (ct := ct) hp)⟩, (q.off hp).upd hp⟩⟩
      obtain ⟨o, e, _⟩ := md p z
      rw [hp] at e
      cases e
  · cases e
end
section
variable {X : Cx} {ct : CT} {pos : Pos}
/-- a, b, c = x, y, z -/
def sPar3 (i j l : Nat) (ma mb mc : EM) : SM := fun r S => (ma r S).sb r fun x S1 => (mb r S1).sb r fun y S2 => (mc r S2).sb r fun z S3 => if okst x.2 x.1 && okst y.2 y.1 && okst z.2 z.1 then .nx (((r.set i (.ar .c x.1)).set j (.ar .c y.1)).set l (.ar .c z.1)) S3 else .no
theorem ms_par3 {i j l : Nat} {x y z : Str} {a b c : Expr} {ma mb mc : EM} {px py pz pt : Pos} {kt k2 pt2} (hc : X.calm = true) (hN : X.N.Nodup) (hi : X.N[i]? = some x) (hj : X.N[j]? = some y) (hl : X.N[l]? = some z) (hij : i ≠ j) (hil : i ≠ l) (hjl : j ≠ l)
    (hx : X.env.scope.names.lookup x = some .local) (hy : X.env.scope.names.lookup y = some .local) (hz : X.env.scope.names.lookup z = some .local) (ha : ME X ct a ma) (hb : ME X ct b mb) (hcc : ME X ct c mc)
    (hs0 : starEach [c] X.env = (false, eval c X.env) :: starEach [] X.env) (hs1 : starEach [b, c] X.env = (false, eval b X.env) :: starEach [c] X.env) (hs2 : starEach [a, b, c] X.env = (false, eval a X.env) :: starEach [b, c] X.env)
    (hw : swappedStores [.Tuple [.Name x px, .Name y py, .Name z pz] kt pt] (.Tuple [a, b, c] k2 pt2) X.env = pure (some [x, y, z]))
    (hs : swapsWithSole [.Tuple [.Name x px, .Name y py, .Name z pz] kt pt] (.Tuple [a, b, c] k2 pt2) pos.line X.env = pure false := by rfl) :
    MS X ct (.Assign [.Tuple [.Name x px, .Name y py, .Name z pz] kt pt] (.Tuple [a, b, c] k2 pt2) pos) (sPar3 i j l ma mb mc) :=
  ⟨fun G W tk _ => (ps_par3 hc hN hi hj hl hij hil hjl hx hy hz (pa_cons (ha.run G W tk) (pa_cons (hb.run G W tk) (pa_cons (hcc.run G W tk) pa_nil hs0) hs1) hs2) hw hs).imp fun D s H ⟨r, S, io, k, h⟩ =>
    ⟨r, S, io, k, SRes.first k h fun x S1 io1 H1 _ t1 q1 k1 h1 v ov => ⟨r, S1, io1, k1, SRes.first k1 h1 fun y S2 io2 H2 _ t2 q2 k2 h2 u ou => ⟨r, S2, io2, k2, SRes.first k2 h2 fun z S3 io3 H3 _ t3 q3 k3 h3 w ow => by
      refine ⟨v, u, w, rfl, ?_⟩
      split at h3
      · rename_i g
        rw [Bool.and_eq_true, Bool.and_eq_true] at g
        have k4 := k3.setc (i := i) (RepF.clean g.1.1 ((ov.repF.stp t2).stp t3))
        have k5 := k4.setc (i := j) ((RepF.clean g.1.2 (ou.repF.stp t3)).anti fun a z => mall_set (fun e z => by cases z) z)
        have k6 := k5.setc (i := l) (((RepF.clean g.2 ow.repF).anti fun a z => mall_set (fun e z => by cases z) z).anti fun a z => mall_set (fun e z => by cases z) z)
        exact h3 _ io3 H3 k6
      · exact h3.elim⟩⟩⟩⟩
end
end Mv

set_option maxRecDepth 100000
set_option maxHeartbeats 2000000
/-! Mv26: xs.pop() -/
namespace Mv
open PySem PySem.Spec PyProof.Rows L2
theorem Reps.initl {K : PySem.W.Frag} {M : Addr → Prop} {io : List Addr} {H : Hp} : ∀ {xs : List D} {vs : List V}, Reps K M io H xs vs → Reps K M io H xs.dropLast vs.dropLast
  | [], _, .nil => .nil
  | [x], _, .cons _ .nil => .nil
  | x :: y :: xs, _, .cons r (.cons r2 r3) => .cons r (Reps.initl (.cons r2 r3))
section
variable {X : Cx} {ct : CT} {pos : Pos}
theorem ms_pop {i : Nat} {x : Str} {p apos cpos : Pos} (hx : PE X (.Name x p) (tVar i))
    (hb : ∀ {to : TE}, PE X (.Name x p) to → PE X (.Call (.Attribute (.Name x p) "pop" apos) [] [] cpos) (tBM0 X.K "list" rPop to))
    (hs : swapsWith (.Call (.Attribute (.Name x p) "pop" apos) [] [] cpos) none pos.line X.env = pure false := by rfl) : MS X ct (.Expr (.Call (.Attribute (.Name x p) "pop" apos) [] [] cpos) pos) (sPop i) :=
  ⟨fun G W tk _ => (ps_expr (hb hx) hs).imp fun D s H ⟨r, S, io, k, h⟩ => by
    unfold sPop at h
    split at h
    · rename_i xs e
      split at h
      · exact h.elim
      · rename_i ne
        obtain ⟨a, h1, h2, h3, h4⟩ := k.own i _ e
        obtain ⟨vs, h5, h6⟩ := own_lst h2
        have lp : 0 < vs.length := by
          rw [← h6.len]
          exact List.length_pos_iff.mpr ne
        exact ⟨.ref a, h1, .inl ⟨rfl, _, .inl (.inl h5)⟩, a, vs, vs[vs.length - 1], rfl, rfl, h5, List.getElem?_eq_getElem (by omega), h s io _ (k.mut e h1 (own_new (xs := xs) (.inr (.inr ⟨i, _, e, h1⟩)) h5 h6.initl))⟩
    · exact h.elim⟩
end
end Mv

set_option maxRecDepth 100000
set_option maxHeartbeats 2000000
/-! Mv27: t + u, of tuples -/
namespace Mv
open PySem PySem.Spec PyProof.Rows L2
def gAddT : D × Fl → D × Fl → Option (D × Fl) := fun a b => match a.1, b.1 with
  | .tup xs, .tup ys => if a.2 ≠ .t ∧ b.2 ≠ .t ∧ xs.length + ys.length ≤ sizeLine then some (.tup (xs ++ ys), .c) else none
  | _, _ => none
theorem ok_addT {K : PySem.W.Frag} {ct : CT} : BinOk K ct (rCatA K) gAddT := by
  rintro M N io S H x y ⟨a, fa⟩ ⟨b, fb⟩ res Q ra rb q md e w
  unfold gAddT at e
  dsimp only at e ra rb
  split at e
  · rename_i xs ys
    split at e
    · rename_i g
      cases e
      obtain ⟨p, vs, rfl, h1, h2⟩ := nt_tup g.1 ra
      obtain ⟨p', ws, rfl, h3, h4⟩ := nt_tup g.2.1 rb
      refine ⟨p, p', vs, ws, rfl, rfl, h1, h3, by rw [← h2.len, ← h4.len]; exact g.2.2, fun z => ?_, fun _ z => ?_, fun _ _ l hl => w _ _ (Stp.upd hl) (new_tup hl q (h2.app h4))⟩
      · subst z
        cases h2
        exact w _ _ Stp.refl (ResOk.c (.tup h3 h4) q)
      · subst z
        cases h4
        exact w _ _ Stp.refl (ResOk.c (show Rep K M io H (.tup (xs ++ [])) (.ref p) by rw [List.append_nil]; exact .tup h1 h2) q)
    · cases e
  · cases e
end Mv

set_option maxRecDepth 100000
set_option maxHeartbeats 2000000
/-! Mv28: the script + [..] -/
namespace Mv
open PySem PySem.Spec PyProof.Rows L2
def rCatL (K : PySem.W.Frag) : R2 := fun x y H Q => ∃ l b xs zs, x = .ref l ∧ y = .ref b ∧ SqL K H l xs ∧ SqL K H b zs ∧ xs.length + zs.length ≤ sizeLine ∧ ∀ p, H p = none → Q (.ref p) (upd H p (.lst (xs ++ zs)))
theorem op_catL {X : Cx} : OpR X (binaryOp .Add) (rCatL X.K) := by
  intro pins s σ H x y v u Q I rx ry h
  obtain ⟨l, b, xs, zs, rfl, rfl, hH, hB, hz, q⟩ := h
  cases rx
  cases ry
  obtain ⟨its, r, ⟨⟨cls, dd, data, sl⟩, n, ho, hc, hd0, hd⟩, _⟩ := I.list hH
  obtain ⟨its2, r2, ⟨⟨cls2, dd2, data2, sl2⟩, n2, ho2, hc2, hd02, hd2⟩, _⟩ := I.list hB
  simp only at hc hd hc2 hd2
  subst hc hd hc2 hd2
  have e1 := r.length
  have e2 := r2.length
  have ea : its.toArray ++ its2.toArray = (its ++ its2).toArray := by simp
  refine concat_meets ⟨_, ho, rfl⟩ ⟨_, ho2, rfl⟩ noFill_list_add seq_list_add PySem.F.slot_list_add PySem.F.entry_list_add (PySem.F.args_list_add_2 _ _) (list_addW l b its.toArray its2.toArray n n2 dd dd2 sl sl2 (by rw [List.size_toArray, List.size_toArray]; omega)) ⟨ho, ho2, ?_⟩
  rw [ea]
  exact ⟨.ref _, _, I.lnew (t' := s.toks) (r.append r2) (by rw [List.length_append]; omega), rfl, q _ I.fresh⟩
def gAddF : D × Fl → D × Fl → Option (D × Fl) := fun a b => match a.1, b.1 with
  | .frz xs, .lst ys => if a.2 ≠ .t ∧ b.2 ≠ .t ∧ xs.length + ys.length ≤ sizeLine then some (.lst (xs ++ ys), .n) else none
  | _, _ => none
theorem ok_addF {K : PySem.W.Frag} {ct : CT} : BinOk K ct (rCatL K) gAddF := by
  rintro M N io S H x y ⟨a, fa⟩ ⟨b, fb⟩ res Q ra rb q md e w
  unfold gAddF at e
  dsimp only at e ra rb
  split at e
  · rename_i xs ys
    split at e
    · rename_i g
      cases e
      obtain ⟨p, vs, rfl, h1, h2⟩ := nt_frz g.1 ra
      obtain ⟨p', ws, rfl, h3, h4⟩ := nt_lst g.2.1 rb
      exact ⟨p, p', vs, ws, rfl, rfl, h1, SqL.of h3, by rw [← h2.len, ← h4.len]; exact g.2.2, fun l hl => w _ _ (Stp.upd hl) (new_lst hl hl md q (h2.app h4))⟩
    · cases e
  · cases e
end Mv

set_option maxRecDepth 100000
set_option maxHeartbeats 2000000
/-! Mv29: sorted(set(xs)), xs a list of ints -/
namespace L2
open PySem PySem.Spec PyProof.Rows
section
variable {P : Program} {w : World} {A : Around} {E : Value → Shared → Prop} {s : Shared}
/-- the empty set's object -/
abbrev nSet (w : World) : Obj := { cls := .type "set", dict := none, data := .set #[] 0 (.fresh 0 0 (!w.params.followText "set-order")) }
abbrev nHp (w : World) (h : Heap) : Heap := h.push (nSet w)
theorem nS_at (w : World) (h : Heap) : (nHp w h).get? h.objs.size = some (nSet w) := Heap.get?_push_size _ rfl
/-- what the filled set at the heap's end is like -/
def Filled (w : World) (ns : List Int) (s : Shared) (h' : Heap) (c : Nat) : Prop := SetR w h' s.heap.objs.size (fun j => decide (j ∈ ns)) c ∧ c ≤ ns.length ∧ ∀ b o, s.heap.get? b = some o → h'.get? b = some o
set_option maxHeartbeats 6000000 in
theorem set_of_list {l : Addr} {us : Array Value} (ns : List Int) {Q : Value → Shared → Prop} (hh : A.handled = none) (hl : s.heap.IsList l us) (iu : IntsAre us.toList ns) (hb : ns.length + 1 < scanBound)
    (fin : ∀ h' tk c, Filled w ns s h' c → Q (.ref s.heap.objs.size) { s with heap := h', toks := tk }) : wpAny (model P w) A (call (.type "set") [.ref l]) Q E s := by
  have us_len : us.size = ns.length := by rw [← Array.length_toList]; exact IntsAre.length iu
  have ⟨c, tl, _⟩ := F.called_set.mro
  have _ := F.called_set.made; have _ := F.called_set.sub
  refine wpAny_call (codeAny_of_tree (show wpAny _ _ (callAny (.type "set") _) _ _ _ from wpAny_pure ⟨Code.quiet_builtin _ (by decide +kernel), codeAny_builtin F.entry_type_call ?_⟩))
  rw [Around.under_plain (weight_type_call_type "set" [.ref l] []) rfl]
  have _ := F.called_set.notType; have _ := F.called_set.canCreate; have _ := F.typeCall_set_1 (.ref l)
  repeat (any_goals (first | assumption | wp_step))
  refine codeAny_mono (code_set_led1 (.ref l) (E := E) (Q₁ := fun x t => x = .ref s.heap.objs.size ∧ t = { s with heap := nHp w s.heap }) ⟨rfl, rfl⟩) fun r t hr => ?_
  match r, hr with
  | .error e, hr => exact hr
  | .ok (.ret x), ⟨ex, et⟩ =>
    subst ex et
    have at0 := nS_at w s.heap
    have ty : Shared.TypeIs { s with heap := nHp w s.heap } (.ref s.heap.objs.size) "set" := ⟨_, at0, rfl⟩
    have _ := F.called_set.init.lookup; have _ := F.called_set.init.bind (.ref s.heap.objs.size)
    repeat (any_goals (first | assumption | wp_step))
    refine codeAny_mono (codeAny_call_builtin (R := wants (fun v t => v = .none ∧ ∃ h' tk c, t = { s with heap := h', toks := tk } ∧ Filled w ns s h' c) E) F.called_set.init.plain F.entry_set_init (check_set_init_1 ty ?_)) fun r t hr => ?_
    · have ⟨⟨oc, od, oa, os⟩, ol, kc, nl, kd⟩ := hl
      simp only at kc kd
      subst kc kd
      have ol2 : (nHp w s.heap).get? l = some _ := Heap.get?_push_of_some _ ol
      have _ := F.sub_list_set; have _ := F.sub_list_frozenset
      have _ : (Value.type "list" == Value.type "dict") = false := by decide
      have lst : (nHp w s.heap).IsList l us := ⟨_, ol2, rfl, nl, rfl⟩
      unfold Builtin.«set.__init__» noKeywords Builtin.Frozenset.updateFrom
      generalize eI : pyIter = PI
      wp_walk
      subst eI
      refine wpAny_pyIter_list lst (wpAny_bind (wpAny_runValue ?_))
      have lt := Heap.lt_size ol
      have sz : (nHp w s.heap).objs.size = s.heap.objs.size + 1 := Heap.size_push ..
      have far : l ≠ (nHp w s.heap).objs.size := by rw [sz]; exact Nat.ne_of_lt (Nat.lt_succ_of_lt lt)
      have out : s.heap.objs.size ∉ [(nHp w s.heap).objs.size, l] := fun z => by
        rw [sz] at z
        rcases List.mem_cons.mp z with z | z
        · exact Nat.ne_of_lt (Nat.lt_succ_self _) z
        · exact Nat.ne_of_gt lt (List.mem_singleton.mp z)
      refine set_update_ints ((Walks.list (by simp [hh]) _ l far us).toS) s.heap.objs.size out ns us_len hb (fun i v hv => ?_) (us.size - 0) 0 _ (by omega) (Nat.zero_le _) ⟨⟨_, Heap.get?_push_size _ rfl, rfl, rfl⟩, lst.push _⟩ ⟨0, Nat.le_refl 0, setR_new_at (Heap.get?_push_of_some _ at0)⟩ ?_
      · have hi : i < ns.length := by rw [← us_len]; exact (Array.getElem?_eq_some_iff.mp hv).1
        obtain ⟨t, e⟩ := PyProof.Rows.IntsAre.int_at iu i v (by rw [Array.getElem?_toList]; exact hv)
        exact ⟨ns[i], t, List.getElem?_eq_getElem hi, by rw [e, List.getD_eq_getElem?_getD, List.getElem?_eq_getElem hi]; rfl⟩
      · rintro ⟨h', g2, d', tk, o2⟩ c' mv hc' R
        obtain rfl : g2 = s.gens := mv.gens
        obtain rfl : d' = s.drawn := mv.drawn
        obtain rfl : o2 = s.os := mv.os
        refine (show wpAny _ _ _ _ _ _ from wpAny_pure (show wpAny _ _ (ret Value.none) _ _ _ from wpAny_pure ⟨rfl, h', tk, c', rfl, R, by rw [← us_len]; exact hc', fun b o e => ?_⟩))
        have lb := Heap.lt_size e
        exact mv.heap b o (fun z => by
          rw [sz] at z
          rcases List.mem_cons.mp z with z | z
          · exact Nat.ne_of_lt lb z
          · exact Nat.ne_of_lt (Nat.lt_succ_of_lt lb) (List.mem_singleton.mp z)) (Heap.get?_push_of_some _ (Heap.get?_push_of_some _ e))
    · match r, hr with
      | .error e, hr => exact hr
      | .ok (.ret v), ⟨ev, h', tk, c', et, R⟩ =>
        subst ev et
        repeat (any_goals (first | assumption | wp_step))
        exact fin h' tk c' R
      | .ok .next, hr => exact hr.elim
      | .ok .brk, hr => exact hr.elim
      | .ok .cont, hr => exact hr.elim
  | .ok .next, hr => exact hr.elim
  | .ok .brk, hr => exact hr.elim
  | .ok .cont, hr => exact hr.elim
end
section
variable {X : Cx}
def rSetI (K : PySem.W.Frag) (w : World) : List V → Hp → VK → Prop := fun xs H Q => ∃ (l : Addr) (ns : List Int), xs = [.ref l] ∧ SqL K H l (ns.map V.int) ∧ ns.length < 64 ∧ ∀ p c, H p = none → c ≤ ns.length → Q (.ref p) (upd H p (SetO w p (fun j => decide (j ∈ ns)) c))
theorem cr_setI (hc : X.calm = true) : CallR X (.type "set") (rSetI X.K X.w) := by
  intro pins s σ H xs us Q I r h
  obtain ⟨l, ns, rfl, hq, hl, q⟩ := h
  rw [Vals.ref1 r]
  obtain ⟨its, rv, pl, hz⟩ := I.list hq
  have iu : IntsAre its.toArray.toList ns := ints_of_vals rv
  obtain ⟨o, n, h1, h2, h3, h4⟩ := pl
  refine set_of_list ns (I.ok.hd hc) ⟨o, h1, h2, n, h4⟩ iu (by unfold scanBound; omega) fun h' tk c R => ?_
  have hk : ∀ b o, s.heap.get? b = some o → h'.get? b = some o := R.2.2
  obtain ⟨o2, _, _, _, ho2, _⟩ := R.1
  exact ⟨.ref _, upd H s.heap.objs.size (SetO X.w s.heap.objs.size (fun j => decide (j ∈ ns)) c), I.laid (t' := tk) hk (Nat.le_refl _) (setO_new R.1), rfl, q _ c (I.hok.fresh (Nat.le_refl _)) R.2.1⟩
end
end L2
namespace Mv
open PySem PySem.Spec PyProof.Rows L2
/-- a rising list without what stands twice -/
def nubS : List Int → List Int
  | x :: y :: r => if x = y then nubS (y :: r) else x :: nubS (y :: r)
  | xs => xs
theorem nub_mem (k : Int) : ∀ xs : List Int, k ∈ nubS xs ↔ k ∈ xs
  | [] => Iff.rfl
  | [_] => Iff.rfl
  | x :: y :: r => by
    have ih := nub_mem k (y :: r)
    rw [nubS]
    split
    · rename_i e
      rw [ih, e]
      simp
    · rw [List.mem_cons, ih, List.mem_cons (a := k) (b := x)]
theorem nub_sorted : ∀ xs : List Int, xs.Pairwise (· ≤ ·) → (nubS xs).Pairwise (· < ·)
  | [], _ => .nil
  | [x], _ => List.pairwise_singleton _ _
  | x :: y :: r, h => by
    have h := List.pairwise_cons.mp h
    have ih := nub_sorted (y :: r) h.2
    rw [nubS]
    split
    · exact ih
    · rename_i ne
      refine List.pairwise_cons.mpr ⟨fun z hz => ?_, ih⟩
      have hz := (nub_mem z (y :: r)).mp hz
      have h1 := h.1 y (.head _)
      rcases List.mem_cons.mp hz with rfl | hz
      · omega
      · have h2 := (List.pairwise_cons.mp h.2).1 z hz
        omega
theorem rising_one : ∀ {xs ys : List Int}, xs.Pairwise (· < ·) → ys.Pairwise (· < ·) → (∀ k, k ∈ xs ↔ k ∈ ys) → xs = ys
  | [], [], _, _, _ => rfl
  | [], y :: ys, _, _, h => by have := (h y).mpr (.head _); simp at this
  | x :: xs, [], _, _, h => by have := (h x).mp (.head _); simp at this
  | x :: xs, y :: ys, h1, h2, h => by
    have h1 := List.pairwise_cons.mp h1
    have h2 := List.pairwise_cons.mp h2
    have e : x = y := by
      rcases List.mem_cons.mp ((h x).mp (.head _)) with e | m
      · exact e
      · rcases List.mem_cons.mp ((h y).mpr (.head _)) with e | m2
        · exact e.symm
        · have a := h2.1 x m
          have b := h1.1 y m2
          omega
    subst e
    congr 1
    refine rising_one h1.2 h2.2 fun k => ?_
    constructor
    · intro m
      rcases List.mem_cons.mp ((h k).mp (.tail _ m)) with e | q
      · have := h1.1 k m
        omega
      · exact q
    · intro m
      rcases List.mem_cons.mp ((h k).mpr (.tail _ m)) with e | q
      · have := h2.1 k m
        omega
      · exact q
def gSrtSet : D × Fl → Option (D × Fl) := fun x => match x.1 with
  | .lst ds => match intsOf ds with
    | some is => if is.length < 64 then some (.lst ((nubS (sortI is)).map .int), .n) else none
    | none => none
  | _ => none
section
variable {X : Cx} {ct : CT} {pos : Pos}
theorem me_srtSet {a : Expr} {p p2 pos2 : Pos} {m : EM} (hc : X.calm = true) (hg : Gl X "sorted") (hm : X.mg "sorted" = none) (hg2 : Gl X "set") (hm2 : X.mg "set" = none) (ha : ME X ct a m)
    (na : starEach [a] X.env = (false, eval a X.env) :: starEach [] X.env := by rfl)
    (na2 : starEach [Expr.Call (.Name "set" p2) [a] [] pos2] X.env = (false, eval (Expr.Call (.Name "set" p2) [a] [] pos2) X.env) :: starEach [] X.env := by rfl)
    (b1 : bootBuiltins "sorted" = some (.builtin "sorted") := by decide +kernel) (b2 : bootBuiltins "set" = some (.type "set") := by decide +kernel) :
    ME X ct (.Call (.Name "sorted" p) [.Call (.Name "set" p2) [a] [] pos2] [] pos) (eG1 gSrtSet m) :=
  ⟨fun G W tk => (pe_callB (cr_sortedSet hc) hg hm b1 (pa_cons (pe_callTy (cr_setI hc) hg2 hm2 b2 (pa_cons (ha.run G W tk) pa_nil na) (he := na)) pa_nil na2) (he := na2)).imp fun s H Q ⟨r, S, io, k, h⟩ => ⟨r, S, io, k, Res.first h fun x S1 io1 H1 e1 t1 q1 h1 v o => by
    have k1 := k.step t1 q1
    unfold lift0 at h1
    split at h1
    · rename_i res e
      unfold gSrtSet at e
      split at e
      · rename_i ds ed
        split at e
        · rename_i is ei
          split at e
          · rename_i hl
            cases e
            have o1 := o.repF
            rw [ed] at o1
            obtain ⟨l, vs, rfl, y1, y2, y3⟩ := seq_both (d := .lst ds) rfl o1
            rw [intsOf_eq ei] at y3
            obtain rfl := y3.ints
            refine ⟨l, is, rfl, y1, hl, fun p c hp hcl => ⟨p, _, c, rfl, upd_same, by omega, fun ns p' hs hm hn hp' => ?_⟩⟩
            have e : ns = nubS (sortI is) := rising_one hs (nub_sorted _ (sortI_sorted is)) fun k => by
              rw [hm k, nub_mem, (sortI_perm is).mem_iff, decide_eq_true_eq]
            subst e
            have np : p' ≠ p := fun z => by rw [z, upd_same] at hp'; cases hp'
            have hp1 : H1 p' = none := by rw [← upd_ne (H := H1) np]; exact hp'
            refine h1.go ((Stp.upd hp).trans (Stp.upd hp')) ((q1.upd hp).upd hp') _ (new_lst hp' (t1.free hp1) (fun a z => ?_) (q1.upd hp) (Reps.ofInts _))
            obtain ⟨o2, w1, w2⟩ := k1.mdom a z
            exact ⟨o2, by rw [upd_ne (fun y => by rw [y, hp] at w1; cases w1)]; exact w1, w2⟩
          · cases e
        · cases e
      · cases e
    · exact h1.elim⟩⟩
end
end Mv

set_option maxRecDepth 100000
set_option maxHeartbeats 2000000
/-! Mv30: (n, list) < (m, list); the display of one pair whose value is a number and an empty list -/
namespace L2
open PySem PySem.Spec PyProof.Rows PySem.W
def rLtD (K : PySem.W.Frag) : R2 := fun x y H Q => ∃ d e, Dp K H x d ∧ Dp K H y e ∧ alike d e = true ∧ d ≠ .none ∧ d.depth ≤ 8 ∧ Q (.bl (dataLt d e)) H
theorem op_ltD {X : Cx} (hu : X.A.units + 64 < cLine) : OpR X (compareOp .Lt) (rLtD X.K) := by
  intro pins s σ H x y v u Q I rx ry h
  obtain ⟨d, e, hd, he, al, nn, dp, q⟩ := h
  obtain ⟨as, r1⟩ := Dp.reads I d x v hd rx
  obtain ⟨bs, r2⟩ := Dp.reads I e y u he ry
  exact rcLt_alike d e X.A s v u as bs r1 r2 al nn (Nat.lt_of_le_of_lt (by omega) hu) _ _ _ _ ⟨.bl _, H, I, rfl, q⟩
end L2
namespace Mv
open PySem PySem.Spec PyProof.Rows L2 PySem.W
theorem alike_ints : ∀ is js : List Int, alikeAll (is.map PyData.int) (js.map PyData.int) = true
  | [], _ => by simp [alikeAll]
  | _ :: _, [] => by simp [alikeAll]
  | i :: is, j :: js => by simp [alikeAll, alike, alike_ints is js]
theorem eqv_ints : ∀ is js : List Int, PyData.eqvAll (is.map PyData.int) (js.map PyData.int) = decide (is = js)
  | [], [] => by simp [PyData.eqvAll]
  | [], _ :: _ => by simp [PyData.eqvAll]
  | _ :: _, [] => by simp [PyData.eqvAll]
  | i :: is, j :: js => by
    rw [List.map_cons, List.map_cons, eqv_all_cons, eqv_ints is js]
    by_cases h : i = j <;> by_cases h2 : is = js <;> simp [PyData.eqv, h, h2]
theorem lt_ints : ∀ is js : List Int, PyProof.Rows.lexLt itemOrd (keyToksAll (is.map PyData.int)) (keyToksAll (js.map PyData.int)) = HT.lexLt is js
  | [], [] => by
    simp [keyToksAll]
    rfl
  | [], _ :: _ => by
    simp only [List.map_nil, List.map_cons, keyToksAll]
    rfl
  | _ :: _, [] => by
    simp only [List.map_nil, List.map_cons, keyToksAll]
    rfl
  | i :: is, j :: js => by
    rw [List.map_cons, List.map_cons, HT.lexLt_cons]
    by_cases h : i = j
    · subst h
      rw [if_pos rfl, dataLt_all_yes (by simp [alike]) (by simp [PyData.eqv]), lt_ints is js]
    · rw [if_neg h, dataLt_all_no (by simp [alike]) (by simp [PyData.eqv, h]), dataLt_int]
def ltL (c d : Int) (is js : List Int) : Bool := if c = d then HT.lexLt is js else decide (c < d)
theorem lex_self : ∀ is : List Int, HT.lexLt is is = false
  | [] => rfl
  | i :: is => by rw [HT.lexLt_cons, if_pos rfl, lex_self is]
theorem lt_pair (c d : Int) (is js : List Int) : dataLt (.tuple [.int c, .list (is.map PyData.int)]) (.tuple [.int d, .list (js.map PyData.int)]) = ltL c d is js := by
  rw [dataLt_tuple]
  unfold ltL
  by_cases h : c = d
  · subst h
    rw [if_pos rfl, dataLt_all_yes (by simp [alike]) (by simp [PyData.eqv])]
    by_cases h2 : is = js
    · subst h2
      rw [dataLt_all_yes (by simp [alike, alike_ints]) (by simp [PyData.eqv, eqv_ints]), lex_self]
      simp [keyToksAll]
      rfl
    · rw [dataLt_all_no (by simp [alike, alike_ints]) (by simp [PyData.eqv, eqv_ints, h2]), dataLt_list, lt_ints]
  · rw [if_neg h, dataLt_all_no (by simp [alike]) (by simp [PyData.eqv, h]), dataLt_int]
def gLtL : D × Fl → D × Fl → Option (D × Fl) := fun a b => match a.1, b.1 with
  | .tup [.int c, .lst xs], .tup [.int d, .lst ys] => match intsOf xs, intsOf ys with
    | some is, some js => some (.bl (ltL c d is js), .c)
    | _, _ => none
  | _, _ => none
theorem toPys_ints : ∀ is : List Int, toPys (is.map D.int) = some (is.map PyData.int)
  | [] => rfl
  | i :: is => by
    rw [List.map_cons]
    unfold toPys toPy
    rw [toPys_ints is]
    rfl
theorem depth_ints : ∀ is : List Int, PyData.depthAll (is.map PyData.int) = 0
  | [] => rfl
  | i :: is => by
    rw [List.map_cons]
    unfold PyData.depthAll PyData.depth
    rw [depth_ints is]
    rfl
section
variable {K : PySem.W.Frag} {ct : CT} {M N : Addr → Prop} {io : List Addr} {H : Hp}
theorem dp_pair {c : Int} {is : List Int} {v : V} (h : Rep K M io H (.tup [.int c, .lst (is.map D.int)]) v) : Dp K H v (.tuple [.int c, .list (is.map PyData.int)]) :=
  h.dp (by simp [toPy, toPys, toPys_ints])
theorem any_rep {f : Fl} {d : D} {v : V} (hd : ∀ xs, d = .tup xs → RepF K M N io H f d v → Rep K (fun _ => False) io H d v) (xs : List D) (e : d = .tup xs) (h : RepF K M N io H f d v) : Rep K (fun _ => False) io H d v := hd xs e h
theorem tup_rep {f : Fl} {xs : List D} {v : V} (h : RepF K M N io H f (.tup xs) v) : Rep K (fun _ => False) io H (.tup xs) v := by
  obtain ⟨p, vs, rfl, h1, h2⟩ := tup_of h
  exact .tup h1 h2
theorem ok_ltL : BinOk K ct (rLtD K) gLtL := by
  rintro M N io S H x y ⟨a, fa⟩ ⟨b, fb⟩ res Q ra rb q md e w
  unfold gLtL at e
  dsimp only at e ra rb
  split at e
  · rename_i c xs d ys
    split at e
    · rename_i is js e1 e2
      cases e
      rw [intsOf_eq e1] at ra
      rw [intsOf_eq e2] at rb
      refine ⟨_, _, dp_pair (tup_rep ra), dp_pair (tup_rep rb), by simp [alike, alikeAll, alike_ints], (fun z => nomatch z), by simp [PyData.depth, PyData.depthAll, depth_ints], ?_⟩
      rw [lt_pair]
      exact w _ _ Stp.refl (ResOk.c (.bl _) q)
    · cases e
  · cases e
end
/-- {k: (i, [])} -/
def eDict1L (k i : Int) : EM := fun _ S => .ok (.dic [.inl k] [.tup [.int i, .lst []]], .n) S
section
variable {X : Cx} {ct : CT} {pos : Pos}
theorem upd3 {H : Hp} {p l t : Addr} {a b c d : HO} (h1 : l ≠ p) (h2 : t ≠ p) : upd (upd (upd (upd H p a) l b) t c) p d = upd (upd (upd H l b) t c) p d := by
  funext x
  by_cases hx : x = p
  · subst hx
    rw [upd_same, upd_same]
  · rw [upd_ne hx, upd_ne hx]
    by_cases ht : x = t
    · subst ht
      rw [upd_same, upd_same]
    · rw [upd_ne ht, upd_ne ht]
      by_cases hl : x = l
      · subst hl
        rw [upd_same, upd_same]
      · rw [upd_ne hl, upd_ne hl, upd_ne hx]
theorem me_dict1L {k i : Int} {p1 p2 p3 p4 : Pos} {k1 k2 : Nat} {kt : Nat} : ME X ct (.Dict [some (.Constant (.int k) k1 p1)] [.Tuple [.Constant (.int i) k2 p2, .List [] p3] kt p4] pos) (eDict1L k i) :=
  ⟨fun G W tk => (pe_disp (pps_cons (pe_int (i := k)) (pe_tup (pa_cons (pe_int (i := i)) (pa_cons (pe_lst pa_nil) pa_nil))) pps_nil) rfl rfl (by simp) (Nat.le_of_ble_eq_true rfl)).imp fun s H Q ⟨r, S, io, kk, h⟩ p hp => by
    refine ⟨Nat.zero_le _, fun l hl => ⟨by show 2 ≤ sizeLine; decide, fun t ht => ?_⟩⟩
    have nl : l ≠ p := fun z => by rw [z, upd_same] at hl; cases hl
    have ntl : t ≠ l := fun z => by rw [z, upd_same] at ht; cases ht
    rw [upd_ne ntl] at ht
    have nt : t ≠ p := fun z => by rw [z, upd_same] at ht; cases ht
    rw [upd_ne nl] at hl
    rw [upd_ne nt] at ht
    have hH : (upd (upd (upd H p (.dK [])) l (.lst [])) t (.tup [.int i, .ref l])) p = some (.dK []) := by
      rw [upd_ne nt.symm, upd_ne nl.symm, upd_same]
    refine ⟨hH, [(.inl k, .ref t)], rfl, Nat.le_of_ble_eq_true rfl, ?_⟩
    show Q (.ref p) (upd (upd (upd (upd H p (.dK [])) l (.lst [])) t (.tup [.int i, .ref l])) p (.dK [(.inl k, .ref t)]))
    rw [upd3 nl nt]
    have h1 : (upd H l (.lst [])) t = none := by rw [upd_ne ntl]; exact ht
    have h2 : (upd (upd H l (.lst [])) t (.tup [.int i, .ref l])) p = none := by rw [upd_ne nt.symm, upd_ne nl.symm]; exact hp
    have s1 : Stp ct io H io (upd (upd (upd H l (.lst [])) t (.tup [.int i, .ref l])) p (.dK [(.inl k, .ref t)])) := ((Stp.upd hl).trans (Stp.upd h1)).trans (Stp.upd h2)
    have fresh : ∀ {a : Addr}, H a = none → ¬ Mall G r s a := fun ha z => by
      obtain ⟨o, e, _⟩ := kk.mdom _ z
      rw [ha] at e
      cases e
    have q0 : StoOk X.K ct (Mall G r s) io S (upd (upd H l (.lst [])) t (.tup [.int i, .ref l])) := (kk.sto.upd hl).upd h1
    have et : (upd (upd (upd H l (.lst [])) t (.tup [.int i, .ref l])) p (.dK [(.inl k, .ref t)])) t = some (.tup [.int i, .ref l]) := by
      rw [upd_ne nt, upd_same]
    have el : (upd (upd (upd H l (.lst [])) t (.tup [.int i, .ref l])) p (.dK [(.inl k, .ref t)])) l = some (.lst []) := by
      rw [upd_ne nl, upd_ne ntl.symm, upd_same]
    exact h io _ s1 (q0.upd h2) (.ref p) ⟨p, rfl, hp, fresh hp, .inr ⟨[.inl k], [.tup [.int i, .lst []]], [(.inl k, .ref t)], rfl, upd_same, rfl, .cons (.tup (SqT.of et) (.cons (.int i) (.cons (.lst el (fun z => z.elim (fresh hl) nl) .nil) .nil))) .nil⟩, (q0.off h2).upd h2⟩⟩
end
end Mv

set_option maxRecDepth 100000
set_option maxHeartbeats 2000000
/-! Mv31: a comprehension within a comprehension -/
namespace Mv
open PySem PySem.Spec PyProof.Rows L2 PySem.W
def relS (scope sc : Scope) : Scope :=
  { scope with names := scope.names.map fun (n, k) => if (k == .free && sc.kind == .function && sc.names.lookup n == some .cell) then (n, .cell) else (n, k) }
theorem blkIn {X : Cx} {s : Shared} {H : Hp} {scope0 scope : Scope} {cl : List (Str × Addr)} {C : Addr} {fp : List Addr} {N : List Str} {sc : Scope} {own : List (Str × Nat)}
    (e : X.env.scope = sc) (h : blkC N (relS scope0 sc) scope own = true) : BlkOk N (X.blk s H scope0 (compEnvC scope0 cl C X.env) fp).env.scope scope own := by
  subst e
  exact blkOk_by h
end Mv

set_option maxRecDepth 100000
set_option maxHeartbeats 2000000
/-! Mv32: len(set(xs)), xs a list of unlike ints -/
namespace Mv
open PySem PySem.Spec PyProof.Rows L2
def gLenSet : D × Fl → Option (D × Fl) := fun x => match x.1 with
  | .lst ds => match intsOf ds with
    | some is => if is.length ≤ 4000 ∧ is.Nodup then some (.int (is.length : Nat), .c) else none
    | none => none
  | _ => none
section
variable {X : Cx} {ct : CT} {pos : Pos}
theorem me_lenSet {a : Expr} {p p2 pos2 : Pos} {m : EM} (hc : X.calm = true) (hg : Gl X "len") (hm : X.mg "len" = none) (hg2 : Gl X "set") (hm2 : X.mg "set" = none) (ha : ME X ct a m)
    (na : starEach [a] X.env = (false, eval a X.env) :: starEach [] X.env := by rfl) :
    ME X ct (.Call (.Name "len" p) [.Call (.Name "set" p2) [a] [] pos2] [] pos) (eG1 gLenSet m) :=
  ⟨fun G W tk => (RZ.pe_lenSetI hg hm hg2 hm2 (ha.run G W tk) hc na).imp fun s H Q ⟨r, S, io, k, h⟩ => ⟨r, S, io, k, Res.first h fun x S1 io1 H1 e1 t1 q1 h1 v o => by
    have k1 := k.step t1 q1
    unfold lift0 at h1
    split at h1
    · rename_i res e
      unfold gLenSet at e
      split at e
      · rename_i ds ed
        split at e
        · rename_i is ei
          split at e
          · rename_i hl
            cases e
            have o1 := o.repF
            rw [ed] at o1
            obtain ⟨l, vs, rfl, y1, y2, y3⟩ := seq_both (d := .lst ds) rfl o1
            rw [intsOf_eq ei] at y3
            obtain rfl := y3.ints
            exact ⟨l, is, rfl, y1, hl.2, hl.1, h1.go Stp.refl q1 _ (ResOk.c (.int _) q1)⟩
          · cases e
        · cases e
      · cases e
    · exact h1.elim⟩⟩
end
end Mv

set_option maxRecDepth 100000
set_option maxHeartbeats 2000000
/-! Mv33: for x in y: d[x] = e, y a list of ints of one's own that stays one's own -/
namespace Mv
open PySem PySem.Spec PyProof.Rows L2
section
variable {X : Cx} {ct : CT} {pos : Pos}
/-- the same ends, asked of the same slots alone -/
def only (D : Ends) (s : St) : Ends := { D with nx := fun s' H' => s' = s → D.nx s' H' }
/-- a statement that sets no slot -/
structure MS0 (X : Cx) (ct : CT) (st : Stmt) (m : SM) : Prop where
  run : ∀ (G : Gx) (W : WX), Takes X W → PS X st (fun D s H => ∃ r S io, Ok X.K ct G r S io s H ∧ SRes X.K ct G W (only D s) (m r S))
theorem ms0_dsub {i : Nat} {y : Str} {p spos : Pos} {e ei : Expr} {m mi : EM} (hu : X.A.units + 64 < cLine) (hx : PE X (.Name y p) (tVar i)) (hi : ME X ct ei mi) (he : ME X ct e m)
    (ha : ∀ v, assign (.Subscript (.Name y p) ei spos) X.env v = (do
      let ov ← holding [v] (eval (.Name y p) X.env)
      let iv ← holding [v, ov] (eval ei X.env)
      standAt spos
      holding [v, ov, iv] (setItem ov iv v)
      release [v, ov, iv] []) := by intro _; rfl)
    (hs : swapsWithSole [.Subscript (.Name y p) ei spos] e pos.line X.env = pure false := by rfl) (hw : swappedStores [.Subscript (.Name y p) ei spos] e X.env = pure none := by rfl)
    (h1 : (assignEach [.Subscript (.Name y p) ei spos] X.env).map (·.2) = [assign (.Subscript (.Name y p) ei spos) X.env] := by rfl) : MS0 X ct (.Assign [.Subscript (.Name y p) ei spos] e pos) (sDSub i mi m) :=
  ⟨fun G W tk => (ps_asg (he.run G W tk) (pg_sub hx (hi.run G W tk) (set_dict (hu1 hu)) ha) hs hw h1).imp fun D s H ⟨r, S, io, k, h⟩ => ⟨r, S, io, k, SRes.first k h fun x S1 io1 H1 _ t1 q1 k1 h1' v ov => by
    split at h1'
    · rename_i ks xs e
      obtain ⟨a, h1, h2, h3, h4⟩ := k1.own i _ e
      obtain ⟨kvs, h5, h6, h7⟩ := own_dic h2
      refine ⟨.ref a, h1, r, S1, io1, k1, SRes.first k1 h1' fun j S2 io2 H2 _ t2 q2 k2 h2' u ou => ?_⟩
      split at h2'
      · rename_i kk ej
        split at h2'
        · rename_i g
          rw [Bool.and_eq_true, decide_eq_true_eq] at g
          have h5' := t2.k1 a _ h5 NI.dK
          have h7' := h7.stp t2
          obtain rfl := key_val ej ou.repF
          subst h6
          refine ⟨a, _, rfl, DPut.k h5' (by rw [← List.length_map Prod.fst]; exact g.2), h2' s io2 _ (k2.mut e h1 (own_newD (.inr (.inr ⟨i, _, e, h1⟩)) h5' (put_keys kvs kk v xs x.1) (put_vals h7' (RepF.clean g.1 (ov.repF.stp t2))))) rfl⟩
        · exact h2'.elim
      · exact h2'.elim
    · exact h1'.elim⟩⟩
def sameI (x : Option Slot) (is : List Int) : Bool := match x with
  | some (.own (.lst ds)) => decide (intsOf ds = some is)
  | _ => false
def forO (i : Nat) (js : List Int) (g : GM) (b : SM) : List D → Env → Store → SR
  | [], r, S => .nx r S
  | d :: ds, r, S => match g d r with
    | none => .no
    | some r1 => match b r1 S with
      | .nx r2 S2 => if sameI r1[i]? js && sameI r2[i]? js then forO i js g b ds r2 S2 else .no
      | .er c p r2 S2 => .er c p r2 S2
      | _ => .no
def sForO (i : Nat) (g : GM) (b : SM) : SM := fun r S => match r[i]? with
  | some (.own (.lst ds)) => match intsOf ds with
    | some js => forO i js g b ds r S
    | none => .no
  | _ => .no
theorem same_own {x : Option Slot} {js : List Int} (h : sameI x js = true) : x = some (.own (.lst (js.map D.int))) := by
  unfold sameI at h
  split at h
  · rename_i ds
    rw [intsOf_eq (of_decide_eq_true h)]
  · cases h
theorem ms_forO {i t : Nat} {y : Str} {p : Pos} {tg : Expr} {st : Stmt} {g : GM} {b : SM} (hc : X.calm = true) (hx : PE X (.Name y p) (tVar i)) (hg : MG X ct tg [t] g) (ht : i ≠ t) (hb : MS0 X ct st b)
    (hs : ∀ x, foldedSetIterable (.Name y p) X.env x = pure x := by intro _; rfl) : MS X ct (.For tg (.Name y p) [st] [] pos) (sForO i g b) := by
  refine ⟨fun G W tk po => (ps_for po hc (pi_list hx) (hg.run G) (pss_one (hb.run G W tk)) hs).imp fun De s H ⟨r, S, io, k, h⟩ => ?_⟩
  unfold sForO at h
  split at h
  · rename_i ds e
    split at h
    · rename_i js ej
      have ed := intsOf_eq ej
      obtain ⟨a, ea, ow, _, _, _⟩ := k.own i _ e
      obtain ⟨vs, h1, h2⟩ := own_lst ow
      refine ⟨.ref a, ea, a, rfl, ⟨vs, SqL.of h1⟩, ?_⟩
      refine ⟨fun j m s H => m = ds.length - j ∧ j ≤ ds.length ∧ s[i]? = some (some (V.ref a)) ∧ ∃ r S io, Ok X.K ct G r S io s H ∧ r[i]? = some (.own (.lst ds)) ∧ SRes X.K ct G W De (forO i js g b (ds.drop j) r S), ⟨_, rfl, Nat.zero_le _, ea, r, S, io, k, e, h⟩, fun j m s H ⟨hm, hj, ea, r, S, io, k, e, h⟩ => ?_⟩
      subst hm
      obtain ⟨a', ea', ow, _, _, _⟩ := k.own i _ e
      rw [ea] at ea'
      cases ea'
      obtain ⟨vs, h1, h2⟩ := own_lst ow
      have hl := h2.len
      by_cases hlt : j < ds.length
      · obtain ⟨v, gv, _⟩ := h2.get (List.getElem?_eq_getElem hlt)
        refine .inr ⟨⟨vs, v, SqL.of h1, gv⟩, fun s' H' => s'[i]? = some (some (V.ref a)) ∧ ∃ r S io, Ok X.K ct G r S io s' H' ∧ r[i]? = some (.own (.lst ds)) ∧ SRes X.K ct G W De (forO i js g b (ds.drop (j + 1)) r S), fun s' H' ⟨n1, n2⟩ => ⟨ds.length - (j + 1), by omega, rfl, hlt, n1, n2⟩, fun x H' y => ?_⟩
        obtain ⟨e2, y⟩ := y
        subst e2
        have gx := y vs (SqL.of h1)
        obtain ⟨d, hd, rv⟩ := h2.getV gx
        have edr : ds.drop j = d :: ds.drop (j + 1) := by
          rw [List.drop_eq_getElem_cons hlt]
          rw [List.getElem?_eq_getElem hlt] at hd
          cases hd
          rfl
        have di : ∃ z, d = .int z := by
          rw [ed, List.getElem?_map] at hd
          obtain ⟨z, _, q⟩ := Option.map_eq_some_iff.mp hd
          exact ⟨z, q.symm⟩
        obtain ⟨z, rfl⟩ := di
        rw [edr] at h
        refine ⟨r, S, io, .int z, k, by cases rv; exact .int z, ?_⟩
        unfold forO at h
        cases e2 : g (.int z) r with
        | none => rw [e2] at h; exact h
        | some r1 =>
          rw [e2] at h
          intro s2 kp _ k2
          have s2a : s2[i]? = some (some (V.ref a)) := by
            rw [(kp.2 i (by rw [List.mem_singleton]; exact ht)).2]
            exact ea
          refine ⟨r1, S, io, k2, ?_⟩
          have h : SRes X.K ct G W De (match b r1 S with
            | .nx r2 S2 => if sameI r1[i]? js && sameI r2[i]? js then forO i js g b (ds.drop (j + 1)) r2 S2 else .no
            | .er c p r2 S2 => .er c p r2 S2
            | _ => .no) := h
          cases e3 : b r1 S with
          | nx r2 S2 =>
            rw [e3] at h
            dsimp only at h
            split at h
            · rename_i g2
              rw [Bool.and_eq_true] at g2
              have o2 := same_own g2.2
              rw [← ed] at o2
              exact fun s' io' H' k' es => ⟨by rw [es]; exact s2a, r2, S2, io', k', o2, h⟩
            · exact h.elim
          | er c p r2 S2 => rw [e3] at h; exact h
          | _ => rw [e3] at h; exact h.elim
      · have ei : j = ds.length := by omega
        subst ei
        refine .inl ⟨⟨vs, SqL.of h1, by omega⟩, ?_⟩
        rw [List.drop_length] at h
        exact h s io H k
    · exact h.elim
  · exact h.elim
end
end Mv

set_option maxRecDepth 100000
set_option maxHeartbeats 2000000
/-! Mv34: containers that are one's own to the ground -/
namespace L2
open PySem PySem.Spec PyProof.Rows
theorem PA.ex {X : Cx} {e : List Expr} {ι : Sort _} {t : ι → TA} (h : ∀ i, PA X e (t i)) : PA X e (fun s H Q => ∃ i, t i s H Q) := ⟨fun pos pins s σ H Q I ⟨i, w⟩ => (h i).run pos pins s σ H Q I w⟩
end L2
namespace Mv
open PySem PySem.Spec PyProof.Rows L2
theorem ConD.region {K : PySem.W.Frag} {io : List Addr} {H : Hp} {F F' : Addr → Prop} {b : Nat} {d : D} {v : V} (f : ∀ a, F a → F' a) (h : ConD K io H F b d v) : ConD K io H F' b d v := by
  obtain ⟨p, vs, xs, po, e, h1, h2⟩ := h
  refine ⟨p, vs, xs, po, e, ?_, Paired.mapP h2 fun _ _ z => ?_⟩
  · exact h1.imp id fun ⟨e1, h1, hp, hn⟩ => ⟨e1, h1, f _ hp, hn⟩
  · rcases z with z | ⟨ys, q, ws, e, e2, hq, r⟩
    · exact .inl z
    · exact .inr ⟨ys, q, ws, e, e2, f _ hq, r⟩
theorem ElD.rep {K : PySem.W.Frag} {io : List Addr} {H : Hp} {F : Addr → Prop} {p : Option Addr} {x : D} {v : V} (h : ElD K io H F p 0 x v) : Rep K (fun _ => False) io H x v := by
  rcases h with ⟨_, h⟩ | ⟨ys, q, ws, rfl, rfl, _, _, h, _, z⟩
  · exact h
  · exact .lst h (fun z => z) (z rfl).2
theorem els_rep {K : PySem.W.Frag} {io : List Addr} {H : Hp} {F : Addr → Prop} {p : Option Addr} : ∀ {xs : List D} {vs : List V}, Paired (ElD K io H F p 0) xs vs → Reps K (fun _ => False) io H xs vs
  | _, _, .nil => .nil
  | _, _, .cons r t => .cons r.rep (els_rep t)
theorem ConD.rep {K : PySem.W.Frag} {io : List Addr} {H : Hp} {F : Addr → Prop} {d : D} {v : V} (h : ConD K io H F 0 d v) : Rep K (fun _ => False) io H d v := by
  obtain ⟨p, vs, xs, po, rfl, ⟨rfl, h1, _⟩ | ⟨rfl, h1, _⟩, h2⟩ := h
  · exact .tup h1 (els_rep h2)
  · exact .lst h1 (fun z => z) (els_rep h2)
section
variable {K : PySem.W.Frag} {ct : CT} {G : Gx} {r : Env} {S S1 : Store} {io io1 : List Addr} {s : St} {H H1 : Hp} {i : Nat} {d : D} {v : V} {F : Addr → Prop}
/-- new things are hidden -/
def Gx.hideF (G : Gx) (F : Addr → Prop) : Gx := { G with N0 := fun a => G.N0 a ∨ F a }
theorem mown_hideF {a : Addr} : Mown (G.hideF F) r s a ↔ Mown G r s a ∨ F a := by
  constructor
  · rintro ((z | z) | z)
    · exact .inl (.inl z)
    · exact .inr z
    · exact .inl (.inr z)
  · rintro ((z | z) | z)
    · exact .inl (.inl z)
    · exact .inr z
    · exact .inl (.inr z)
theorem mall_hideF {a : Addr} : Mall (G.hideF F) r s a ↔ Mall G r s a ∨ F a := by
  constructor
  · rintro (z | z)
    · exact .inl (.inl z)
    · exact (mown_hideF.mp z).elim (fun z => .inl (.inr z)) .inr
  · rintro ((z | z) | z)
    · exact .inl z
    · exact .inr (mown_hideF.mpr (.inl z))
    · exact .inr (mown_hideF.mpr (.inr z))
theorem Ok.hideF (k : Ok K ct G r S io s H) (t : Stp ct io H io1 H1) (hF : ∀ a, F a → H a = none) (hF1 : ∀ a, F a → ∃ o, H1 a = some o ∧ NI o ∧ ¬ Im o) (q : StoOk K ct (fun a => Mall G r s a ∨ F a) io1 S1 H1) : Ok K ct (G.hideF F) r S1 io1 s H1 := by
  have ne : ∀ a, (∃ o, H a = some o) → ¬ F a := fun a ⟨o, e⟩ z => by
    rw [hF a z] at e
    cases e
  have m : ∀ a, (∃ o, H a = some o) → ¬ Mall G r s a → ¬ Mall (G.hideF F) r s a := fun a e n z => (mall_hideF.mp z).elim n (ne a e)
  have m' : ∀ a, (∃ o, H a = some o) → ¬ Mown G r s a → ¬ Mown (G.hideF F) r s a := fun a e n z => (mown_hideF.mp z).elim n (ne a e)
  refine ⟨k.len, fun i f d h => ?_, fun i d h => ?_, k.inj, q.anti fun a z => mall_hideF.mp z, k.stp.trans t, fun a h => ?_, fun a h => ?_, fun p hp => (k.held p hp).mono t.kp t.kp m m' t.pre, k.dp.gen (M := fun _ => False) rfl (fun _ z => .inl z) (fun _ _ _ e => ⟨e, rfl⟩) t.kp (fun a o _ _ e n => t.k1 a o e n) t.pre⟩
  · obtain ⟨v, h1, h2⟩ := k.arg i f d h
    exact ⟨v, h1, h2.mono t.kp t.kp m m' t.pre⟩
  · obtain ⟨a, h1, h2, h3, h4, h5⟩ := k.own i d h
    obtain ⟨o, e, _⟩ := h2.there
    exact ⟨a, h1, h2.mono t.kp m t.pre fun o e n => t.k1 a o e n, h3, fun z => z.elim h4 (ne a ⟨o, e⟩), h5⟩
  · obtain ⟨o, e, n⟩ := k.m0 a h
    exact ⟨o, t.k1 a o e n, n⟩
  · rcases h with h | h
    · obtain ⟨o, ⟨e, n⟩, y⟩ := k.n0 a h
      exact ⟨o, ⟨t.k1 a o e n, n⟩, y⟩
    · obtain ⟨o, e, n, ni⟩ := hF1 a h
      refine ⟨o, ⟨e, n⟩, fun z => ?_, k.stp.free (hF a h), ni⟩
      obtain ⟨o, e, _⟩ := k.m0 a z
      rw [hF a h] at e
      cases e
/-- what is hidden is slot i's -/
def Gx.give (G : Gx) (i : Nat) (F : Addr → Prop) : Gx := { G with F0 := fun j a => G.F0 j a ∨ (j = i ∧ F a) }
theorem Ok.give (k : Ok K ct (G.hideF F) r S io s H) (sub : ∀ j a, G.F0 j a → G.N0 a) (nF : ∀ a, G.N0 a → ¬ F a) (hi : i < r.length) (hc : ConD K io H F 0 d v) : Ok K ct ((G.hideF F).give i F) (r.set i (.deep 0 d)) S io (s.set i (some v)) H := by
  have no : ∀ e, Slot.deep 0 d ≠ Slot.own e := fun e z => by cases z
  have m : ∀ a, Mall ((G.hideF F).give i F) (r.set i (.deep 0 d)) (s.set i (some v)) a → Mall (G.hideF F) r s a := fun a => mall_set (G := G.hideF F) no
  have m' : ∀ a, Mown ((G.hideF F).give i F) (r.set i (.deep 0 d)) (s.set i (some v)) a → Mown (G.hideF F) r s a := fun a => mown_set (G := G.hideF F) no
  have an : ∀ {g : Fl} {e : D} {w : V}, ArgF K (Mall (G.hideF F) r s) (Mown (G.hideF F) r s) io H g e w → ArgF K (Mall ((G.hideF F).give i F) (r.set i (.deep 0 d)) (s.set i (some v))) (Mown ((G.hideF F).give i F) (r.set i (.deep 0 d)) (s.set i (some v))) io H g e w :=
    fun {g e w} h => h.mono Kp.refl Kp.refl (fun a _ n z => n (m a z)) (fun a _ n z => n (m' a z)) io_refl
  refine ⟨by simp [k.len], fun j g e q => ?_, fun j e q => ?_, fun j j' e e' a q q' z z' => ?_, k.sto.anti m, k.stp, k.m0, k.n0, fun p hp => an (k.held p hp), ⟨fun j a z => ?_, fun j j' a z z' => ?_, fun j b e q => ?_⟩⟩
  · rcases get_set q with ⟨rfl, q, hl⟩ | ⟨hj, q⟩
    · cases q
    · obtain ⟨w, h1, h2⟩ := k.arg j g e q
      exact ⟨w, by rw [List.getElem?_set_ne hj]; exact h1, an h2⟩
  · rcases get_set q with ⟨rfl, q, _⟩ | ⟨hj, q⟩
    · cases q
    · obtain ⟨a, h1, h2, h3, h4⟩ := k.own j e q
      exact ⟨a, by rw [List.getElem?_set_ne hj]; exact h1, h2.anti m, h3, h4⟩
  · rcases get_set q with ⟨_, q, _⟩ | ⟨hj, q⟩
    · cases q
    · rcases get_set q' with ⟨_, q', _⟩ | ⟨hj', q'⟩
      · cases q'
      · rw [List.getElem?_set_ne hj] at z
        rw [List.getElem?_set_ne hj'] at z'
        exact k.inj j j' e e' a q q' z z'
  · rcases z with z | ⟨_, z⟩
    · exact .inl (sub j a z)
    · exact .inr z
  · rcases z with z | ⟨e, z⟩
    · rcases z' with z' | ⟨_, z'⟩
      · exact k.dp.one j j' a z z'
      · exact absurd z' (nF a (sub j a z))
    · rcases z' with z' | ⟨e', z'⟩
      · exact absurd z (nF a (sub j' a z'))
      · rw [e, e']
  · rcases get_set q with ⟨rfl, q, hl⟩ | ⟨hj, q⟩
    · cases q
      exact ⟨v, List.getElem?_set_self (k.len ▸ hl), hc.region fun a z => .inr ⟨rfl, z⟩⟩
    · obtain ⟨w, h1, h2⟩ := k.dp.at_ j b e q
      exact ⟨w, by rw [List.getElem?_set_ne hj]; exact h1, h2.region fun a z => .inl z⟩
/-- it is forgotten -/
theorem Ok.ungive (k : Ok K ct ((G.hideF F).give i F) r S io s H) (sub : ∀ j a, G.F0 j a → G.N0 a) : Ok K ct G (r.set i .no) S io s H := by
  have mo : ∀ a, Mown G (r.set i .no) s a → Mown ((G.hideF F).give i F) r s a := fun a z => by
    rcases z with z | ⟨j, e, h1, h2⟩
    · exact .inl (.inl z)
    · rcases get_set h1 with ⟨_, h1, _⟩ | ⟨hj, h1⟩
      · cases h1
      · exact .inr ⟨j, e, h1, h2⟩
  have ml : ∀ a, Mall G (r.set i .no) s a → Mall ((G.hideF F).give i F) r s a := fun a z => z.elim .inl fun z => .inr (mo a z)
  have an : ∀ {g : Fl} {e : D} {w : V}, ArgF K (Mall ((G.hideF F).give i F) r s) (Mown ((G.hideF F).give i F) r s) io H g e w → ArgF K (Mall G (r.set i .no) s) (Mown G (r.set i .no) s) io H g e w :=
    fun {g e w} h => h.mono Kp.refl Kp.refl (fun a _ n z => n (ml a z)) (fun a _ n z => n (mo a z)) io_refl
  refine ⟨by simp [k.len], fun j g e q => ?_, fun j e q => ?_, fun j j' e e' a q q' z z' => ?_, k.sto.anti ml, k.stp, k.m0, fun a z => k.n0 a (.inl z), fun p hp => an (k.held p hp), ⟨sub, fun j j' a z z' => k.dp.one j j' a (.inl z) (.inl z'), fun j b e q => ?_⟩⟩
  · rcases get_set q with ⟨rfl, q, hl⟩ | ⟨hj, q⟩
    · cases q
    · obtain ⟨w, h1, h2⟩ := k.arg j g e q
      exact ⟨w, h1, an h2⟩
  · rcases get_set q with ⟨rfl, q, _⟩ | ⟨hj, q⟩
    · cases q
    · obtain ⟨a, h1, h2, h3, h4, h5⟩ := k.own j e q
      exact ⟨a, h1, h2.anti ml, h3, fun z => h4 (.inl z), h5⟩
  · rcases get_set q with ⟨_, q, _⟩ | ⟨hj, q⟩
    · cases q
    · rcases get_set q' with ⟨_, q', _⟩ | ⟨hj', q'⟩
      · cases q'
      · exact k.inj j j' e e' a q q' z z'
  · rcases get_set q with ⟨rfl, q, _⟩ | ⟨hj, q⟩
    · cases q
    · obtain ⟨w, h1, h2⟩ := k.dp.at_ j b e q
      exact ⟨w, h1, h2.region fun a z => z.elim id fun ⟨e, _⟩ => absurd e.symm hj⟩
/-- a list of slot i's region is written: of the slot nothing is known -/
theorem Ok.mutF {q : Addr} {vs ws : List V} (k : Ok K ct G r S io s H) (hq : G.F0 i q) (hD : H q = some (.lst vs)) : Ok K ct G (r.set i .no) S io s (upd H q (.lst ws)) := by
  have hN := k.dp.sub i q hq
  have mo : ∀ a, Mown G (r.set i .no) s a → Mown G r s a := fun a z => by
    rcases z with z | ⟨j, e, h1, h2⟩
    · exact .inl z
    · rcases get_set h1 with ⟨_, h1, _⟩ | ⟨hj, h1⟩
      · cases h1
      · exact .inr ⟨j, e, h1, h2⟩
  have ml : ∀ a, Mall G (r.set i .no) s a → Mall G r s a := fun a z => z.elim .inl fun z => .inr (mo a z)
  have ma : Mown G r s q := .inl hN
  have mb : Mall G r s q := .inr ma
  have kp : ∀ M : Addr → Prop, M q → Kp M H (upd H q (.lst ws)) := fun M hm b u e ni z => by
    rw [upd_ne]
    · exact e
    · rintro rfl
      rcases z with z | z
      · exact z hm
      · rw [hD] at e
        cases e
        exact not_im_lst z
  obtain ⟨o, ⟨_, _⟩, nm, n0, _⟩ := k.n0 q hN
  have h0 : ∀ b u, G.H0 b = some u → b ≠ q := fun b u e y => by
    rw [y, n0] at e
    cases e
  have n1 : ∀ a, (∃ o, H a = some o) → ¬ Mall G r s a → ¬ Mall G (r.set i .no) s a := fun a _ n z => n (ml a z)
  have n2 : ∀ a, (∃ o, H a = some o) → ¬ Mown G r s a → ¬ Mown G (r.set i .no) s a := fun a _ n z => n (mo a z)
  refine ⟨by simp [k.len], fun j f d h => ?_, fun j d h => ?_, fun j j' e e' a q q' z z' => ?_, k.sto.mono (kp _ mb) n1 (fun b _ _ _ _ e => ?_) (fun b _ e => ?_), ⟨fun b u q n => ?_, fun b u q n nt => ?_, k.stp.pre, k.stp.new, fun b u q => ?_, fun pu b u q => by rw [upd_ne (h0 b u q)]; exact k.stp.k3 pu b u q⟩, fun a h => ?_, fun a h => ?_, fun p hp => (k.held p hp).mono (kp _ mb) (kp _ ma) n1 n2 io_refl, k.dp.sub, k.dp.one, fun j b e h => ?_⟩
  · rcases get_set h with ⟨_, h, _⟩ | ⟨hj, h⟩
    · cases h
    · obtain ⟨v, h1, h2⟩ := k.arg j f d h
      exact ⟨v, h1, h2.mono (kp _ mb) (kp _ ma) n1 n2 io_refl⟩
  · rcases get_set h with ⟨_, h, _⟩ | ⟨hj, h⟩
    · cases h
    · obtain ⟨a, h1, h2, h3, h4, h5⟩ := k.own j d h
      refine ⟨a, h1, h2.mono (kp _ mb) n1 io_refl fun o e _ => ?_, h3, h4, h5⟩
      rw [upd_ne]
      · exact e
      · exact fun z => h4 (z ▸ hN)
  · rcases get_set q with ⟨_, q, _⟩ | ⟨hj, q⟩
    · cases q
    · rcases get_set q' with ⟨_, q', _⟩ | ⟨hj', q'⟩
      · cases q'
      · exact k.inj j j' e e' a q q' z z'
  · rw [upd_ne]
    · exact e
    · intro z
      rw [z, hD] at e
      cases e
  · rw [upd_ne]
    · exact e
    · intro z
      rw [z, hD] at e
      cases e
  · rw [upd_ne (h0 b u q)]
    exact k.stp.k1 b u q n
  · rw [upd_ne (h0 b u q)]
    exact k.stp.k2 b u q n nt
  · rw [upd_ne (h0 b u q)]
    exact k.stp.dom b u q
  · obtain ⟨o, e, n⟩ := k.m0 a h
    refine ⟨o, ?_, n⟩
    rw [upd_ne]
    · exact e
    · exact fun z => nm (z ▸ h)
  · by_cases z : a = q
    · subst z
      exact ⟨.lst ws, ⟨upd_same, NI.lst⟩, nm, n0, not_im_lst⟩
    · obtain ⟨o, ⟨e, n⟩, y⟩ := k.n0 a h
      exact ⟨o, ⟨by rw [upd_ne z]; exact e, n⟩, y⟩
  · rcases get_set h with ⟨_, h, _⟩ | ⟨hj, h⟩
    · cases h
    · obtain ⟨v, h1, h2⟩ := k.dp.at_ j b e h
      refine ⟨v, h1, h2.mono (kp _ ma) (fun a o z e _ => ?_) io_refl⟩
      rw [upd_ne]
      · exact e
      · rintro rfl
        exact hj (k.dp.one i j a hq z)
/-- a slot of which nothing is known gets its word back -/
theorem Ok.redeep {n : Nat} (k : Ok K ct G r S io s H) (e : r[i]? = some .no) (es : s[i]? = some (some v)) (hc : ConD K io H (G.F0 i) n d v) : Ok K ct G (r.set i (.deep n d)) S io s H := by
  have no : ∀ e, Slot.deep n d ≠ Slot.own e := fun e z => by cases z
  have hl := lt_of_get e
  have mo : Mown G (r.set i (.deep n d)) s = Mown G r s := by
    funext a
    refine propext ⟨fun z => ?_, fun z => ?_⟩
    · rcases z with z | ⟨j, u, h1, h2⟩
      · exact .inl z
      · rcases get_set h1 with ⟨_, h1, _⟩ | ⟨hj, h1⟩
        · cases h1
        · exact .inr ⟨j, u, h1, h2⟩
    · rcases z with z | ⟨j, u, h1, h2⟩
      · exact .inl z
      · refine .inr ⟨j, u, ?_, h2⟩
        rw [List.getElem?_set_ne]
        · exact h1
        · rintro rfl
          rw [e] at h1
          cases h1
  have ml : Mall G (r.set i (.deep n d)) s = Mall G r s := by unfold Mall; rw [mo]
  refine ⟨by simp [k.len], fun j g u q => ?_, fun j u q => ?_, fun j j' u u' a q q' z z' => ?_, by rw [ml]; exact k.sto, k.stp, k.m0, k.n0, by rw [ml, mo]; exact k.held, ⟨k.dp.sub, k.dp.one, fun j b u q => ?_⟩⟩
  · rcases get_set q with ⟨_, q, _⟩ | ⟨hj, q⟩
    · cases q
    · rw [ml, mo]; exact k.arg j g u q
  · rcases get_set q with ⟨_, q, _⟩ | ⟨hj, q⟩
    · cases q
    · rw [ml]; exact k.own j u q
  · rcases get_set q with ⟨_, q, _⟩ | ⟨hj, q⟩
    · cases q
    · rcases get_set q' with ⟨_, q', _⟩ | ⟨hj', q'⟩
      · cases q'
      · exact k.inj j j' u u' a q q' z z'
  · rcases get_set q with ⟨rfl, q, _⟩ | ⟨hj, q⟩
    · cases q
      exact ⟨v, es, hc⟩
    · exact k.dp.at_ j b u q
end
end Mv

set_option maxRecDepth 100000
set_option maxHeartbeats 2000000
/-! Mv35: a container of one's own: made, read, written -/
namespace Mv
open PySem PySem.Spec PyProof.Rows L2
section
variable {K : PySem.W.Frag} {ct : CT} {G : Gx} {r : Env} {S S1 : Store} {io io1 : List Addr} {s : St} {H H1 : Hp} {i : Nat} {d : D} {v : V} {F : Addr → Prop} {W : WX} {De : Ends}
theorem Ok.clear (k : Ok K ct G r S io s H) (i : Nat) : Ok K ct G (r.set i .no) S io s H := by
  have mo : ∀ a, Mown G (r.set i .no) s a → Mown G r s a := fun a z => by
    rcases z with z | ⟨j, e, h1, h2⟩
    · exact .inl z
    · rcases get_set h1 with ⟨_, h1, _⟩ | ⟨hj, h1⟩
      · cases h1
      · exact .inr ⟨j, e, h1, h2⟩
  have ml : ∀ a, Mall G (r.set i .no) s a → Mall G r s a := fun a z => z.elim .inl fun z => .inr (mo a z)
  have an : ∀ {g : Fl} {e : D} {w : V}, ArgF K (Mall G r s) (Mown G r s) io H g e w → ArgF K (Mall G (r.set i .no) s) (Mown G (r.set i .no) s) io H g e w :=
    fun {g e w} h => h.mono Kp.refl Kp.refl (fun a _ n z => n (ml a z)) (fun a _ n z => n (mo a z)) io_refl
  refine ⟨by simp [k.len], fun j g e q => ?_, fun j e q => ?_, fun j j' e e' a q q' z z' => ?_, k.sto.anti ml, k.stp, k.m0, k.n0, fun p hp => an (k.held p hp), k.dp.env rfl (fun _ z => z) (dp_set0 fun _ _ z => by cases z)⟩
  · rcases get_set q with ⟨_, q, _⟩ | ⟨hj, q⟩
    · cases q
    · obtain ⟨w, h1, h2⟩ := k.arg j g e q
      exact ⟨w, h1, an h2⟩
  · rcases get_set q with ⟨_, q, _⟩ | ⟨hj, q⟩
    · cases q
    · obtain ⟨a, h1, h2, h3⟩ := k.own j e q
      exact ⟨a, h1, h2.anti ml, h3⟩
  · rcases get_set q with ⟨_, q, _⟩ | ⟨hj, q⟩
    · cases q
    · rcases get_set q' with ⟨_, q', _⟩ | ⟨hj', q'⟩
      · cases q'
      · exact k.inj j j' e e' a q q' z z'
def clr (i : Nat) : SR → SR
  | .nx r S => .nx (r.set i .no) S
  | .bk r S => .bk (r.set i .no) S
  | .ct r S => .ct (r.set i .no) S
  | .er c p r S => .er c p (r.set i .no) S
  | x => x
theorem SRes.unclr {x : SR} (h : SRes K ct G W De (clr i x)) : SRes K ct G W De x := by
  cases x with
  | nx r S => exact fun s io H k => h s io H (k.clear i)
  | bk r S => exact fun s io H k => h s io H (k.clear i)
  | ct r S => exact fun s io H k => h s io H (k.clear i)
  | er c p r S => exact fun dx s io H k => h dx s io H (k.clear i)
  | rt d f S => exact h
  | no => exact h
theorem SRes.ungive {x : SR} (sub : ∀ j a, G.F0 j a → G.N0 a) (h : SRes K ct G W De (clr i x)) : SRes K ct ((G.hideF F).give i F) W De x := by
  cases x with
  | nx r S => exact fun s io H k => h s io H (k.ungive sub)
  | bk r S => exact fun s io H k => h s io H (k.ungive sub)
  | ct r S => exact fun s io H k => h s io H (k.ungive sub)
  | er c p r S => exact fun dx s io H k => h dx s io H (k.ungive sub)
  | rt d f S => exact h
  | no => exact h
/-- a new container, or a plain value -/
def ResG (K : PySem.W.Frag) (ct : CT) (M : Addr → Prop) (H : Hp) (io' : List Addr) (S' : Store) (H' : Hp) (d : D) (v : V) : Prop :=
  (gnd d = true ∧ Rep K (fun _ => False) io' H' d v ∧ StoOk K ct M io' S' H') ∨
    ∃ F : Addr → Prop, (∀ a, F a → H a = none) ∧ (∀ a, F a → ∃ o, H' a = some o ∧ NI o ∧ ¬ Im o) ∧ ConD K io' H' F 0 d v ∧ StoOk K ct (fun a => M a ∨ F a) io' S' H'
def tED (K : PySem.W.Frag) (ct : CT) (G : Gx) (W : WX) (m : Env → Store → Rs D) : TE := fun s H Q => ∃ r S io, Ok K ct G r S io s H ∧
  Res K ct W (Mall G r s) s io H (m r S) (fun d S' io' H' => ∀ v, ResG K ct (Mall G r s) H io' S' H' d v → Q v H')
structure MED (X : Cx) (ct : CT) (e : Expr) (m : Env → Store → Rs D) : Prop where
  run : ∀ (G : Gx) (W : WX), Takes X W → PE X e (tED X.K ct G W m)
def deepS (d : D) : Slot := if gnd d then .ar .c d else .deep 0 d
/-- x = e, a new container; x is forgotten at the block's end -/
def sDeep (i : Nat) (m : Env → Store → Rs D) (b : SM) : SM := fun r S => (m r S).sb r fun d S1 => if i < r.length then clr i (b (r.set i (deepS d)) S1) else .no
theorem con_not {n : Nat} (g : gnd d = true) (h : ConD K io H F n d v) : False := by
  obtain ⟨p, vs, xs, po, rfl, ⟨rfl, _⟩ | ⟨rfl, _⟩, _⟩ := h
  · cases g
  · cases g
theorem mss_deep {X : Cx} {pos : Pos} {i : Nat} {x : Str} {e : Expr} {m : Env → Store → Rs D} {rest : List Stmt} {b : SM} {pos' : Pos} (hN : X.N.Nodup) (hi : X.N[i]? = some x) (hx : Loc X.env.scope x) (he : MED X ct e m) (hb : MSs X ct rest b)
    (hs : swapsWith e (some (.Name x pos')) pos.line X.env = pure false := by rfl) (hf : X.fn x = true ∨ X.env.scope.names.lookup x = some .local := by first | exact .inl rfl | exact .inr rfl | assumption) :
    MSs X ct (.Assign [.Name x pos'] e pos :: rest) (sDeep i m b) :=
  ⟨fun G W tk po => (pss_cons (ps_set hN hi hx (he.run G W tk) hs hf) (PSs.ex fun G' : Gx => hb.run G' W tk po)).imp fun De s H ⟨r, S, io, k, h⟩ => by
    refine ⟨r, S, io, k, SRes.first k h fun d S1 io1 H1 _ t q k1 h1 v o => ?_⟩
    split at h1
    · rename_i hl
      rcases o with ⟨g, rv, st⟩ | ⟨F, hF, hF1, hc, st⟩
      · refine ⟨G, r.set i (deepS d), S1, io1, ?_, SRes.unclr h1⟩
        unfold deepS
        rw [if_pos g]
        exact k1.setc (Rep.of_gnd g rv)
      · have nd : ¬ gnd d = true := fun g => con_not g hc
        refine ⟨(G.hideF F).give i F, r.set i (deepS d), S1, io1, ?_, SRes.ungive k.dp.sub h1⟩
        unfold deepS
        rw [if_neg nd]
        refine (k.hideF t hF hF1 st).give k.dp.sub (fun a z y => ?_) hl hc
        obtain ⟨o, ⟨e, _⟩, _⟩ := k.n0 a z
        rw [hF a y] at e
        cases e
    · exact h1.elim⟩
end
/-! ### it is read -/
section
variable {X : Cx} {ct : CT} {pos : Pos}
theorem paired_atI {R : D → V → Prop} {xs : List D} {vs : List V} {j : Int} {x : D} (h : Paired R xs vs) (e : atI xs j = some x) : ∃ v, atI vs j = some v ∧ R x v := by
  have hl := Paired.length h
  unfold atI at e ⊢
  rw [← hl]
  cases q : ixN xs.length j with
  | none => rw [q] at e; cases e
  | some n =>
    rw [q] at e
    exact paired_get h e
theorem var_go {K : PySem.W.Frag} {i : Nat} {G : Gx} {W : WX} {s : St} {H : Hp} {Q : VK} (h : tE K ct G W (eVar i) s H Q) : tVar i s H Q := by
  obtain ⟨r, S, io, k, h⟩ := h
  unfold eVar at h
  split at h
  · rename_i f d e
    obtain ⟨v, h1, h2⟩ := k.arg i _ _ e
    exact ⟨v, h1, h.here k.sto v (ResOk.mk inf_n h2.repF k.sto)⟩
  · rename_i d e
    obtain ⟨a, h1, h2, _⟩ := k.own i _ e
    exact ⟨_, h1, h.here k.sto _ (ResOk.mk (by simp) (.inr ⟨a, rfl, h2⟩) k.sto)⟩
  · exact h.elim
def eVarD (i : Nat) : EM := fun r S => match r[i]? with
  | some (.deep 0 d) => .ok (d, .t) S
  | _ => eVar i r S
theorem me_varD {i : Nat} {x : Str} (h : PE X (.Name x pos) (tVar i)) : ME X ct (.Name x pos) (eVarD i) := ⟨fun G W _ => h.imp fun s H Q ⟨r, S, io, k, h⟩ => by
  unfold eVarD at h
  split at h
  · rename_i d e
    obtain ⟨v, h1, hc⟩ := k.dp.at_ i 0 d e
    exact ⟨v, h1, h.here k.sto v ⟨hc.rep, k.sto⟩⟩
  · exact var_go ⟨r, S, io, k, h⟩⟩
def conL : D → Option (List D)
  | .tup xs => some xs
  | .lst xs => some xs
  | _ => none
theorem con_open {K : PySem.W.Frag} {io : List Addr} {H : Hp} {F : Addr → Prop} {n : Nat} {d : D} {v : V} {xs : List D} (h : ConD K io H F n d v) (e : conL d = some xs) :
    ∃ p vs po, v = .ref p ∧ (SqL K H p vs ∨ SqT K H p vs) ∧ (d = .lst xs → po = some p) ∧ Paired (ElD K io H F po n) xs vs := by
  obtain ⟨p, vs, ys, po, rfl, ⟨rfl, h1, _⟩ | ⟨rfl, h1, _, hn⟩, h2⟩ := h
  · cases e
    exact ⟨p, vs, po, rfl, .inr h1, (fun z => by cases z), h2⟩
  · cases e
    exact ⟨p, vs, po, rfl, .inl (SqL.of h1), fun _ => hn, h2⟩
def eIxD (i : Nat) (mi : EM) : EM := fun r S => match r[i]? with
  | some (.deep 0 d) => (mi r S).bind fun k S1 => match conL d, k.1 with
    | some xs, .int j => match atI xs j with
      | some x => .ok (x, if gnd x then .c else .o) S1
      | none => .no
    | _, _ => .no
  | _ => .no
theorem me_ixD {i : Nat} {x : Str} {p : Pos} {b : Expr} {mb : EM} (hx : PE X (.Name x p) (tVar i)) (hb : ME X ct b mb) (hs : PlainIx b := by exact fun _ _ => rfl) : ME X ct (.Subscript (.Name x p) b pos) (eIxD i mb) :=
  ⟨fun G W tk => (pe_ix ix_seq hx (hb.run G W tk) hs).imp fun s H Q ⟨r, S, io, k, h⟩ => by
    unfold eIxD at h
    split at h
    · rename_i d e
      obtain ⟨v, h1, hc⟩ := k.dp.at_ i 0 d e
      refine ⟨v, h1, r, S, io, k, Res.first h fun y S1 io1 H1 e1 t q h' w o => ?_⟩
      split at h'
      · rename_i xs j exs ej
        have o2 := o.repF
        rw [ej] at o2
        obtain rfl := int_of o2
        have hc1 := hc.mono (M := fun _ => False) t.kp (fun a o _ e n => t.k1 a o e n) t.pre
        obtain ⟨p, vs, po, rfl, sq, hpo, hp⟩ := con_open hc1 exs
        split at h'
        · rename_i x ex
          obtain ⟨u, eu, ru⟩ := paired_atI hp ex
          have fin : ResOk X.K ct (Mall G r s) (Mown G r s) H io1 S1 H1 (if gnd x then .c else .o) x u := by
            rcases ru with ⟨g, ru⟩ | ⟨ys, q', ws, rfl, rfl, _, _, hH, _, z⟩
            · rw [if_pos g]
              exact ⟨Rep.of_gnd g ru, q⟩
            · refine ⟨.inr ⟨q', rfl, .inl ⟨ys, ws, rfl, hH, ?_⟩⟩, q⟩
              exact Reps.gnd_any io_refl (z rfl).1 (z rfl).2
          have w := h'.here q u fin
          rcases sq with sq | sq
          · exact .inl ⟨p, vs, j, u, rfl, rfl, sq, eu, w⟩
          · exact .inr (.inl ⟨p, vs, j, u, rfl, rfl, sq, eu, w⟩)
        · exact h'.elim
      · exact h'.elim
    · exact h.elim⟩
/-! ### it is written -/
theorem ConD.mut {K : PySem.W.Frag} {io : List Addr} {H : Hp} {F : Addr → Prop} {n : Nat} {d : D} {v : V} {q : Addr} {ws ws' : List V} (h : ConD K io H F n d v) (hq : H q = some (.lst ws)) (hl : ws'.length ≤ ws.length + 1)
    (np : ∀ p xs, v = .ref p → d = .lst xs → q ≠ p) : ConD K io (upd H q (.lst ws')) F (n + 1) d v := by
  obtain ⟨p, vs, xs, po, rfl, h1, h2⟩ := h
  refine ⟨p, vs, xs, po, rfl, ?_, Paired.mapP h2 fun x u z => ?_⟩
  · rcases h1 with ⟨e, h1, hn⟩ | ⟨e, h1, hp, hn⟩
    · refine .inl ⟨e, SqT.mono (M := fun a => a = q) (fun b o e2 _ z => ?_) h1, hn⟩
      rw [upd_ne]
      · exact e2
      · rintro rfl
        rcases z with z | z
        · exact z rfl
        · rw [hq] at e2
          cases e2
          exact not_im_lst z
    · exact .inr ⟨e, by rw [upd_ne (Ne.symm (np p xs rfl e))]; exact h1, hp, hn⟩
  · rcases z with ⟨g, z⟩ | ⟨ys, q', us, e1, e2, hF, nq, hH, hle, z⟩
    · exact .inl ⟨g, Rep.gnd_any g io_refl z⟩
    · by_cases hqq : q' = q
      · subst hqq
        rw [hq] at hH
        cases hH
        exact .inr ⟨ys, q', ws', e1, e2, hF, nq, upd_same, by omega, fun z => by cases z⟩
      · exact .inr ⟨ys, q', us, e1, e2, hF, nq, by rw [upd_ne hqq]; exact hH, by omega, fun z => by cases z⟩
def itD (d : D) (k : D) : Option (List D) := match conL d, k with
  | some xs, .int j => match atI xs j with
    | some (.lst ys) => some ys
    | _ => none
  | _, _ => none
theorem itD_of {d k : D} {ys : List D} (h : itD d k = some ys) : ∃ xs j, conL d = some xs ∧ k = .int j ∧ atI xs j = some (.lst ys) := by
  unfold itD at h
  split at h
  · rename_i xs j e
    split at h
    · rename_i ys' e2
      cases h
      exact ⟨xs, j, e, rfl, e2⟩
    · cases h
  · cases h
theorem el_lst {K : PySem.W.Frag} {io : List Addr} {H : Hp} {F : Addr → Prop} {p : Option Addr} {n : Nat} {ys : List D} {v : V} (h : ElD K io H F p n (.lst ys) v) : ∃ q ws, v = .ref q ∧ F q ∧ some q ≠ p ∧ H q = some (.lst ws) ∧ ws.length ≤ ys.length + n := by
  rcases h with ⟨g, _⟩ | ⟨ys', q, ws, e, e2, h1, h2, h3, h4, _⟩
  · cases g
  · cases e
    exact ⟨q, ws, e2, h1, h2, h3, h4⟩
/-- x[k].append(c) -/
def sApD (i : Nat) (mk mc : EM) : SM := fun r S => match r[i]? with
  | some (.deep n d) => (mk r S).sb r fun k S1 => match itD d k.1 with
    | some ys => (mc r S1).sb r fun c S2 => if ys.length + n < sizeLine then .nx (r.set i (.deep (n + 1) d)) S2 else .no
    | none => .no
  | _ => .no
theorem mut_go {K : PySem.W.Frag} {G : Gx} {r : Env} {S : Store} {io : List Addr} {s : St} {H : Hp} {i n : Nat} {d : D} {v : V} {q : Addr} {ws ws' : List V} (k : Ok K ct G r S io s H) (e : r[i]? = some (.deep n d)) (es : s[i]? = some (some v)) (hc : ConD K io H (G.F0 i) n d v) (hF : G.F0 i q)
    (hq : H q = some (.lst ws)) (hl : ws'.length ≤ ws.length + 1) (np : ∀ p xs, v = .ref p → d = .lst xs → q ≠ p) : Ok K ct G (r.set i (.deep (n + 1) d)) S io s (upd H q (.lst ws')) := by
  have k2 := k.mutF (ws := ws') hF hq
  have hl2 := lt_of_get e
  have z := k2.redeep (n := n + 1) (d := d) (List.getElem?_set_self hl2) es (hc.mut hq hl np)
  rw [List.set_set] at z
  exact z
theorem ms_apD {i : Nat} {x : Str} {p apos cpos spos : Pos} {b e : Expr} {mk mc : EM} (hx : PE X (.Name x p) (tVar i)) (hk : ME X ct b mk) (he : ME X ct e mc)
    (hb : ∀ {to : TE} {t : TA}, PE X (.Subscript (.Name x p) b spos) to → PA X [e] t → PE X (.Call (.Attribute (.Subscript (.Name x p) b spos) "append" apos) [e] [] cpos) (tBM X.K "list" rAppend to t))
    (hpi : PlainIx b := by exact fun _ _ => rfl) (hs1 : starEach [e] X.env = (false, eval e X.env) :: starEach [] X.env := by rfl) (hs : swapsWith (.Call (.Attribute (.Subscript (.Name x p) b spos) "append" apos) [e] [] cpos) none pos.line X.env = pure false := by rfl) :
    MS X ct (.Expr (.Call (.Attribute (.Subscript (.Name x p) b spos) "append" apos) [e] [] cpos) pos) (sApD i mk mc) :=
  ⟨fun G W tk _ => (ps_expr (hb (pe_ix ix_seq hx (hk.run G W tk) hpi) (pa_cons (he.run G W tk) pa_nil hs1)) hs).imp fun De s H ⟨r, S, io, k, h⟩ => by
    unfold sApD at h
    split at h
    · rename_i n d e
      obtain ⟨v, h1, hc⟩ := k.dp.at_ i n d e
      refine ⟨v, h1, r, S, io, k, SRes.first k h fun y S1 io1 H1 _ t q k1 h' w o => ?_⟩
      have hc1 := hc.mono (M := fun _ => False) t.kp (fun a o z e n => t.k1 a o e n) t.pre
      split at h'
      · rename_i ys ei
        obtain ⟨xs, j, exs, ej, ex⟩ := itD_of ei
        have o2 := o.repF
        rw [ej] at o2
        obtain rfl := int_of o2
        obtain ⟨p, vs, po, rfl, sq, hpo, hp⟩ := con_open hc1 exs
        obtain ⟨u, eu, ru⟩ := paired_atI hp ex
        obtain ⟨q', ws, rfl, hF, nq, hH, hle⟩ := el_lst ru
        have go : tyV X.K "list" (.ref q') H1 ∧ (tCons (tE X.K ct G W mc) tNil) s H1 (fun xs H2 => rAppend (.ref q') xs H2 fun _ H3 => De.nx s H3) := by
          refine ⟨.inl ⟨rfl, _, SqL.of hH⟩, r, S1, io1, k1, SRes.first k1 h' fun c S2 io2 H2 _ t2 q2 k2 h2 u ou => ?_⟩
          split at h2
          · rename_i g
            have hH2 := t2.k1 _ _ hH NI.lst
            obtain ⟨v2, h12, hc2⟩ := k2.dp.at_ i n d e
            rw [h1] at h12
            cases h12
            exact ⟨q', ws, u, rfl, rfl, hH2, by omega, h2 s io2 _ (mut_go k2 e h1 hc2 hF hH2 (by rw [List.length_append]; exact Nat.le_refl _) fun p' xs' z ed => by
              cases z
              rintro rfl
              have exs' := exs
              rw [ed] at exs'
              cases exs'
              exact nq (hpo ed).symm)⟩
          · exact h2.elim
        rcases sq with sq | sq
        · exact .inl ⟨p, vs, j, _, rfl, rfl, sq, eu, go⟩
        · exact .inr (.inl ⟨p, vs, j, _, rfl, rfl, sq, eu, go⟩)
      · exact h'.elim
    · exact h.elim⟩
/-- x[k].clear() -/
def sClD (i : Nat) (mk : EM) : SM := fun r S => match r[i]? with
  | some (.deep n d) => (mk r S).sb r fun k S1 => match itD d k.1 with
    | some _ => .nx (r.set i (.deep (n + 1) d)) S1
    | none => .no
  | _ => .no
theorem ms_clD {i : Nat} {x : Str} {p apos cpos spos : Pos} {b : Expr} {mk : EM} (hx : PE X (.Name x p) (tVar i)) (hk : ME X ct b mk)
    (hb : ∀ {to : TE}, PE X (.Subscript (.Name x p) b spos) to → PE X (.Call (.Attribute (.Subscript (.Name x p) b spos) "clear" apos) [] [] cpos) (tBM0 X.K "list" rClear to))
    (hpi : PlainIx b := by exact fun _ _ => rfl) (hs : swapsWith (.Call (.Attribute (.Subscript (.Name x p) b spos) "clear" apos) [] [] cpos) none pos.line X.env = pure false := by rfl) :
    MS X ct (.Expr (.Call (.Attribute (.Subscript (.Name x p) b spos) "clear" apos) [] [] cpos) pos) (sClD i mk) :=
  ⟨fun G W tk _ => (ps_expr (hb (pe_ix ix_seq hx (hk.run G W tk) hpi)) hs).imp fun De s H ⟨r, S, io, k, h⟩ => by
    unfold sClD at h
    split at h
    · rename_i n d e
      obtain ⟨v, h1, hc⟩ := k.dp.at_ i n d e
      refine ⟨v, h1, r, S, io, k, SRes.first k h fun y S1 io1 H1 _ t q k1 h' w o => ?_⟩
      have hc1 := hc.mono (M := fun _ => False) t.kp (fun a o z e n => t.k1 a o e n) t.pre
      split at h'
      · rename_i ys ei
        obtain ⟨xs, j, exs, ej, ex⟩ := itD_of ei
        have o2 := o.repF
        rw [ej] at o2
        obtain rfl := int_of o2
        obtain ⟨p, vs, po, rfl, sq, hpo, hp⟩ := con_open hc1 exs
        obtain ⟨u, eu, ru⟩ := paired_atI hp ex
        obtain ⟨q', ws, rfl, hF, nq, hH, hle⟩ := el_lst ru
        have go : tyV X.K "list" (.ref q') H1 ∧ rClear (.ref q') [] H1 fun _ H3 => De.nx s H3 :=
          ⟨.inl ⟨rfl, _, SqL.of hH⟩, q', ws, rfl, rfl, hH, h' s io1 _ (mut_go k1 e h1 hc1 hF hH (Nat.zero_le _) fun p' xs' z ed => by
              cases z
              rintro rfl
              have exs' := exs
              rw [ed] at exs'
              cases exs'
              exact nq (hpo ed).symm)⟩
        rcases sq with sq | sq
        · exact .inl ⟨p, vs, j, _, rfl, rfl, sq, eu, go⟩
        · exact .inr (.inl ⟨p, vs, j, _, rfl, rfl, sq, eu, go⟩)
      · exact h'.elim
    · exact h.elim⟩
/-- x.append(c), x.clear(): x is not known any more -/
def sAp0 (i : Nat) (mc : EM) : SM := fun r S => match r[i]? with
  | some (.deep n (.lst xs)) => (mc r S).sb r fun c S1 => if xs.length < sizeLine then .nx (r.set i .no) S1 else .no
  | _ => .no
theorem con_lst {K : PySem.W.Frag} {io : List Addr} {H : Hp} {F : Addr → Prop} {n : Nat} {xs : List D} {v : V} (h : ConD K io H F n (.lst xs) v) : ∃ p vs, v = .ref p ∧ H p = some (.lst vs) ∧ F p ∧ vs.length = xs.length := by
  obtain ⟨p, vs, ys, po, rfl, ⟨e, h1, _⟩ | ⟨e, h1, hF, _⟩, h2⟩ := h
  · cases e
  · cases e
    exact ⟨p, vs, rfl, h1, hF, (Paired.length h2).symm⟩
theorem ms_ap0 {i : Nat} {x : Str} {p apos cpos : Pos} {e : Expr} {mc : EM} (hx : PE X (.Name x p) (tVar i)) (he : ME X ct e mc)
    (hb : ∀ {to : TE} {t : TA}, PE X (.Name x p) to → PA X [e] t → PE X (.Call (.Attribute (.Name x p) "append" apos) [e] [] cpos) (tBM X.K "list" rAppend to t))
    (hs1 : starEach [e] X.env = (false, eval e X.env) :: starEach [] X.env := by rfl) (hs : swapsWith (.Call (.Attribute (.Name x p) "append" apos) [e] [] cpos) none pos.line X.env = pure false := by rfl) : MS X ct (.Expr (.Call (.Attribute (.Name x p) "append" apos) [e] [] cpos) pos) (sAp0 i mc) :=
  ⟨fun G W tk _ => (ps_expr (hb hx (pa_cons (he.run G W tk) pa_nil hs1)) hs).imp fun De s H ⟨r, S, io, k, h⟩ => by
    unfold sAp0 at h
    split at h
    · rename_i n xs e
      obtain ⟨v, h1, hc⟩ := k.dp.at_ i n _ e
      obtain ⟨p, vs, rfl, hH, hF, hl⟩ := con_lst hc
      refine ⟨_, h1, .inl ⟨rfl, _, SqL.of hH⟩, r, S, io, k, SRes.first k h fun c S1 io1 H1 _ t q k1 h' u ou => ?_⟩
      split at h'
      · rename_i g
        have hH1 := t.k1 _ _ hH NI.lst
        exact ⟨p, vs, u, rfl, rfl, hH1, by omega, h' s io1 _ (k1.mutF hF hH1)⟩
      · exact h'.elim
    · exact h.elim⟩
def sCl0 (i : Nat) : SM := fun r S => match r[i]? with
  | some (.deep _ (.lst _)) => .nx (r.set i .no) S
  | _ => .no
theorem ms_cl0 {i : Nat} {x : Str} {p apos cpos : Pos} (hx : PE X (.Name x p) (tVar i))
    (hb : ∀ {to : TE}, PE X (.Name x p) to → PE X (.Call (.Attribute (.Name x p) "clear" apos) [] [] cpos) (tBM0 X.K "list" rClear to))
    (hs : swapsWith (.Call (.Attribute (.Name x p) "clear" apos) [] [] cpos) none pos.line X.env = pure false := by rfl) : MS X ct (.Expr (.Call (.Attribute (.Name x p) "clear" apos) [] [] cpos) pos) (sCl0 i) :=
  ⟨fun G W tk _ => (ps_expr (hb hx) hs).imp fun De s H ⟨r, S, io, k, h⟩ => by
    unfold sCl0 at h
    split at h
    · rename_i n xs e
      obtain ⟨v, h1, hc⟩ := k.dp.at_ i n _ e
      obtain ⟨p, vs, rfl, hH, hF, hl⟩ := con_lst hc
      exact ⟨_, h1, .inl ⟨rfl, _, SqL.of hH⟩, p, vs, rfl, rfl, hH, h s io _ (k.mutF hF hH)⟩
    · exact h.elim⟩
end
end Mv

set_option maxRecDepth 100000
set_option maxHeartbeats 2000000
/-! Mv36: a display of new lists; a walk that writes; a call that sees no object -/
namespace Mv
open PySem PySem.Spec PyProof.Rows L2
section
variable {K : PySem.W.Frag} {ct : CT} {G : Gx} {r : Env} {S S1 : Store} {io io1 : List Addr} {s : St} {H H1 : Hp} {i : Nat} {d : D} {v : V} {F : Addr → Prop} {W : WX} {De : Ends} {M M' : Addr → Prop}
theorem Res.firstM {α β : Type} {x : Rs α} {k : α → Store → Rs β} {P : β → Store → List Addr → Hp → Prop} {P' : α → Store → List Addr → Hp → Prop} (h : Res K ct W M s io H (x.bind k) P) (sub : ∀ a, M a → M' a)
    (n : ∀ a S1 io1 H1, x = .ok a S1 → Stp ct io H io1 H1 → StoOk K ct M' io1 S1 H1 → Res K ct W M s io1 H1 (k a S1) P → P' a S1 io1 H1) : Res K ct W M' s io H x P' := by
  cases x with
  | ok a S' => exact fun io' H' t q => n a S' io' H' rfl t q (Res.shift (x := k a S') h t)
  | er c p S' => exact fun dx io' H' t q e => h dx io' H' t (q.anti sub) e
  | no => exact h
def ElF (K : PySem.W.Frag) (io : List Addr) (H : Hp) (F : Addr → Prop) (x : D) (v : V) : Prop :=
  (gnd x = true ∧ Rep K (fun _ => False) io H x v) ∨ ∃ ys q ws, x = .lst ys ∧ v = .ref q ∧ F q ∧ H q = some (.lst ws) ∧ ys.all gnd = true ∧ Reps K (fun _ => False) io H ys ws
theorem ElF.mono {io' : List Addr} {H' : Hp} {F' : Addr → Prop} {x : D} (kF : ∀ a o, F a → H a = some o → NI o → H' a = some o) (f : ∀ a, F a → F' a) (pr : ∃ l, io' = io ++ l) (h : ElF K io H F x v) : ElF K io' H' F' x v := by
  rcases h with ⟨g, h⟩ | ⟨ys, q, ws, e, e2, hq, hH, g, z⟩
  · exact .inl ⟨g, Rep.gnd_any g pr h⟩
  · exact .inr ⟨ys, q, ws, e, e2, f _ hq, kF _ _ hq hH NI.lst, g, Reps.gnd_any pr g z⟩
def tAD (K : PySem.W.Frag) (ct : CT) (G : Gx) (W : WX) (m : Env → Store → Rs (List D)) : TA := fun s H Q => ∃ r S io, Ok K ct G r S io s H ∧
  Res K ct W (Mall G r s) s io H (m r S) (fun ds S' io' H' => ∀ vs F, (∀ a, F a → H a = none) → (∀ a, F a → ∃ o, H' a = some o ∧ NI o ∧ ¬ Im o) → Paired (ElF K io' H' F) ds vs → StoOk K ct (fun a => Mall G r s a ∨ F a) io' S' H' → Q vs H')
structure MDA (X : Cx) (ct : CT) (es : List Expr) (m : Env → Store → Rs (List D)) : Prop where
  run : ∀ (G : Gx) (W : WX), Takes X W → PA X es (tAD X.K ct G W m)
def isLg : D → Bool
  | .lst ys => ys.all gnd
  | _ => false
def adNil : Env → Store → Rs (List D) := fun _ S => .ok [] S
def adCons (m : EM) (t : Env → Store → Rs (List D)) : Env → Store → Rs (List D) := fun r S => (m r S).bind fun x S1 => if gnd x.1 || (decide (x.2 = .n) && isLg x.1) then (t r S1).bind fun ds S2 => .ok (x.1 :: ds) S2 else .no
end
section
variable {X : Cx} {ct : CT} {pos : Pos}
theorem mda_nil : MDA X ct [] adNil := ⟨fun G W tk => pa_nil.imp fun s H Q ⟨r, S, io, k, h⟩ => h.here k.sto [] (fun _ => False) (fun _ z => z.elim) (fun _ z => z.elim) .nil (k.sto.anti fun a z => z.elim id False.elim)⟩
theorem mda_cons {e : Expr} {es : List Expr} {m : EM} {t : Env → Store → Rs (List D)} (ha : ME X ct e m) (hr : MDA X ct es t) (hs : starEach (e :: es) X.env = (false, eval e X.env) :: starEach es X.env := by rfl) : MDA X ct (e :: es) (adCons m t) :=
  ⟨fun G W tk => (pa_cons (ha.run G W tk) (PA.ex fun G' : Gx => hr.run G' W tk) hs).imp fun s H Q ⟨r, S, io, k, h⟩ => ⟨r, S, io, k, Res.first h fun x S1 io1 H1 e1 t1 q1 h1 v o => by
    have k1 := k.step t1 q1
    split at h1
    · rename_i g
      by_cases gx : gnd x.1 = true
      · refine ⟨G, r, S1, io1, k1, Res.first h1 fun ds S2 io2 H2 e2 t2 q2 h2 vs F hF hF1 hp st => ?_⟩
        exact h2.here q2 (v :: vs) F (fun a z => t1.free (hF a z)) hF1 (.cons (.inl ⟨gx, Rep.gnd_any gx t2.pre o.repF.weak⟩) hp) st
      · have g2 : x.2 = .n ∧ isLg x.1 = true := by
          rw [Bool.or_eq_true, Bool.and_eq_true, decide_eq_true_eq] at g
          exact g.resolve_left gx
        obtain ⟨g2, g3⟩ := g2
        rw [g2] at o
        obtain ⟨p, rfl, hp0, np, ow, st1⟩ := o
        have hx : ∃ ys ws, x.1 = .lst ys ∧ H1 p = some (.lst ws) ∧ ys.all gnd = true ∧ Reps X.K (fun _ => False) io1 H1 ys ws := by
          rcases ow with ⟨xs, vs, e, h1, h2⟩ | ⟨ks, xs, kvs, e, _⟩
          · rw [e] at g3
            exact ⟨xs, vs, e, h1, g3, Reps.gnd_any io_refl g3 h2⟩
          · rw [e] at g3
            cases g3
        obtain ⟨ys, ws, ex, hH1, gy, ry⟩ := hx
        have kh : Ok X.K ct (G.hideF fun a => a = p) r S1 io1 s H1 := k.hideF t1 (fun a z => by rw [z]; exact hp0) (fun a z => ⟨.lst ws, by rw [z]; exact hH1, NI.lst, not_im_lst⟩) st1
        refine ⟨_, r, S1, io1, kh, Res.firstM h1 (fun a z => mall_hideF.mpr (.inl z)) fun ds S2 io2 H2 e2 t2 q2 h2 vs F hF hF1 hp st => ?_⟩
        have hH2 := t2.k1 _ _ hH1 NI.lst
        refine h2.here (q2.anti fun a z => mall_hideF.mpr (.inl z)) (.ref p :: vs) (fun a => a = p ∨ F a) (fun a z => ?_) (fun a z => ?_) (.cons ?_ ?_) (st.anti fun a z => ?_)
        · rcases z with z | z
          · rw [z]; exact hp0
          · exact t1.free (hF a z)
        · rcases z with z | z
          · exact ⟨.lst ws, by rw [z]; exact hH2, NI.lst, not_im_lst⟩
          · exact hF1 a z
        · exact .inr ⟨ys, p, ws, ex, rfl, .inl rfl, hH2, gy, Reps.gnd_any t2.pre gy ry⟩
        · exact Paired.mapP hp fun _ _ z => z.mono (fun a o _ e _ => e) (fun a z => .inr z) io_refl
        · rcases z with z | z | z
          · exact .inl (mall_hideF.mpr (.inl z))
          · exact .inl (mall_hideF.mpr (.inr z))
          · exact .inr z
    · exact h1.elim⟩⟩
def eLstD (t : Env → Store → Rs (List D)) : Env → Store → Rs D := fun r S => (t r S).bind fun ds S1 => if ds.length ≤ sizeLine then .ok (.lst ds) S1 else .no
theorem med_lst {es : List Expr} {t : Env → Store → Rs (List D)} (ha : MDA X ct es t) : MED X ct (.List es pos) (eLstD t) :=
  ⟨fun G W tk => (pe_lst (ha.run G W tk)).imp fun s H Q ⟨r, S, io, k, h⟩ => ⟨r, S, io, k, Res.first h fun ds S1 io1 H1 e1 t1 q1 h1 vs F hF hF1 hp st => by
    have hl : ds.length = vs.length := Paired.length hp
    split at h1
    · rename_i hz
      refine ⟨hl ▸ hz, fun p np => ?_⟩
      have s2 : Stp ct io1 H1 io1 (upd H1 p (.lst vs)) := Stp.upd np
      have neF : ∀ a, F a → a ≠ p := fun a z y => by
        obtain ⟨o, e, _⟩ := hF1 a z
        rw [y, np] at e
        cases e
      refine h1.go s2 (q1.upd np) (.ref p) (.inr ⟨fun a => a = p ∨ F a, fun a z => ?_, fun a z => ?_, ⟨p, vs, ds, some p, rfl, .inr ⟨rfl, upd_same, .inl rfl, rfl⟩, Paired.mapP hp fun x u z => ?_⟩, ?_⟩)
      · rcases z with z | z
        · rw [z]; exact t1.free np
        · exact hF a z
      · rcases z with z | z
        · exact ⟨.lst vs, by rw [z]; exact upd_same, NI.lst, not_im_lst⟩
        · obtain ⟨o, e, n⟩ := hF1 a z
          exact ⟨o, by rw [upd_ne (neF a z)]; exact e, n⟩
      · rcases z with ⟨g, z⟩ | ⟨ys, q, ws, e, e2, hq, hH, g, z⟩
        · exact .inl ⟨g, Rep.gnd_any g io_refl z⟩
        · exact .inr ⟨ys, q, ws, e, e2, .inr hq, (fun z => neF q hq (Option.some.inj z)), by rw [upd_ne (neF q hq)]; exact hH, by rw [z.len]; exact Nat.le_refl _, fun _ => ⟨g, Reps.gnd_any io_refl g z⟩⟩
      · refine ((st.off np).upd np).anti fun a z => ?_
        rcases z with z | z | z
        · exact .inl (.inl z)
        · exact .inr z
        · exact .inl (.inr z)
    · exact h1.elim⟩⟩
/-! ### for y in x: y.append(c) -/
def allL (n : Nat) : D → Bool
  | .lst ys => decide (ys.length + n < sizeLine)
  | _ => false
def sForAp (i t : Nat) : SM := fun r S => match r[i]? with
  | some (.deep n (.lst xs)) => if i ≠ t ∧ t < r.length ∧ xs.all (allL (n + xs.length)) = true then .nx ((r.set t .no).set i .no) S else .no
  | _ => .no
theorem ms_forAp {i t : Nat} {x y : Str} {c : Int} {jn : Nat} {p tp yp apos cpos cp pos2 : Pos} (hc : X.calm = true) (hx : PE X (.Name x p) (tVar i)) (hN : X.N.Nodup) (hi : X.N[t]? = some y) (hy : Loc X.env.scope y) (hyv : PE X (.Name y yp) (tVar t))
    (hb : ∀ {to : TE} {ta : TA}, PE X (.Name y yp) to → PA X [.Constant (.int c) jn cp] ta → PE X (.Call (.Attribute (.Name y yp) "append" apos) [.Constant (.int c) jn cp] [] cpos) (tBM X.K "list" rAppend to ta))
    (hf : X.fn y = true ∨ X.env.scope.names.lookup y = some .local := by first | exact .inl rfl | exact .inr rfl | assumption)
    (hs1 : starEach [.Constant (.int c) jn cp] X.env = (false, eval (.Constant (.int c) jn cp) X.env) :: starEach [] X.env := by rfl) (hsw : swapsWith (.Call (.Attribute (.Name y yp) "append" apos) [.Constant (.int c) jn cp] [] cpos) none pos2.line X.env = pure false := by rfl)
    (hs : ∀ x', foldedSetIterable (.Name x p) X.env x' = pure x' := by intro _; rfl) : MS X ct (.For (.Name y tp) (.Name x p) [.Expr (.Call (.Attribute (.Name y yp) "append" apos) [.Constant (.int c) jn cp] [] cpos) pos2] [] pos) (sForAp i t) := by
  refine ⟨fun G W tk po => (ps_for po hc (pi_list hx) (pg_name hN hi hy hf) (pss_one (ps_expr (hb hyv (pa_cons pe_int pa_nil hs1)) hsw)) hs).imp fun De s H ⟨r, S, io, k, h⟩ => ?_⟩
  unfold sForAp at h
  split at h
  · rename_i n xs e
    split at h
    · rename_i g
      obtain ⟨hit, htl, hall⟩ := g
      obtain ⟨v, ev, hc0⟩ := k.dp.at_ i n _ e
      obtain ⟨p, vs, rfl, hH, hF, hl⟩ := con_lst hc0
      have k0 := k.clear t
      have e0 : (r.set t .no)[i]? = some (.deep n (.lst xs)) := by rw [List.getElem?_set_ne (Ne.symm hit)]; exact e
      refine ⟨.ref p, ev, p, rfl, ⟨vs, SqL.of hH⟩, ?_⟩
      refine ⟨fun j m s H => m = vs.length - j ∧ j ≤ vs.length ∧ s[i]? = some (some (V.ref p)) ∧ H p = some (.lst vs) ∧ Ok X.K ct G ((r.set t .no).set i (.deep (n + j) (.lst xs))) S io s H, ⟨_, rfl, Nat.zero_le _, ev, hH, ?_⟩, fun j m s H ⟨hm, hj, ev, hH, k⟩ => ?_⟩
      · rw [show (r.set t .no).set i (.deep (n + 0) (.lst xs)) = r.set t .no from by
          obtain ⟨hl3, h3⟩ := List.getElem?_eq_some_iff.mp e0
          rw [Nat.add_zero, ← h3]
          exact List.set_getElem_self hl3]
        exact k0
      · subst hm
        have hil : i < (r.set t .no).length := lt_of_get e0
        have ei : ((r.set t .no).set i (.deep (n + j) (.lst xs)))[i]? = some (.deep (n + j) (.lst xs)) := List.getElem?_set_self hil
        obtain ⟨v1, ev1, hc1⟩ := k.dp.at_ i (n + j) _ ei
        rw [ev] at ev1
        cases ev1
        by_cases hlt : j < vs.length
        · have gv : vs[j]? = some vs[j] := List.getElem?_eq_getElem hlt
          refine .inr ⟨⟨vs, vs[j], SqL.of hH, gv⟩, fun s' H' => s'[i]? = some (some (V.ref p)) ∧ H' p = some (.lst vs) ∧ Ok X.K ct G ((r.set t .no).set i (.deep (n + (j + 1)) (.lst xs))) S io s' H', fun s' H' ⟨n1, n2, n3⟩ => ⟨vs.length - (j + 1), by omega, rfl, hlt, n1, n2, n3⟩, fun x H' y => ?_⟩
          obtain ⟨e2, y⟩ := y
          subst e2
          have gx := y vs (SqL.of hH)
          rw [gv] at gx
          cases gx
          obtain ⟨p', vs', xs', po, ep, hd, hp⟩ := hc1
          cases ep
          have hd : xs' = xs ∧ vs' = vs ∧ po = some p := by
            rcases hd with ⟨z, _⟩ | ⟨z, z2, _, z3⟩
            · cases z
            · cases z
              rw [hH] at z2
              cases z2
              exact ⟨rfl, rfl, z3⟩
          obtain ⟨rfl, rfl, rfl⟩ := hd
          have hjx : j < xs'.length := by omega
          obtain ⟨u, gu, ru⟩ := paired_get hp (List.getElem?_eq_getElem hjx)
          rw [gv] at gu
          cases gu
          have al := List.all_eq_true.mp hall xs'[j] (List.getElem_mem hjx)
          have hx : ∃ ys, xs'[j] = .lst ys ∧ ys.length + (n + xs'.length) < sizeLine := by
            unfold allL at al
            split at al
            · rename_i ys ey
              exact ⟨ys, ey, of_decide_eq_true al⟩
            · cases al
          obtain ⟨ys, ey, hys⟩ := hx
          rw [ey] at ru
          obtain ⟨q, ws, eq, hFq, nq, hHq, hle⟩ := el_lst ru
          have en : ((r.set t .no).set i (.deep (n + j) (.lst xs')))[t]? = some .no := by
            rw [List.getElem?_set_ne hit]
            exact List.getElem?_set_self htl
          have htls : t < s.length := by
            rw [← k.len]
            simp
            exact htl
          have kb := k.blank (v := some (vs'[j])) en
          refine ⟨vs'[j], List.getElem?_set_self htls, ?_, q, ws, .int c, eq, rfl, hHq, by omega, ?_⟩
          · rw [eq]
            exact .inl ⟨rfl, _, SqL.of hHq⟩
          have es : (s.set t (some vs'[j]))[i]? = some (some (V.ref p)) := by
            rw [List.getElem?_set_ne (Ne.symm hit)]
            exact ev
          obtain ⟨v2, ev2, hc2⟩ := kb.dp.at_ i (n + j) _ ei
          rw [es] at ev2
          cases ev2
          have km := mut_go (ws' := ws ++ [V.int c]) kb ei es hc2 hFq hHq (by rw [List.length_append]; exact Nat.le_refl _) (fun p' xs'' z _ => by cases z; exact fun y => nq (congrArg some y))
          rw [List.set_set] at km
          exact ⟨es, by rw [upd_ne (show p ≠ q from fun y => nq (congrArg some y.symm))]; exact hH, km⟩
        · have ej : j = vs.length := by omega
          subst ej
          refine .inl ⟨⟨vs, SqL.of hH, by omega⟩, ?_⟩
          have kc := k.clear i
          rw [List.set_set] at kc
          exact h s io H kc
    · exact h.elim
  · exact h.elim
end
end Mv

set_option maxRecDepth 100000
set_option maxHeartbeats 2000000
/-! Mv37: calls that tell what is new; calls that see no object -/
namespace L2
open PySem PySem.Spec PyProof.Rows
/-- a promise kept while some lists are locked -/
def lockP (sp : Sp) (E : XK) (vs : List V) (H : Hp) (Q : VK) : Prop := ∃ T : List Addr, T.Nodup ∧ (∀ a ∈ T, ∃ ws, H a = some (.lst ws)) ∧
  ∀ HL : Hp, (∀ a, a ∉ T → HL a = H a) → (∀ a ∈ T, ∀ ws, H a = some (.lst ws) → ∃ od, HL a = some (.frz od (.lst ws))) → sp vs HL (fun v H2 => (∀ a ∈ T, H2 a = HL a) ∧ Q v (fun a => if a ∈ T then H a else H2 a)) E
section
variable {X : Cx} {CX : CXT} {k : Nat} {f C : Addr} {fd : FuncData} {ps : List Str} {sp : Sp} {E : L2.St → XK} {x m : Str} {p pos apos : Pos} {e o : Expr} {es : List Expr} {ta : TE} {t : TA}
theorem locks {pins : List (Addr × Obj)} {σ : L2.St} {s : Shared} {B : Sem Value} : ∀ (T : List Addr) (H : Hp) (Q : VK), Inv X pins σ H s → T.Nodup → (∀ a ∈ T, ∃ ws, H a = some (.lst ws)) →
    (∀ HL : Hp, Inv X pins σ HL s → (∀ a, a ∉ T → HL a = H a) → (∀ a ∈ T, ∀ ws, H a = some (.lst ws) → ∃ od, HL a = some (.frz od (.lst ws))) →
      wpAny (model X.prog X.w) X.A B (EP X pins σ fun v H2 => (∀ a ∈ T, H2 a = HL a) ∧ Q v (fun a => if a ∈ T then H a else H2 a)) X.xe s) → wpAny (model X.prog X.w) X.A B (EP X pins σ Q) X.xe s
  | [], H, Q, I, _, _, h => thn (h H I (fun _ _ => rfl) (fun a z => nomatch z)) fun v s1 ⟨x, H2, I2, rx, _, q⟩ => ⟨x, H2, I2, rx, by simpa using q⟩
  | a :: T, H, Q, I, nd, hT, h => by
    obtain ⟨ws, hw⟩ := hT a (List.mem_cons_self ..)
    have mu : Mut (some (HO.lst ws)) := trivial
    obtain ⟨od, I1⟩ := I.lock hw mu
    have nd := List.nodup_cons.mp nd
    have ne : ∀ b ∈ T, b ≠ a := fun b hb z => nd.1 (z ▸ hb)
    refine thn (locks T (upd H a (.frz od (.lst ws))) (fun v H' => H' a = some (.frz od (.lst ws)) ∧ Q v (upd H' a (.lst ws))) I1 nd.2 (fun b hb => ?_) fun HL IL h1 h2 => ?_) fun v s1 ⟨x, H2, I2, rx, e2, q⟩ => ⟨x, _, I2.unlock e2 (I.nofrz hw mu), rx, q⟩
    · obtain ⟨us, hu⟩ := hT b (List.mem_cons_of_mem _ hb)
      exact ⟨us, by rw [upd_ne (ne b hb)]; exact hu⟩
    · have ha : HL a = some (.frz od (.lst ws)) := by rw [h1 a nd.1]; exact upd_same
      refine thn (h HL IL (fun b hb => ?_) fun b hb us hu => ?_) fun v s1 ⟨x, H2, I2, rx, e2, q⟩ => ⟨x, H2, I2, rx, fun b hb => e2 b (List.mem_cons_of_mem _ hb), ?_, ?_⟩
      · rw [List.mem_cons, not_or] at hb
        rw [h1 b hb.2, upd_ne hb.1]
      · rcases List.mem_cons.mp hb with rfl | hb
        · rw [hw] at hu
          cases hu
          exact ⟨od, ha⟩
        · exact h2 b hb us (by rw [upd_ne (ne b hb)]; exact hu)
      · show (if a ∈ T then upd H a (.frz od (.lst ws)) a else H2 a) = _
        rw [if_neg nd.1, e2 a (List.mem_cons_self ..), ha]
      · have eH : (upd (fun b => if b ∈ T then upd H a (.frz od (.lst ws)) b else H2 b) a (.lst ws)) = fun b => if b ∈ a :: T then H b else H2 b := by
          funext b
          by_cases hb : b = a
          · subst hb
            rw [upd_same, if_pos (List.mem_cons_self ..), hw]
          · rw [upd_ne hb]
            by_cases hbT : b ∈ T
            · rw [if_pos hbT, if_pos (List.mem_cons_of_mem _ hbT), upd_ne hb]
            · rw [if_neg hbT, if_neg (fun z => (List.mem_cons.mp z).elim hb hbT)]
        rw [eH]
        exact q
theorem run_fnL {pins : List (Addr × Obj)} {σ : L2.St} {H : Hp} {s : Shared} {Q : VK} {us : List Value} {vs : List V} (F : FnOk X.prog X.w X.K X.mg X.base CX k f fd ps sp) (hr : Room k X.A) (hb : Binds X.K fd ps []) (hx : PassesAt CX X σ (E σ))
    (I : Inv X pins σ H s) (r : Vals vs us) (h : lockP sp (E σ) vs H Q) : wpAny (model X.prog X.w) X.A (call (.ref f) us) (EP X pins σ Q) X.xe s := by
  obtain ⟨T, nd, hT, h⟩ := h
  exact locks T H Q I nd hT fun HL IL h1 h2 => run_fnS F hr hb hx IL r (h HL h1 h2)
def tCallL (sp : Sp) (E : L2.St → XK) (t : TA) : TE := fun σ H Q => t σ H fun vs H1 => lockP sp (E σ) vs H1 Q
theorem pe_callL (F : FnOk X.prog X.w X.K X.mg X.base CX k f fd ps sp) (hr : Room k X.A) (hg : Gl X x) (hm : X.mg x = some (.ref f)) (hk : PySem.W.keepIn X.K (.ref f) = true) (hb : Binds X.K fd ps []) (hx : ∀ σ, PassesAt CX X σ (E σ))
    (ha : PA X (e :: es) t) (hdb : (x == ("__debug__" : Str)) = false := by decide) (he : starEach (e :: es) X.env = (false, eval e X.env) :: starEach es X.env := by rfl) (hpl : (backTo pos (starEach es X.env)).any (·.1) = false := by rfl) :
    PE X (.Call (.Name x p) (e :: es) [] pos) (tCallL sp E t) := by
  refine ⟨fun pins s σ H Q I h => ?_⟩
  refine wpAny_Call_Name_kw (ld_glob I hg hm ?_ hdb)
  refine PySem.W.callWith_K (h₀ := X.base) I.ok.mod.kin hk (thn (ha.run pos pins s σ H _ I h) fun us s1 ⟨vs, H1, I1, r, q⟩ => ⟨I1.kIn, ?_⟩) he hpl
  exact run_fnL F hr hb (hx σ) I1 r q
def tMethL (C : Addr) (m : Str) (sp : Sp) (E : L2.St → XK) (ta : TE) (t : TA) : TE := fun σ H Q => ta σ H fun x H1 => ∃ a dx fs, x = .ref a ∧ H1 a = some (.ins C dx fs) ∧ fs.lookup m = none ∧
  t σ H1 fun vs H2 => lockP sp (E σ) (x :: vs) H2 Q
theorem pe_methL {pl : Sem Bool} (he : PE X o ta) (c : Cls X.K C) (hm : Meth X.K C m f) (F : FnOk X.prog X.w X.K X.mg X.base CX k f fd ps sp) (hr : Room k X.A) (hb : Binds X.K fd ps []) (hx : ∀ σ, PassesAt CX X σ (E σ)) (ha : PA X (e :: es) t)
    (hst : starEach (e :: es) X.env = (false, eval e X.env) :: starEach es X.env := by rfl) (hpl : (backTo pos (starEach es X.env)).any (·.1) = false := by rfl)
    (ht : eval (.Call (.Attribute o m apos) (e :: es) [] pos) X.env = (do
      let ov ← eval o X.env
      standAt apos.atName
      let (f, first) ← holding [ov] (getMethod ov m pl)
      callWith pos f first (backTo pos (starEach (e :: es) X.env)) (backToKw pos (keywordEach [] X.env))) := by rfl) :
    PE X (.Call (.Attribute o m apos) (e :: es) [] pos) (tMethL C m sp E ta t) :=
  ⟨fun pins s σ H Q I h => PySem.W.methodCall_KW (pl := pl) (thn (he.run pins s σ H _ I h) fun u s1 ⟨x, H1, I1, rx, a, dx, fs, ex, ea, l, q⟩ => by
    cases ex
    cases rx
    exact getmeth_ok I1 ea c hm l (PySem.W.callWith_K (first := [.ref a]) (h₀ := X.base) I.ok.mod.kin hm.kp (thn (ha.run pos pins s1 σ H1 _ I1 q) fun us s2 ⟨vs, H2, I2, r, q2⟩ =>
      ⟨I2.kIn, run_fnL (us := .ref a :: us) (vs := .ref a :: vs) F hr hb (hx σ) I2 (.cons rfl r) q2⟩) hst hpl)) ht⟩
theorem pe_methL0 {pl : Sem Bool} (he : PE X o ta) (c : Cls X.K C) (hm : Meth X.K C m f) (F : FnOk X.prog X.w X.K X.mg X.base CX k f fd ps sp) (hr : Room k X.A) (hb : Binds X.K fd ps []) (hx : ∀ σ, PassesAt CX X σ (E σ))
    (ht : eval (.Call (.Attribute o m apos) [] [] pos) X.env = (do
      let ov ← eval o X.env
      standAt apos.atName
      let (f, first) ← holding [ov] (getMethod ov m pl)
      callWith pos f first (backTo pos (starEach [] X.env)) (backToKw pos (keywordEach [] X.env))) := by rfl) :
    PE X (.Call (.Attribute o m apos) [] [] pos) (tMethL C m sp E ta tNil) :=
  ⟨fun pins s σ H Q I h => PySem.W.methodCall_KW (pl := pl) (thn (he.run pins s σ H _ I h) fun u s1 ⟨x, H1, I1, rx, a, dx, fs, ex, ea, l, q⟩ => by
    cases ex
    cases rx
    exact getmeth_ok I1 ea c hm l (PySem.W.callWith_K0 (first := [.ref a]) I1.kIn hm.kp (run_fnL (us := [.ref a]) (vs := [.ref a]) F hr hb (hx σ) I1 (.cons rfl .nil) q))) ht⟩
end
end L2
namespace Mv
open PySem PySem.Spec PyProof.Rows L2
def CT.pure (ct : CT) : CT := { ct with pu := true }
def gnd1 : D → Bool
  | .non => true
  | .bl _ => true
  | .int _ => true
  | .str _ => true
  | _ => false
theorem gnd1_gnd {d : D} (h : gnd1 d = true) : gnd d = true := by cases d <;> first | rfl | cases h
theorem gnds1_gnd {ds : List D} (h : ds.all gnd1 = true) : ds.all gnd = true := List.all_eq_true.mpr fun x hx => gnd1_gnd (List.all_eq_true.mp h x hx)
def okF : D → Bool
  | .ins _ => true
  | .frz xs => xs.all gnd1
  | .dic _ xs => xs.all gnd1
  | .tup xs => xs.all gnd1
  | d => gnd1 d
def okS (S : Store) : Bool := S.all fun e => e.2.all okF
def okR1 : D → Bool
  | .lst ys => ys.all gnd1
  | d => gnd1 d
def okR : D → Bool
  | .tup xs => xs.all okR1
  | .lst xs => xs.all okR1
  | d => gnd1 d
/-- an argument: a plain value, or a list of plain values that is one's own -/
def ArgO (K : PySem.W.Frag) (M : Addr → Prop) (io : List Addr) (H : Hp) (p : Fl × D) (v : V) : Prop :=
  (p.1 = .c ∧ gnd p.2 = true ∧ Rep K (fun _ => False) io H p.2 v) ∨ ∃ a ys ws, p = (.o, .lst ys) ∧ v = .ref a ∧ M a ∧ H a = some (.lst ws) ∧ ys.all gnd = true ∧ Reps K (fun _ => False) io H ys ws
theorem nodup_of : ∀ (L : List Addr) (P : Addr → Prop), ∃ T : List Addr, T.Nodup ∧ ∀ a, a ∈ T ↔ a ∈ L ∧ P a
  | [], P => ⟨[], .nil, fun a => by simp⟩
  | b :: L, P => by
    classical
    obtain ⟨T, nd, h⟩ := nodup_of L P
    by_cases hb : P b ∧ b ∉ T
    · refine ⟨b :: T, List.nodup_cons.mpr ⟨hb.2, nd⟩, fun a => ?_⟩
      rw [List.mem_cons, List.mem_cons, h]
      constructor
      · rintro (rfl | ⟨z, y⟩)
        · exact ⟨.inl rfl, hb.1⟩
        · exact ⟨.inr z, y⟩
      · rintro ⟨rfl | z, y⟩
        · exact .inl rfl
        · exact .inr ⟨z, y⟩
    · refine ⟨T, nd, fun a => ?_⟩
      rw [List.mem_cons, h]
      constructor
      · rintro ⟨z, y⟩
        exact ⟨.inr z, y⟩
      · rintro ⟨rfl | z, y⟩
        · have : a ∈ T := Classical.byContradiction fun n => hb ⟨y, n⟩
          exact (h a).mp this
        · exact ⟨z, y⟩
section
variable {K : PySem.W.Frag} {ct : CT} {S S1 : Store} {io io1 : List Addr} {H HL : Hp} {d : D} {v : V} {M : Addr → Prop} {T : List Addr}
theorem off_lock (h1 : ∀ a, a ∉ T → HL a = H a) (hT : ∀ a ∈ T, ∃ ws, H a = some (.lst ws)) {a : Addr} {o : HO} (e : H a = some o) (n : ∀ ws, o ≠ .lst ws) : HL a = some o := by
  rw [h1 a]
  · exact e
  · intro z
    obtain ⟨ws, h⟩ := hT a z
    rw [e] at h
    cases h
    exact n _ rfl
theorem sqt_lock (h1 : ∀ a, a ∉ T → HL a = H a) (hT : ∀ a ∈ T, ∃ ws, H a = some (.lst ws)) {a : Addr} {vs : List V} (h : SqT K H a vs) : SqT K HL a vs := by
  rcases h with (h | ⟨o, h⟩) | h
  · exact .inl (.inl (off_lock h1 hT h fun _ z => by cases z))
  · exact .inl (.inr ⟨o, off_lock h1 hT h fun _ z => by cases z⟩)
  · exact .inr h
theorem rep_lock (h1 : ∀ a, a ∉ T → HL a = H a) (h2 : ∀ a ∈ T, ∀ ws, H a = some (.lst ws) → ∃ od, HL a = some (.frz od (.lst ws))) (hT : ∀ a ∈ T, ∃ ws, H a = some (.lst ws))
    (g : okF d = true) (hv : ∀ a, v = .ref a → (∃ ws, H a = some (.lst ws)) → ¬ M a → a ∈ T) (h : Rep K M io H d v) : Rep K (fun a => ∃ ws, HL a = some (.lst ws)) io HL d v := by
  cases h with
  | non => exact .non
  | bl b => exact .bl b
  | int i => exact .int i
  | str z => exact .str z
  | ins e => exact .ins e
  | cst => cases g
  | lst _ _ _ => cases g
  | frz h r =>
    refine .frz ?_ (Reps.gnd_any io_refl (gnds1_gnd g) r)
    rcases h with ⟨h | ⟨o, h⟩, n⟩ | h
    · obtain ⟨od, e⟩ := h2 _ (hv _ rfl ⟨_, h⟩ n) _ h
      refine .inl ⟨.inr ⟨od, e⟩, fun ⟨ws, z⟩ => ?_⟩
      rw [e] at z
      cases z
    · have e := off_lock h1 hT h fun _ z => by cases z
      refine .inl ⟨.inr ⟨o, e⟩, fun ⟨ws, z⟩ => ?_⟩
      rw [e] at z
      cases z
    · exact .inr h
  | tup h r => exact .tup (sqt_lock h1 hT h) (Reps.gnd_any io_refl (gnds1_gnd g) r)
  | dic h n e r =>
    have e2 := off_lock h1 hT h fun _ z => by cases z
    refine .dic e2 (fun ⟨ws, z⟩ => ?_) e (Reps.gnd_any io_refl (gnds1_gnd g) r)
    rw [e2] at z
    cases z
theorem reps_lock (h1 : ∀ a, a ∉ T → HL a = H a) (h2 : ∀ a ∈ T, ∀ ws, H a = some (.lst ws) → ∃ od, HL a = some (.frz od (.lst ws))) (hT : ∀ a ∈ T, ∃ ws, H a = some (.lst ws)) :
    ∀ {ds : List D} {vs : List V}, ds.all okF = true → (∀ a, V.ref a ∈ vs → (∃ ws, H a = some (.lst ws)) → ¬ M a → a ∈ T) → Reps K M io H ds vs → Reps K (fun a => ∃ ws, HL a = some (.lst ws)) io HL ds vs
  | _, _, _, _, .nil => .nil
  | _, _, g, hv, .cons r t => by
    rw [List.all_cons, Bool.and_eq_true] at g
    exact .cons (rep_lock h1 h2 hT g.1 (fun a e => hv a (e ▸ List.mem_cons_self ..)) r) (reps_lock h1 h2 hT g.2 (fun a e => hv a (List.mem_cons_of_mem _ e)) t)
/-- the addresses that the instances' fields hold -/
noncomputable def refsOf (H : Hp) (io : List Addr) : List Addr := io.flatMap fun b => match H b with
  | some (.ins _ _ gs) => gs.filterMap fun g => match g.2 with
    | .ref a => some a
    | _ => none
  | _ => []
theorem refs_mem {b a C dx : Addr} {gs : List (Str × V)} (hb : b ∈ io) (h : H b = some (.ins C dx gs)) (ha : V.ref a ∈ gs.map Prod.snd) : a ∈ refsOf H io := by
  unfold refsOf
  refine List.mem_flatMap.mpr ⟨b, hb, ?_⟩
  rw [h]
  obtain ⟨g, hg, e⟩ := List.mem_map.mp ha
  exact List.mem_filterMap.mpr ⟨g, hg, by rw [e]⟩
theorem sto_lock (q : StoOk K ct M io S H) (hS : okS S = true) (h1 : ∀ a, a ∉ T → HL a = H a) (h2 : ∀ a ∈ T, ∀ ws, H a = some (.lst ws) → ∃ od, HL a = some (.frz od (.lst ws)))
    (hT : ∀ a, a ∈ T ↔ a ∈ refsOf H io ∧ (∃ ws, H a = some (.lst ws)) ∧ ¬ M a) : StoOk K ct (fun a => ∃ ws, HL a = some (.lst ws)) io S HL := by
  have hT' : ∀ a ∈ T, ∃ ws, H a = some (.lst ws) := fun a z => ((hT a).mp z).2.1
  have kp : Kp (fun _ => True) H HL := fun a o e n z => by
    rcases z with z | z
    · exact absurd trivial z
    · exact off_lock h1 hT' e fun ws y => not_im_lst (y ▸ z)
  refine ⟨q.len, fun n C fs e x => ?_, fun n C fs e x => ?_, q.nd, fun p hp => ?_⟩
  · obtain ⟨a, dx, gs, y1, y2, y3, y4⟩ := q.at_ n C fs e x
    refine ⟨a, dx, gs, y1, off_lock h1 hT' y2 (fun _ z => by cases z), y3, ?_⟩
    have g : fs.all okF = true := List.all_eq_true.mp hS _ (List.mem_of_getElem? e)
    exact reps_lock h1 h2 hT' g (fun b hb hl nm => (hT b).mpr ⟨refs_mem (List.mem_of_getElem? y1) y2 hb, hl, nm⟩) y4
  · obtain ⟨a, d, y1, y2, y3⟩ := q.ax n C fs e x
    exact ⟨a, d, y1, off_lock h1 hT' y2 (fun _ z => by cases z), y3.mono kp io_refl⟩
  · obtain ⟨ps, h1', h2', h3'⟩ := q.tb p hp
    refine ⟨ps, off_lock h1 hT' h1' (fun _ z => by cases z), h2', fun pos cv hc => ?_⟩
    obtain ⟨c, e1, e2⟩ := h3' pos cv hc
    exact ⟨c, e1, off_lock h1 hT' e2 fun _ z => by cases z⟩
theorem ins_no_lst (q : StoOk K ct M io S H) {n : Nat} {a : Addr} {ws : List V} (e : io[n]? = some a) (h : H a = some (.lst ws)) : False := by
  have hl : n < S.length := by rw [q.len]; exact (List.getElem?_eq_some_iff.mp e).1
  cases hx : ct.ex (S[n]'hl).1 with
  | false =>
    obtain ⟨a3, dx, gs, w1, w2, _⟩ := q.at_ n _ _ (List.getElem?_eq_getElem hl) hx
    rw [e] at w1
    cases w1
    rw [h] at w2
    cases w2
  | true =>
    obtain ⟨a3, d3, w1, w2, _⟩ := q.ax n _ _ (List.getElem?_eq_getElem hl) hx
    rw [e] at w1
    cases w1
    rw [h] at w2
    cases w2
theorem gnd1_ref {M' : Addr → Prop} {a : Addr} {d : D} (g : gnd1 d = true) (h : Rep K M' io H d (.ref a)) : False := by
  cases h <;> cases g
theorem reps_paired {M' : Addr → Prop} {H' : Hp} {R : D → V → Prop} : ∀ {ys : List D} {us : List V}, (∀ y u, y ∈ ys → u ∈ us → Rep K M' io H' y u → R y u) → Reps K M' io H' ys us → Paired R ys us
  | _, _, _, .nil => .nil
  | _, _, h, .cons r t => .cons (h _ _ (List.mem_cons_self ..) (List.mem_cons_self ..) r) (reps_paired (fun y u hy hu => h y u (List.mem_cons_of_mem _ hy) (List.mem_cons_of_mem _ hu)) t)
theorem lock_main (q : StoOk K ct M io S H) (hS : okS S = true) {as : List (Fl × D)} {vs : List V} (o : Paired (ArgO K M io H) as vs) {np : Nat} {m : FM} (hl : as.length = np) {x : D} {f : Fl} (e : m as S = .ok (x, f) S) (hf : f = .c ∨ f = .n) (hR : okR x = true)
    {Q : VK} {E : XK} (w : ∀ v H', Stp ct io H io H' → ResG K ct M H io S H' x v → Q v H') : lockP (spM K ct.pure np m) E vs H Q := by
  obtain ⟨T, nd, hT⟩ := nodup_of (refsOf H io) (fun a => (∃ ws, H a = some (.lst ws)) ∧ ¬ M a)
  have hT' : ∀ a ∈ T, ∃ ws, H a = some (.lst ws) := fun a z => ((hT a).mp z).2.1
  refine ⟨T, nd, hT', fun HL h1 h2 => ?_⟩
  have q' : StoOk K ct (fun a => ∃ ws, HL a = some (.lst ws)) io S HL := sto_lock q hS h1 h2 hT
  have qp : StoOk K ct.pure (fun a => ∃ ws, HL a = some (.lst ws)) io S HL := ⟨q'.len, q'.at_, q'.ax, q'.nd, q'.tb⟩
  refine ⟨by rw [← hl]; exact (Paired.length o).symm, as, S, io, fun a => ∃ ws, HL a = some (.lst ws), Paired.mapP o fun p v z => ?_, qp, fun a ⟨ws, z⟩ => ⟨_, z, NI.lst⟩, ?_⟩
  · rcases z with ⟨z1, z2, z3⟩ | ⟨a, ys, ws, rfl, rfl, ma, ha, g, z3⟩
    · rw [z1]
      exact Rep.gnd_any z2 io_refl z3
    · have nT : a ∉ T := fun z => ((hT a).mp z).2.2 ma
      exact .inr ⟨a, rfl, .inl ⟨ys, ws, rfl, by rw [h1 a nT]; exact ha, Reps.gnd_any io_refl g z3⟩⟩
  rw [e]
  show ∀ v io' H', Stp ct.pure io HL io' H' → ResOk K ct.pure (fun a => ∃ ws, HL a = some (.lst ws)) (fun _ => False) HL io' S H' f x v → _
  intro v io' H2 t res
  have eio : io' = io := by
    obtain ⟨l, e⟩ := t.pre
    have l1 := res.sto.len
    have l2 := q.len
    rw [e, List.length_append] at l1
    have : l = [] := List.length_eq_zero_iff.mp (by omega)
    rw [e, this, List.append_nil]
  subst eio
  have all : ∀ a o, HL a = some o → H2 a = some o := fun a o z => t.k3 rfl a o z
  refine ⟨fun a z => ?_, w v _ ?_ ?_⟩
  · obtain ⟨ws, hw⟩ := hT' a z
    obtain ⟨od, z2⟩ := h2 a z ws hw
    rw [z2, all a _ z2]
  all_goals
    have ex : ∀ a o, H a = some o → (if a ∈ T then H a else H2 a) = some o := fun a o z => by
      by_cases hb : a ∈ T
      · rw [if_pos hb]
        exact z
      · rw [if_neg hb]
        exact all a o (by rw [h1 a hb]; exact z)
  · exact ⟨fun a o z _ => ex a o z, fun a o z _ _ => ex a o z, io_refl, fun a z n => absurd z n, fun a o z => ⟨o, ex a o z⟩, fun _ a o z => ex a o z⟩
  · have rp : Rep K (fun a => ∃ ws, HL a = some (.lst ws)) io' H2 x v := by
      have z := res.repF
      rcases hf with rfl | rfl
      · exact z
      · exact z
    have kp : ∀ N : Addr → Prop, Kp N H (fun a => if a ∈ T then H a else H2 a) := fun N a o z _ _ => ex a o z
    have stM : StoOk K ct M io' S (fun a => if a ∈ T then H a else H2 a) := q.mono (kp _) (fun _ _ n => n) (fun a C dx fs _ z => ex a _ z) fun a ps z => ex a _ z
    by_cases gx : gnd1 x = true
    · exact .inl ⟨gnd1_gnd gx, Rep.gnd_any (gnd1_gnd gx) io_refl rp, stM⟩
    · -- a list that is told is new
      have nw : ∀ b ws, H2 b = some (.lst ws) → ¬ (∃ us, HL b = some (.lst us)) → H b = none ∧ b ∉ T := fun b ws hb n => by
        have nT : b ∉ T := fun z => by
          obtain ⟨us, hu⟩ := hT' b z
          obtain ⟨od, z2⟩ := h2 b z us hu
          rw [all b _ z2] at hb
          cases hb
        refine ⟨?_, nT⟩
        cases z : H b with
        | none => rfl
        | some o =>
          have z2 : HL b = some o := by rw [h1 b nT]; exact z
          have z3 := all b o z2
          rw [hb] at z3
          cases z3
          exact absurd ⟨ws, z2⟩ n
      have el : ∀ (po : Option Addr) (y : D) (u : V), okR1 y = true → Rep K (fun a => ∃ ws, HL a = some (.lst ws)) io' H2 y u → (∀ q ys, po = some q → y = .lst ys → u ≠ .ref q) → ElD K io' (fun a => if a ∈ T then H a else H2 a) (fun a => H a = none ∧ ∃ ws, (if a ∈ T then H a else H2 a) = some (.lst ws)) po 0 y u := fun po y u g r np => by
        by_cases gy : gnd1 y = true
        · exact .inl ⟨gnd1_gnd gy, Rep.gnd_any (gnd1_gnd gy) io_refl r⟩
        · cases r with
          | lst hH n rr =>
            rename_i b ws ys
            obtain ⟨hn, nT⟩ := nw b ws hH n
            have hb : (if b ∈ T then H b else H2 b) = some (.lst ws) := by rw [if_neg nT]; exact hH
            refine .inr ⟨ys, b, ws, rfl, rfl, ⟨hn, ws, hb⟩, fun z => np b ys z.symm rfl rfl, hb, by rw [rr.len]; exact Nat.le_refl _, fun _ => ⟨gnds1_gnd g, Reps.gnd_any io_refl (gnds1_gnd g) rr⟩⟩
          | non => exact absurd rfl gy
          | bl b => exact absurd rfl gy
          | int i => exact absurd rfl gy
          | str z => exact absurd rfl gy
          | ins e => cases g
          | cst => cases g
          | frz _ _ => cases g
          | tup _ _ => cases g
          | dic _ _ _ _ => cases g
      have els : ∀ (po : Option Addr) {ys : List D} {us : List V}, ys.all okR1 = true → Reps K (fun a => ∃ ws, HL a = some (.lst ws)) io' H2 ys us → (∀ q zs, po = some q → .lst zs ∈ ys → V.ref q ∈ us → False) → Paired (ElD K io' (fun a => if a ∈ T then H a else H2 a) (fun a => H a = none ∧ ∃ ws, (if a ∈ T then H a else H2 a) = some (.lst ws)) po 0) ys us :=
        fun po {ys us} g r np => reps_paired (fun y u hy hu r => el po y u (List.all_eq_true.mp g y hy) r fun q zs e e2 e3 => np q zs e (e2 ▸ hy) (e3 ▸ hu)) r
      refine .inr ⟨fun a => H a = none ∧ ∃ ws, (if a ∈ T then H a else H2 a) = some (.lst ws), fun a z => z.1, fun a ⟨_, ws, z⟩ => ⟨_, z, NI.lst, not_im_lst⟩, ?_, ?_⟩
      · cases rp with
        | non => exact absurd rfl gx
        | bl b => exact absurd rfl gx
        | int i => exact absurd rfl gx
        | str z => exact absurd rfl gx
        | ins e => cases hR
        | cst => cases hR
        | frz _ _ => cases hR
        | dic _ _ _ _ => cases hR
        | tup h r =>
          rename_i p us ys
          refine ⟨p, us, ys, none, rfl, .inl ⟨rfl, ?_, rfl⟩, els none hR r fun q zs z => by cases z⟩
          rcases h with (h | ⟨o, h⟩) | h
          · refine .inl (.inl ?_)
            show (if p ∈ T then H p else H2 p) = _
            rw [if_neg]
            · exact h
            · intro z
              obtain ⟨ws, hw⟩ := hT' p z
              obtain ⟨od, z2⟩ := h2 p z ws hw
              rw [all p _ z2] at h
              cases h
          · refine .inl (.inr ⟨o, ?_⟩)
            show (if p ∈ T then H p else H2 p) = _
            rw [if_neg]
            · exact h
            · intro z
              obtain ⟨ws, hw⟩ := hT' p z
              obtain ⟨od, z2⟩ := h2 p z ws hw
              rw [all p _ z2] at h
              cases h
          · exact .inr h
        | lst h n r =>
          rename_i p us ys
          obtain ⟨hn, nT⟩ := nw p us h n
          have hb : (if p ∈ T then H p else H2 p) = some (.lst us) := by rw [if_neg nT]; exact h
          refine ⟨p, us, ys, some p, rfl, .inr ⟨rfl, hb, ⟨hn, us, hb⟩, rfl⟩, els (some p) hR r fun q zs z hz hu => ?_⟩
          -- a row of plain values is not the list of rows
          cases z
          obtain ⟨j, hj⟩ := List.getElem?_of_mem hu
          obtain ⟨y, hy, ry⟩ := r.getV hj
          have gy : okR1 y = true := List.all_eq_true.mp hR y (List.mem_of_getElem? hy)
          cases ry with
          | lst hH _ rr =>
            rw [h] at hH
            cases hH
            obtain ⟨y2, hy2, ry2⟩ := rr.getV hj
            exact gnd1_ref (List.all_eq_true.mp gy y2 (List.mem_of_getElem? hy2)) ry2
          | ins e => cases gy
          | cst => cases gy
          | frz _ _ => cases gy
          | tup _ _ => cases gy
          | dic _ _ _ _ => cases gy
      · refine q.mono (kp _) (fun a ⟨o, z⟩ n y => y.elim n fun y => ?_) (fun a C dx fs _ z => ex a _ z) fun a ps z => ex a _ z
        have y : H a = none := y.1
        rw [z] at y
        cases y
end
end Mv

set_option maxRecDepth 100000
set_option maxHeartbeats 2000000
/-! Mv38: the calls of Mv37 as expressions -/
namespace Mv
open PySem PySem.Spec PyProof.Rows L2
def tAO (K : PySem.W.Frag) (ct : CT) (G : Gx) (W : WX) (m : AM) : TA := fun s H Q => ∃ r S io, Ok K ct G r S io s H ∧
  Res K ct W (Mall G r s) s io H (m r S) (fun as S' io' H' => ∀ vs, Paired (ArgO K (Mall G r s) io' H') as vs → Q vs H')
structure MAO (X : Cx) (ct : CT) (es : List Expr) (m : AM) : Prop where
  run : ∀ (G : Gx) (W : WX), Takes X W → PA X es (tAO X.K ct G W m)
theorem ArgO.stp {K : PySem.W.Frag} {ct : CT} {M : Addr → Prop} {io io' : List Addr} {H H' : Hp} {p : Fl × D} {v : V} (t : Stp ct io H io' H') (h : ArgO K M io H p v) : ArgO K M io' H' p v := by
  rcases h with ⟨z1, z2, z3⟩ | ⟨a, ys, ws, e1, e2, ma, ha, g, z⟩
  · exact .inl ⟨z1, z2, Rep.gnd_any z2 t.pre z3⟩
  · exact .inr ⟨a, ys, ws, e1, e2, ma, t.k1 _ _ ha NI.lst, g, Reps.gnd_any t.pre g z⟩
def aoG (m : EM) (t : AM) : AM := fun r S => (m r S).bind fun x S1 => if gnd x.1 then (t r S1).bind fun as S2 => .ok ((.c, x.1) :: as) S2 else .no
def aoO (i : Nat) (t : AM) : AM := fun r S => match r[i]? with
  | some (.own (.lst ys)) => if ys.all gnd then (t r S).bind fun as S2 => .ok ((.o, .lst ys) :: as) S2 else .no
  | _ => .no
def aoD (i : Nat) (mk : EM) (t : AM) : AM := fun r S => match r[i]? with
  | some (.deep 0 d) => (mk r S).bind fun k S1 => match itD d k.1 with
    | some ys => if ys.all gnd then (t r S1).bind fun as S2 => .ok ((.o, .lst ys) :: as) S2 else .no
    | none => .no
  | _ => .no
section
variable {X : Cx} {ct : CT} {pos : Pos}
theorem mao_nil : MAO X ct [] aNil := ⟨fun G W tk => pa_nil.imp fun s H Q ⟨r, S, io, k, h⟩ => h.here k.sto [] .nil⟩
theorem mao_gnd {e : Expr} {es : List Expr} {m : EM} {t : AM} (ha : ME X ct e m) (hr : MAO X ct es t) (hs : starEach (e :: es) X.env = (false, eval e X.env) :: starEach es X.env := by rfl) : MAO X ct (e :: es) (aoG m t) :=
  ⟨fun G W tk => (pa_cons (ha.run G W tk) (hr.run G W tk) hs).imp fun s H Q ⟨r, S, io, k, h⟩ => ⟨r, S, io, k, Res.first h fun x S1 io1 H1 e1 t1 q1 h1 v o => by
    split at h1
    · rename_i g
      refine ⟨r, S1, io1, k.step t1 q1, Res.first h1 fun as S2 io2 H2 e2 t2 q2 h2 vs o2 => ?_⟩
      exact h2.here q2 (v :: vs) (.cons (.inl ⟨rfl, g, Rep.gnd_any g t2.pre o.repF.weak⟩) o2)
    · exact h1.elim⟩⟩
theorem mao_own {i : Nat} {x : Str} {p : Pos} {es : List Expr} {t : AM} (hx : PE X (.Name x p) (tVar i)) (hr : MAO X ct es t) (hs : starEach (.Name x p :: es) X.env = (false, eval (.Name x p) X.env) :: starEach es X.env := by rfl) : MAO X ct (.Name x p :: es) (aoO i t) :=
  ⟨fun G W tk => (pa_cons hx (hr.run G W tk) hs).imp fun s H Q ⟨r, S, io, k, h⟩ => by
    unfold aoO at h
    split at h
    · rename_i ys e
      obtain ⟨a, ea, ow, _⟩ := k.own i _ e
      obtain ⟨ws, h1, h2⟩ := own_lst ow
      split at h
      · rename_i g
        refine ⟨.ref a, ea, r, S, io, k, Res.first h fun as S2 io2 H2 e2 t2 q2 h2' vs o2 => ?_⟩
        exact h2'.here q2 (.ref a :: vs) (.cons (.inr ⟨a, ys, ws, rfl, rfl, .inr (.inr ⟨i, _, e, ea⟩), t2.k1 _ _ h1 NI.lst, g, Reps.gnd_any t2.pre g h2⟩) o2)
      · exact h.elim
    · exact h.elim⟩
theorem mao_deep {i : Nat} {x : Str} {p spos : Pos} {b : Expr} {es : List Expr} {mk : EM} {t : AM} (hx : PE X (.Name x p) (tVar i)) (hk : ME X ct b mk) (hr : MAO X ct es t) (hpi : PlainIx b := by exact fun _ _ => rfl)
    (hs : starEach (.Subscript (.Name x p) b spos :: es) X.env = (false, eval (.Subscript (.Name x p) b spos) X.env) :: starEach es X.env := by rfl) : MAO X ct (.Subscript (.Name x p) b spos :: es) (aoD i mk t) :=
  ⟨fun G W tk => (pa_cons (pe_ix ix_seq hx (hk.run G W tk) hpi) (hr.run G W tk) hs).imp fun s H Q ⟨r, S, io, k, h⟩ => by
    unfold aoD at h
    split at h
    · rename_i d e
      obtain ⟨v, h1, hc⟩ := k.dp.at_ i 0 d e
      refine ⟨v, h1, r, S, io, k, Res.first h fun y S1 io1 H1 _ t1 q1 h' w o => ?_⟩
      have k1 := k.step t1 q1
      have hc1 := hc.mono (M := fun _ => False) t1.kp (fun a o z e n => t1.k1 a o e n) t1.pre
      split at h'
      · rename_i ys ei
        obtain ⟨xs, j, exs, ej, ex⟩ := itD_of ei
        have o2 := o.repF
        rw [ej] at o2
        obtain rfl := int_of o2
        obtain ⟨p, vs, po, rfl, sq, hpo, hp⟩ := con_open hc1 exs
        obtain ⟨u, eu, ru⟩ := paired_atI hp ex
        split at h'
        · rename_i g
          rcases ru with ⟨z, _⟩ | ⟨ys', q', ws, e1, rfl, hF, nq, hH, hle, hb⟩
          · cases z
          cases e1
          have go : tAO X.K ct G W t s H1 fun us H2 => Q (.ref q' :: us) H2 := by
            refine ⟨r, S1, io1, k1, Res.first h' fun as S2 io2 H2 e2 t2 q2 h2 vs o2 => ?_⟩
            exact h2.here q2 (.ref q' :: vs) (.cons (.inr ⟨q', ys, ws, rfl, rfl, .inr (.inl (k.dp.sub i q' hF)), t2.k1 _ _ hH NI.lst, g, Reps.gnd_any t2.pre g (hb rfl).2⟩) o2)
          rcases sq with sq | sq
          · exact .inl ⟨p, vs, j, _, rfl, rfl, sq, eu, go⟩
          · exact .inr (.inl ⟨p, vs, j, _, rfl, rfl, sq, eu, go⟩)
        · exact h'.elim
      · exact h'.elim
    · exact h.elim⟩
open Classical in
noncomputable def newR (y : Rs (D × Fl)) (S : Store) : Rs D := match y with
  | .ok x S2 => if S2 = S ∧ (x.2 = .c ∨ x.2 = .n) ∧ okR x.1 = true then .ok x.1 S else .no
  | _ => .no
theorem newR_ok {y : Rs (D × Fl)} {S S' : Store} {d : D} (h : newR y S = .ok d S') : ∃ f, y = .ok (d, f) S ∧ (f = .c ∨ f = .n) ∧ okR d = true ∧ S' = S := by
  unfold newR at h
  split at h
  · rename_i x S2
    split at h
    · rename_i g
      obtain ⟨rfl, g2, g3⟩ := g
      cases h
      exact ⟨x.2, rfl, g2, g3, rfl⟩
    · cases h
  · cases h
theorem newR_er {y : Rs (D × Fl)} {S S' : Store} {c : Nat} {p : List D} (h : newR y S = .er c p S') : False := by
  unfold newR at h
  split at h
  · split at h <;> cases h
  · cases h
noncomputable def eNewC (np : Nat) (m : FM) (t : AM) : Env → Store → Rs D := fun r S => (t r S).bind fun as S1 => if as.length = np ∧ okS S1 = true then newR (m as S1) S1 else .no
theorem new_go {K : PySem.W.Frag} {np : Nat} {m : FM} {G : Gx} {W : WX} {r : Env} {S : Store} {io : List Addr} {s : St} {H H0 : Hp} {as : List (Fl × D)} {vs : List V} {Q : VK} {E : XK} (k : Ok K ct G r S io s H) (back : ∀ a, H a = none → H0 a = none)
    (o : Paired (ArgO K (Mall G r s) io H) as vs) (h : Res K ct W (Mall G r s) s io H (if as.length = np ∧ okS S = true then newR (m as S) S else .no) fun d S' io' H' => ∀ v, ResG K ct (Mall G r s) H0 io' S' H' d v → Q v H') : lockP (spM K ct.pure np m) E vs H Q := by
  split at h
  · rename_i g
    cases e : newR (m as S) S with
    | ok d S' =>
      rw [e] at h
      obtain ⟨f, e1, e2, e3, rfl⟩ := newR_ok e
      refine lock_main k.sto g.2 o g.1 e1 e2 e3 fun v H' t z => ?_
      refine h io H' t ?_ v ?_
      · rcases z with ⟨_, _, z⟩ | ⟨F, _, _, _, z⟩
        · exact z
        · exact z.anti fun a y => .inl y
      · exact z.imp id fun ⟨F, z1, z2⟩ => ⟨F, fun a y => back a (z1 a y), z2⟩
    | er c p S' => exact (newR_er e).elim
    | no => rw [e] at h; exact h.elim
  · exact h.elim
theorem med_call {x : Str} {p : Pos} {e : Expr} {es : List Expr} {k np : Nat} {m : FM} {t : AM} (F : FnT X ct.pure k x np m) (hr : Room k X.A) (hg : Gl X x) (ha : MAO X ct (e :: es) t)
    (hdb : (x == ("__debug__" : Str)) = false := by decide) (he : starEach (e :: es) X.env = (false, eval e X.env) :: starEach es X.env := by rfl) (hpl : (backTo pos (starEach es X.env)).any (·.1) = false := by rfl) :
    MED X ct (.Call (.Name x p) (e :: es) [] pos) (eNewC np m t) := by
  obtain ⟨f, fd, ps, F, hm, hk, hb⟩ := F.ex
  exact ⟨fun G W tk => (pe_callL F hr hg hm hk hb (passAt tk) (ha.run G W tk) hdb he hpl).imp fun s H Q ⟨r, S, io, k, h⟩ => ⟨r, S, io, k, Res.first h fun as S1 io1 H1 e1 t1 q1 h1 vs o => new_go (k.step t1 q1) (fun a z => t1.free z) o h1⟩⟩
noncomputable def eNewM (np : Nat) (tab : Nat → Option FM) (mo : EM) (t : AM) : Env → Store → Rs D := fun r S => match mo r S with
  | .ok (.ins n, _) S1 => match S1[n]? with
    | some (C, _) => match tab C with
      | some m => (t r S1).bind fun as S2 => if ((Fl.c, D.ins n) :: as).length = np ∧ okS S2 = true then newR (m ((.c, .ins n) :: as) S2) S2 else .no
      | none => .no
    | none => .no
  | _ => .no
theorem methL_go {np : Nat} {tab : Nat → Option FM} {mo : EM} {t : AM} {x : Str} {G : Gx} {W : WX} {s : St} {H : Hp} {Q : VK} (hx : ∀ C m, tab C = some m → x ∉ ct.fd C ∧ ct.ex C = false) (h : tED X.K ct G W (eNewM np tab mo t) s H Q) :
    ∃ z : {z : Nat × FM // tab z.1 = some z.2}, tMethL (ct.ad z.1.1) x (spM X.K ct.pure np z.1.2) (WE W) (tE X.K ct G W mo) (tAO X.K ct G W t) s H Q := by
  obtain ⟨r, S, io, k, h⟩ := h
  unfold eNewM at h
  split at h
  · rename_i n fl S1 e
    split at h
    · rename_i C vs0 e2
      split at h
      · rename_i m e3
        refine ⟨⟨(C, m), e3⟩, r, S, io, k, ?_⟩
        rw [e]
        intro io1 H1 t1 q1 v o
        obtain ⟨a, ev, ea⟩ := ins_of o.repF
        obtain ⟨a', dx, gs, h1, h2, h3⟩ := q1.at_ n C vs0 e2 (hx C m e3).2
        rw [ea] at h1
        cases h1
        refine ⟨a, dx, gs, ev, h2, lookup_none_of h3.1 (hx C m e3).1, r, S1, io1, k.step t1 q1, Res.first (h.shift t1) fun as S2 io2 H2 e5 t2 q2 h5 vs o2 => ?_⟩
        have k2 := (k.step t1 q1).step t2 q2
        exact new_go (as := (.c, .ins n) :: as) k2 (fun a z => t1.free (t2.free z)) (.cons (.inl ⟨rfl, rfl, by rw [ev]; exact Rep.ins (io_get t2.pre ea)⟩) o2) h5
      · exact h.elim
    · exact h.elim
  · exact h.elim
theorem med_meth {x : Str} {o e : Expr} {es : List Expr} {apos : Pos} {k np : Nat} {tab : Nat → Option FM} {mo : EM} {t : AM} {pl : Sem Bool} (ho : ME X ct o mo) (T : ∀ C m, tab C = some m → MeT X ct.pure k C x np m) (hr : Room k X.A) (ha : MAO X ct (e :: es) t)
    (hst : starEach (e :: es) X.env = (false, eval e X.env) :: starEach es X.env := by rfl) (hpl : (backTo pos (starEach es X.env)).any (·.1) = false := by rfl)
    (ht : eval (.Call (.Attribute o x apos) (e :: es) [] pos) X.env = (do
      let ov ← eval o X.env
      standAt apos.atName
      let (f, first) ← holding [ov] (getMethod ov x pl)
      callWith pos f first (backTo pos (starEach (e :: es) X.env)) (backToKw pos (keywordEach [] X.env))) := by rfl) :
    MED X ct (.Call (.Attribute o x apos) (e :: es) [] pos) (eNewM np tab mo t) :=
  ⟨fun G W tk => (PE.ex fun z : {z : Nat × FM // tab z.1 = some z.2} => show PE X _ (tMethL (ct.ad z.1.1) x (spM X.K ct.pure np z.1.2) (WE W) (tE X.K ct G W mo) (tAO X.K ct G W t)) by
    obtain ⟨f, fd, ps, F, c, hm, hb, _⟩ := (T z.1.1 z.1.2 z.2).ex
    exact pe_methL (ho.run G W tk) c hm F hr hb (passAt tk) (ha.run G W tk) hst hpl ht).imp fun s H Q h => methL_go (fun C m e => by
      obtain ⟨_, _, _, _, _, _, _, z⟩ := (T C m e).ex
      exact z) h⟩
theorem med_meth0 {x : Str} {o : Expr} {apos : Pos} {k np : Nat} {tab : Nat → Option FM} {mo : EM} {pl : Sem Bool} (ho : ME X ct o mo) (T : ∀ C m, tab C = some m → MeT X ct.pure k C x np m) (hr : Room k X.A)
    (ht : eval (.Call (.Attribute o x apos) [] [] pos) X.env = (do
      let ov ← eval o X.env
      standAt apos.atName
      let (f, first) ← holding [ov] (getMethod ov x pl)
      callWith pos f first (backTo pos (starEach [] X.env)) (backToKw pos (keywordEach [] X.env))) := by rfl) :
    MED X ct (.Call (.Attribute o x apos) [] [] pos) (eNewM np tab mo aNil) :=
  ⟨fun G W tk => (PE.ex fun z : {z : Nat × FM // tab z.1 = some z.2} => show PE X _ (tMethL (ct.ad z.1.1) x (spM X.K ct.pure np z.1.2) (WE W) (tE X.K ct G W mo) tNil) by
    obtain ⟨f, fd, ps, F, c, hm, hb, _⟩ := (T z.1.1 z.1.2 z.2).ex
    exact pe_methL0 (ho.run G W tk) c hm F hr hb (passAt tk) ht).imp fun s H Q h => by
      obtain ⟨z, r, S, io, k, h⟩ := methL_go (fun C m e => by
        obtain ⟨_, _, _, _, _, _, _, z⟩ := (T C m e).ex
        exact z) h
      refine ⟨z, r, S, io, k, Res.imp h fun x S1 io1 H1 t1 q1 h1 v o => ?_⟩
      obtain ⟨a, dx, gs, e1, e2, e3, r2, S2, io2, k2, h2⟩ := h1 v o
      exact ⟨a, dx, gs, e1, e2, e3, h2.here k2.sto [] .nil⟩⟩
/-! ### a list that is kept as one that is only read -/
def eFrz (m : EM) : EM := fun r S => (m r S).bind fun x S1 => match x.1 with
  | .lst xs => if x.2 = .c ∨ x.2 = .n then .ok (.frz xs, .c) S1 else .no
  | _ => .no
theorem me_frz {e : Expr} {m : EM} (h : ME X ct e m) : ME X ct e (eFrz m) := ⟨fun G W tk => (h.run G W tk).imp fun s H Q ⟨r, S, io, k, h⟩ => ⟨r, S, io, k, Res.first h fun x S1 io1 H1 e1 t1 q1 h1 v o => by
  split at h1
  · rename_i xs ex
    split at h1
    · rename_i g
      refine h1.here q1 v ⟨?_, q1⟩
      have z := o.repF
      rw [ex] at z
      have z : Rep X.K (Mall G r s) io1 H1 (.lst xs) v := by
        rcases g with g | g
        · rw [g] at z; exact z
        · rw [g] at z; exact z
      cases z with
      | lst hH n r => exact .frz (.inl ⟨.inl hH, n⟩) r
    · exact h1.elim
  · exact h1.elim⟩⟩
/-! ### a call that sees no object -/
mutual
def noIns : D → Bool
  | .lst xs => noInss xs
  | .tup xs => noInss xs
  | .frz xs => noInss xs
  | .dic _ xs => noInss xs
  | .ins _ => false
  | _ => true
def noInss : List D → Bool
  | [] => true
  | x :: xs => noIns x && noInss xs
end
mutual
theorem Rep.noio {K : PySem.W.Frag} {M : Addr → Prop} {io io' : List Addr} {H : Hp} : ∀ {d : D} {v : V}, noIns d = true → Rep K M io H d v → Rep K M io' H d v
  | _, _, _, .non => .non
  | _, _, _, .bl b => .bl b
  | _, _, _, .int i => .int i
  | _, _, _, .str z => .str z
  | _, _, g, .lst h n r => .lst h n (Reps.noio (by simpa [noIns] using g) r)
  | _, _, g, .frz h r => .frz h (Reps.noio (by simpa [noIns] using g) r)
  | _, _, g, .tup h r => .tup h (Reps.noio (by simpa [noIns] using g) r)
  | _, _, g, .dic h n e r => .dic h n e (Reps.noio (by simpa [noIns] using g) r)
  | _, _, g, .ins h => by simp [noIns] at g
  | _, _, _, .cst => .cst
theorem Reps.noio {K : PySem.W.Frag} {M : Addr → Prop} {io io' : List Addr} {H : Hp} : ∀ {ds : List D} {vs : List V}, noInss ds = true → Reps K M io H ds vs → Reps K M io' H ds vs
  | _, _, _, .nil => .nil
  | _, _, g, .cons r t => by
    rw [noInss, Bool.and_eq_true] at g
    exact .cons (Rep.noio g.1 r) (Reps.noio g.2 t)
end
def pureR (y : Rs (D × Fl)) (S : Store) : Rs (D × Fl) := match y with
  | .ok x _ => if gnd1 x.1 then .ok (x.1, .c) S else .no
  | _ => .no
def eFnP (np : Nat) (m : FM) (t : AM) : EM := fun r S => (t r S).bind fun as S1 => if as.length = np ∧ (as.all fun x => noIns x.2) = true then pureR (m (as.map fun x => (Fl.c, x.2)) []) S1 else .no
theorem me_callP {x : Str} {p : Pos} {e : Expr} {es : List Expr} {k np : Nat} {m : FM} {t : AM} (F : FnT X ct k x np m) (hr : Room k X.A) (hg : Gl X x) (ha : MA X ct (e :: es) t)
    (hdb : (x == ("__debug__" : Str)) = false := by decide) (he : starEach (e :: es) X.env = (false, eval e X.env) :: starEach es X.env := by rfl) (hpl : (backTo pos (starEach es X.env)).any (·.1) = false := by rfl) :
    ME X ct (.Call (.Name x p) (e :: es) [] pos) (eFnP np m t) := by
  obtain ⟨f, fd, ps, F, hm, hk, hb⟩ := F.ex
  refine ⟨fun G W tk => (pe_callS F hr hg hm hk hb (passAt tk) (ha.run G W tk) hdb he hpl).imp fun s H Q ⟨r, S, io, k, h⟩ => ⟨r, S, io, k, Res.first h fun as S1 io1 H1 e1 t1 q1 h1 vs o => ?_⟩⟩
  split at h1
  · rename_i g
    obtain ⟨g1, g2⟩ := g
    refine ⟨by rw [← g1]; exact (Paired.length o).symm, as.map fun x => (Fl.c, x.2), [], [], fun _ => False, ?_, ⟨rfl, fun n C fs e => by simp at e, fun n C fs e => by simp at e, .nil, q1.tb⟩, fun a z => z.elim, ?_⟩
    · clear h1 h e1 g1
      induction o with
      | nil => exact .nil
      | cons r t ih =>
        rw [List.all_cons, Bool.and_eq_true] at g2
        exact .cons (Rep.noio g2.1 r.weak) (ih g2.2)
    · cases em : m (as.map fun x => (Fl.c, x.2)) [] with
      | ok x S2 =>
        rw [em] at h1
        have h1 : Res X.K ct W (Mall G r s) s io1 H1 (if gnd1 x.1 then (.ok (x.1, Fl.c) S1 : Rs (D × Fl)) else .no) _ := h1
        split at h1
        · rename_i gx
          intro v io' H2 t z
          have s2 : Stp ct io1 H1 io1 H2 := ⟨t.k1, fun a o e _ n => t.k2 a o e (fun z => nomatch z) n, io_refl, fun a z n => absurd z n, t.dom, t.k3⟩
          have q2 : StoOk X.K ct (Mall G r s) io1 S1 H2 := by
            refine ⟨q1.len, fun n C fs e x => ?_, fun n C fs e x => ?_, q1.nd, z.sto.tb⟩
            · obtain ⟨a, dx, gs, y1, y2, y3, y4⟩ := q1.at_ n C fs e x
              exact ⟨a, dx, gs, y1, t.k2 a _ y2 (fun z => nomatch z) (fun _ z => by cases z), y3, y4.stp s2⟩
            · obtain ⟨a, d, y1, y2, y3⟩ := q1.ax n C fs e x
              exact ⟨a, d, y1, t.k1 _ _ y2 NI.ext, y3.mono (M := fun _ => False) s2.kp io_refl⟩
          refine h1.go s2 q2 v ⟨?_, q2⟩
          exact Rep.noio (by cases hx : x.1 <;> rw [hx] at gx <;> first | rfl | cases gx) (Rep.of_gnd (gnd1_gnd gx) z.repF.weak)
        · exact h1.elim
      | er c p S2 => rw [em] at h1; exact h1.elim
      | no => rw [em] at h1; exact h1.elim
  · exact h1.elim
end
end Mv

set_option maxRecDepth 100000
set_option maxHeartbeats 2000000
/-! Mv39: {k: e, ..} -/
namespace Mv
open PySem PySem.Spec PyProof.Rows L2
def mgD : List Key → List D → List Key → List D → List Key × List D
  | ks, xs, k :: l, d :: ds => mgD (putKD ks xs k d).1 (putKD ks xs k d).2 l ds
  | ks, xs, _, _ => (ks, xs)
theorem merge_rep {K : PySem.W.Frag} {M : Addr → Prop} {io : List Addr} {H : Hp} : ∀ {more kvs : List (Key × V)} {xs ys : List D}, Reps K M io H xs (kvs.map Prod.snd) → Reps K M io H ys (more.map Prod.snd) →
    (mergeK kvs more).map Prod.fst = (mgD (kvs.map Prod.fst) xs (more.map Prod.fst) ys).1 ∧ Reps K M io H (mgD (kvs.map Prod.fst) xs (more.map Prod.fst) ys).2 ((mergeK kvs more).map Prod.snd)
  | [], kvs, xs, ys, h, r => by
    cases r
    exact ⟨rfl, h⟩
  | p :: more, kvs, xs, ys, h, r => by
    cases r with
    | cons r1 r2 =>
      rename_i d ds
      have z := merge_rep (kvs := putK kvs p.1 p.2) (put_vals (k := p.1) h r1) r2
      rw [put_keys kvs p.1 p.2 xs d] at z
      exact z
theorem stp_atNew {ct : CT} {io io1 : List Addr} {H H1 : Hp} {p : Addr} {o : HO} (t : Stp ct io H io1 H1) (hp : H p = none) : Stp ct io H io1 (upd H1 p o) := by
  have ne : ∀ {a u}, H a = some u → a ≠ p := fun e z => by rw [z, hp] at e; cases e
  exact ⟨fun a u e n => by rw [upd_ne (ne e)]; exact t.k1 a u e n, fun a u e n nt => by rw [upd_ne (ne e)]; exact t.k2 a u e n nt, t.pre, t.new, fun a u e => by rw [upd_ne (ne e)]; exact t.dom a u e, fun pu a u e => by rw [upd_ne (ne e)]; exact t.k3 pu a u e⟩
abbrev PM := Env → Store → Rs (List Key × List D)
def dpNil : PM := fun _ S => .ok ([], []) S
def dpCons (mk mv : EM) (t : PM) : PM := fun r S => (mk r S).bind fun k S1 => (mv r S1).bind fun v S2 => match keyD k.1 with
  | some kk => if okst v.2 v.1 then (t r S2).bind fun p S3 => .ok (kk :: p.1, v.1 :: p.2) S3 else .no
  | none => .no
def tDp (K : PySem.W.Frag) (ct : CT) (G : Gx) (W : WX) (m : PM) : St → Hp → (List (V × V) → Hp → Prop) → Prop := fun s H Q => ∃ r S io, Ok K ct G r S io s H ∧
  Res K ct W (Mall G r s) s io H (m r S) (fun p S' io' H' => ∀ kvs : List (Key × V), kvs.map Prod.fst = p.1 → Reps K (Mall G r s) io' H' p.2 (kvs.map Prod.snd) → Q (kvs.map fun kv => (kV kv.1, kv.2)) H')
section
variable {X : Cx} {ct : CT} {pos : Pos}
structure MDp (X : Cx) (ct : CT) (pos : Pos) (ks : List (Option Expr)) (vs : List Expr) (m : PM) : Prop where
  run : ∀ W : WX, Takes X W → ∃ trs, PPs X pos ks vs trs ∧ ∀ G s H Q, tDp X.K ct G W m s H Q → tPairs trs s H Q
theorem mdp_nil : MDp X ct pos [] [] dpNil := ⟨fun W tk => ⟨[], pps_nil, fun G s H Q ⟨r, S, io, k, h⟩ => h.here k.sto [] rfl .nil⟩⟩
theorem mdp_cons {a b : Expr} {ks : List (Option Expr)} {vs : List Expr} {mk mv : EM} {t : PM} (hk : ME X ct a mk) (hv : ME X ct b mv) (ht : MDp X ct pos ks vs t) : MDp X ct pos (some a :: ks) (b :: vs) (dpCons mk mv t) :=
  ⟨fun W tk => by
    obtain ⟨trs, hp, hq⟩ := ht.run W tk
    refine ⟨_, pps_cons (PE.ex fun G : Gx => hk.run G W tk) (PE.ex fun G : Gx => hv.run G W tk) hp, fun G s H Q ⟨r, S, io, k, h⟩ => ⟨G, r, S, io, k, Res.first h fun x S1 io1 H1 _ t1 q1 h1 v o => ?_⟩⟩
    have k1 := k.step t1 q1
    refine ⟨G, r, S1, io1, k1, Res.first h1 fun y S2 io2 H2 _ t2 q2 h2 w ow => ?_⟩
    have k2 := k1.step t2 q2
    split at h2
    · rename_i kk ek
      split at h2
      · rename_i g
        have ev : v = kV kk := key_val ek o.repF
        refine hq G s H2 _ ⟨r, S2, io2, k2, Res.first h2 fun p S3 io3 H3 _ t3 q3 h3 kvs e1 e2 => ?_⟩
        have z := h3.here q3 ((kk, w) :: kvs) (by rw [List.map_cons, e1]) (.cons (RepF.clean g (ow.repF.stp t3)) e2)
        rw [ev]
        exact z
      · exact h2.elim
    · exact h2.elim⟩
def eDisp (m : PM) : EM := fun r S => (m r S).bind fun p S1 => if p.1.length ≤ 15 then .ok (.dic (mgD [] [] p.1 p.2).1 (mgD [] [] p.1 p.2).2, .n) S1 else .no
theorem me_dict {ks : List (Option Expr)} {vs : List Expr} {m : PM} (h : MDp X ct pos ks vs m) (hall : ks.all (·.isSome) = true) (hl : ks.length = vs.length) (h0 : ks ≠ []) (h15 : ks.length ≤ 15) : ME X ct (.Dict ks vs pos) (eDisp m) :=
  ⟨fun G W tk => by
    obtain ⟨trs, hp, hq⟩ := h.run W tk
    refine (pe_disp hp hall hl h0 h15).imp fun s H Q ⟨r, S, io, k, h⟩ p np => hq (G.hideF fun a => a = p) s _ _ ?_
    have s0 : Stp ct io H io (upd H p (.dK [])) := Stp.upd np
    have kh : Ok X.K ct (G.hideF fun a => a = p) r S io s (upd H p (.dK [])) := k.hideF s0 (fun a z => by rw [z]; exact np) (fun a z => ⟨.dK [], by rw [z]; exact upd_same, NI.dK, not_im_dK⟩) ((k.sto.off np).upd np)
    refine ⟨r, S, io, kh, ?_⟩
    unfold eDisp at h
    cases e : m r S with
    | no => rw [e] at h; exact h.elim
    | er c pr S' =>
      rw [e] at h
      exact fun dx io' H' t q er => h dx io' H' (s0.trans t) (q.anti fun a z => mall_hideF.mpr (.inl z)) er
    | ok x S1 =>
      rw [e] at h
      intro io1 H1 t1 q1 kvs e1 e2
      have h : Res X.K ct W (Mall G r s) s io H (if x.1.length ≤ 15 then (.ok (D.dic (mgD [] [] x.1 x.2).1 (mgD [] [] x.1 x.2).2, Fl.n) S1 : Rs (D × Fl)) else .no) _ := h
      split at h
      · rename_i g
        have hH : H1 p = some (.dK []) := t1.k1 _ _ upd_same NI.dK
        refine ⟨hH, kvs, rfl, by rw [← List.length_map Prod.fst, e1]; exact g, ?_⟩
        have npm : ¬ Mall G r s p := fun z => by
          obtain ⟨o, e, _⟩ := k.mdom p z
          rw [np] at e
          cases e
        have t3 : Stp ct io H io1 (upd H1 p (.dK (mergeK [] kvs))) := stp_atNew (s0.trans t1) np
        have kp : Kp (fun a => Mall G r s a ∨ a = p) H1 (upd H1 p (.dK (mergeK [] kvs))) := fun a o e n z => by
          rw [upd_ne]
          · exact e
          · rintro rfl
            rcases z with z | z
            · exact z (.inr rfl)
            · rw [hH] at e
              cases e
              exact not_im_dK z
        have ne : ∀ {a o}, H1 a = some o → (∀ l, o ≠ .dK l) → a ≠ p := fun e n z => by
          subst z
          rw [hH] at e
          cases e
          exact n _ rfl
        have q3 : StoOk X.K ct (fun a => Mall G r s a ∨ a = p) io1 S1 (upd H1 p (.dK (mergeK [] kvs))) :=
          (q1.anti fun a z => mall_hideF.mpr z).mono kp (fun _ _ n => n) (fun b C dx fs _ e => by rw [upd_ne (ne e fun _ z => by cases z)]; exact e) fun b ps e => by rw [upd_ne (ne e fun _ z => by cases z)]; exact e
        have mr := merge_rep (kvs := []) (xs := []) .nil (e2.anti (M' := fun a => Mall G r s a ∨ a = p) fun a z => mall_hideF.mpr z)
        rw [e1] at mr
        refine h io1 _ t3 (q3.anti fun a z => .inl z) (.ref p) ⟨p, rfl, np, npm, .inr ⟨_, _, _, rfl, upd_same, mr.1, mr.2.mono kp (fun _ _ n => n) io_refl⟩, q3⟩
      · exact h.elim⟩
end
end Mv

set_option maxRecDepth 100000
set_option maxHeartbeats 2000000
/-! Mv40: sorted of lists of ints -/
namespace Mv
open PySem PySem.Spec PyProof.Rows L2 PySem.W
abbrev encL (is : List Int) : PyData := .list (is.map .int)
def sortL (iss : List (List Int)) : List (List Int) := iss.mergeSort fun p q => decide (p ≤ q)
/-- what is kept of an item: P says it is that list -/
def rSortLT (K : PySem.W.Frag) : List V → Hp → VK → Prop := fun vs H Q => ∃ (P : V → List Int → Prop) (a : Addr) (xs : List V) (iss : List (List Int)), vs = [V.ref a] ∧ SqL K H a xs ∧ Paired P xs iss ∧ (∀ x is, P x is → ∃ t, x = .ref t ∧ Dp K H x (encL is)) ∧
  ∀ ys l, Paired P ys (sortL iss) → H l = none → Q (.ref l) (upd H l (.lst ys))
theorem paired_each {P : V → List Int → Prop} : ∀ {us : List Value} {xs : List V} {iss : List (List Int)}, xs = us.map backV → Paired P xs iss → EachIs (fun u is => P (backV u) is) us iss
  | [], _, _, e, h => by
    subst e
    cases h
    exact .nil
  | u :: us, _, _, e, h => by
    subst e
    cases h with
    | cons h1 h2 => exact .cons h1 (paired_each rfl h2)
theorem each_paired {P : V → List Int → Prop} {us : List Value} {iss : List (List Int)} (h : EachIs (fun u is => P (backV u) is) us iss) : Paired P (us.map backV) iss := by
  induction h with
  | nil => exact .nil
  | cons h1 h2 ih => exact .cons h1 ih
theorem each_and {R : Value → List Int → Prop} {T : Value → Prop} {us : List Value} {iss : List (List Int)} (h : EachIs R us iss) : (∀ u ∈ us, T u) → EachIs (fun u is => R u is ∧ T u) us iss := by
  induction h with
  | nil => exact fun _ => .nil
  | cons h1 h2 ih => exact fun t => .cons ⟨h1, t _ (.head _)⟩ (ih fun u m => t u (.tail _ m))
theorem each_all {R : Value → List Int → Prop} {T : Value → Prop} {us : List Value} {iss : List (List Int)} (h : EachIs R us iss) (ht : ∀ u is, R u is → T u) : ∀ u ∈ us, T u := by
  induction h with
  | nil => exact fun u m => absurd m (by simp)
  | cons h1 h2 ih =>
    intro u m
    rcases List.mem_cons.mp m with rfl | m
    · exact ht _ _ h1
    · exact ih u m
theorem cr_sortLT {X : Cx} (hu : X.A.units + 64 < cLine) : CallR X (.builtin "sorted") (rSortLT X.K) := by
  intro pins s σ H vs us Q I r h
  obtain ⟨P, a, xs, iss, rfl, hs, hp, hP, q⟩ := h
  obtain ⟨its, rv, hl, hz⟩ := I.list hs
  obtain ⟨u, rfl, ru⟩ := vals1 r
  obtain rfl : u = Value.ref a := ru
  have hx : ∀ x ∈ xs, ∃ is, P x is := by
    clear q rv hl hz hs
    induction hp with
    | nil => exact fun x m => absurd m (by simp)
    | cons h1 h2 ih =>
      intro x m
      rcases List.mem_cons.mp m with rfl | m
      · exact ⟨_, h1⟩
      · exact ih x m
  obtain ⟨e1, e2⟩ := refs_back rv fun x m => by
    obtain ⟨is, h⟩ := hx x m
    obtain ⟨t, e, _⟩ := hP x is h
    exact ⟨t, e⟩
  have hz2 : iss.length ≤ sizeLine := by
    rw [← hp.length]
    exact hz
  have ea := paired_each (P := P) e1 hp
  have e : EachIs (fun u is => P (backV u) is ∧ ∃ a, u = Value.ref a) its iss := by
    exact each_and ea e2
  have er : EachIs (fun v b => ∃ as, Reads s.heap v (encL b) as) its iss := e.mono fun u is h => by
    obtain ⟨h, t, rfl⟩ := h
    obtain ⟨t', e3, d⟩ := hP _ _ h
    exact Dp.reads I _ _ _ d rfl
  have hal : AllAlike (iss.map encL) := AllAlike.of fun b b' => by simp [alike, Mv.alike_ints]
  have hso : Sortable (iss.map encL) := Sortable.others fun b => ⟨by simp, by simp⟩
  have hun : ∀ b, b ∈ iss → X.A.units + 2 + (encL b).depth < cLine := fun b _ => by
    have hd : (encL b).depth = 1 := by simp [PyData.depth, Mv.depth_ints]
    omega
  refine sorted_data (R := fun u is => P (backV u) is ∧ ∃ a, u = Value.ref a) (enc := encL) hl.isList e er hal hso hz2 hun fun out hlen eo => ?_
  · rw [dataLe_rows (fun b => b)] at eo
    have h3 : ∀ u ∈ out, ∃ a, u = Value.ref a := each_all eo fun u is h => h.2
    obtain ⟨n, hn⟩ := sortedAll_at s.heap its (List.toArray out)
    have hd : s.heap.objs.size ≤ s.heap.objs.size + 1 := Nat.le_succ _
    refine ⟨.ref (s.heap.objs.size + 1), upd H (s.heap.objs.size + 1) (.lst (out.map backV)), I.laid (t' := s.toks) (fun b o e => sortedAll_old e) hd ⟨?_, out, n, vals_back h3, hn⟩, rfl, q _ _ ?_ (I.hok.fresh hd)⟩
    · rw [List.length_map, hlen]
      exact hz2
    · exact each_paired (eo.mono fun u is h => h.1)
def rowsOf : List D → Option (List (List Int))
  | [] => some []
  | .lst xs :: ds => match intsOf xs, rowsOf ds with
    | some is, some iss => some (is :: iss)
    | _, _ => none
  | _ => none
def rL (is : List Int) : D := .lst (is.map D.int)
section
variable {K : PySem.W.Frag} {ct : CT} {M N : Addr → Prop} {io : List Addr} {H : Hp}
theorem rows_eq : ∀ {ds : List D} {iss : List (List Int)}, rowsOf ds = some iss → ds = iss.map rL
  | [], iss, e => by
    unfold rowsOf at e
    cases e
    rfl
  | d :: ds, iss, e => by
    unfold rowsOf at e
    split at e
    · rename_i heq
      cases heq
    · rename_i xs ds' heq
      cases heq
      split at e
      · rename_i is jss e1 e2
        cases e
        rw [rows_eq e2, intsOf_eq e1]
        rfl
      · cases e
    · cases e
theorem rows_of : ∀ iss : List (List Int), rowsOf (iss.map rL) = some iss
  | [] => rfl
  | is :: iss => by
    show (match intsOf (is.map D.int), rowsOf (iss.map rL) with
      | some is, some iss => some (is :: iss)
      | _, _ => none) = _
    rw [rows_of iss, intsOf_map]
theorem reps_rows : ∀ {iss : List (List Int)} {vs : List V}, Reps K M io H (iss.map rL) vs → Paired (fun v is => Rep K M io H (rL is) v) vs iss
  | [], _, h => by
    cases h
    exact .nil
  | p :: ps, _, h => by
    cases h with
    | cons h1 h2 => exact .cons h1 (reps_rows h2)
theorem rows_reps {iss : List (List Int)} {vs : List V} (h : Paired (fun v is => Rep K M io H (rL is) v) vs iss) : Reps K M io H (iss.map rL) vs := by
  induction h with
  | nil => exact .nil
  | cons h1 h2 ih => exact .cons h1 ih
def gSortL : List (Fl × D) → Option (D × Fl) := fun as => match as with
  | [(f, .lst ds)] => if f = .t then none else (rowsOf ds).map fun iss => (.lst ((sortL iss).map rL), .n)
  | _ => none
theorem ok_sortL : CalOk K ct (rSortLT K) gSortL := by
  intro M N io S H vs as res Q o q md e w
  unfold gSortL at e
  split at e
  · rename_i f ds
    split at e
    · cases e
    · rename_i g
      obtain ⟨iss, e1, rfl⟩ := Option.map_eq_some_iff.mp e
      obtain ⟨v, rfl, r⟩ := args1 o
      obtain ⟨a, us, rfl, h1, h2⟩ := nt_seq (xs := ds) g rfl r
      rw [rows_eq e1] at h2
      refine ⟨fun v is => Rep K M io H (rL is) v, a, us, iss, rfl, h1, reps_rows h2, fun x is h => ?_, fun ys l hy hl => w _ _ (Stp.upd hl) (new_lst hl hl md q (rows_reps hy))⟩
      have d : Dp K H x (encL is) := (Rep.anti (M' := fun _ => False) (fun _ z => z.elim) h).dp (by simp [rL, toPy, toPys_ints])
      cases h with
      | lst h1 h2 h3 => exact ⟨_, rfl, d⟩
  · cases e
end
end Mv

set_option maxRecDepth 100000
set_option maxHeartbeats 2000000
/-! Mv41: (n, m, list) < (n', m', list') -/
namespace Mv
open PySem PySem.Spec PyProof.Rows L2 PySem.W
def ltT (a c b d : Int) (is js : List Int) : Bool := if a = c then ltL b d is js else decide (a < c)
theorem lt_trip (a b c d : Int) (is js : List Int) : dataLt (.tuple [.int a, .int b, .list (is.map PyData.int)]) (.tuple [.int c, .int d, .list (js.map PyData.int)]) = ltT a c b d is js := by
  rw [dataLt_tuple]
  unfold ltT ltL
  by_cases h : a = c
  · subst h
    rw [if_pos rfl, dataLt_all_yes (by simp [alike]) (by simp [PyData.eqv])]
    by_cases h1 : b = d
    · subst h1
      rw [if_pos rfl, dataLt_all_yes (by simp [alike]) (by simp [PyData.eqv])]
      by_cases h2 : is = js
      · subst h2
        rw [dataLt_all_yes (by simp [alike, Mv.alike_ints]) (by simp [PyData.eqv, eqv_ints]), lex_self]
        simp [keyToksAll]
        rfl
      · rw [dataLt_all_no (by simp [alike, Mv.alike_ints]) (by simp [PyData.eqv, eqv_ints, h2]), dataLt_list, lt_ints]
    · rw [if_neg h1, dataLt_all_no (by simp [alike]) (by simp [PyData.eqv, h1]), dataLt_int]
  · rw [if_neg h, dataLt_all_no (by simp [alike]) (by simp [PyData.eqv, h]), dataLt_int]
def gLtT : D × Fl → D × Fl → Option (D × Fl) := fun a b => match a.1, b.1 with
  | .tup [.int a, .int b, .lst xs], .tup [.int c, .int d, .lst ys] => match intsOf xs, intsOf ys with
    | some is, some js => some (.bl (ltT a c b d is js), .c)
    | _, _ => none
  | _, _ => none
section
variable {K : PySem.W.Frag} {ct : CT} {M N : Addr → Prop} {io : List Addr} {H : Hp}
theorem dp_trip {c e : Int} {is : List Int} {v : V} (h : Rep K M io H (.tup [.int c, .int e, .lst (is.map D.int)]) v) : Dp K H v (.tuple [.int c, .int e, .list (is.map PyData.int)]) :=
  h.dp (by simp [toPy, toPys, toPys_ints])
theorem ok_ltT : BinOk K ct (rLtD K) gLtT := by
  rintro M N io S H x y ⟨a, fa⟩ ⟨b, fb⟩ res Q ra rb q md e w
  unfold gLtT at e
  dsimp only at e ra rb
  split at e
  · rename_i a b xs c d ys
    split at e
    · rename_i is js e1 e2
      cases e
      rw [intsOf_eq e1] at ra
      rw [intsOf_eq e2] at rb
      refine ⟨_, _, dp_trip (tup_rep ra), dp_trip (tup_rep rb), by simp [alike, alikeAll, Mv.alike_ints], (fun z => nomatch z), by simp [PyData.depth, PyData.depthAll, Mv.depth_ints], ?_⟩
      rw [lt_trip]
      exact w _ _ Stp.refl (ResOk.c (.bl _) q)
    · cases e
  · cases e
end
end Mv

set_option maxRecDepth 100000
set_option maxHeartbeats 2000000
/-! Mv42: for k, x in d.items(), d one's own dict that stays one's own -/
namespace Mv
open PySem PySem.Spec PyProof.Rows L2
section
variable {K : PySem.W.Frag} {ct : CT} {G : Gx} {r : Env} {S : Store} {io : List Addr} {s : St} {H : Hp} {i : Nat} {ks : List Key} {xs : List D} {a : Addr} {od : Obj} {kvs : List (Key × V)}
theorem Ok.unlockOwn (h0 : G.H0 a = none) (m0 : ¬ G.M0 a) (n0 : ¬ G.N0 a) (k : Ok K ct (G.lock a (.frz od (.dK kvs))) r S io s H) (hi : r[i]? = some (.ar .c (.cst (.ref a)))) (hr : Reps K (Mall (G.lock a (.frz od (.dK kvs))) r s) io H xs (kvs.map Prod.snd)) :
    Ok K ct G (r.set i (.own (.dic (kvs.map Prod.fst) xs))) S io s (upd H a (.dK kvs)) := by
  have hf : H a = some (.frz od (.dK kvs)) := k.stp.k1 a _ upd_same NI.frz
  have hs : s[i]? = some (some (V.ref a)) := by
    obtain ⟨v, h1, h2⟩ := k.arg i _ _ hi
    have h2 : Rep K (Mall (G.lock a (.frz od (.dK kvs))) r s) io H (.cst (.ref a)) v := h2
    cases h2
    exact h1
  have at_ : ∀ {j u}, (r.set i (.own (.dic (kvs.map Prod.fst) xs)))[j]? = some u → (j = i ∧ u = .own (.dic (kvs.map Prod.fst) xs)) ∨ (j ≠ i ∧ r[j]? = some u) := fun {j u} q => by
    rcases get_set q with ⟨rfl, q, _⟩ | ⟨hj, q⟩
    · exact .inl ⟨rfl, q.symm⟩
    · exact .inr ⟨fun z => hj z.symm, q⟩
  have na : ∀ {j : Nat} {d : D} {b : Addr}, r[j]? = some (Slot.own d) → s[j]? = some (some (V.ref b)) → b ≠ a := fun {j d b} q z => by
    obtain ⟨b', h1, h2, h3, _⟩ := k.own j d q
    rw [z] at h1
    cases h1
    exact fun e => h3 (.inr e)
  have mo2 : ∀ {x}, Mown G (r.set i (.own (.dic (kvs.map Prod.fst) xs))) s x → Mown G r s x ∨ x = a := fun {x} h => by
    rcases h with h | ⟨j, u, h1, h2⟩
    · exact .inl (.inl h)
    · rcases at_ h1 with ⟨rfl, _⟩ | ⟨_, q⟩
      · rw [hs] at h2
        cases h2
        exact .inr rfl
      · exact .inl (.inr ⟨j, u, q, h2⟩)
  have ml : ∀ {x}, Mall G (r.set i (.own (.dic (kvs.map Prod.fst) xs))) s x → Mall (G.lock a (.frz od (.dK kvs))) r s x := fun {x} h => by
    rcases h with h | h
    · exact .inl (.inl h)
    · rcases mo2 h with h | h
      · exact .inr h
      · exact .inl (.inr h)
  have ma : Mall (G.lock a (.frz od (.dK kvs))) r s a := .inl (.inr rfl)
  have kp : ∀ N : Addr → Prop, N a → Kp N H (upd H a (.dK kvs)) := fun N na b u q ni z => by
    rw [upd_ne]
    · exact q
    · rintro rfl
      rcases z with z | z
      · exact z na
      · rw [hf] at q
        cases q
        exact frz_not_im z
  have ne : ∀ {b o}, H b = some o → o ≠ .frz od (.dK kvs) → b ≠ a := fun q n z => by
    subst z
    rw [hf] at q
    cases q
    exact n rfl
  have hn : ∀ {b o}, G.H0 b = some o → b ≠ a := fun q z => by
    subst z
    rw [h0] at q
    cases q
  have ar : ∀ {f d v}, ArgF K (Mall (G.lock a (.frz od (.dK kvs))) r s) (Mown G r s) io H f d v → ArgF K (Mall G (r.set i (.own (.dic (kvs.map Prod.fst) xs))) s) (Mown G (r.set i (.own (.dic (kvs.map Prod.fst) xs))) s) io (upd H a (.dK kvs)) f d v := fun {f d v} h => by
    have m : ∀ b, (∃ o, H b = some o) → ¬ Mall (G.lock a (.frz od (.dK kvs))) r s b → ¬ Mall G (r.set i (.own (.dic (kvs.map Prod.fst) xs))) s b := fun b _ n z => n (ml z)
    have go : (Rep K (Mall (G.lock a (.frz od (.dK kvs))) r s) io H d v ∨ ∃ b, v = .ref b ∧ OwnAt K (Mall (G.lock a (.frz od (.dK kvs))) r s) io H d b ∧ ¬ Mown G r s b) → (Rep K (Mall G (r.set i (.own (.dic (kvs.map Prod.fst) xs))) s) io (upd H a (.dK kvs)) d v ∨ ∃ b, v = .ref b ∧ OwnAt K (Mall G (r.set i (.own (.dic (kvs.map Prod.fst) xs))) s) io (upd H a (.dK kvs)) d b ∧ ¬ Mown G (r.set i (.own (.dic (kvs.map Prod.fst) xs))) s b) := fun h => by
      rcases h with h | ⟨b, e, h, z⟩
      · exact .inl (Rep.mono (kp _ ma) m io_refl h)
      · have nb : b ≠ a := by
          rcases h with ⟨_, _, _, w, _⟩ | ⟨_, _, _, _, w, _⟩
          · exact ne w fun z => by cases z
          · exact ne w fun z => by cases z
        refine .inr ⟨b, e, h.mono (kp _ ma) m io_refl fun o q _ => ?_, fun q => (mo2 q).elim z nb⟩
        rw [upd_ne nb]
        exact q
    cases f with
    | c => exact Rep.mono (kp _ ma) m io_refl h
    | n => exact Rep.mono (kp _ ma) m io_refl h
    | b => exact go h
    | o => exact go h
    | t => exact Rep.mono (kp _ (.inr rfl)) (fun b _ n z => n (mo2 z)) io_refl (Rep.av hf h)
  refine ⟨by rw [List.length_set]; exact k.len, fun j f u q => ?_, fun j u q => ?_, fun j j' u u' b q q' z z' => ?_, ?_, ?_, fun b h => ?_, fun b h => ?_, fun p hp => ar (k.held p hp), k.dp.gen rfl (fun _ z => z) (fun j b d q => ?_) (kp _ ma) (fun b o nb _ q _ => by rw [upd_ne (show b ≠ a from fun z => n0 (z ▸ nb))]; exact q) io_refl⟩
  · rcases at_ q with ⟨_, q2⟩ | ⟨_, q⟩
    · cases q2
    · obtain ⟨v, h1, h2⟩ := k.arg j f u q
      exact ⟨v, h1, ar h2⟩
  · rcases at_ q with ⟨ej, q2⟩ | ⟨_, q⟩
    · subst ej
      cases q2
      exact ⟨a, hs, .inr ⟨_, xs, kvs, rfl, upd_same, rfl, hr.mono (kp _ ma) (fun _ _ n z => n (ml z)) io_refl⟩, m0, n0, h0⟩
    · obtain ⟨b, h1, h2, h3, h4, h5⟩ := k.own j u q
      have nb : b ≠ a := fun z => h3 (.inr z)
      have h5 : (upd G.H0 a _) b = none := h5
      rw [upd_ne nb] at h5
      exact ⟨b, h1, h2.mono (kp _ ma) (fun _ _ n z => n (ml z)) io_refl fun o q _ => by rw [upd_ne nb]; exact q, fun z => h3 (.inl z), h4, h5⟩
  · rcases at_ q with ⟨rfl, _⟩ | ⟨_, q⟩
    · rcases at_ q' with ⟨rfl, _⟩ | ⟨_, q'⟩
      · rfl
      · rw [hs] at z
        cases z
        exact absurd rfl (na q' z')
    · rcases at_ q' with ⟨ej, _⟩ | ⟨_, q'⟩
      · subst ej
        rw [hs] at z'
        cases z'
        exact absurd rfl (na (by assumption) z)
      · exact k.inj j j' u u' b q q' z z'
  · exact k.sto.mono (kp _ ma) (fun _ _ n z => n (ml z)) (fun b C dx fs _ q => by rw [upd_ne (ne q fun z => by cases z)]; exact q) fun b ps q => by rw [upd_ne (ne q fun z => by cases z)]; exact q
  · have T := k.stp
    refine ⟨fun b o q n => ?_, fun b o q n nt => ?_, T.pre, fun b z n => ?_, fun b o q => ?_, fun pu b o q => by
      have nb := hn q
      rw [upd_ne nb]
      exact T.k3 pu b o (by show (upd G.H0 a _) b = some o; rw [upd_ne nb]; exact q)⟩
    · have nb := hn q
      rw [upd_ne nb]
      exact T.k1 b o (by show (upd G.H0 a _) b = some o; rw [upd_ne nb]; exact q) n
    · have nb := hn q
      rw [upd_ne nb]
      exact T.k2 b o (by show (upd G.H0 a _) b = some o; rw [upd_ne nb]; exact q) n nt
    · have q : (upd G.H0 a (HO.frz od (.dK kvs))) b = none := T.new b z n
      by_cases hb : b = a
      · subst hb
        exact h0
      · rw [upd_ne hb] at q
        exact q
    · have nb := hn q
      obtain ⟨o', q'⟩ := T.dom b o (by show (upd G.H0 a _) b = some o; rw [upd_ne nb]; exact q)
      exact ⟨o', by rw [upd_ne nb]; exact q'⟩
  · obtain ⟨o, q, n⟩ := k.m0 b (.inl h)
    exact ⟨o, by rw [upd_ne (show b ≠ a from fun z => m0 (z ▸ h))]; exact q, n⟩
  · obtain ⟨o, ⟨h1, h1'⟩, h2, h3, h4⟩ := k.n0 b h
    have nb : b ≠ a := fun z => n0 (z ▸ h)
    have h3 : (upd G.H0 a _) b = none := h3
    rw [upd_ne nb] at h3
    exact ⟨o, ⟨by rw [upd_ne nb]; exact h1, h1'⟩, fun z => h2 (.inl z), h3, h4⟩
  · rcases at_ q with ⟨_, q2⟩ | ⟨_, q⟩
    · cases q2
    · exact ⟨q, rfl⟩
theorem reps_zip {M : Addr → Prop} : ∀ {xs : List D} {vs : List V}, xs.length = vs.length → (∀ p ∈ List.zipWith (fun x (v : V) => (Fl.c, x, v)) xs vs, Rep K M io H p.2.1 p.2.2) → Reps K M io H xs vs
  | [], [], _, _ => .nil
  | [], _ :: _, h, _ => by cases h
  | _ :: _, [], h, _ => by cases h
  | x :: xs, v :: vs, h, q => .cons (q _ (.head _)) (reps_zip (by simpa using h) fun p hp => q p (.tail _ hp))
end
noncomputable def itmK (i : Nat) (g : GM) (b : SM) (ks : List Key) (xs : List D) (r : Env) (S : Store) : SR :=
  open Classical in
  if h : ∃ p : Env × Store, i < p.1.length ∧ ∀ a : Addr, forL g b (itemsD ks xs) (r.set i (.ar .c (.cst (.ref a)))) S = .nx (p.1.set i (.ar .c (.cst (.ref a)))) p.2 then .nx (h.choose.1.set i (.own (.dic ks xs))) h.choose.2 else .no
theorem itmK_ap {i : Nat} {g : GM} {b : SM} {ks : List Key} {xs : List D} {r r' : Env} {S S' : Store} (hi : i < r'.length) (h : ∀ a : Addr, forL g b (itemsD ks xs) (r.set i (.ar .c (.cst (.ref a)))) S = .nx (r'.set i (.ar .c (.cst (.ref a)))) S') : itmK i g b ks xs r S = .nx (r'.set i (.own (.dic ks xs))) S' := by
  have ex : ∃ p : Env × Store, i < p.1.length ∧ ∀ a : Addr, forL g b (itemsD ks xs) (r.set i (.ar .c (.cst (.ref a)))) S = .nx (p.1.set i (.ar .c (.cst (.ref a)))) p.2 := ⟨(r', S'), hi, h⟩
  unfold itmK
  rw [dif_pos ex]
  have e := (ex.choose_spec.2 0).symm.trans (h 0)
  injection e with e1 e2
  have e3 := congrArg (fun z : Env => z.set i (.own (.dic ks xs))) e1
  simp only [List.set_set] at e3
  rw [e3, e2]
noncomputable def sItmK (i : Nat) (g : GM) (b : SM) : SM := fun r S => match r[i]? with
  | some (.own (.dic ks xs)) => itmK i g b ks xs r S
  | _ => .no
section
variable {X : Cx} {ct : CT} {pos : Pos}
theorem ms_itmK {i kk : Nat} {y : Str} {p apos cpos tpos : Pos} {elts : List Expr} {body : List Stmt} {ts : List Nat} {g : GM} {b : SM} (hc : X.calm = true) (hx : PE X (.Name y p) (tVar i)) (hg : MG X ct (.Tuple elts kk tpos) ts g) (hb : MSs X ct body b)
    (hbase : attributeBase (.Name y p) "items" X.env (eval (.Name y p) X.env) = eval (.Name y p) X.env := by rfl) (hline : (apos.endLine == cpos.line) = true := by rfl)
    (hs : ∀ x, foldedSetIterable (.Call (.Attribute (.Name y p) "items" apos) [] [] cpos) X.env x = pure x := by intro _; rfl) : MS X ct (.For (.Tuple elts kk tpos) (.Call (.Attribute (.Name y p) "items" apos) [] [] cpos) body [] pos) (sItmK i g b) := by
  refine ⟨fun G W tk po => (ps_lock (ps_for po hc (pi_items hx hbase hline) (PG.ex fun G' : Gx => hg.run G') (PSs.ex fun G' : Gx => hb.run G' W tk po) hs)).imp fun De s H h => ?_⟩
  obtain ⟨r, S, io, k, h⟩ := h
  unfold sItmK at h
  split at h
  · rename_i ks xs e
    obtain ⟨a, ea, ow, m0, n0, h0⟩ := k.own i _ e
    obtain ⟨kvs, hH, rfl, hr⟩ := own_dic ow
    refine ⟨a, .dK kvs, hH, trivial, fun od => ⟨.ref a, ea, a, od, kvs, rfl, upd_same, ?_⟩⟩
    have kl0 := (k.lock (od := od) e ea hH).setc (i := i) (d := .cst (.ref a)) (v := .ref a) .cst
    have hil : i < s.length := (List.getElem?_eq_some_iff.mp ea).1
    have es : s.set i (some (V.ref a)) = s := by
      refine List.ext_getElem? fun j => ?_
      by_cases c : i = j
      · subst c
        rw [List.getElem?_set_self hil, ea]
      · rw [List.getElem?_set_ne c]
    rw [List.set_set, es] at kl0
    have kl := kl0
    have ekl : (itemsD (kvs.map Prod.fst) xs).length = kvs.length := by
      rw [itemsD_len _ _ (by rw [List.length_map, hr.len, List.length_map]), List.length_map]
    -- the values of the dict are held
    have hv : ∀ p ∈ (List.zipWith (fun x (v : V) => (Fl.c, x, v)) xs (kvs.map Prod.snd)), ArgF X.K (Mall (G.lock a (.frz od (.dK kvs))) (r.set i (.ar .c (.cst (.ref a)))) s) (Mown (G.lock a (.frz od (.dK kvs))) (r.set i (.ar .c (.cst (.ref a)))) s) io (upd H a (.frz od (.dK kvs))) p.1 p.2.1 p.2.2 := fun p hp => by
      obtain ⟨j, hj⟩ := List.getElem?_of_mem hp
      rw [List.getElem?_zipWith] at hj
      have ex : ∃ x v, xs[j]? = some x ∧ (kvs.map Prod.snd)[j]? = some v ∧ p = (Fl.c, x, v) := by
        cases q1 : xs[j]? with
        | none => rw [q1] at hj; cases hj
        | some x =>
          cases q2 : (kvs.map Prod.snd)[j]? with
          | none => rw [q1, q2] at hj; cases hj
          | some v =>
            rw [q1, q2] at hj
            cases hj
            exact ⟨x, v, rfl, rfl, rfl⟩
      obtain ⟨x, v, q1, q2, rfl⟩ := ex
      obtain ⟨v', q3, q4⟩ := hr.get q1
      rw [q2] at q3
      cases q3
      -- a value of one's own dict does not hold what is one's own
      refine Rep.mono (M := Mall G r s) (fun b u q ni z => ?_) (fun b _ n z => n ?_) io_refl q4
      · rw [upd_ne]
        · exact q
        · rintro rfl
          rcases z with z | z
          · exact z (.inr (.inr ⟨i, _, e, ea⟩))
          · rw [hH] at q
            cases q
            exact not_im_dK z
      · rcases z with (z | z) | z
        · exact .inl z
        · exact .inr (.inr ⟨i, _, e, z ▸ ea⟩)
        · rcases z with z | ⟨j, u, z1, z2⟩
          · exact .inr (.inl z)
          · rcases get_set z1 with ⟨_, z1, _⟩ | ⟨_, z1⟩
            · cases z1
            · exact .inr (.inr ⟨j, u, z1, z2⟩)
    have kh := kl.hold hv
    generalize hhv : List.zipWith (fun x (v : V) => (Fl.c, x, v)) xs (kvs.map Prod.snd) = held at *
    generalize hds : itemsD (kvs.map Prod.fst) xs = ds at *
    have hfin : ∀ {r' S' s' io' H'}, Ok X.K ct { G.lock a (.frz od (.dK kvs)) with held := held ++ (G.lock a (.frz od (.dK kvs))).held } r' S' io' s' H' → H' a = some (.frz od (.dK kvs)) := fun k' => k'.stp.k1 a _ upd_same NI.frz
    have h1 : ∃ (r1 : Env) (S1 : Store), i < r1.length ∧ forL g b ds (r.set i (.ar .c (.cst (.ref a)))) S = .nx (r1.set i (.ar .c (.cst (.ref a)))) S1 ∧ SRes X.K ct G W De (.nx (r1.set i (.own (.dic (kvs.map Prod.fst) xs))) S1) := by
      unfold itmK at h
      split at h
      · rename_i ex
        refine ⟨_, _, ex.choose_spec.1, ?_, h⟩
        rw [← hds]
        exact ex.choose_spec.2 a
      · exact h.elim
    obtain ⟨r1, S1, hi1, q1, h1⟩ := h1
    have hxl : xs.length = (kvs.map Prod.snd).length := hr.len
    have h2 : SRes X.K ct { G.lock a (.frz od (.dK kvs)) with held := held ++ (G.lock a (.frz od (.dK kvs))).held } W ⟨fun σ' H' => H' a = some (.frz od (.dK kvs)) ∧ De.nx σ' (upd H' a (.dK kvs)), fun v H' => H' a = some (.frz od (.dK kvs)) ∧ De.rt v (upd H' a (.dK kvs)), fun σ' H' => H' a = some (.frz od (.dK kvs)) ∧ De.bk σ' (upd H' a (.dK kvs)), fun σ' H' => H' a = some (.frz od (.dK kvs)) ∧ De.ct σ' (upd H' a (.dK kvs))⟩ (forL g b ds (r.set i (.ar .c (.cst (.ref a)))) S) := by
      rw [q1]
      intro s' io' H' k'
      refine ⟨k'.stp.k1 a _ upd_same NI.frz, ?_⟩
      have u := k'.drop.unlockOwn h0 m0 n0 (i := i) (xs := xs) (List.getElem?_set_self hi1) (reps_zip hxl fun p hp => by
        rw [hhv] at hp
        have q := k'.held p (List.mem_append_left _ hp)
        rw [← hhv] at hp
        obtain ⟨j, hj⟩ := List.getElem?_of_mem hp
        rw [List.getElem?_zipWith] at hj
        cases q1 : xs[j]? with
        | none => rw [q1] at hj; cases hj
        | some x =>
          cases q2 : (kvs.map Prod.snd)[j]? with
          | none => rw [q1, q2] at hj; cases hj
          | some v =>
            rw [q1, q2] at hj
            cases hj
            exact q)
      rw [List.set_set] at u
      exact h1 s' io' _ u
    generalize (⟨fun σ' H' => H' a = some (.frz od (.dK kvs)) ∧ De.nx σ' (upd H' a (.dK kvs)), fun v H' => H' a = some (.frz od (.dK kvs)) ∧ De.rt v (upd H' a (.dK kvs)), fun σ' H' => H' a = some (.frz od (.dK kvs)) ∧ De.bk σ' (upd H' a (.dK kvs)), fun σ' H' => H' a = some (.frz od (.dK kvs)) ∧ De.ct σ' (upd H' a (.dK kvs))⟩ : Ends) = D1 at *
    have w := walk_items (d := a) (o := od) (kvs := kvs)
    refine ⟨fun j m s H => m = ds.length - j ∧ j ≤ ds.length ∧ ∃ r S io, Ok X.K ct { G.lock a (.frz od (.dK kvs)) with held := held ++ (G.lock a (.frz od (.dK kvs))).held } r S io s H ∧ SRes X.K ct { G.lock a (.frz od (.dK kvs)) with held := held ++ (G.lock a (.frz od (.dK kvs))).held } W D1 (forL g b (ds.drop j) r S), ⟨_, rfl, Nat.zero_le _, _, S, io, kh, h2⟩, fun j m s H ⟨hm, hj, r, S, io, k, h⟩ => ?_⟩
    by_cases hlt : j < ds.length
    · refine .inr ⟨w.goes j H (by omega) (hfin k), fun s' H' => ∃ r S io, Ok X.K ct { G.lock a (.frz od (.dK kvs)) with held := held ++ (G.lock a (.frz od (.dK kvs))).held } r S io s' H' ∧ SRes X.K ct { G.lock a (.frz od (.dK kvs)) with held := held ++ (G.lock a (.frz od (.dK kvs))).held } W D1 (forL g b (ds.drop (j + 1)) r S), fun s' H' n => ⟨ds.length - (j + 1), by omega, rfl, hlt, n⟩, fun x H' y => ?_⟩
      obtain ⟨T, kx, vx, rfl, nT, rfl, e1, e2⟩ := w.yields j H x H' (by omega) (hfin k) y
      have hjk : j < kvs.length := by omega
      dsimp only at e1 e2
      rw [List.getElem?_eq_getElem hjk] at e1 e2
      cases e1
      cases e2
      have gv : (kvs.map Prod.snd)[j]? = some kvs[j].2 := by rw [List.getElem?_map, List.getElem?_eq_getElem hjk]; rfl
      have gk : (kvs.map Prod.fst)[j]? = some kvs[j].1 := by rw [List.getElem?_map, List.getElem?_eq_getElem hjk]; rfl
      obtain ⟨d, gd, _⟩ := hr.getV gv
      have hd : ds[j]? = some (.tup [kD kvs[j].1, d]) := by
        rw [← hds]
        exact itemsD_get _ _ _ _ _ gk gd
      have rd : Rep X.K (Mall (G.lock a (.frz od (.dK kvs))) r s) io H d kvs[j].2 := k.held (Fl.c, d, kvs[j].2) (List.mem_append_left _ (by
        rw [← hhv]
        refine List.mem_of_getElem? (i := j) ?_
        rw [List.getElem?_zipWith, gd, gv]))
      have ed : ds.drop j = .tup [kD kvs[j].1, d] :: ds.drop (j + 1) := by
        rw [List.drop_eq_getElem_cons hlt]
        rw [List.getElem?_eq_getElem hlt] at hd
        rw [Option.some.inj hd]
      rw [ed] at h
      have k' := k.step (Stp.upd nT) (k.sto.upd nT (o := .tup [kV kvs[j].1, kvs[j].2]))
      have rk : Rep X.K (Mall (G.lock a (.frz od (.dK kvs))) r s) io (upd H T (.tup [kV kvs[j].1, kvs[j].2])) (kD kvs[j].1) (kV kvs[j].1) := by
        cases kvs[j].1 with
        | inl i => exact .int i
        | inr z => exact .str z
      refine ⟨{ G.lock a (.frz od (.dK kvs)) with held := held ++ (G.lock a (.frz od (.dK kvs))).held }, r, S, io, _, k', .tup (SqT.of upd_same) (.cons rk (.cons (rd.stp (Stp.upd (ct := ct) nT)) .nil)), ?_⟩
      unfold forL at h
      cases e2 : g (.tup [kD kvs[j].1, d]) r with
      | none => rw [e2] at h; exact h
      | some r1 =>
        rw [e2] at h
        intro s2 _ _ k2
        refine ⟨{ G.lock a (.frz od (.dK kvs)) with held := held ++ (G.lock a (.frz od (.dK kvs))).held }, r1, S, io, k2, ?_⟩
        have h : SRes X.K ct { G.lock a (.frz od (.dK kvs)) with held := held ++ (G.lock a (.frz od (.dK kvs))).held } W D1 (match b r1 S with
          | .nx r' S' => forL g b (ds.drop (j + 1)) r' S'
          | .ct r' S' => forL g b (ds.drop (j + 1)) r' S'
          | .bk r' S' => .nx r' S'
          | x => x) := h
        cases e3 : b r1 S with
        | nx r' S' => rw [e3] at h; exact fun s' io' H' k' => ⟨r', S', io', k', h⟩
        | ct r' S' => rw [e3] at h; exact fun s' io' H' k' => ⟨r', S', io', k', h⟩
        | bk r' S' => rw [e3] at h; exact fun s' io' H' k' => h s' io' H' k'
        | rt d f S' => rw [e3] at h; exact h
        | er c p r' S' => rw [e3] at h; exact fun dx s' io' H' k' e => h dx s' io' H' k' e
        | no => rw [e3] at h; exact h
    · have ei : j = ds.length := by omega
      subst ei
      have hs2 := w.stops H (hfin k)
      rw [← ekl] at hs2
      refine .inl ⟨hs2, ?_⟩
      rw [List.drop_length] at h
      exact h s io H k
  · exact h.elim
end
end Mv

set_option maxRecDepth 100000
set_option maxHeartbeats 2000000
/-! Mv43: list(x), x a list of plain values, whosever it is -/
namespace Mv
open PySem PySem.Spec PyProof.Rows L2
section
variable {K : PySem.W.Frag} {ct : CT} {M N : Addr → Prop} {io : List Addr} {H : Hp}
theorem reps_gnd {M M' : Addr → Prop} : ∀ {xs : List D} {vs : List V}, xs.all gnd = true → Reps K M io H xs vs → Reps K M' io H xs vs
  | _, _, _, .nil => .nil
  | _, _, g, .cons r t => by
    rw [List.all_cons, Bool.and_eq_true] at g
    exact .cons (Rep.of_gnd g.1 r) (reps_gnd g.2 t)
def gListG : List (Fl × D) → Option (D × Fl) := fun as => match as with
  | [(_, .lst xs)] => if xs.all gnd then some (.lst xs, .n) else none
  | _ => none
theorem ok_listG : CalOk K ct (fun xs H Q => ∃ p ys, xs = [.ref p] ∧ (SqL K H p ys ∨ SqT K H p ys) ∧ ∀ l, H l = none → Q (.ref l) (upd H l (.lst ys))) gListG := by
  intro M N io S H vs as res Q o q md e w
  unfold gListG at e
  split at e
  · rename_i f xs
    split at e
    · rename_i g
      cases e
      obtain ⟨v, rfl, r⟩ := args1 o
      obtain ⟨a, us, rfl, h1, h2, h3⟩ := seq_both (d := .lst xs) rfl r
      exact ⟨a, us, rfl, .inl h1, fun l hl => w _ _ (Stp.upd hl) (new_lst hl hl md q (reps_gnd g h3))⟩
    · cases e
  · cases e
end
theorem listG_ap (xs : List D) (f : Fl) (h : xs.all gnd = true) : gListG [(f, .lst xs)] = some (.lst xs, .n) := if_pos h
end Mv

set_option maxRecDepth 100000
/-! Ev: the combinators applied, with named continuations, so that simp only runs a mirror from left to right -/
namespace Ev
open Mv
open PySem (Str sizeLine sizeLine_eq)
open L2 (atI ixN)
section
variable {α β : Type}
@[simp] theorem bind_ok (a : α) (S : Store) (k : α → Store → Rs β) : (Rs.ok a S).bind k = k a S := Eq.trans rfl rfl
@[simp] theorem bind_er (c : Nat) (p : List D) (S : Store) (k : α → Store → Rs β) : (Rs.er c p S : Rs α).bind k = .er c p S := Eq.trans rfl rfl
@[simp] theorem sb_ok (a : α) (S : Store) (r : Env) (k : α → Store → SR) : (Rs.ok a S).sb r k = k a S := Eq.trans rfl rfl
@[simp] theorem sb_er (c : Nat) (p : List D) (S : Store) (r : Env) (k : α → Store → SR) : (Rs.er c p S : Rs α).sb r k = .er c p r S := Eq.trans rfl rfl
end
@[simp] theorem sr_nx (r : Env) (S : Store) (k : SM) : (SR.nx r S).bind k = k r S := Eq.trans rfl rfl
@[simp] theorem sr_rt (d : D) (f : Fl) (S : Store) (k : SM) : (SR.rt d f S).bind k = .rt d f S := Eq.trans rfl rfl
@[simp] theorem sr_bk (r : Env) (S : Store) (k : SM) : (SR.bk r S).bind k = .bk r S := Eq.trans rfl rfl
@[simp] theorem sr_ct (r : Env) (S : Store) (k : SM) : (SR.ct r S).bind k = .ct r S := Eq.trans rfl rfl
@[simp] theorem sr_er (c : Nat) (p : List D) (r : Env) (S : Store) (k : SM) : (SR.er c p r S).bind k = .er c p r S := Eq.trans rfl rfl
@[simp] theorem l0_some {α : Type} (a : α) (S : Store) : lift0 (some a) S = .ok a S := Eq.trans rfl rfl
abbrev B2 := D × Fl → D × Fl → Option (D × Fl)
variable (r : Env) (S S1 : Store) (ma mb mc m mo : EM) (t : AM) (tt ta tb : TM) (g g' : B2) (i j : Nat) (f f' f'' : Fl) (d d' : D) (a b : D × Fl)
/-! names -/
def kVar : Option Slot → Store → Rs (D × Fl)
  | some (.ar f d), S => .ok (d, inf f) S
  | some (.own d), S => .ok (d, .o) S
  | _, _ => .no
@[simp] theorem var_ap : eVar i r S = kVar r[i]? S := by
  unfold eVar kVar
  rcases r[i]? with _ | _ | _ | _ <;> rfl
@[simp] theorem kvar_ar : kVar (some (.ar f d)) S = .ok (d, inf f) S := Eq.trans rfl rfl
@[simp] theorem kvar_own : kVar (some (.own d)) S = .ok (d, .o) S := Eq.trans rfl rfl
@[simp] theorem inf_c : inf .c = .c := Eq.trans rfl rfl
@[simp] theorem inf_n : inf .n = .c := Eq.trans rfl rfl
@[simp] theorem inf_b : inf .b = .b := Eq.trans rfl rfl
@[simp] theorem inf_o : inf .o = .b := Eq.trans rfl rfl
@[simp] theorem inf_t : inf .t = .t := Eq.trans rfl rfl
@[simp] theorem outf_c : outf .c = .c := Eq.trans rfl rfl
@[simp] theorem outf_n : outf .n = .n := Eq.trans rfl rfl
@[simp] theorem outf_b : outf .b = .o := Eq.trans rfl rfl
@[simp] theorem outf_o : outf .o = .o := Eq.trans rfl rfl
@[simp] theorem outf_t : outf .t = .t := Eq.trans rfl rfl
@[simp] theorem gnd_non : gnd .non = true := Eq.trans rfl rfl
@[simp] theorem gnd_bl (x : Bool) : gnd (.bl x) = true := Eq.trans rfl rfl
@[simp] theorem gnd_int (x : Int) : gnd (.int x) = true := Eq.trans rfl rfl
@[simp] theorem gnd_str (x : Str) : gnd (.str x) = true := Eq.trans rfl rfl
@[simp] theorem gnd_ins (n : Nat) : gnd (.ins n) = true := Eq.trans rfl rfl
@[simp] theorem tyD_non : tyD .non = some "NoneType" := Eq.trans rfl rfl
@[simp] theorem tyD_bl (x : Bool) : tyD (.bl x) = some "bool" := Eq.trans rfl rfl
@[simp] theorem tyD_int (x : Int) : tyD (.int x) = some "int" := Eq.trans rfl rfl
@[simp] theorem tyD_str (x : Str) : tyD (.str x) = some "str" := Eq.trans rfl rfl
@[simp] theorem tyD_lst (x : List D) : tyD (.lst x) = some "list" := Eq.trans rfl rfl
@[simp] theorem tyD_frz (x : List D) : tyD (.frz x) = some "list" := Eq.trans rfl rfl
@[simp] theorem tyD_tup (x : List D) : tyD (.tup x) = some "tuple" := Eq.trans rfl rfl
@[simp] theorem tyD_dic (k) (x : List D) : tyD (.dic k x) = some "dict" := Eq.trans rfl rfl
@[simp] theorem isNon_non : isNon .non = true := Eq.trans rfl rfl
@[simp] theorem isNon_bl (x : Bool) : isNon (.bl x) = false := Eq.trans rfl rfl
@[simp] theorem isNon_int (x : Int) : isNon (.int x) = false := Eq.trans rfl rfl
@[simp] theorem isNon_str (x : Str) : isNon (.str x) = false := Eq.trans rfl rfl
@[simp] theorem isNon_lst (x : List D) : isNon (.lst x) = false := Eq.trans rfl rfl
@[simp] theorem isNon_tup (x : List D) : isNon (.tup x) = false := Eq.trans rfl rfl
@[simp] theorem isNon_frz (x : List D) : isNon (.frz x) = false := Eq.trans rfl rfl
@[simp] theorem isNon_dic (k) (x : List D) : isNon (.dic k x) = false := Eq.trans rfl rfl
@[simp] theorem isNon_ins (n : Nat) : isNon (.ins n) = false := Eq.trans rfl rfl
@[simp] theorem okI_c : okI .c = true := Eq.trans rfl rfl
@[simp] theorem okI_n : okI .n = true := Eq.trans rfl rfl
@[simp] theorem okI_b : okI .b = true := Eq.trans rfl rfl
@[simp] theorem isInt_non : isiInt "NoneType" = some false := Eq.trans rfl rfl
@[simp] theorem isInt_bl : isiInt "bool" = some true := Eq.trans rfl rfl
@[simp] theorem isInt_int : isiInt "int" = some true := Eq.trans rfl rfl
@[simp] theorem isInt_str : isiInt "str" = some false := Eq.trans rfl rfl
@[simp] theorem isInt_list : isiInt "list" = some false := Eq.trans rfl rfl
@[simp] theorem isInt_tuple : isiInt "tuple" = some false := Eq.trans rfl rfl
@[simp] theorem isInt_dict : isiInt "dict" = some false := Eq.trans rfl rfl
@[simp] theorem c_ap : eC d r S = .ok (d, .c) S := Eq.trans rfl rfl
/-! operators -/
def kB1 (g : B2) (mb : EM) (r : Env) (a : D × Fl) (S : Store) : Rs (D × Fl) := (mb r S).bind fun b S2 => lift0 (g a b) S2
def kB2 (g : B2) (a b : D × Fl) (S : Store) : Rs (D × Fl) := lift0 (g a b) S
@[simp] theorem bin_ap : eBin g ma mb r S = (ma r S).bind (kB1 g mb r) := Eq.trans rfl rfl
@[simp] theorem b1_ap : kB1 g mb r a S = (mb r S).bind (kB2 g a) := Eq.trans rfl rfl
@[simp] theorem b2_ap : kB2 g a b S = lift0 (g a b) S := Eq.trans rfl rfl
@[simp] theorem int_ap (c : Int → Int → Bool) (h : Int → Int → D) (x y : Int) : gInt c h (.int x, f) (.int y, f') = if c x y then some (h x y, .c) else none := Eq.trans rfl rfl
@[simp] theorem add_ii (x y : Int) : gAdd (.int x, f) (.int y, f') = some (.int (x + y), .c) := Eq.trans rfl rfl
@[simp] theorem add_ss (x y : Str) : gAdd (.str x, f) (.str y, f') = if x.length + y.length ≤ sizeLine then some (.str (x ++ y), .c) else none := Eq.trans rfl rfl
@[simp] theorem add_ll (x y : List D) : gAdd (.lst x, f) (.lst y, f') = if f ≠ .t ∧ f' ≠ .t ∧ x.length + y.length ≤ sizeLine then some (.lst (x ++ y), .n) else none := Eq.trans rfl rfl
@[simp] theorem mul_ii (x y : Int) : gMul (.int x, f) (.int y, f') = if mulOk x y then some (.int (x * y), .c) else none := Eq.trans rfl rfl
@[simp] theorem mul_li (x : List D) (y : Int) : gMul (.lst x, f) (.int y, f') = if f ≠ .t ∧ -(2 ^ 63) ≤ y ∧ y < 2 ^ 63 ∧ x.length * y.toNat ≤ sizeLine then some (.lst (List.replicate y.toNat x).flatten, .n) else none := Eq.trans rfl rfl
@[simp] theorem eq_ap (neg : Bool) : gEq neg a b = (eqO a.1 b.1).map fun k => (.bl (if neg then !k else k), .c) := Eq.trans rfl rfl
@[simp] theorem eqO_ii (x y : Int) : eqO (.int x) (.int y) = some (decide (x = y)) := Eq.trans rfl rfl
@[simp] theorem eqO_ss (x y : Str) : eqO (.str x) (.str y) = some (decide (x = y)) := Eq.trans rfl rfl
@[simp] theorem eqO_bb (x y : Bool) : eqO (.bl x) (.bl y) = some (decide (x = y)) := Eq.trans rfl rfl
@[simp] theorem isN_ap (neg : Bool) : gIsN neg (d, f) (.non, f') = some (.bl (if neg then !isNon d else isNon d), .c) := Eq.trans rfl rfl
@[simp] theorem ix_l (x : List D) (y : Int) : gIx (.lst x, f) (.int y, f') = (atI x y).map fun d => (d, if f = .t then .t else .c) := Eq.trans rfl rfl
@[simp] theorem ix_f (x : List D) (y : Int) : gIx (.frz x, f) (.int y, f') = (atI x y).map fun d => (d, if f = .t then .t else .c) := Eq.trans rfl rfl
@[simp] theorem ix_t (x : List D) (y : Int) : gIx (.tup x, f) (.int y, f') = (atI x y).map fun d => (d, if f = .t then .t else .c) := Eq.trans rfl rfl
/-! chains, unary -/
def kC1 (g g' : B2) (mb mc : EM) (r : Env) (a : D × Fl) (S : Store) : Rs (D × Fl) := (mb r S).bind fun b S2 => match g a b with
  | some (.bl true, _) => (mc r S2).bind fun c S3 => lift0 (g' b c) S3
  | some (.bl false, _) => .ok (.bl false, .c) S2
  | _ => .no
def kC2 (g g' : B2) (mc : EM) (r : Env) (a b : D × Fl) (S : Store) : Rs (D × Fl) := match g a b with
  | some (.bl true, _) => (mc r S).bind fun c S3 => lift0 (g' b c) S3
  | some (.bl false, _) => .ok (.bl false, .c) S
  | _ => .no
def kC3 (g' : B2) (mc : EM) (r : Env) (b : D × Fl) (S : Store) : Option (D × Fl) → Rs (D × Fl)
  | some (.bl true, _) => (mc r S).bind fun c S3 => lift0 (g' b c) S3
  | some (.bl false, _) => .ok (.bl false, .c) S
  | _ => .no
@[simp] theorem chain_ap : eChain g g' ma mb mc r S = (ma r S).bind (kC1 g g' mb mc r) := Eq.trans rfl rfl
@[simp] theorem c1_ap : kC1 g g' mb mc r a S = (mb r S).bind (kC2 g g' mc r a) := Eq.trans rfl rfl
@[simp] theorem c2_ap : kC2 g g' mc r a b S = kC3 g' mc r b S (g a b) := by
  unfold kC2 kC3
  rcases g a b with _ | ⟨_ | (_ | _) | _ | _ | _ | _ | _ | _ | _ | _, _⟩ <;> rfl
@[simp] theorem c3_ap (x : Bool) : kC3 g' mc r b S (some (.bl x, f)) = if x then (mc r S).bind (kB2 g' b) else .ok (.bl false, .c) S := by cases x <;> rfl
def kU (g : D → Option D) (x : D × Fl) (S : Store) : Rs (D × Fl) := lift0 ((g x.1).map fun d => (d, .c)) S
@[simp] theorem un_ap (h : D → Option D) : eUn h m r S = (m r S).bind (kU h) := Eq.trans rfl rfl
@[simp] theorem neg_i (x : Int) : kU gNeg (.int x, f) S = .ok (.int (-x), .c) S := Eq.trans rfl rfl
/-! tests -/
def kT (x : D × Fl) (S : Store) : Rs Bool := match x.1 with
  | .bl b => .ok b S
  | _ => .no
@[simp] theorem val_ap : tVal m r S = (m r S).bind kT := Eq.trans rfl rfl
@[simp] theorem kt_b (x : Bool) : kT (.bl x, f) S = .ok x S := Eq.trans rfl rfl
def kAnd (tb : TM) (r : Env) (x : Bool) (S : Store) : Rs Bool := if x then tb r S else .ok false S
def kOr (tb : TM) (r : Env) (x : Bool) (S : Store) : Rs Bool := if x then .ok true S else tb r S
def kNot (x : Bool) (S : Store) : Rs Bool := .ok (!x) S
@[simp] theorem and_ap : tAndM ta tb r S = (ta r S).bind (kAnd tb r) := Eq.trans rfl rfl
@[simp] theorem or_ap : tOrM ta tb r S = (ta r S).bind (kOr tb r) := Eq.trans rfl rfl
@[simp] theorem not_ap : tNotM ta r S = (ta r S).bind kNot := Eq.trans rfl rfl
@[simp] theorem kand_t : kAnd tb r true S = tb r S := Eq.trans rfl rfl
@[simp] theorem kand_f : kAnd tb r false S = .ok false S := Eq.trans rfl rfl
@[simp] theorem kor_t : kOr tb r true S = .ok true S := Eq.trans rfl rfl
@[simp] theorem kor_f : kOr tb r false S = tb r S := Eq.trans rfl rfl
@[simp] theorem knot_ap (x : Bool) : kNot x S = .ok (!x) S := Eq.trans rfl rfl
def kIf (ma mb : EM) (r : Env) (x : Bool) (S : Store) : Rs (D × Fl) := if x then ma r S else mb r S
@[simp] theorem if_ap : eIf tt ma mb r S = (tt r S).bind (kIf ma mb r) := Eq.trans rfl rfl
@[simp] theorem kif_t : kIf ma mb r true S = ma r S := Eq.trans rfl rfl
@[simp] theorem kif_f : kIf ma mb r false S = mb r S := Eq.trans rfl rfl
theorem bind_id (x : Rs (D × Fl)) : (x.bind fun y S2 => .ok y S2) = x := by cases x <;> rfl
def kEA (mb : EM) (r : Env) (x : D × Fl) (S : Store) : Rs (D × Fl) := match x.1 with
  | .bl true => mb r S
  | .bl false => .ok (.bl false, .c) S
  | _ => .no
def kEO (mb : EM) (r : Env) (x : D × Fl) (S : Store) : Rs (D × Fl) := match x.1 with
  | .bl false => mb r S
  | .bl true => .ok (.bl true, .c) S
  | _ => .no
def kEN (x : D × Fl) (S : Store) : Rs (D × Fl) := match x.1 with
  | .bl b => .ok (.bl (!b), .c) S
  | _ => .no
@[simp] theorem eand_ap : eAnd ma mb r S = (ma r S).bind (kEA mb r) := by
  unfold eAnd kEA
  simp only [bind_id]
  all_goals rfl
@[simp] theorem eor_ap : eOr ma mb r S = (ma r S).bind (kEO mb r) := by
  unfold eOr kEO
  simp only [bind_id]
  all_goals rfl
@[simp] theorem enot_ap : eNot ma r S = (ma r S).bind kEN := Eq.trans rfl rfl
@[simp] theorem kea_t : kEA mb r (.bl true, f) S = mb r S := Eq.trans rfl rfl
@[simp] theorem kea_f : kEA mb r (.bl false, f) S = .ok (.bl false, .c) S := Eq.trans rfl rfl
@[simp] theorem keo_t : kEO mb r (.bl true, f) S = .ok (.bl true, .c) S := Eq.trans rfl rfl
@[simp] theorem keo_f : kEO mb r (.bl false, f) S = mb r S := Eq.trans rfl rfl
@[simp] theorem ken_b (x : Bool) : kEN (.bl x, f) S = .ok (.bl (!x), .c) S := Eq.trans rfl rfl
/-! arguments, displays -/
def kA1 (t : AM) (r : Env) (x : D × Fl) (S : Store) : Rs (List (Fl × D)) := (t r S).bind fun xs S2 => .ok ((x.2, x.1) :: xs) S2
def kA2 (x : D × Fl) (xs : List (Fl × D)) (S : Store) : Rs (List (Fl × D)) := .ok ((x.2, x.1) :: xs) S
@[simp] theorem anil_ap : aNil r S = .ok [] S := Eq.trans rfl rfl
@[simp] theorem acons_ap : aCons m t r S = (m r S).bind (kA1 t r) := Eq.trans rfl rfl
@[simp] theorem ka1_ap : kA1 t r a S = (t r S).bind (kA2 a) := Eq.trans rfl rfl
@[simp] theorem ka2_ap (xs : List (Fl × D)) : kA2 (d, f) xs S = .ok ((f, d) :: xs) S := Eq.trans rfl rfl
def kL (as : List (Fl × D)) (S : Store) : Rs (D × Fl) := if as.length ≤ sizeLine then (if as.all fun x => okst x.1 x.2 then .ok (.lst (as.map Prod.snd), .n) S else .ok (.lst (as.map Prod.snd), .t) S) else .no
def kTp (as : List (Fl × D)) (S : Store) : Rs (D × Fl) := if as.length ≤ sizeLine then (if as.all fun x => okst x.1 x.2 then .ok (.tup (as.map Prod.snd), .c) S else .ok (.tup (as.map Prod.snd), .t) S) else .no
@[simp] theorem lst_ap : eLst t r S = (t r S).bind kL := Eq.trans rfl rfl
@[simp] theorem tup_ap : eTup t r S = (t r S).bind kTp := Eq.trans rfl rfl
def sm : Nat → Bool := fun n => decide (n ≤ 16777216)
@[simp] theorem kl_ap (as : List (Fl × D)) (h : sm as.length = true) (h2 : (as.all fun x => okst x.1 x.2) = true) : kL as S = .ok (.lst (as.map Prod.snd), .n) S := by
  unfold kL
  rw [if_pos (by rw [sizeLine_eq]; exact of_decide_eq_true h), if_pos h2]
@[simp] theorem ktp_ap (as : List (Fl × D)) (h : sm as.length = true) (h2 : (as.all fun x => okst x.1 x.2) = true) : kTp as S = .ok (.tup (as.map Prod.snd), .c) S := by
  unfold kTp
  rw [if_pos (by rw [sizeLine_eq]; exact of_decide_eq_true h), if_pos h2]
@[simp] theorem ok_c : okst .c d = true := Eq.trans rfl rfl
@[simp] theorem ok_n : okst .n d = true := Eq.trans rfl rfl
@[simp] theorem ok_g (h : gnd d = true) : okst f d = true := by unfold okst; rw [h, Bool.or_true]
/-! calls -/
def kK (g : List (Fl × D) → Option (D × Fl)) (as : List (Fl × D)) (S : Store) : Rs (D × Fl) := lift0 (g as) S
@[simp] theorem cal_ap (h : List (Fl × D) → Option (D × Fl)) : eCal h t r S = (t r S).bind (kK h) := Eq.trans rfl rfl
@[simp] theorem kk_ap (h : List (Fl × D) → Option (D × Fl)) (as : List (Fl × D)) : kK h as S = lift0 (h as) S := Eq.trans rfl rfl
@[simp] theorem len_l (x : List D) : gLen [(f, .lst x)] = some (.int x.length, .c) := Eq.trans rfl rfl
@[simp] theorem len_f (x : List D) : gLen [(f, .frz x)] = some (.int x.length, .c) := Eq.trans rfl rfl
@[simp] theorem len_t (x : List D) : gLen [(f, .tup x)] = some (.int x.length, .c) := Eq.trans rfl rfl
@[simp] theorem list_l (x : List D) : gList [(f, .lst x)] = some (.lst x, if f = .t then .t else .n) := Eq.trans rfl rfl
@[simp] theorem list_f (x : List D) : gList [(f, .frz x)] = some (.lst x, if f = .t then .t else .n) := Eq.trans rfl rfl
@[simp] theorem list_t (x : List D) : gList [(f, .tup x)] = if f = .t then none else some (.lst x, .n) := Eq.trans rfl rfl
@[simp] theorem intsOf_m (x : List Int) : intsOf (x.map D.int) = some x := by
  induction x with
  | nil => rfl
  | cons a x ih => rw [List.map_cons]; unfold intsOf; rw [ih]; rfl
@[simp] theorem blsOf_m (x : List Bool) : blsOf (x.map D.bl) = some x := by
  induction x with
  | nil => rfl
  | cons a x ih => rw [List.map_cons]; unfold blsOf; rw [ih]; rfl
@[simp] theorem ints_l (h : List Int → Option D) (x : List Int) : gInts h [(f, .lst (x.map D.int))] = (h x).map fun d => (d, .c) := by
  unfold gInts seqOf
  dsimp only
  rw [intsOf_m]
@[simp] theorem ints_f (h : List Int → Option D) (x : List Int) : gInts h [(f, .frz (x.map D.int))] = (h x).map fun d => (d, .c) := by
  unfold gInts seqOf
  dsimp only
  rw [intsOf_m]
@[simp] theorem bls_l (h : List Bool → Bool) (x : List Bool) : gBls h [(f, .lst (x.map D.bl))] = some (.bl (h x), .c) := by
  unfold gBls seqOf
  dsimp only
  rw [blsOf_m]
@[simp] theorem intT_i (x : Int) : gIntT [(f, .int x)] = some (.int x, .c) := Eq.trans rfl rfl
@[simp] theorem intT_b (x : Bool) : gIntT [(f, .bl x)] = some (.int (if x then 1 else 0), .c) := Eq.trans rfl rfl
@[simp] theorem isi_ap (T : String) (h : String → Option Bool) : gIsi T h [(f, d), (f', .cst (.ty T))] = (match tyD d with
    | some t => (h t).map fun b => (.bl b, .c)
    | none => none) := by
  unfold gIsi
  dsimp only
  rw [if_pos rfl]
  all_goals rfl
def kF (np : Nat) (m : FM) (as : List (Fl × D)) (S : Store) : Rs (D × Fl) := if as.length = np then (m as S).bind fun x S2 => .ok (x.1, outf x.2) S2 else .no
def kO (x : D × Fl) (S : Store) : Rs (D × Fl) := .ok (x.1, outf x.2) S
@[simp] theorem fn_ap (np : Nat) (m : FM) : eFn np m t r S = (t r S).bind (kF np m) := Eq.trans rfl rfl
@[simp] theorem kf_ap (np : Nat) (m : FM) (as : List (Fl × D)) (h : (as.length == np) = true) : kF np m as S = (m as S).bind kO := if_pos (beq_iff_eq.mp h)
@[simp] theorem ko_ap : kO (d, f) S = .ok (d, outf f) S := Eq.trans rfl rfl
def kM2 (n np : Nat) (m : FM) (as : List (Fl × D)) (S : Store) : Rs (D × Fl) := if (as.length + 1) = np then (m ((.c, .ins n) :: as) S).bind fun x S3 => .ok (x.1, outf x.2) S3 else .no
def kMc (np : Nat) (t : AM) (r : Env) (n : Nat) (S : Store) : Option FM → Rs (D × Fl)
  | some m => (t r S).bind (kM2 n np m)
  | none => .no
def kMb (np : Nat) (tab : Nat → Option FM) (t : AM) (r : Env) (n : Nat) (S : Store) : Option (Nat × List D) → Rs (D × Fl)
  | some (C, _) => kMc np t r n S (tab C)
  | none => .no
def kMa (np : Nat) (tab : Nat → Option FM) (t : AM) (r : Env) : Rs (D × Fl) → Rs (D × Fl)
  | .ok (.ins n, _) S => kMb np tab t r n S S[n]?
  | _ => .no
@[simp] theorem me_ap (np : Nat) (tab : Nat → Option FM) : eMe np tab mo t r S = kMa np tab t r (mo r S) := by
  unfold eMe kMa
  rcases mo r S with ⟨⟨_ | _ | _ | _ | _ | _ | _ | _ | n | _, _⟩, S1⟩ | _ | _ <;> try rfl
@[simp] theorem kma_ap (np n : Nat) (tab : Nat → Option FM) : kMa np tab t r (.ok (.ins n, f) S) = kMb np tab t r n S S[n]? := Eq.trans rfl rfl
@[simp] theorem kmb_ap (np n C : Nat) (tab : Nat → Option FM) (fs : List D) : kMb np tab t r n S (some (C, fs)) = kMc np t r n S (tab C) := Eq.trans rfl rfl
@[simp] theorem kmc_ap (np n : Nat) (m : FM) : kMc np t r n S (some m) = (t r S).bind (kM2 n np m) := Eq.trans rfl rfl
@[simp] theorem km2_ap (n np : Nat) (m : FM) (as : List (Fl × D)) (h : (as.length + 1 == np) = true) : kM2 n np m as S = (m ((.c, .ins n) :: as) S).bind kO := if_pos (beq_iff_eq.mp h)
def kFc (S : Store) : Option D → Rs (D × Fl)
  | some d => .ok (d, .c) S
  | none => .no
def kFb (cs : List Nat) (i : Nat) (S : Store) : Option (Nat × List D) → Rs (D × Fl)
  | some (C, vs) => if cs.contains C then kFc S vs[i]? else .no
  | none => .no
def kFa (cs : List Nat) (i : Nat) (x : D × Fl) (S : Store) : Rs (D × Fl) := match x.1 with
  | .ins n => kFb cs i S S[n]?
  | _ => .no
@[simp] theorem fld_ap (cs : List Nat) : eFld cs i mo r S = (mo r S).bind (kFa cs i) := by
  unfold eFld
  congr 1
@[simp] theorem kfa_ap (cs : List Nat) (n : Nat) : kFa cs i (.ins n, f) S = kFb cs i S S[n]? := Eq.trans rfl rfl
@[simp] theorem kfb_ap (cs : List Nat) (C : Nat) (fs : List D) (h : cs.contains C = true) : kFb cs i S (some (C, fs)) = kFc S fs[i]? := if_pos h
@[simp] theorem kfc_ap : kFc S (some d) = .ok (d, .c) S := Eq.trans rfl rfl
def kN (C np : Nat) (m : FM) (as : List (Fl × D)) (S : Store) : Rs (D × Fl) := if as.length + 1 = np then (m ((.c, .ins S.length) :: as) (S ++ [(C, [])])).bind fun x S2 => match x.1 with
  | .non => .ok (.ins S.length, .c) S2
  | _ => .no else .no
def kN2 (n : Nat) (x : D × Fl) (S : Store) : Rs (D × Fl) := match x.1 with
  | .non => .ok (.ins n, .c) S
  | _ => .no
@[simp] theorem new_ap (C np : Nat) (m : FM) : eNew C np m t r S = (t r S).bind (kN C np m) := Eq.trans rfl rfl
@[simp] theorem kn_ap (C np : Nat) (m : FM) (as : List (Fl × D)) (h : (as.length + 1 == np) = true) : kN C np m as S = (m ((.c, .ins S.length) :: as) (S ++ [(C, [])])).bind (kN2 S.length) := if_pos (beq_iff_eq.mp h)
@[simp] theorem kn2_ap (n : Nat) : kN2 n (.non, f) S = .ok (.ins n, .c) S := Eq.trans rfl rfl
def kG1 (g : D × Fl → Option (D × Fl)) (x : D × Fl) (S : Store) : Rs (D × Fl) := lift0 (g x) S
@[simp] theorem g1_ap (h : D × Fl → Option (D × Fl)) : eG1 h m r S = (m r S).bind (kG1 h) := Eq.trans rfl rfl
@[simp] theorem kg1_ap (h : D × Fl → Option (D × Fl)) : kG1 h a S = lift0 (h a) S := Eq.trans rfl rfl
@[simp] theorem tupOf_l (x : List D) : gTupOf (.lst x, f) = some (.tup x, if f = .t then .t else .c) := Eq.trans rfl rfl
@[simp] theorem dict0_ap : eDict0 r S = .ok (.dic [] [], .n) S := Eq.trans rfl rfl
def kX (l1 : List (String × Bool)) (l : List (Nat × Bool)) (x : D × Fl) (S : Store) : Rs (D × Fl) := match kindB l1 l x.1 S with
  | some b => .ok (.bl b, .c) S
  | none => .no
@[simp] theorem isx_ap (l1 : List (String × Bool)) (l : List (Nat × Bool)) : eIsx l1 l m r S = (m r S).bind (kX l1 l) := Eq.trans rfl rfl
@[simp] theorem kx_ap (l1 : List (String × Bool)) (l : List (Nat × Bool)) {b : Bool} (h : kindB l1 l d S = some b) : kX l1 l (d, f) S = .ok (.bl b, .c) S := by
  unfold kX
  dsimp only
  rw [h]
/-! slices -/
def kS1 (lo hi : OM) (r : Env) (a : D × Fl) (S : Store) : Rs (D × Fl) := (lo r S).bind fun l S2 => (hi r S2).bind fun u S3 => lift0 (gSl a l u) S3
def kS2 (hi : OM) (r : Env) (a : D × Fl) (l : Option Int) (S : Store) : Rs (D × Fl) := (hi r S).bind fun u S3 => lift0 (gSl a l u) S3
def kS3 (a : D × Fl) (l u : Option Int) (S : Store) : Rs (D × Fl) := lift0 (gSl a l u) S
@[simp] theorem sl_ap (lo hi : OM) : eSl ma lo hi r S = (ma r S).bind (kS1 lo hi r) := Eq.trans rfl rfl
@[simp] theorem ks1_ap (lo hi : OM) : kS1 lo hi r a S = (lo r S).bind (kS2 hi r a) := Eq.trans rfl rfl
@[simp] theorem ks2_ap (hi : OM) (l : Option Int) : kS2 hi r a l S = (hi r S).bind (kS3 a l) := Eq.trans rfl rfl
@[simp] theorem ks3_l (x : List D) (l u : Option Int) : kS3 (.lst x, f) l u S = .ok (.lst (cutD x l u), if f = .t then .t else .n) S := Eq.trans rfl rfl
@[simp] theorem ono_ap : oNo r S = .ok none S := Eq.trans rfl rfl
def kOs (x : D × Fl) (S : Store) : Rs (Option Int) := match x.1 with
  | .int i => .ok (some i) S
  | _ => .no
@[simp] theorem oso_ap : oSo m r S = (m r S).bind kOs := Eq.trans rfl rfl
@[simp] theorem kos_ap (x : Int) : kOs (.int x, f) S = .ok (some x) S := Eq.trans rfl rfl
/-! statements -/
@[simp] theorem seq_ap (p q : SM) : sSeq p q r S = (p r S).bind q := Eq.trans rfl rfl
@[simp] theorem nil_ap : sNil r S = .nx r S := Eq.trans rfl rfl
def kSt (i : Nat) (r : Env) (x : D × Fl) (S : Store) : SR := if okst x.2 x.1 then .nx (r.set i (.ar .c x.1)) S else if x.2 = .b then .nx (r.set i (.ar .b x.1)) S else .no
@[simp] theorem set_ap : sSet i m r S = (m r S).sb r (kSt i r) := Eq.trans rfl rfl
@[simp] theorem kst_c (h : okst f d = true) : kSt i r (d, f) S = .nx (r.set i (.ar .c d)) S := if_pos h
@[simp] theorem kst_b (h : okst .b d = false) : kSt i r (d, .b) S = .nx (r.set i (.ar .b d)) S := by
  unfold kSt
  dsimp only
  rw [h]
  rfl
def kOw (i : Nat) (r : Env) (x : D × Fl) (S : Store) : SR := if x.2 = .n then .nx (r.set i (.own x.1)) S else .no
@[simp] theorem own_ap : sOwn i m r S = (m r S).sb r (kOw i r) := Eq.trans rfl rfl
@[simp] theorem kow_ap : kOw i r (d, .n) S = .nx (r.set i (.own d)) S := Eq.trans rfl rfl
def kI (p q : SM) (r : Env) (x : Bool) (S : Store) : SR := if x then p r S else q r S
@[simp] theorem sif_ap (p q : SM) : sIf tt p q r S = (tt r S).sb r (kI p q r) := Eq.trans rfl rfl
@[simp] theorem ki_t (p q : SM) : kI p q r true S = p r S := Eq.trans rfl rfl
@[simp] theorem ki_f (p q : SM) : kI p q r false S = q r S := Eq.trans rfl rfl
def kR (x : D × Fl) (S : Store) : SR := .rt x.1 x.2 S
@[simp] theorem ret_ap : sRet m r S = (m r S).sb r kR := Eq.trans rfl rfl
@[simp] theorem kr_ap : kR (d, f) S = .rt d f S := Eq.trans rfl rfl
def kRV (S : Store) : Option Slot → SR
  | some (.own d) => .rt d .n S
  | some (.ar f d) => .rt d (inf f) S
  | _ => .no
@[simp] theorem retV_ap : sRetV i r S = kRV S r[i]? := by
  unfold sRetV kRV
  rcases r[i]? with _ | _ | _ | _ <;> rfl
@[simp] theorem krv_own : kRV S (some (.own d)) = .rt d .n S := Eq.trans rfl rfl
@[simp] theorem krv_ar : kRV S (some (.ar f d)) = .rt d (inf f) S := Eq.trans rfl rfl
@[simp] theorem retN_ap : sRetN r S = .rt .non .c S := Eq.trans rfl rfl
def kE (r : Env) (x : D × Fl) (S : Store) : SR := .nx r S
@[simp] theorem expr_ap : sExpr m r S = (m r S).sb r (kE r) := Eq.trans rfl rfl
@[simp] theorem ke_ap : kE r a S = .nx r S := Eq.trans rfl rfl
def kAs (g : GM) (r : Env) (x : D × Fl) (S : Store) : SR := if okst x.2 x.1 then (match g x.1 r with
  | some r' => .nx r' S
  | none => .no) else .no
@[simp] theorem asg_ap (g : GM) : sAsg g m r S = (m r S).sb r (kAs g r) := Eq.trans rfl rfl
def kAs2 (S : Store) : Option Env → SR
  | some r' => .nx r' S
  | none => .no
@[simp] theorem kas_ap (g : GM) (h : okst f d = true) : kAs g r (d, f) S = kAs2 S (g d r) := by
  unfold kAs kAs2
  dsimp only
  rw [if_pos h]
@[simp] theorem kas2_ap : kAs2 S (some r) = .nx r S := Eq.trans rfl rfl
@[simp] theorem gn_ap : gN i d r = some (r.set i (.ar .c d)) := Eq.trans rfl rfl
@[simp] theorem gt_ap (n : Nat) (gs : List D → Env → Option Env) (ds : List D) (h : (ds.length == n) = true) : gT n gs (.tup ds) r = gs ds r := if_pos (beq_iff_eq.mp h)
@[simp] theorem gsn_ap : gsN [] r = some r := Eq.trans rfl rfl
@[simp] theorem gsc_ap (g : GM) (gs : List D → Env → Option Env) (ds : List D) : gsC g gs (d :: ds) r = (g d r).bind (gs ds) := Eq.trans rfl rfl
def kAp (i : Nat) (r : Env) (xs : List D) (x : D × Fl) (S : Store) : SR := if okst x.2 x.1 && decide (xs.length < sizeLine) then .nx (r.set i (.own (.lst (xs ++ [x.1])))) S else .no
def kApS (i : Nat) (m : EM) (r : Env) (S : Store) : Option Slot → SR
  | some (.own (.lst xs)) => (m r S).sb r (kAp i r xs)
  | _ => .no
@[simp] theorem app_ap : sApp i m r S = kApS i m r S r[i]? := by
  unfold sApp kApS
  rcases r[i]? with _ | _ | _ | (_ | _ | _ | _ | _ | _ | _ | _ | _ | _) <;> rfl
@[simp] theorem kaps_ap (xs : List D) : kApS i m r S (some (.own (.lst xs))) = (m r S).sb r (kAp i r xs) := Eq.trans rfl rfl
@[simp] theorem kap_ap (xs : List D) (h : okst f d = true) (h2 : xs.length < 16777216) : kAp i r xs (d, f) S = .nx (r.set i (.own (.lst (xs ++ [d])))) S := by
  unfold kAp
  dsimp only
  rw [h, sizeLine_eq, decide_eq_true h2]
  rfl
def kEx (i : Nat) (r : Env) (xs : List D) (x : D × Fl) (S : Store) : SR := match x.1 with
  | .lst ys => if x.2 ≠ .t ∧ xs.length + ys.length ≤ sizeLine then .nx (r.set i (.own (.lst (xs ++ ys)))) S else .no
  | _ => .no
def kExS (i : Nat) (m : EM) (r : Env) (S : Store) : Option Slot → SR
  | some (.own (.lst xs)) => (m r S).sb r (kEx i r xs)
  | _ => .no
@[simp] theorem ext_ap : sExt i m r S = kExS i m r S r[i]? := by
  unfold sExt kExS
  rcases r[i]? with _ | _ | _ | (_ | _ | _ | _ | _ | _ | _ | _ | _ | _) <;> rfl
@[simp] theorem kexs_ap (xs : List D) : kExS i m r S (some (.own (.lst xs))) = (m r S).sb r (kEx i r xs) := Eq.trans rfl rfl
@[simp] theorem kex_ap (xs ys : List D) (h : f ≠ .t) (h2 : xs.length + ys.length ≤ 16777216) : kEx i r xs (.lst ys, f) S = .nx (r.set i (.own (.lst (xs ++ ys)))) S := by
  unfold kEx
  dsimp only
  rw [if_pos ⟨h, by rw [sizeLine_eq]; exact h2⟩]
def kClS (i : Nat) (r : Env) (S : Store) : Option Slot → SR
  | some (.own (.lst _)) => .nx (r.set i (.own (.lst []))) S
  | _ => .no
@[simp] theorem clr_ap : sClr i r S = kClS i r S r[i]? := by
  unfold sClr kClS
  rcases r[i]? with _ | _ | _ | (_ | _ | _ | _ | _ | _ | _ | _ | _ | _) <;> rfl
@[simp] theorem kcls_ap (xs : List D) : kClS i r S (some (.own (.lst xs))) = .nx (r.set i (.own (.lst []))) S := Eq.trans rfl rfl
def kDm (i : Nat) (p : SM) (r : Env) (S : Store) : Option Slot → SR
  | some (.own d) => p (r.set i (.ar .c d)) S
  | _ => p r S
@[simp] theorem dem_ap (p : SM) : sDem i p r S = kDm i p r S r[i]? := by
  unfold sDem kDm
  rcases r[i]? with _ | _ | _ | _ <;> rfl
@[simp] theorem kdm_own (p : SM) : kDm i p r S (some (.own d)) = p (r.set i (.ar .c d)) S := Eq.trans rfl rfl
@[simp] theorem kdm_ar (p : SM) : kDm i p r S (some (.ar f d)) = p r S := Eq.trans rfl rfl
@[simp] theorem kdm_no (p : SM) : kDm i p r S (some .no) = p r S := Eq.trans rfl rfl
def kAtb (cs : List Nat) (i : Nat) (r : Env) (n : Nat) (x : D × Fl) (S : Store) : Option (Nat × List D) → SR
  | some (C, vs) => if cs.contains C && okst x.2 x.1 && decide (i ≤ vs.length) then .nx r (S.set n (C, putD i x.1 vs)) else .no
  | none => .no
def kAta (cs : List Nat) (i : Nat) (r : Env) (x o : D × Fl) (S : Store) : SR := match o.1 with
  | .ins n => kAtb cs i r n x S S[n]?
  | _ => .no
def kAt (cs : List Nat) (i : Nat) (mo : EM) (r : Env) (x : D × Fl) (S : Store) : SR := (mo r S).sb r (kAta cs i r x)
@[simp] theorem at_ap (cs : List Nat) : sAt cs i mo m r S = (m r S).sb r (kAt cs i mo r) := by
  unfold sAt
  congr 1
@[simp] theorem kat_ap (cs : List Nat) : kAt cs i mo r a S = (mo r S).sb r (kAta cs i r a) := Eq.trans rfl rfl
@[simp] theorem kata_ap (cs : List Nat) (n : Nat) : kAta cs i r a (.ins n, f) S = kAtb cs i r n a S S[n]? := Eq.trans rfl rfl
@[simp] theorem katb_ap (cs : List Nat) (n C : Nat) (vs : List D) (h : cs.contains C = true) (h2 : okst f d = true) (h3 : i ≤ vs.length) : kAtb cs i r n (d, f) S (some (C, vs)) = .nx r (S.set n (C, putD i d vs)) := by
  unfold kAtb
  dsimp only
  rw [h, h2, decide_eq_true h3]
  rfl
def kInS (i : Nat) (m : EM) (r : Env) (S : Store) : Option Slot → SR
  | some (.ar _ (.int a)) => (m r S).sb r fun x S1 => match x.1 with
    | .int b => .nx (r.set i (.ar .c (.int (a + b)))) S1
    | _ => .no
  | _ => .no
def kIn2 (i : Nat) (r : Env) (a : Int) (x : D × Fl) (S : Store) : SR := match x.1 with
  | .int b => .nx (r.set i (.ar .c (.int (a + b)))) S
  | _ => .no
@[simp] theorem inc_ap : sInc i m r S = kInS i m r S r[i]? := by
  unfold sInc kInS
  rcases r[i]? with _ | _ | ⟨_, (_ | _ | _ | _ | _ | _ | _ | _ | _ | _)⟩ | _ <;> rfl
@[simp] theorem kins_ap (x : Int) : kInS i m r S (some (.ar f (.int x))) = (m r S).sb r (kIn2 i r x) := Eq.trans rfl rfl
@[simp] theorem kin2_ap (x y : Int) : kIn2 i r x (.int y, f) S = .nx (r.set i (.ar .c (.int (x + y)))) S := Eq.trans rfl rfl
def kSub (i : Nat) (mi : EM) (r : Env) (x : D × Fl) (S : Store) : SR := match r[i]? with
  | some (.own (.lst xs)) => (mi r S).sb r fun j S2 => match j.1 with
    | .int k => match ixN xs.length k with
      | some n => if okst x.2 x.1 then .nx (r.set i (.own (.lst (xs.set n x.1)))) S2 else .no
      | none => .no
    | _ => .no
  | _ => .no
def kSub3 (i : Nat) (r : Env) (xs : List D) (x : D × Fl) (S : Store) : Option Nat → SR
  | some n => if okst x.2 x.1 then .nx (r.set i (.own (.lst (xs.set n x.1)))) S else .no
  | none => .no
def kSub2 (i : Nat) (r : Env) (xs : List D) (x j : D × Fl) (S : Store) : SR := match j.1 with
  | .int k => kSub3 i r xs x S (ixN xs.length k)
  | _ => .no
def kSub1 (i : Nat) (mi : EM) (r : Env) (x : D × Fl) (S : Store) : Option Slot → SR
  | some (.own (.lst xs)) => (mi r S).sb r (kSub2 i r xs x)
  | _ => .no
@[simp] theorem sub_ap (mi : EM) : sSub i mi m r S = (m r S).sb r (kSub i mi r) := Eq.trans rfl rfl
@[simp] theorem ksub_ap (mi : EM) : kSub i mi r a S = kSub1 i mi r a S r[i]? := by
  unfold kSub kSub1
  rcases r[i]? with _ | _ | _ | (_ | _ | _ | xs | _ | _ | _ | _ | _ | _) <;> try rfl
@[simp] theorem ksub1_ap (mi : EM) (xs : List D) : kSub1 i mi r a S (some (.own (.lst xs))) = (mi r S).sb r (kSub2 i r xs a) := Eq.trans rfl rfl
@[simp] theorem ksub2_ap (xs : List D) (k : Int) : kSub2 i r xs a (.int k, f) S = kSub3 i r xs a S (ixN xs.length k) := Eq.trans rfl rfl
@[simp] theorem ksub3_ap (xs : List D) (n : Nat) (h : okst f d = true) : kSub3 i r xs (d, f) S (some n) = .nx (r.set i (.own (.lst (xs.set n d)))) S := if_pos h
def kPa1 (i j : Nat) (mb : EM) (r : Env) (x : D × Fl) (S : Store) : SR := (mb r S).sb r fun y S2 => if okst x.2 x.1 && okst y.2 y.1 then .nx ((r.set i (.ar .c x.1)).set j (.ar .c y.1)) S2 else .no
def kPa2 (i j : Nat) (r : Env) (x y : D × Fl) (S : Store) : SR := if okst x.2 x.1 && okst y.2 y.1 then .nx ((r.set i (.ar .c x.1)).set j (.ar .c y.1)) S else .no
@[simp] theorem par_ap : sPar i j ma mb r S = (ma r S).sb r (kPa1 i j mb r) := Eq.trans rfl rfl
@[simp] theorem kpa1_ap : kPa1 i j mb r a S = (mb r S).sb r (kPa2 i j r a) := Eq.trans rfl rfl
@[simp] theorem kpa2_ap (h : okst f d = true) (h2 : okst f' d' = true) : kPa2 i j r (d, f) (d', f') S = .nx ((r.set i (.ar .c d)).set j (.ar .c d')) S := by
  unfold kPa2
  dsimp only
  rw [h, h2]
  rfl
/-! try -/
def kTrS (j : Nat) (c : Nat) (p : List D) (r : Env) (S : Store) : Option Slot → SR
  | some .no => .nx (r.set j (.ar .c (.ins S.length))) (S ++ [(c, p)])
  | _ => .no
def kTrB (i j : Nat) (c : Nat) (p : List D) (r : Env) (S : Store) : Option Bool → SR
  | some true => kTrS j c p r S r[i]?
  | some false => .er c p r S
  | none => .no
def kTr (l : List (Nat × Bool)) (i j : Nat) : SR → SR
  | .er c p r S => kTrB i j c p r S (l.lookup c)
  | x => x
@[simp] theorem try_ap (l : List (Nat × Bool)) (p : SM) : sTry l i j p r S = kTr l i j (p r S) := by
  unfold sTry kTr
  rcases p r S with _ | _ | _ | _ | ⟨c, p, r', S'⟩ | _ <;> try rfl
@[simp] theorem ktr_er (l : List (Nat × Bool)) (c : Nat) (p : List D) : kTr l i j (.er c p r S) = kTrB i j c p r S (l.lookup c) := Eq.trans rfl rfl
@[simp] theorem ktr_nx (l : List (Nat × Bool)) : kTr l i j (.nx r S) = .nx r S := Eq.trans rfl rfl
@[simp] theorem ktr_rt (l : List (Nat × Bool)) : kTr l i j (.rt d f S) = .rt d f S := Eq.trans rfl rfl
@[simp] theorem ktrb_t (c : Nat) (p : List D) : kTrB i j c p r S (some true) = kTrS j c p r S r[i]? := Eq.trans rfl rfl
@[simp] theorem ktrb_f (c : Nat) (p : List D) : kTrB i j c p r S (some false) = .er c p r S := Eq.trans rfl rfl
@[simp] theorem ktrs_ap (c : Nat) (p : List D) : kTrS j c p r S (some .no) = .nx (r.set j (.ar .c (.ins S.length))) (S ++ [(c, p)]) := Eq.trans rfl rfl
def kFor (g : GM) (p : SM) (r : Env) (ds : List D) (S : Store) : SR := forL g p ds r S
@[simp] theorem for_ap (mi : Env → Store → Rs (List D)) (g : GM) (p : SM) : sFor mi g p r S = (mi r S).sb r (kFor g p r) := Eq.trans rfl rfl
@[simp] theorem kfor_ap (g : GM) (p : SM) (ds : List D) : kFor g p r ds S = forL g p ds r S := Eq.trans rfl rfl
def kQ (x : D × Fl) (S : Store) : Rs (List D) := if okI x.2 then (match x.1 with
  | .lst ds => .ok ds S
  | .frz ds => .ok ds S
  | .tup ds => .ok ds S
  | .str z => .ok (strD z) S
  | _ => .no) else .no
@[simp] theorem iseq_ap : iSeq m r S = (m r S).bind kQ := Eq.trans rfl rfl
@[simp] theorem kq_l (ds : List D) (h : okI f = true) : kQ (.lst ds, f) S = .ok ds S := if_pos h
@[simp] theorem kq_f (ds : List D) (h : okI f = true) : kQ (.frz ds, f) S = .ok ds S := if_pos h
@[simp] theorem kq_t (ds : List D) (h : okI f = true) : kQ (.tup ds, f) S = .ok ds S := if_pos h
def kIA (h : List (Fl × D) → Option (List D)) (as : List (Fl × D)) (S : Store) : Rs (List D) := lift0 (h as) S
@[simp] theorem iargs_ap (h : List (Fl × D) → Option (List D)) : iArgs h t r S = (t r S).bind (kIA h) := Eq.trans rfl rfl
@[simp] theorem kia_ap (h : List (Fl × D) → Option (List D)) (as : List (Fl × D)) : kIA h as S = lift0 (h as) S := Eq.trans rfl rfl
@[simp] theorem rng1_ap (x : Int) (h : inR x = true) : gRng1 [(f, .int x)] = some (rangeD 0 1 x.toNat) := if_pos h
@[simp] theorem rng2_ap (x y : Int) (h : (inR x && inR y) = true) : gRng2 [(f, .int x), (f', .int y)] = some (rangeD x 1 (y - x).toNat) := if_pos h
@[simp] theorem zip_ll (x y : List D) (h : (okI f && okI f') = true) : gZip [(f, .lst x), (f', .lst y)] = some (zipD x y) := if_pos h
@[simp] theorem seq1_l (h : List D → List D) (x : List D) (e : okI f = true) : gSeq1 h [(f, .lst x)] = some (h x) := if_pos e
def kCp (vs : List Nat) (g : GM) (tt : TM) (te : EM) (r : Env) (ds : List D) (S : Store) : Rs (D × Fl) := if ds.length ≤ sizeLine then (match compL g tt te (wipeE r vs) ds S with
  | .ok xs S2 => .ok (.lst xs, .n) S2
  | _ => .no) else .no
@[simp] theorem lc_ap (mi : Env → Store → Rs (List D)) (vs : List Nat) (g : GM) (tt : TM) (te : EM) (h : freeE r vs = true) : eLc mi vs g tt te r S = (mi r S).bind (kCp vs g tt te r) := if_pos h
@[simp] theorem kcp_ap (vs : List Nat) (g : GM) (tt : TM) (te : EM) (ds xs : List D) (S2 : Store) (h : ds.length ≤ 16777216) (h2 : compL g tt te (wipeE r vs) ds S = .ok xs S2) : kCp vs g tt te r ds S = .ok (.lst xs, .n) S2 := by
  unfold kCp
  rw [if_pos (by rw [sizeLine_eq]; exact h), h2]
/-- a comprehension whose parts leave the store alone -/
theorem comp_map (g : GM) (tt : TM) (te : EM) (h : D → D) : ∀ (ds : List D), (∀ d ∈ ds, ∃ r1, g d r = some r1 ∧ tt r1 S = .ok true S ∧ ∃ f, te r1 S = .ok (h d, f) S ∧ okst f (h d) = true) → compL g tt te r ds S = .ok (ds.map h) S
  | [], _ => rfl
  | d :: ds, q => by
    obtain ⟨r1, h1, h2, f, h3, h4⟩ := q d List.mem_cons_self
    unfold compL
    rw [h1]
    dsimp only
    rw [h2]
    dsimp only
    rw [h3]
    dsimp only
    rw [if_pos h4, comp_map g tt te h ds fun x hx => q x (List.mem_cons_of_mem _ hx)]
    rfl
@[simp] theorem yes_ap : tYesM r S = .ok true S := Eq.trans rfl rfl
/-- a for loop by an invariant that knows how many went by -/
theorem for_inv {P : Nat → Env → Store → Prop} {g : GM} {p : SM} : ∀ (ds : List D) (k : Nat) (r : Env) (S : Store), P k r S → (∀ (n : Nat) (d : D) (r : Env) (S : Store), ds[n]? = some d → P (k + n) r S → ∃ r1, g d r = some r1 ∧ ∃ r2 S2, p r1 S = .nx r2 S2 ∧ P (k + n + 1) r2 S2) →
    ∃ r2 S2, forL g p ds r S = .nx r2 S2 ∧ P (k + ds.length) r2 S2
  | [], k, r, S, h, _ => ⟨r, S, rfl, h⟩
  | d :: ds, k, r, S, h, q => by
    obtain ⟨r1, h1, r2, S2, h2, h3⟩ := q 0 d r S rfl h
    obtain ⟨r3, S3, h4, h5⟩ := for_inv (P := P) ds (k + 1) r2 S2 h3 fun n d' r' S' e z => by
      obtain ⟨r4, y1, r5, S5, y2, y3⟩ := q (n + 1) d' r' S' (by simpa using e) (by rw [show k + (n + 1) = k + 1 + n by omega]; exact z)
      exact ⟨r4, y1, r5, S5, y2, by rw [show k + 1 + n + 1 = k + (n + 1) + 1 by omega]; exact y3⟩
    refine ⟨r3, S3, ?_, by rw [List.length_cons, show k + (ds.length + 1) = k + 1 + ds.length by omega]; exact h5⟩
    unfold forL
    rw [h1]
    dsimp only
    rw [h2]
    exact h4
def kFr : Option Slot → Bool
  | some (.own _) => false
  | _ => true
@[simp] theorem start_ap (as : List (Fl × D)) (n : Nat) : startE as n = as.map (fun x => .ar x.1 x.2) ++ List.replicate (n - as.length) .no := Eq.trans rfl rfl
def kFn : SR → Rs (D × Fl)
  | .rt d f S => .ok (d, f) S
  | .nx _ S => .ok (.non, .c) S
  | .er c p _ S => .er c p S
  | _ => .no
@[simp] theorem fnM_ap (N : Nat) (p : SM) (as : List (Fl × D)) : fnM N p as S = kFn (p (startE as N) S) := by
  unfold fnM kFn
  rcases p (startE as N) S <;> rfl
@[simp] theorem kfn_rt : kFn (.rt d f S) = .ok (d, f) S := Eq.trans rfl rfl
@[simp] theorem kfn_nx : kFn (.nx r S) = .ok (.non, .c) S := Eq.trans rfl rfl
@[simp] theorem kfn_er (c : Nat) (p : List D) : kFn (.er c p r S) = .er c p S := Eq.trans rfl rfl
@[simp] theorem raise_ap (c : Nat) : sRaise c r S = .er c [] r S := Eq.trans rfl rfl
end Ev

namespace Ev
open Mv
open PySem (Str sizeLine sizeLine_eq PyData SeqAt.shaped)
open L2 (atI ixN)
@[simp] theorem sm_ap (n : Nat) : sm n = decide (n ≤ 16777216) := Eq.trans rfl rfl
@[simp] theorem kl_nil (S : Store) : kL [] S = .ok (.lst [], .n) S := by
  unfold kL
  rw [if_pos (by rw [sizeLine_eq]; exact Nat.zero_le _)]
  rfl
@[simp] theorem ktp_nil (S : Store) : kTp [] S = .ok (.tup [], .c) S := by
  unfold kTp
  rw [if_pos (by rw [sizeLine_eq]; exact Nat.zero_le _)]
  rfl
theorem toPys_i : ∀ xs : List Int, toPys (xs.map D.int) = some (xs.map PyData.int)
  | [] => rfl
  | x :: xs => by
    rw [List.map_cons]
    unfold toPys toPy
    rw [toPys_i xs]
    rfl
theorem lay_i : ∀ xs : List Int, PyData.canLayAll0 (xs.map PyData.int) = true
  | [] => rfl
  | x :: xs => by
    rw [List.map_cons]
    unfold PyData.canLayAll0 PyData.canLay0
    rw [lay_i xs]
    rfl
theorem dep_i : ∀ xs : List Int, PyData.depthAll (xs.map PyData.int) = 0
  | [] => rfl
  | x :: xs => by
    rw [List.map_cons]
    unfold PyData.depthAll PyData.depth
    rw [dep_i xs]
    rfl
theorem shaped_i (xs : List Int) : SeqAt.shaped (.list (xs.map PyData.int)) = true := by
  unfold SeqAt.shaped
  unfold PyData.canLay0 PyData.depth
  rw [lay_i, dep_i]
  rfl
theorem eqv_i : ∀ xs ys : List Int, PyData.eqvAll (xs.map PyData.int) (ys.map PyData.int) = decide (xs = ys)
  | [], [] => rfl
  | [], y :: ys => rfl
  | x :: xs, [] => rfl
  | x :: xs, y :: ys => by
    rw [List.map_cons, List.map_cons]
    unfold PyData.eqvAll PyData.eqv
    rw [eqv_i xs ys]
    by_cases h : x = y <;> by_cases h2 : xs = ys <;> simp [h, h2]
theorem eqO_lists {d e : D} {xs ys : List Int} (h1 : toPy d = some (.list (xs.map PyData.int))) (h2 : toPy e = some (.list (ys.map PyData.int))) (hd : ∀ i, d ≠ .int i) (hs : ∀ i, d ≠ .str i) (hb : ∀ i, d ≠ .bl i) : eqO d e = some (decide (xs = ys)) := by
  unfold eqO
  split
  · exact absurd rfl (hd _)
  · exact absurd rfl (hs _)
  · exact absurd rfl (hb _)
  · rw [h1, h2]
    dsimp only
    rw [shaped_i, shaped_i]
    unfold PyData.eqv
    rw [eqv_i]
    rfl
theorem toPy_l (xs : List Int) : toPy (.lst (xs.map D.int)) = some (.list (xs.map PyData.int)) := by
  unfold toPy
  rw [toPys_i]
  rfl
theorem toPy_f (xs : List Int) : toPy (.frz (xs.map D.int)) = some (.list (xs.map PyData.int)) := by
  unfold toPy
  rw [toPys_i]
  rfl
@[simp] theorem eqO_ll (xs ys : List Int) : eqO (.lst (xs.map D.int)) (.lst (ys.map D.int)) = some (decide (xs = ys)) := eqO_lists (toPy_l xs) (toPy_l ys) (by simp) (by simp) (by simp)
@[simp] theorem eqO_fl (xs ys : List Int) : eqO (.frz (xs.map D.int)) (.lst (ys.map D.int)) = some (decide (xs = ys)) := eqO_lists (toPy_f xs) (toPy_l ys) (by simp) (by simp) (by simp)
@[simp] theorem eqO_l0 (xs : List Int) : eqO (.lst (xs.map D.int)) (.lst []) = some (decide (xs = [])) := eqO_ll xs []
@[simp] theorem eqO_f0 (xs : List Int) : eqO (.frz (xs.map D.int)) (.lst []) = some (decide (xs = [])) := eqO_fl xs []
@[simp] theorem eqO_00 : eqO (.lst []) (.lst []) = some true := eqO_ll [] []
@[simp] theorem eqO_f00 : eqO (.frz []) (.lst []) = some true := eqO_fl [] []
theorem mulOk_l {i j : Int} (h : -(2 ^ 64) < i ∧ i < 2 ^ 64) : mulOk i j = true := by
  unfold mulOk
  rw [decide_eq_true h]
  rfl
theorem mulOk_r {i j : Int} (h : -(2 ^ 64) < j ∧ j < 2 ^ 64) : mulOk i j = true := by
  unfold mulOk
  rw [decide_eq_true h, Bool.or_true]
  rfl
/-- an item of a list of ints -/
theorem atI_i {xs : List Int} {i : Int} (h0 : 0 ≤ i) (h1 : i < xs.length) : atI (xs.map D.int) i = some (.int (xs.getD i.toNat 0)) := by
  unfold atI ixN
  rw [if_pos h0, List.length_map, if_pos h1]
  have h2 : i.toNat < xs.length := by omega
  simp [List.getElem?_eq_getElem h2]
theorem comp_rng (r : Env) (S : Store) (g : GM) (tt : TM) (te : EM) (h : Nat → D) (lo : Int) (n : Nat) (q : ∀ j < n, ∃ r1, g (.int (lo + j)) r = some r1 ∧ tt r1 S = .ok true S ∧ ∃ f, te r1 S = .ok (h j, f) S ∧ okst f (h j) = true) : compL g tt te r (rangeD lo 1 n) S = .ok ((List.range n).map h) S := by
  have e : (rangeD lo 1 n).map (fun d => match d with
      | .int x => h (x - lo).toNat
      | d => d) = (List.range n).map h := by
    unfold rangeD
    rw [List.map_map]
    refine List.map_congr_left fun j hj => ?_
    show h (lo + (j : Nat) * 1 - lo).toNat = h j
    congr 1
    omega
  rw [← e]
  refine comp_map r S g tt te _ _ fun d hd => ?_
  unfold rangeD at hd
  obtain ⟨j, hj, rfl⟩ := List.mem_map.mp hd
  have hj := List.mem_range.mp hj
  have e1 : (lo + (j : Nat) * 1 : Int) = lo + j := by omega
  have e2 : (lo + (j : Nat) * 1 - lo).toNat = j := by omega
  dsimp only
  rw [e2, e1]
  exact q j hj
theorem comp_ints (r : Env) (S : Store) (g : GM) (tt : TM) (te : EM) (h : Int → D) (xs : List Int) (q : ∀ x ∈ xs, ∃ r1, g (.int x) r = some r1 ∧ tt r1 S = .ok true S ∧ ∃ f, te r1 S = .ok (h x, f) S ∧ okst f (h x) = true) : compL g tt te r (xs.map D.int) S = .ok (xs.map h) S := by
  have e : (xs.map D.int).map (fun d => match d with
      | .int x => h x
      | d => d) = xs.map h := by
    rw [List.map_map]
    exact List.map_congr_left fun j hj => rfl
  rw [← e]
  refine comp_map r S g tt te _ _ fun d hd => ?_
  obtain ⟨j, hj, rfl⟩ := List.mem_map.mp hd
  exact q j hj
@[simp] theorem rangeD_len (lo c : Int) (n : Nat) : (rangeD lo c n).length = n := rangeD_length lo c n
/-- a for loop that carries a value along; the loop's own slot is anything -/
theorem for_acc {A : Type} (E : A → Slot → Env) (stp : A → D → A) (I : Nat → A → Prop) (S : Store) (g : GM) (p : SM) : ∀ (ds : List D) (k : Nat) (a : A) (x : Slot), I k a →
    (∀ (n : Nat) (d : D) (a : A) (x : Slot), ds[n]? = some d → I (k + n) a → ∃ r1, g d (E a x) = some r1 ∧ (∃ x', p r1 S = .nx (E (stp a d) x') S) ∧ I (k + n + 1) (stp a d)) →
    ∃ x', forL g p ds (E a x) S = .nx (E (ds.foldl stp a) x') S ∧ I (k + ds.length) (ds.foldl stp a)
  | [], k, a, x, h, _ => ⟨x, rfl, h⟩
  | d :: ds, k, a, x, h, q => by
    obtain ⟨r1, h1, ⟨x1, h2⟩, h3⟩ := q 0 d a x rfl h
    obtain ⟨x2, h4, h5⟩ := for_acc E stp I S g p ds (k + 1) (stp a d) x1 h3 fun n d' a' x' e z => by
      obtain ⟨r4, y1, y2, y3⟩ := q (n + 1) d' a' x' (by simpa using e) (by rw [show k + (n + 1) = k + 1 + n by omega]; exact z)
      exact ⟨r4, y1, y2, by rw [show k + 1 + n + 1 = k + (n + 1) + 1 by omega]; exact y3⟩
    refine ⟨x2, ?_, by rw [List.length_cons, show k + (ds.length + 1) = k + 1 + ds.length by omega]; exact h5⟩
    unfold forL
    rw [h1]
    dsimp only
    rw [h2]
    exact h4
theorem foldl_app {B : Type} (h : Int → List B) (stp : List B → D → List B) (hs : ∀ a i, stp a (.int i) = a ++ h i) : ∀ (xs : List Int) (a : List B), (xs.map D.int).foldl stp a = a ++ (xs.map h).flatten
  | [], a => by simp
  | x :: xs, a => by
    rw [List.map_cons, List.foldl_cons, hs, foldl_app h stp hs xs]
    simp
theorem for_cons {g : GM} {p : SM} {d : D} {ds : List D} {r r1 r2 : Env} {S S2 : Store} (h1 : g d r = some r1) (h2 : p r1 S = .nx r2 S2) : forL g p (d :: ds) r S = forL g p ds r2 S2 := by
  rw [forL, h1]
  dsimp only
  rw [h2]
theorem for_nil {g : GM} {p : SM} {r : Env} {S : Store} : forL g p [] r S = .nx r S := by rw [forL]
def kindC (l : List (Nat × Bool)) : Option (Nat × List D) → Option Bool
  | some (c, []) => l.lookup c
  | _ => none
@[simp] theorem kindB_ins (l1 : List (String × Bool)) (l : List (Nat × Bool)) (n : Nat) (S : Store) : kindB l1 l (.ins n) S = kindC l S[n]? := Eq.trans rfl rfl
@[simp] theorem kindC_ap (l : List (Nat × Bool)) (c : Nat) : kindC l (some (c, [])) = l.lookup c := Eq.trans rfl rfl
@[simp] theorem kindB_non (l1 : List (String × Bool)) (l : List (Nat × Bool)) (S : Store) : kindB l1 l .non S = l1.lookup "NoneType" := Eq.trans rfl rfl
def kX2 (S : Store) : Option Bool → Rs (D × Fl)
  | some b => .ok (.bl b, .c) S
  | none => .no
theorem kx_k (l1 : List (String × Bool)) (l : List (Nat × Bool)) (d : D) (f : Fl) (S : Store) : kX l1 l (d, f) S = kX2 S (kindB l1 l d S) := by
  unfold kX kX2
  dsimp only
@[simp] theorem kx2_ap (b : Bool) (S : Store) : kX2 S (some b) = .ok (.bl b, .c) S := Eq.trans rfl rfl
/-! comprehensions item by item -/
def kCm4 (d : D) : Rs (List D) → Rs (List D)
  | .ok xs S => .ok (d :: xs) S
  | _ => .no
def kCm3 (g : GM) (tt : TM) (te : EM) (r : Env) (ds : List D) : Rs (D × Fl) → Rs (List D)
  | .ok x S => if okst x.2 x.1 then kCm4 x.1 (compL g tt te r ds S) else .no
  | _ => .no
def kCm2 (g : GM) (tt : TM) (te : EM) (r r1 : Env) (ds : List D) : Rs Bool → Rs (List D)
  | .ok true S => kCm3 g tt te r ds (te r1 S)
  | .ok false S => compL g tt te r ds S
  | _ => .no
def kCm1 (g : GM) (tt : TM) (te : EM) (r : Env) (ds : List D) (S : Store) : Option Env → Rs (List D)
  | some r1 => kCm2 g tt te r r1 ds (tt r1 S)
  | none => .no
section
variable (g : GM) (tt : TM) (te : EM) (r r1 : Env) (ds : List D) (S : Store) (d : D) (f : Fl)
theorem cm_nil : compL g tt te r [] S = .ok [] S := by rw [compL]
theorem cm_cons : compL g tt te r (d :: ds) S = kCm1 g tt te r ds S (g d r) := by
  rw [compL]
  unfold kCm1
  rcases g d r with _ | r1
  · rfl
  · dsimp only
    unfold kCm2
    rcases tt r1 S with ⟨_ | _, S1⟩ | _ | _ <;> try rfl
theorem cm1_ap : kCm1 g tt te r ds S (some r1) = kCm2 g tt te r r1 ds (tt r1 S) := rfl
theorem cm2_t : kCm2 g tt te r r1 ds (.ok true S) = kCm3 g tt te r ds (te r1 S) := rfl
theorem cm2_f : kCm2 g tt te r r1 ds (.ok false S) = compL g tt te r ds S := rfl
theorem cm3_ap (h : okst f d = true) : kCm3 g tt te r ds (.ok (d, f) S) = kCm4 d (compL g tt te r ds S) := if_pos h
theorem cm4_ap (xs : List D) : kCm4 d (.ok xs S) = .ok (d :: xs) S := rfl
def kCp2 : Rs (List D) → Rs (D × Fl)
  | .ok xs S => .ok (.lst xs, .n) S
  | _ => .no
theorem cp_k (vs : List Nat) (h : sm ds.length = true) : kCp vs g tt te r ds S = kCp2 (compL g tt te (wipeE r vs) ds S) := by
  unfold kCp
  rw [if_pos (by rw [sizeLine_eq]; exact of_decide_eq_true h)]
  unfold kCp2
  rcases compL g tt te (wipeE r vs) ds S with _ | _ | _ <;> rfl
theorem cp2_ap (xs : List D) : kCp2 (.ok xs S) = .ok (.lst xs, .n) S := rfl
end
end Ev

set_option maxRecDepth 100000
set_option maxHeartbeats 4000000
/-! Ev2: a list's methods, a lambda handed over, whole numbers that are none below 0 -/
namespace Ev
open Mv
open L2 PyProof.Rows
open PySem (sizeLine sizeLine_eq)
def kBm1 (g : List D → List (Fl × D) → Option (D × Fl)) (xs : List D) (as : List (Fl × D)) (S : Store) : Rs (D × Fl) := lift0 (g xs as) S
def kBm (g : List D → List (Fl × D) → Option (D × Fl)) (t : AM) (r : Env) (x : D × Fl) (S : Store) : Rs (D × Fl) := match x.1 with
  | .lst xs => (t r S).bind (kBm1 g xs)
  | _ => .no
@[simp] theorem bm_ap (g : List D → List (Fl × D) → Option (D × Fl)) (mo : EM) (t : AM) (r : Env) (S : Store) : eBm g mo t r S = (mo r S).bind (kBm g t r) := Eq.trans rfl rfl
@[simp] theorem kbm_ap (g : List D → List (Fl × D) → Option (D × Fl)) (t : AM) (r : Env) (xs : List D) (f : Fl) (S : Store) : kBm g t r (.lst xs, f) S = (t r S).bind (kBm1 g xs) := Eq.trans rfl rfl
@[simp] theorem kbm1_ap (g : List D → List (Fl × D) → Option (D × Fl)) (xs : List D) (as : List (Fl × D)) (S : Store) : kBm1 g xs as S = lift0 (g xs as) S := Eq.trans rfl rfl
def kRfB (n j : Nat) (mr : SM) (c : Nat) (p : List D) (S : Store) : Option Bool → Rs (D × Fl)
  | some true => refEnd (mr (.no :: (List.replicate n Slot.no).set j (.ar .c (.ins S.length))) (S ++ [(c, p)]))
  | _ => .no
def kRf (n j : Nat) (l : List (Nat × Bool)) (mr : SM) : Rs (D × Fl) → Rs (D × Fl)
  | .ok _ S1 => refEnd (mr (.no :: (List.replicate n Slot.no).set j (.ar .c .non)) S1)
  | .er c p S1 => kRfB n j mr c p S1 (l.lookup c)
  | .no => .no
@[simp] theorem ref_ap (n j : Nat) (l : List (Nat × Bool)) (mr : SM) (m : EM) (r : Env) (S : Store) : eRef n j l mr m r S = kRf n j l mr (m r S) := by
  unfold eRef kRf
  cases m r S with
  | ok a S1 => rfl
  | no => rfl
  | er c p S1 =>
    dsimp only
    unfold kRfB
    rcases l.lookup c with _ | _ | _ <;> rfl
@[simp] theorem krf_ok (n j : Nat) (l : List (Nat × Bool)) (mr : SM) (a : D × Fl) (S : Store) : kRf n j l mr (.ok a S) = refEnd (mr (.no :: (List.replicate n Slot.no).set j (.ar .c .non)) S) := Eq.trans rfl rfl
@[simp] theorem krf_er (n j : Nat) (l : List (Nat × Bool)) (mr : SM) (c : Nat) (p : List D) (S : Store) : kRf n j l mr (.er c p S) = kRfB n j mr c p S (l.lookup c) := Eq.trans rfl rfl
@[simp] theorem krfb_t (n j : Nat) (mr : SM) (c : Nat) (p : List D) (S : Store) : kRfB n j mr c p S (some true) = refEnd (mr (.no :: (List.replicate n Slot.no).set j (.ar .c (.ins S.length))) (S ++ [(c, p)])) := Eq.trans rfl rfl
@[simp] theorem refEnd_rt (d : D) (f : Fl) (S : Store) : refEnd (.rt d f S) = .ok (d, outf f) S := Eq.trans rfl rfl
@[simp] theorem ks3_f (x : List D) (f : Fl) (l u : Option Int) (S : Store) : kS3 (.frz x, f) l u S = .ok (.lst (cutD x l u), if f = .t then .t else .n) S := Eq.trans rfl rfl
/-! whole numbers -/
theorem shl_n (a j : Nat) (f f' : Fl) (ha : a < 18446744073709551616) (hj : j ≤ 1000000) : gShl (.int (a : Int), f) (.int (j : Int), f') = some (.int ((a * 2 ^ j : Nat) : Int), .c) := by
  have h1 : (j : Int) ≤ 1000000 := by omega
  have h2 : (a : Int).natAbs < 2 ^ 64 := by
    rw [Int.natAbs_natCast]
    exact ha
  show (if (decide (0 ≤ (j : Int)) && decide ((j : Int) ≤ 1000000) && decide ((a : Int).natAbs < 2 ^ 64)) = true then some (D.int ((a : Int) * 2 ^ (j : Int).toNat), Fl.c) else none) = _
  rw [decide_eq_true (show 0 ≤ (j : Int) by omega), decide_eq_true h1, decide_eq_true h2, Int.toNat_natCast]
  simp
theorem shr_n (a j : Nat) (f f' : Fl) : gShr (.int (a : Int), f) (.int (j : Int), f') = some (.int ((a / 2 ^ j : Nat) : Int), .c) := by
  show (if decide (0 ≤ (j : Int)) = true then some (D.int ((a : Int) / 2 ^ (j : Int).toNat), Fl.c) else none) = _
  rw [decide_eq_true (show 0 ≤ (j : Int) by omega), Int.toNat_natCast]
  simp
theorem xor_n (a b : Nat) : PySem.Builtin.bitXor (a : Int) (b : Int) = ((a ^^^ b : Nat) : Int) := by
  exact Bits.bitXor_pp (Int.natCast_nonneg a) (Int.natCast_nonneg b)
theorem or_n (a b : Nat) : PySem.Builtin.bitOr (a : Int) (b : Int) = ((a ||| b : Nat) : Int) := by
  exact Bits.bitOr_pp (Int.natCast_nonneg a) (Int.natCast_nonneg b)
theorem and_n (a b : Nat) : PySem.Builtin.bitAnd (a : Int) (b : Int) = ((a &&& b : Nat) : Int) := by
  simp [PySem.Builtin.bitAnd, (by omega : (0 : Int) ≤ a), (by omega : (0 : Int) ≤ b)]
theorem and1_i (v : Int) (f f' : Fl) : gAnd (.int v, f) (.int 1, f') = some (.int (v % 2), .c) := by
  show some (D.int (PySem.Builtin.bitAnd v 1), Fl.c) = _
  rw [PyProof.Rows.bitAnd_m1]
theorem xor_g (a b : Nat) (f f' : Fl) : gXor (.int (a : Int), f) (.int (b : Int), f') = some (.int ((a ^^^ b : Nat) : Int), .c) := by
  show some (D.int (PySem.Builtin.bitXor a b), Fl.c) = _
  rw [xor_n]
theorem or_g (a b : Nat) (f f' : Fl) : gOr (.int (a : Int), f) (.int (b : Int), f') = some (.int ((a ||| b : Nat) : Int), .c) := by
  show some (D.int (PySem.Builtin.bitOr a b), Fl.c) = _
  rw [or_n]
theorem sub_i (a b : Int) (f f' : Fl) : gSub (.int a, f) (.int b, f') = some (.int (a - b), .c) := Eq.trans rfl rfl
theorem gt_i (a b : Int) (f f' : Fl) : gGt (.int a, f) (.int b, f') = some (.bl (decide (b < a)), .c) := Eq.trans rfl rfl
theorem ge_i (a b : Int) (f f' : Fl) : gGe (.int a, f) (.int b, f') = some (.bl (decide (b ≤ a)), .c) := Eq.trans rfl rfl
theorem mod_i (a b : Int) (f f' : Fl) (h : 0 < b) : gMod (.int a, f) (.int b, f') = some (.int (a % b), .c) := by
  show (if decide (0 < b) = true then some (D.int (a % b), Fl.c) else none) = _
  rw [decide_eq_true h]
  rfl
theorem div_i (a b : Int) (f f' : Fl) (h : 0 < b) (h2 : b.natAbs.log2 < 9000) : gDiv (.int a, f) (.int b, f') = some (.int (a / b), .c) := by
  show (if (decide (0 < b) && decide (b.natAbs.log2 < 9000)) = true then some (D.int (a / b), Fl.c) else none) = _
  rw [decide_eq_true h, decide_eq_true h2]
  rfl
theorem lt_i (a b : Int) (f f' : Fl) : gLt (.int a, f) (.int b, f') = some (.bl (decide (a < b)), .c) := Eq.trans rfl rfl
theorem le_i (a b : Int) (f f' : Fl) : gLe (.int a, f) (.int b, f') = some (.bl (decide (a ≤ b)), .c) := Eq.trans rfl rfl
theorem rangeD_succ (lo c : Int) (n : Nat) : rangeD lo c (n + 1) = .int lo :: rangeD (lo + c) c n := by
  unfold rangeD
  rw [List.range_succ_eq_map, List.map_cons, List.map_map]
  refine congr (congrArg _ (by simp)) (List.map_congr_left fun j _ => ?_)
  show D.int _ = D.int _
  congr 1
  push_cast
  rw [Int.add_mul]
  omega
theorem rangeD_zero (lo c : Int) : rangeD lo c 0 = [] := rfl
end Ev

set_option maxRecDepth 100000
/-! Ev3: the rules of Mv34 to Mv39, applied -/
namespace Ev
open Mv
open PySem (Str sizeLine sizeLine_eq)
open L2 (atI ixN Key)
variable (r : Env) (S S1 : Store) (ma mb mc m mo : EM) (t : AM) (i j n : Nat) (f f' : Fl) (d d' : D) (xs ys : List D)
def kVarD : Option Slot → Store → Rs (D × Fl)
  | some (.deep 0 d), S => .ok (d, .t) S
  | x, S => kVar x S
@[simp] theorem varD_ap : eVarD i r S = kVarD r[i]? S := by
  unfold eVarD kVarD
  rcases e : r[i]? with _ | _ | _ | _ | ⟨_ | _, _⟩ <;> simp [var_ap, e]
@[simp] theorem kvarD_d : kVarD (some (.deep 0 d)) S = .ok (d, .t) S := Eq.trans rfl rfl
@[simp] theorem kvarD_a : kVarD (some (.ar f d)) S = .ok (d, inf f) S := Eq.trans rfl rfl
def kIxD (mi : EM) (r : Env) (S : Store) : Option Slot → Rs (D × Fl)
  | some (.deep 0 d) => (mi r S).bind fun k S1 => match conL d, k.1 with
    | some xs, .int j => match atI xs j with
      | some x => .ok (x, if gnd x then .c else .o) S1
      | none => .no
    | _, _ => .no
  | _ => .no
def kIxD2 (d : D) (k : D × Fl) (S1 : Store) : Rs (D × Fl) := match conL d, k.1 with
    | some xs, .int j => match atI xs j with
      | some x => .ok (x, if gnd x then .c else .o) S1
      | none => .no
    | _, _ => .no
def kIxD3 (S : Store) : Option D → Rs (D × Fl)
  | some x => .ok (x, if gnd x then .c else .o) S
  | none => .no
@[simp] theorem ixD_ap : eIxD i m r S = kIxD m r S r[i]? := Eq.trans rfl rfl
@[simp] theorem kixD_d : kIxD m r S (some (.deep 0 d)) = (m r S).bind (kIxD2 d) := Eq.trans rfl rfl
@[simp] theorem kixD2_l (x : Int) : kIxD2 (.lst xs) (.int x, f) S = kIxD3 S (atI xs x) := by
  show (match atI xs x with
    | some x => Rs.ok (x, if gnd x then Fl.c else .o) S
    | none => .no) = _
  rcases atI xs x with _ | _ <;> rfl
@[simp] theorem kixD2_t (x : Int) : kIxD2 (.tup xs) (.int x, f) S = kIxD3 S (atI xs x) := by
  show (match atI xs x with
    | some x => Rs.ok (x, if gnd x then Fl.c else .o) S
    | none => .no) = _
  rcases atI xs x with _ | _ <;> rfl
@[simp] theorem kixD3_s : kIxD3 S (some d) = .ok (d, if gnd d then .c else .o) S := Eq.trans rfl rfl
@[simp] theorem gnd_lst : gnd (.lst xs) = false := Eq.trans rfl rfl
@[simp] theorem gnd_tup : gnd (.tup xs) = false := Eq.trans rfl rfl
@[simp] theorem gnd_frz : gnd (.frz xs) = false := Eq.trans rfl rfl
def kDeep (i : Nat) (b : SM) (r : Env) (d : D) (S : Store) : SR := if i < r.length then clr i (b (r.set i (deepS d)) S) else .no
@[simp] theorem deep_ap (me : Env → Store → Rs D) (b : SM) : sDeep i me b r S = (me r S).sb r (kDeep i b r) := Eq.trans rfl rfl
@[simp] theorem kdeep_ap (b : SM) (h : i < r.length) : kDeep i b r d S = clr i (b (r.set i (deepS d)) S) := if_pos h
@[simp] theorem deepS_l : deepS (.lst xs) = .deep 0 (.lst xs) := Eq.trans rfl rfl
@[simp] theorem deepS_t : deepS (.tup xs) = .deep 0 (.tup xs) := Eq.trans rfl rfl
@[simp] theorem deepS_n : deepS .non = .ar .c .non := Eq.trans rfl rfl
@[simp] theorem clr_nx : clr i (.nx r S) = .nx (r.set i .no) S := Eq.trans rfl rfl
@[simp] theorem clr_rt : clr i (.rt d f S) = .rt d f S := Eq.trans rfl rfl
def kAd (t : Env → Store → Rs (List D)) (r : Env) (x : D × Fl) (S : Store) : Rs (List D) := if gnd x.1 || (decide (x.2 = .n) && isLg x.1) then (t r S).bind fun ds S2 => .ok (x.1 :: ds) S2 else .no
def kAd2 (d : D) (ds : List D) (S : Store) : Rs (List D) := .ok (d :: ds) S
@[simp] theorem adnil_ap : adNil r S = .ok [] S := Eq.trans rfl rfl
@[simp] theorem adcons_ap (td : Env → Store → Rs (List D)) : adCons m td r S = (m r S).bind (kAd td r) := Eq.trans rfl rfl
@[simp] theorem kad_g (td : Env → Store → Rs (List D)) (h : gnd d = true) : kAd td r (d, f) S = (td r S).bind (kAd2 d) := by
  unfold kAd
  dsimp only
  rw [h, Bool.true_or, if_pos rfl]
  rfl
@[simp] theorem kad_l (td : Env → Store → Rs (List D)) (h : ys.all gnd = true) : kAd td r (.lst ys, .n) S = (td r S).bind (kAd2 (.lst ys)) := by
  unfold kAd
  rw [if_pos (by show (false || (decide (Fl.n = Fl.n) && ys.all gnd)) = true; rw [h]; rfl)]
  rfl
@[simp] theorem kad2_ap (ds : List D) : kAd2 d ds S = .ok (d :: ds) S := Eq.trans rfl rfl
def kLD (ds : List D) (S : Store) : Rs D := if ds.length ≤ sizeLine then .ok (.lst ds) S else .no
@[simp] theorem lstD_ap (td : Env → Store → Rs (List D)) : eLstD td r S = (td r S).bind kLD := Eq.trans rfl rfl
@[simp] theorem kld_ap (ds : List D) (h : ds.length ≤ 16777216) : kLD ds S = .ok (.lst ds) S := if_pos (by rw [sizeLine_eq]; exact h)
theorem gnd_ints (is : List Int) : (is.map D.int).all gnd = true := by simp
/-! what is written -/
def kItD : D → D → Option (List D) := itD
def kItA : Option D → Option (List D)
  | some (.lst ys) => some ys
  | _ => none
@[simp] theorem itD_l (x : Int) : itD (.lst xs) (.int x) = kItA (atI xs x) := by
  show (match atI xs x with
    | some (.lst ys) => some ys
    | _ => none) = _
  unfold kItA
  rcases atI xs x with _ | _ | _ <;> rfl
@[simp] theorem itD_t (x : Int) : itD (.tup xs) (.int x) = kItA (atI xs x) := by
  show (match atI xs x with
    | some (.lst ys) => some ys
    | _ => none) = _
  unfold kItA
  rcases atI xs x with _ | _ | _ <;> rfl
@[simp] theorem kita_ap : kItA (some (.lst ys)) = some ys := Eq.trans rfl rfl
def kApD (i : Nat) (mk mc : EM) (r : Env) (S : Store) : Option Slot → SR
  | some (.deep n d) => (mk r S).sb r fun k S1 => match itD d k.1 with
    | some ys => (mc r S1).sb r fun c S2 => if ys.length + n < sizeLine then .nx (r.set i (.deep (n + 1) d)) S2 else .no
    | none => .no
  | _ => .no
def kApD2 (i n : Nat) (d : D) (mc : EM) (r : Env) (k : D × Fl) (S1 : Store) : SR := match itD d k.1 with
    | some ys => (mc r S1).sb r fun c S2 => if ys.length + n < sizeLine then .nx (r.set i (.deep (n + 1) d)) S2 else .no
    | none => .no
def kApD3 (i n : Nat) (d : D) (mc : EM) (r : Env) (S1 : Store) : Option (List D) → SR
    | some ys => (mc r S1).sb r fun c S2 => if ys.length + n < sizeLine then .nx (r.set i (.deep (n + 1) d)) S2 else .no
    | none => .no
def kApD4 (i n : Nat) (d : D) (r : Env) (ys : List D) (c : D × Fl) (S2 : Store) : SR := if ys.length + n < sizeLine then .nx (r.set i (.deep (n + 1) d)) S2 else .no
@[simp] theorem apD_ap : sApD i ma mc r S = kApD i ma mc r S r[i]? := Eq.trans rfl rfl
@[simp] theorem kapD_d : kApD i ma mc r S (some (.deep n d)) = (ma r S).sb r (kApD2 i n d mc r) := Eq.trans rfl rfl
@[simp] theorem kapD2_ap (k : D × Fl) : kApD2 i n d mc r k S = kApD3 i n d mc r S (itD d k.1) := by
  unfold kApD2 kApD3
  rcases itD d k.1 with _ | _ <;> rfl
@[simp] theorem kapD3_s : kApD3 i n d mc r S (some ys) = (mc r S).sb r (kApD4 i n d r ys) := Eq.trans rfl rfl
@[simp] theorem kapD4_ap (c : D × Fl) (h : ys.length + n < 16777216) : kApD4 i n d r ys c S = .nx (r.set i (.deep (n + 1) d)) S := if_pos (by rw [sizeLine_eq]; exact h)
def kClD (i : Nat) (mk : EM) (r : Env) (S : Store) : Option Slot → SR
  | some (.deep n d) => (mk r S).sb r fun k S1 => match itD d k.1 with
    | some _ => .nx (r.set i (.deep (n + 1) d)) S1
    | none => .no
  | _ => .no
def kClD2 (i n : Nat) (d : D) (r : Env) (k : D × Fl) (S1 : Store) : SR := match itD d k.1 with
    | some _ => .nx (r.set i (.deep (n + 1) d)) S1
    | none => .no
def kClD3 (i n : Nat) (d : D) (r : Env) (S1 : Store) : Option (List D) → SR
    | some _ => .nx (r.set i (.deep (n + 1) d)) S1
    | none => .no
@[simp] theorem clD_ap : sClD i ma r S = kClD i ma r S r[i]? := Eq.trans rfl rfl
@[simp] theorem kclD_d : kClD i ma r S (some (.deep n d)) = (ma r S).sb r (kClD2 i n d r) := Eq.trans rfl rfl
@[simp] theorem kclD2_ap (k : D × Fl) : kClD2 i n d r k S = kClD3 i n d r S (itD d k.1) := by
  unfold kClD2 kClD3
  rcases itD d k.1 with _ | _ <;> rfl
@[simp] theorem kclD3_s : kClD3 i n d r S (some ys) = .nx (r.set i (.deep (n + 1) d)) S := Eq.trans rfl rfl
def kAp0 (i : Nat) (mc : EM) (r : Env) (S : Store) : Option Slot → SR
  | some (.deep n (.lst xs)) => (mc r S).sb r fun c S1 => if xs.length < sizeLine then .nx (r.set i .no) S1 else .no
  | _ => .no
def kAp02 (i : Nat) (xs : List D) (r : Env) (c : D × Fl) (S1 : Store) : SR := if xs.length < sizeLine then .nx (r.set i .no) S1 else .no
@[simp] theorem ap0_ap : sAp0 i mc r S = kAp0 i mc r S r[i]? := Eq.trans rfl rfl
@[simp] theorem kap0_d : kAp0 i mc r S (some (.deep n (.lst xs))) = (mc r S).sb r (kAp02 i xs r) := Eq.trans rfl rfl
@[simp] theorem kap02_ap (c : D × Fl) (h : xs.length < 16777216) : kAp02 i xs r c S = .nx (r.set i .no) S := if_pos (by rw [sizeLine_eq]; exact h)
def kCl0 (i : Nat) (r : Env) (S : Store) : Option Slot → SR
  | some (.deep _ (.lst _)) => .nx (r.set i .no) S
  | _ => .no
@[simp] theorem cl0_ap : sCl0 i r S = kCl0 i r S r[i]? := Eq.trans rfl rfl
@[simp] theorem kcl0_d : kCl0 i r S (some (.deep n (.lst xs))) = .nx (r.set i .no) S := Eq.trans rfl rfl
def kFA (i t : Nat) (r : Env) (S : Store) : Option Slot → SR
  | some (.deep n (.lst xs)) => if i ≠ t ∧ t < r.length ∧ xs.all (allL (n + xs.length)) = true then .nx ((r.set t .no).set i .no) S else .no
  | _ => .no
@[simp] theorem forAp_ap : sForAp i j r S = kFA i j r S r[i]? := Eq.trans rfl rfl
@[simp] theorem kfa_d (h : i ≠ j ∧ j < r.length ∧ xs.all (allL (n + xs.length)) = true) : kFA i j r S (some (.deep n (.lst xs))) = .nx ((r.set j .no).set i .no) S := if_pos h
/-! calls -/
noncomputable def kNC (np : Nat) (mf : FM) (as : List (Fl × D)) (S : Store) : Rs D := if as.length = np ∧ okS S = true then newR (mf as S) S else .no
@[simp] theorem newC_ap (np : Nat) (mf : FM) : eNewC np mf t r S = (t r S).bind (kNC np mf) := Eq.trans rfl rfl
@[simp] theorem knc_ap (np : Nat) (mf : FM) (as : List (Fl × D)) (h : as.length = np ∧ okS S = true) : kNC np mf as S = newR (mf as S) S := if_pos h
@[simp] theorem newR_c (h : okR d = true) : newR (.ok (d, .c) S) S = .ok d S := by
  unfold newR
  dsimp only
  rw [if_pos ⟨rfl, .inl rfl, h⟩]
@[simp] theorem newR_n (h : okR d = true) : newR (.ok (d, .n) S) S = .ok d S := by
  unfold newR
  dsimp only
  rw [if_pos ⟨rfl, .inr rfl, h⟩]
noncomputable def kNM (np : Nat) (tab : Nat → Option FM) (t : AM) (r : Env) : Rs (D × Fl) → Rs D
  | .ok (.ins n, _) S1 => match S1[n]? with
    | some (C, _) => match tab C with
      | some m => (t r S1).bind fun as S2 => if ((Fl.c, D.ins n) :: as).length = np ∧ okS S2 = true then newR (m ((.c, .ins n) :: as) S2) S2 else .no
      | none => .no
    | none => .no
  | _ => .no
noncomputable def kNM1 (np n : Nat) (tab : Nat → Option FM) (t : AM) (r : Env) (S1 : Store) : Option (Nat × List D) → Rs D
  | some (C, _) => match tab C with
      | some m => (t r S1).bind fun as S2 => if ((Fl.c, D.ins n) :: as).length = np ∧ okS S2 = true then newR (m ((.c, .ins n) :: as) S2) S2 else .no
      | none => .no
  | none => .no
noncomputable def kNM2 (np n : Nat) (t : AM) (r : Env) (S1 : Store) : Option FM → Rs D
  | some m => (t r S1).bind fun as S2 => if ((Fl.c, D.ins n) :: as).length = np ∧ okS S2 = true then newR (m ((.c, .ins n) :: as) S2) S2 else .no
  | none => .no
noncomputable def kNM3 (np n : Nat) (m : FM) (as : List (Fl × D)) (S2 : Store) : Rs D := if ((Fl.c, D.ins n) :: as).length = np ∧ okS S2 = true then newR (m ((.c, .ins n) :: as) S2) S2 else .no
@[simp] theorem newM_ap (np : Nat) (tab : Nat → Option FM) : eNewM np tab mo t r S = kNM np tab t r (mo r S) := by
  unfold eNewM kNM
  rcases mo r S with ⟨⟨_ | _ | _ | _ | _ | _ | _ | _ | _ | _, _⟩, _⟩ | _ | _ <;> rfl
@[simp] theorem knm_ap (np : Nat) (tab : Nat → Option FM) : kNM np tab t r (.ok (.ins n, f) S) = kNM1 np n tab t r S S[n]? := by
  show (match S[n]? with
    | some (C, _) => _
    | none => _) = _
  unfold kNM1
  rcases S[n]? with _ | ⟨_, _⟩ <;> rfl
@[simp] theorem knm1_ap (np : Nat) (tab : Nat → Option FM) (C : Nat) (fs : List D) : kNM1 np n tab t r S (some (C, fs)) = kNM2 np n t r S (tab C) := by
  show (match tab C with
    | some m => _
    | none => _) = _
  unfold kNM2
  rcases tab C with _ | _ <;> rfl
@[simp] theorem knm2_ap (np : Nat) (mf : FM) : kNM2 np n t r S (some mf) = (t r S).bind (kNM3 np n mf) := Eq.trans rfl rfl
@[simp] theorem knm3_ap (np : Nat) (mf : FM) (as : List (Fl × D)) (h : as.length + 1 = np ∧ okS S = true) : kNM3 np n mf as S = newR (mf ((.c, .ins n) :: as) S) S := if_pos h
def kFP (np : Nat) (mf : FM) (as : List (Fl × D)) (S : Store) : Rs (D × Fl) := if as.length = np ∧ (as.all fun x => noIns x.2) = true then pureR (mf (as.map fun x => (Fl.c, x.2)) []) S else .no
@[simp] theorem fnP_ap (np : Nat) (mf : FM) : eFnP np mf t r S = (t r S).bind (kFP np mf) := Eq.trans rfl rfl
@[simp] theorem kfp_ap (np : Nat) (mf : FM) (as : List (Fl × D)) (h : as.length = np ∧ (as.all fun x => noIns x.2) = true) : kFP np mf as S = pureR (mf (as.map fun x => (Fl.c, x.2)) []) S := if_pos h
@[simp] theorem pureR_ap (h : gnd1 d = true) : pureR (.ok (d, f) S1) S = .ok (d, .c) S := if_pos h
@[simp] theorem gnd1_bl (b : Bool) : gnd1 (.bl b) = true := Eq.trans rfl rfl
@[simp] theorem gnd1_int (b : Int) : gnd1 (.int b) = true := Eq.trans rfl rfl
theorem noInss_i : ∀ is : List Int, noInss (is.map D.int) = true
  | [] => rfl
  | i :: is => by
    show (noIns (.int i) && noInss (is.map D.int)) = true
    rw [noInss_i is]
    rfl
/-! arguments that are one's own -/
def kOG (t : AM) (r : Env) (x : D × Fl) (S : Store) : Rs (List (Fl × D)) := if gnd x.1 then (t r S).bind fun as S2 => .ok ((.c, x.1) :: as) S2 else .no
def kO2 (x : Fl × D) (as : List (Fl × D)) (S : Store) : Rs (List (Fl × D)) := .ok (x :: as) S
@[simp] theorem aog_ap : aoG m t r S = (m r S).bind (kOG t r) := Eq.trans rfl rfl
@[simp] theorem kog_ap (h : gnd d = true) : kOG t r (d, f) S = (t r S).bind (kO2 (.c, d)) := if_pos h
@[simp] theorem ko2_ap (x : Fl × D) (as : List (Fl × D)) : kO2 x as S = .ok (x :: as) S := Eq.trans rfl rfl
def kOO (t : AM) (r : Env) (S : Store) : Option Slot → Rs (List (Fl × D))
  | some (.own (.lst ys)) => if ys.all gnd then (t r S).bind fun as S2 => .ok ((.o, .lst ys) :: as) S2 else .no
  | _ => .no
@[simp] theorem aoo_ap : aoO i t r S = kOO t r S r[i]? := Eq.trans rfl rfl
@[simp] theorem koo_ap (h : ys.all gnd = true) : kOO t r S (some (.own (.lst ys))) = (t r S).bind (kO2 (.o, .lst ys)) := if_pos h
def kOD (mk : EM) (t : AM) (r : Env) (S : Store) : Option Slot → Rs (List (Fl × D))
  | some (.deep 0 d) => (mk r S).bind fun k S1 => match itD d k.1 with
    | some ys => if ys.all gnd then (t r S1).bind fun as S2 => .ok ((.o, .lst ys) :: as) S2 else .no
    | none => .no
  | _ => .no
def kOD2 (d : D) (t : AM) (r : Env) (k : D × Fl) (S1 : Store) : Rs (List (Fl × D)) := match itD d k.1 with
    | some ys => if ys.all gnd then (t r S1).bind fun as S2 => .ok ((.o, .lst ys) :: as) S2 else .no
    | none => .no
def kOD3 (t : AM) (r : Env) (S1 : Store) : Option (List D) → Rs (List (Fl × D))
    | some ys => if ys.all gnd then (t r S1).bind fun as S2 => .ok ((.o, .lst ys) :: as) S2 else .no
    | none => .no
@[simp] theorem aod_ap : aoD i m t r S = kOD m t r S r[i]? := Eq.trans rfl rfl
@[simp] theorem kod_ap : kOD m t r S (some (.deep 0 d)) = (m r S).bind (kOD2 d t r) := Eq.trans rfl rfl
@[simp] theorem kod2_ap (k : D × Fl) : kOD2 d t r k S = kOD3 t r S (itD d k.1) := by
  unfold kOD2 kOD3
  rcases itD d k.1 with _ | _ <;> rfl
@[simp] theorem kod3_ap (h : ys.all gnd = true) : kOD3 t r S (some ys) = (t r S).bind (kO2 (.o, .lst ys)) := if_pos h
/-! lists that are only read; dict displays -/
def kFz (x : D × Fl) (S1 : Store) : Rs (D × Fl) := match x.1 with
  | .lst xs => if x.2 = .c ∨ x.2 = .n then .ok (.frz xs, .c) S1 else .no
  | _ => .no
@[simp] theorem frz_ap : eFrz m r S = (m r S).bind kFz := Eq.trans rfl rfl
@[simp] theorem kfz_n : kFz (.lst xs, .n) S = .ok (.frz xs, .c) S := by
  unfold kFz
  exact if_pos (.inr rfl)
@[simp] theorem kfz_c : kFz (.lst xs, .c) S = .ok (.frz xs, .c) S := by
  unfold kFz
  exact if_pos (.inl rfl)
def kP1 (mv : EM) (t : PM) (r : Env) (k : D × Fl) (S1 : Store) : Rs (List Key × List D) := (mv r S1).bind fun v S2 => match keyD k.1 with
  | some kk => if okst v.2 v.1 then (t r S2).bind fun p S3 => .ok (kk :: p.1, v.1 :: p.2) S3 else .no
  | none => .no
def kP2 (t : PM) (r : Env) (k v : D × Fl) (S2 : Store) : Rs (List Key × List D) := match keyD k.1 with
  | some kk => if okst v.2 v.1 then (t r S2).bind fun p S3 => .ok (kk :: p.1, v.1 :: p.2) S3 else .no
  | none => .no
def kP3 (kk : Key) (d : D) (p : List Key × List D) (S3 : Store) : Rs (List Key × List D) := .ok (kk :: p.1, d :: p.2) S3
@[simp] theorem dpnil_ap : dpNil r S = .ok ([], []) S := Eq.trans rfl rfl
@[simp] theorem dpcons_ap (tp : PM) : dpCons ma mb tp r S = (ma r S).bind (kP1 mb tp r) := Eq.trans rfl rfl
@[simp] theorem kp1_ap (tp : PM) (k : D × Fl) : kP1 mb tp r k S = (mb r S).bind (kP2 tp r k) := Eq.trans rfl rfl
@[simp] theorem kp2_i (tp : PM) (x : Int) (h : okst f' d = true) : kP2 tp r (.int x, f) (d, f') S = (tp r S).bind (kP3 (.inl x) d) := if_pos h
@[simp] theorem kp2_s (tp : PM) (x : Str) (h : okst f' d = true) : kP2 tp r (.str x, f) (d, f') S = (tp r S).bind (kP3 (.inr x) d) := if_pos h
@[simp] theorem kp3_ap (kk : Key) (ks : List Key) : kP3 kk d (ks, xs) S = .ok (kk :: ks, d :: xs) S := Eq.trans rfl rfl
def kDs (p : List Key × List D) (S1 : Store) : Rs (D × Fl) := if p.1.length ≤ 15 then .ok (.dic (mgD [] [] p.1 p.2).1 (mgD [] [] p.1 p.2).2, .n) S1 else .no
@[simp] theorem disp_ap (mp : PM) : eDisp mp r S = (mp r S).bind kDs := Eq.trans rfl rfl
theorem kds_ap (ks : List Key) (h : ks.length ≤ 15) : kDs (ks, xs) S = .ok (.dic (mgD [] [] ks xs).1 (mgD [] [] ks xs).2, .n) S := if_pos h
end Ev

set_option maxRecDepth 100000
/-! Ev4: what is equal to itself -/
namespace Ev
open Mv
open PySem (Str sizeLine sizeLine_eq PyData SeqAt.shaped)
open L2 (atI ixN)
def kLend (i : Nat) (t : TM) (r : Env) (S : Store) : Option Slot → Rs Bool
  | some (.own d) => t (r.set i (.ar .b d)) S
  | _ => t r S
@[simp] theorem lend_ap (i : Nat) (t : TM) (r : Env) (S : Store) : tLend i t r S = kLend i t r S r[i]? := by
  unfold tLend kLend
  rcases r[i]? with _ | _ | _ | _ | _ <;> rfl
@[simp] theorem klend_o (i : Nat) (t : TM) (r : Env) (S : Store) (d : D) : kLend i t r S (some (.own d)) = t (r.set i (.ar .b d)) S := Eq.trans rfl rfl
@[simp] theorem klend_a (i : Nat) (t : TM) (r : Env) (S : Store) (f : Fl) (d : D) : kLend i t r S (some (.ar f d)) = t r S := Eq.trans rfl rfl
mutual
/-- data of lists and tuples, of that depth at most -/
def plD : Nat → D → Bool
  | _, .non => true
  | _, .bl _ => true
  | _, .int _ => true
  | n + 1, .lst xs => plDs n xs
  | n + 1, .frz xs => plDs n xs
  | n + 1, .tup xs => plDs n xs
  | _, _ => false
def plDs : Nat → List D → Bool
  | _, [] => true
  | n, x :: xs => plD n x && plDs n xs
end
mutual
theorem plD_py : ∀ (n : Nat) (d : D), plD n d = true → ∃ p, toPy d = some p ∧ p.canLay0 = true ∧ p.depth ≤ n ∧ PyData.eqv p p = true
  | n, .non, _ => ⟨.none, by simp [toPy], by simp [PyData.canLay0], by simp [PyData.depth], by simp [PyData.eqv]⟩
  | n, .bl b, _ => ⟨.bool b, by simp [toPy], by simp [PyData.canLay0], by simp [PyData.depth], by simp [PyData.eqv]⟩
  | n, .int i, _ => ⟨.int i, by simp [toPy], by simp [PyData.canLay0], by simp [PyData.depth], by simp [PyData.eqv]⟩
  | n + 1, .lst xs, h => by
    obtain ⟨ps, h1, h2, h3, h4⟩ := plDs_py n xs (by simpa [plD] using h)
    exact ⟨.list ps, by simp [toPy, h1], by simp [PyData.canLay0, h2], by simp [PyData.depth, h3], by simp [PyData.eqv, h4]⟩
  | n + 1, .frz xs, h => by
    obtain ⟨ps, h1, h2, h3, h4⟩ := plDs_py n xs (by simpa [plD] using h)
    exact ⟨.list ps, by simp [toPy, h1], by simp [PyData.canLay0, h2], by simp [PyData.depth, h3], by simp [PyData.eqv, h4]⟩
  | n + 1, .tup xs, h => by
    obtain ⟨ps, h1, h2, h3, h4⟩ := plDs_py n xs (by simpa [plD] using h)
    exact ⟨.tuple ps, by simp [toPy, h1], by simp [PyData.canLay0, h2], by simp [PyData.depth, h3], by simp [PyData.eqv, h4]⟩
  | 0, .lst xs, h => by simp [plD] at h
  | 0, .frz xs, h => by simp [plD] at h
  | 0, .tup xs, h => by simp [plD] at h
  | n, .str z, h => by cases n <;> simp [plD] at h
  | n, .dic _ _, h => by cases n <;> simp [plD] at h
  | n, .ins _, h => by cases n <;> simp [plD] at h
  | n, .cst _, h => by cases n <;> simp [plD] at h
theorem plDs_py : ∀ (n : Nat) (ds : List D), plDs n ds = true → ∃ ps, toPys ds = some ps ∧ PyData.canLayAll0 ps = true ∧ PyData.depthAll ps ≤ n ∧ PyData.eqvAll ps ps = true
  | n, [], _ => ⟨[], by simp [toPys], by simp [PyData.canLayAll0], by simp [PyData.depthAll], by simp [PyData.eqvAll]⟩
  | n, d :: ds, h => by
    rw [plDs, Bool.and_eq_true] at h
    obtain ⟨p, a1, a2, a3, a4⟩ := plD_py n d h.1
    obtain ⟨ps, b1, b2, b3, b4⟩ := plDs_py n ds h.2
    exact ⟨p :: ps, by simp [toPys, a1, b1], by simp [PyData.canLayAll0, a2, b2], by simp [PyData.depthAll]; omega, by simp [PyData.eqvAll, a4, b4]⟩
end
theorem eqO_self {n : Nat} {d : D} (h : plD n d = true) (hn : n ≤ 30) : eqO d d = some true := by
  obtain ⟨p, h1, h2, h3, h4⟩ := plD_py n d h
  have s : SeqAt.shaped p = true := by
    unfold SeqAt.shaped
    rw [h2]
    simp
    omega
  unfold eqO
  split
  · simp
  · simp
  · simp
  · rw [h1]
    dsimp only
    rw [s, h4]
    rfl
theorem plDs_of {n : Nat} : ∀ {ds : List D}, (∀ d ∈ ds, plD n d = true) → plDs n ds = true
  | [], _ => by simp [plDs]
  | d :: ds, h => by
    rw [plDs, h d (List.mem_cons_self ..), plDs_of fun x hx => h x (List.mem_cons_of_mem _ hx)]
    rfl
theorem plD_lst {n : Nat} {ds : List D} (h : ∀ d ∈ ds, plD n d = true) : plD (n + 1) (.lst ds) = true := by
  rw [plD]
  exact plDs_of h
theorem plD_tup {n : Nat} {ds : List D} (h : ∀ d ∈ ds, plD n d = true) : plD (n + 1) (.tup ds) = true := by
  rw [plD]
  exact plDs_of h
theorem plD_int (n : Nat) (i : Int) : plD n (.int i) = true := by simp [plD]
theorem plD_ints (n : Nat) (is : List Int) : plD (n + 1) (.lst (is.map D.int)) = true := plD_lst fun d hd => by
  obtain ⟨i, _, rfl⟩ := List.mem_map.mp hd
  exact plD_int n i
theorem eqO_row {ds : List D} (h : ∀ d ∈ ds, plD 0 d = true) : eqO (.lst ds) (.lst ds) = some true := eqO_self (n := 1) (plD_lst h) (by decide)
end Ev

set_option maxRecDepth 100000
/-! Ev5: the rules of Mv40, applied -/
namespace Ev
open Mv
theorem srtL_ap (iss : List (List Int)) (f : Fl) (h : f ≠ .t) : gSortL [(f, .lst (iss.map rL))] = some (.lst ((sortL iss).map rL), .n) := by
  unfold gSortL
  dsimp only
  rw [if_neg h, rows_of]
  rfl
theorem sortL_perm (iss : List (List Int)) : (sortL iss).Perm iss := List.mergeSort_perm ..
theorem sortL_sorted (iss : List (List Int)) : (sortL iss).Pairwise fun p q => p ≤ q := by
  have h := List.pairwise_mergeSort (le := fun p q : List Int => decide (p ≤ q)) (fun a b c h1 h2 => by
    rw [decide_eq_true_eq] at *
    exact List.le_trans h1 h2) (fun a b => by
    rw [Bool.or_eq_true, decide_eq_true_eq, decide_eq_true_eq]
    exact List.le_total a b) iss
  exact h.imp fun {p q} h => of_decide_eq_true h
end Ev

set_option maxHeartbeats 4000000
/-! the mirrors of codewright_k32_dull_machines_and_lightes, printed by gen.py -/
namespace Mir
open PySem Mv
set_option maxRecDepth 100000
noncomputable def b__law_whole : SM :=
    (sRet (eAnd (eCal (gIsi "int" isiInt) (aCons (eVar 0) (aCons (eC (.cst (.ty "int"))) aNil))) (eNot (eCal (gIsi "bool" (isiOne "bool")) (aCons (eVar 0) (aCons (eC (.cst (.ty "bool"))) aNil))))))
noncomputable def m__law_whole : FM := fnM 1 b__law_whole
noncomputable def b__law_is : SM :=
    (sRet (eAnd (eCal (gIsi "list" (isiOne "list")) (aCons (eVar 0) (aCons (eC (.cst (.ty "list"))) aNil))) (eAnd (eBin (gEq false) (eVar 0) (eVar 1)) (eCal gAll (aCons (eLc (iSeq (eVar 0)) [2] (gN 2) tYesM (eFn 1 m__law_whole (aCons (eVar 2) aNil))) aNil)))))
noncomputable def m__law_is : FM := fnM 3 b__law_is
noncomputable def b__law_step : SM :=
    (sSeq (sSet 4 (eBin gAdd (eBin gMul (eC (.int 2)) (eVar 2)) (eVar 3)))
    (sSeq (sSet 5 (eLc (iSeq (eVar 1)) [6] (gN 6) tYesM (eBin gMod (eCal gSum (aCons (eLc (iArgs gRng1 (aCons (eBin gAdd (eVar 0) (eC (.int 1))) aNil)) [7] (gN 7) tYesM (eBin gAnd (eBin gAnd (eBin gShr (eVar 4) (eVar 7)) (eBin gShr (eVar 6) (eVar 7))) (eC (.int 1)))) aNil)) (eC (.int 2)))))
    (sRet (eTup (aCons (eBin gMod (eVar 4) (eBin gShl (eC (.int 1)) (eVar 0))) (aCons (eVar 5) aNil))))))
noncomputable def m__law_step : FM := fnM 8 b__law_step
noncomputable def b__law_steps : SM :=
    (sSeq (sSet 3 (eLc (iSeq (eTup (aCons (eC (.int 0)) (aCons (eC (.int 1)) aNil)))) [4] (gN 4) tYesM (eFn 4 m__law_step (aCons (eVar 0) (aCons (eVar 1) (aCons (eVar 2) (aCons (eVar 4) aNil)))))))
    (sRet (eLc (iSeq (eVar 3)) [5, 6] (gT 2 (gsC (gN 5) (gsC (gN 6) gsN))) (tAndM (tVal (eBin (gEq false) (eCal gSum (aCons (eVar 6) aNil)) (eC (.int 0)))) (tVal (eBin gGt (eBin gAdd (eVar 5) (eVar 2)) (eC (.int 0))))) (eVar 5))))
noncomputable def m__law_steps : FM := fnM 7 b__law_steps
noncomputable def b__law_is_dull : SM :=
    (sSeq (sSet 2 (eG1 gLRg (eBin gShl (eC (.int 1)) (eVar 0))))
    (sSeq (sFor (iArgs gRng1 (aCons (eBin gShl (eC (.int 1)) (eVar 0)) aNil)) (gN 3) (sSet 2 (eLc (iSeq (eVar 2)) [4] (gN 4) (tVal (eBin (gEq true) (eLc (iSeq (eFn 3 m__law_steps (aCons (eVar 0) (aCons (eVar 1) (aCons (eVar 4) aNil))))) [5] (gN 5) (tVal (eBin (gIn false) (eVar 5) (eVar 2))) (eVar 5)) (eLst aNil))) (eVar 4))))
    (sRet (eBin (gEq true) (eVar 2) (eLst aNil)))))
noncomputable def m__law_is_dull : FM := fnM 6 b__law_is_dull
noncomputable def b__law_is_ring : SM :=
    (sSeq (sIf (tOrM (tNotM (tVal (eCal (gIsi "list" (isiOne "list")) (aCons (eVar 2) (aCons (eC (.cst (.ty "list"))) aNil))))) (tOrM (tVal (eBin (gEq false) (eVar 2) (eLst aNil))) (tVal (eBin (gEq false) (eVar 2) (eLst (aCons (eC (.int 0)) aNil)))))) (sRet (eC (.bl false))) sNil)
    (sSeq (sIf (tNotM (tVal (eCal gAll (aCons (eLc (iSeq (eVar 2)) [3] (gN 3) tYesM (eFn 1 m__law_whole (aCons (eVar 3) aNil))) aNil)))) (sRet (eC (.bl false))) sNil)
    (sSeq (sIf (tOrM (tVal (eBin gLt (eCal gMin (aCons (eVar 2) aNil)) (eC (.int 0)))) (tOrM (tVal (eBin gGt (eBin gShr (eCal gMax (aCons (eVar 2) aNil)) (eVar 0)) (eC (.int 0)))) (tVal (eBin (gEq true) (eG1 gSrtSet (eVar 2)) (eCal gSorted (aCons (eVar 2) aNil)))))) (sRet (eC (.bl false))) sNil)
    (sSeq (sFor (iArgs gZip (aCons (eVar 2) (aCons (eBin gAdd (eSl (eVar 2) (oSo (eC (.int 1))) oNo) (eSl (eVar 2) oNo (oSo (eC (.int 1))))) aNil))) (gT 2 (gsC (gN 3) (gsC (gN 4) gsN))) (sIf (tVal (eBin (gIn true) (eVar 4) (eFn 3 m__law_steps (aCons (eVar 0) (aCons (eVar 1) (aCons (eVar 3) aNil)))))) (sRet (eC (.bl false))) sNil))
    (sRet (eC (.bl true)))))))
noncomputable def m__law_is_ring : FM := fnM 5 b__law_is_ring
noncomputable def b__law_tail : SM :=
    (sSeq (sSet 3 (eC (.int 0)))
    (sSeq (sFor (iArgs gRng1 (aCons (eVar 0) aNil)) (gN 4) (sSeq (sAsg (gT 2 (gsC (gN 2) (gsC (gN 5) gsN))) (eFn 4 m__law_step (aCons (eVar 0) (aCons (eVar 1) (aCons (eVar 2) (aCons (eC (.int 0)) aNil))))))
    (sSet 3 (eBin gAdd (eVar 3) (eCal gSum (aCons (eVar 5) aNil))))))
    (sRetV 3)))
noncomputable def m__law_tail : FM := fnM 6 b__law_tail
noncomputable def b__law_lightest : SM :=
    (sSeq (sAsg (gT 2 (gsC (gN 2) (gsC (gN 3) gsN))) (eFn 4 m__law_step (aCons (eVar 0) (aCons (eVar 1) (aCons (eC (.int 0)) (aCons (eC (.int 1)) aNil))))))
    (sSeq (sOwn 4 (eDisp (dpCons (eVar 2) (eTup (aCons (eCal gSum (aCons (eVar 3) aNil)) (aCons (eLst (aCons (eC (.int 1)) aNil)) aNil))) dpNil)))
    (sSeq (sSet 5 (eC .non))
    (sSeq (sFor (iArgs gRng1 (aCons (eC (.int 30)) aNil)) (gN 6) (sSeq (sItmK 4 (gT 2 (gsC (gN 2) (gsC (gN 7) gsN))) (sSeq (sSet 8 (eTup (aCons (eBin gAdd (eBin gIx (eVar 7) (eC (.int 0))) (eFn 3 m__law_tail (aCons (eVar 0) (aCons (eVar 1) (aCons (eVar 2) aNil))))) (aCons (eCal gLen (aCons (eBin gIx (eVar 7) (eC (.int 1))) aNil)) (aCons (eBin gIx (eVar 7) (eC (.int 1))) aNil)))))
    (sIf (tOrM (tVal (eBin (gIsN false) (eVar 5) (eC .non))) (tVal (eBin gLtT (eVar 8) (eVar 5)))) (sSet 5 (eVar 8)) sNil)))
    (sSeq (sOwn 9 eDict0)
    (sSeq (sItmK 4 (gT 2 (gsC (gN 2) (gsC (gN 7) gsN))) (sFor (iSeq (eTup (aCons (eC (.int 0)) (aCons (eC (.int 1)) aNil)))) (gN 10) (sSeq (sAsg (gT 2 (gsC (gN 11) (gsC (gN 12) gsN))) (eFn 4 m__law_step (aCons (eVar 0) (aCons (eVar 1) (aCons (eVar 2) (aCons (eVar 10) aNil))))))
    (sSeq (sSet 8 (eTup (aCons (eBin gAdd (eBin gIx (eVar 7) (eC (.int 0))) (eCal gSum (aCons (eVar 12) aNil))) (aCons (eBin gAdd (eBin gIx (eVar 7) (eC (.int 1))) (eLst (aCons (eVar 10) aNil))) aNil))))
    (sIf (tOrM (tVal (eBin gDNi (eVar 11) (eVar 9))) (tVal (eBin gLtL (eVar 8) (eBin gDIx (eVar 9) (eVar 11))))) (sDSub 9 (eVar 11) (eVar 8)) sNil)))))
    (sMove 4 9)))))
    (sRet (eTup (aCons (eBin gIx (eVar 5) (eC (.int 0))) (aCons (eBin gIx (eVar 5) (eC (.int 2))) aNil))))))))
noncomputable def m__law_lightest : FM := fnM 13 b__law_lightest
noncomputable def b__law_draw : SM :=
    (sSeq (sSet 2 (eC (.int 0)))
    (sSeq (sIf (tVal (eBin (gEq true) (eVar 0) (eLst aNil))) (sSet 2 (eBin gAdd (eBin gMul (eC (.int 31)) (eCal gSum (aCons (eVar 0) aNil))) (eBin gIx (eVar 0) (eBin gMod (eVar 1) (eCal gLen (aCons (eVar 0) aNil)))))) sNil)
    (sSeq (sSet 3 (eBin gAdd (eBin gAdd (eBin gMod (eVar 2) (eC (.int 1000000007))) (eBin gMul (eC (.int 7919)) (eVar 1))) (eC (.int 13))))
    (sRet (eBin gDiv (eBin gMod (eBin gMul (eBin gMod (eBin gMul (eVar 3) (eVar 3)) (eC (.int 1000000007))) (eVar 3)) (eC (.int 998244353))) (eC (.int 11)))))))
noncomputable def m__law_draw : FM := fnM 4 b__law_draw
noncomputable def b__law_machine : SM :=
    (sSeq (sSet 2 (eFn 2 m__law_draw (aCons (eVar 0) (aCons (eVar 1) aNil))))
    (sSeq (sSet 3 (eBin gAdd (eC (.int 1)) (eBin gMod (eVar 2) (eC (.int 4)))))
    (sSeq (sSet 4 (eLc (iArgs gRng1 (aCons (eBin gAdd (eC (.int 2)) (eBin gMod (eBin gDiv (eVar 2) (eC (.int 4))) (eC (.int 3)))) aNil)) [5] (gN 5) tYesM (eBin gAdd (eC (.int 1)) (eBin gMod (eBin gDiv (eFn 2 m__law_draw (aCons (eVar 0) (aCons (eBin gAdd (eBin gAdd (eVar 1) (eC (.int 1))) (eVar 5)) aNil))) (eC (.int 3))) (eBin gSub (eBin gShl (eC (.int 2)) (eVar 3)) (eC (.int 1)))))))
    (sSeq (sIf (tVal (eBin (gEq false) (eBin gMod (eBin gDiv (eVar 2) (eC (.int 16))) (eC (.int 4))) (eC (.int 1)))) (sAsg (gT 2 (gsC (gN 3) (gsC (gN 4) gsN))) (eBin gIx (eLst (aCons (eTup (aCons (eC (.int 2)) (aCons (eLst (aCons (eC (.int 7)) (aCons (eC (.int 5)) aNil))) aNil))) (aCons (eTup (aCons (eC (.int 2)) (aCons (eLst (aCons (eC (.int 7)) (aCons (eC (.int 6)) (aCons (eC (.int 5)) aNil)))) aNil))) (aCons (eTup (aCons (eC (.int 3)) (aCons (eLst (aCons (eC (.int 15)) (aCons (eC (.int 13)) aNil))) aNil))) (aCons (eTup (aCons (eC (.int 4)) (aCons (eLst (aCons (eC (.int 19)) (aCons (eC (.int 29)) aNil))) aNil))) aNil))))) (eBin gMod (eBin gDiv (eVar 2) (eC (.int 64))) (eC (.int 4))))) sNil)
    (sRet (eTup (aCons (eVar 3) (aCons (eVar 4) aNil))))))))
noncomputable def m__law_machine : FM := fnM 6 b__law_machine
noncomputable def b__law_own : SM :=
    (sSeq (sAsg (gT 2 (gsC (gN 2) (gsC (gN 3) gsN))) (eFn 2 m__law_machine (aCons (eVar 0) (aCons (eVar 1) aNil))))
    (sSeq (sSet 4 (eFn 2 m__law_draw (aCons (eVar 0) (aCons (eBin gAdd (eVar 1) (eC (.int 9))) aNil))))
    (sSeq (sIf (tVal (eBin (gEq false) (eBin gMod (eVar 4) (eC (.int 4))) (eC (.int 1)))) (sSeq (sSet 5 (eLst (aCons (eTup (aCons (eC (.int 1)) (aCons (eLst (aCons (eC (.int 3)) (aCons (eC (.int 3)) aNil))) aNil))) (aCons (eTup (aCons (eC (.int 2)) (aCons (eLst (aCons (eC (.int 5)) (aCons (eC (.int 3)) aNil))) aNil))) (aCons (eTup (aCons (eC (.int 2)) (aCons (eLst (aCons (eC (.int 6)) (aCons (eC (.int 6)) aNil))) aNil))) (aCons (eTup (aCons (eC (.int 3)) (aCons (eLst (aCons (eC (.int 9)) (aCons (eC (.int 5)) aNil))) aNil))) (aCons (eTup (aCons (eC (.int 3)) (aCons (eLst (aCons (eC (.int 15)) (aCons (eC (.int 10)) aNil))) aNil))) (aCons (eTup (aCons (eC (.int 4)) (aCons (eLst (aCons (eC (.int 17)) (aCons (eC (.int 10)) aNil))) aNil))) aNil))))))))
    (sAsg (gT 2 (gsC (gN 2) (gsC (gN 3) gsN))) (eBin gIx (eVar 5) (eBin gMod (eBin gDiv (eVar 4) (eC (.int 4))) (eC (.int 6)))))) sNil)
    (sRet (eTup (aCons (eVar 2) (aCons (eVar 3) aNil)))))))
noncomputable def m__law_own : FM := fnM 6 b__law_own
noncomputable def b_weight : SM :=
    (sSeq (sSet 1 (eC (.int 0)))
    (sSeq (sWhile (tVal (eBin gGt (eVar 0) (eC (.int 0)))) (sSeq (sSet 1 (eBin gAdd (eVar 1) (eBin gAnd (eVar 0) (eC (.int 1)))))
    (sSet 0 (eBin gShr (eVar 0) (eC (.int 1))))))
    (sRetV 1)))
noncomputable def m_weight : FM := fnM 2 b_weight
noncomputable def b_is_odd : SM :=
    (sRet (eBin (gEq false) (eBin gMod (eFn 1 m_weight (aCons (eVar 0) aNil)) (eC (.int 2))) (eC (.int 1))))
noncomputable def m_is_odd : FM := fnM 1 b_is_odd
noncomputable def b_Machine_step : SM :=
    (sSeq (sSet 3 (eBin gOr (eBin gShl (eVar 1) (eC (.int 1))) (eVar 2)))
    (sRet (eTup (aCons (eBin gAnd (eVar 3) (eBin gSub (eFld [0] 2 (eVar 0)) (eC (.int 1)))) (aCons (eLc (iSeq (eFld [0] 1 (eVar 0))) [4] (gN 4) tYesM (eCal gIntT (aCons (eFn 1 m_is_odd (aCons (eBin gAnd (eVar 3) (eVar 4)) aNil)) aNil))) aNil)))))
noncomputable def m_Machine_step : FM := fnM 5 b_Machine_step
noncomputable def b_Machine_unlike : SM :=
    (sRet (eCal gLen (aCons (eLc (iArgs gZip (aCons (eVar 1) (aCons (eVar 2) aNil))) [3, 4] (gT 2 (gsC (gN 3) (gsC (gN 4) gsN))) (tAndM (tVal (eBin (gIsN true) (eVar 4) (eC .non))) (tVal (eBin (gEq true) (eVar 3) (eVar 4)))) (eC (.bl true))) aNil)))
noncomputable def m_Machine_unlike : FM := fnM 5 b_Machine_unlike
noncomputable def b_lesser : SM :=
    (sSeq (sIf (tOrM (tVal (eBin (gIsN false) (eVar 0) (eC .non))) (tVal (eBin (gIsN false) (eVar 1) (eC .non)))) (sRet (eIf (tVal (eBin (gIsN false) (eVar 0) (eC .non))) (eVar 1) (eVar 0))) sNil)
    (sRet (eCal gMin (aCons (eVar 0) (aCons (eVar 1) aNil)))))
noncomputable def m_lesser : FM := fnM 2 b_lesser
noncomputable def b_Machine_bits_at : SM :=
    (sRet (eIf (tVal (eBin gLt (eVar 1) (eBin gSub (eCal gLen (aCons (eVar 2) aNil)) (eFld [0] 0 (eVar 0))))) (eLst (aCons (eC (.int 0)) (aCons (eC (.int 1)) aNil))) (eLst (aCons (eC (.int 0)) aNil))))
noncomputable def m_Machine_bits_at : FM := fnM 3 b_Machine_bits_at
noncomputable def tab_step : Nat → Option FM := fun C => if C = 0 then some m_Machine_step else none
noncomputable def tab_unlike : Nat → Option FM := fun C => if C = 0 then some m_Machine_unlike else none
noncomputable def tab_bits_at : Nat → Option FM := fun C => if C = 0 then some m_Machine_bits_at else none
noncomputable def b_Machine_ways_on : SM :=
    (sSeq (sSet 2 (eLst (aCons (eBin gMul (eLst (aCons (eC (.int 0)) aNil)) (eFld [0] 2 (eVar 0))) aNil)))
    (sSeq (sFor (iRevR (eCal gLen (aCons (eVar 1) aNil))) (gN 3) (sSeq (sOwn 4 (eLst aNil))
    (sSeq (sFor (iArgs gRng1 (aCons (eFld [0] 2 (eVar 0)) aNil)) (gN 5) (sSeq (sSet 6 (eC .non))
    (sSeq (sFor (iSeq (eMe 3 tab_bits_at (eVar 0) (aCons (eVar 3) (aCons (eVar 1) aNil)))) (gN 7) (sSeq (sAsg (gT 2 (gsC (gN 8) (gsC (gN 9) gsN))) (eMe 3 tab_step (eVar 0) (aCons (eVar 5) (aCons (eVar 7) aNil))))
    (sSet 6 (eFn 2 m_lesser (aCons (eVar 6) (aCons (eBin gAdd (eBin gIx (eBin gIx (eVar 2) (eC (.int 0))) (eVar 8)) (eMe 3 tab_unlike (eVar 0) (aCons (eVar 9) (aCons (eBin gIx (eVar 1) (eVar 3)) aNil)))) aNil))))))
    (sApp 4 (eVar 6)))))
    (sDem 4 (sSet 2 (eBin gAdd (eLst (aCons (eVar 4) aNil)) (eVar 2)))))))
    (sRetV 2)))
noncomputable def m_Machine_ways_on : FM := fnM 10 b_Machine_ways_on
noncomputable def tab_ways_on : Nat → Option FM := fun C => if C = 0 then some m_Machine_ways_on else none
noncomputable def b_Machine_read_on : SM :=
    (sSeq (sSet 3 (eMe 2 tab_ways_on (eVar 0) (aCons (eVar 2) aNil)))
    (sSeq (sSet 4 (eBin gIx (eBin gIx (eVar 3) (eC (.int 0))) (eVar 1)))
    (sSeq (sOwn 5 (eLst aNil))
    (sSeq (sFor (iArgs gRng1 (aCons (eBin gSub (eCal gLen (aCons (eVar 2) aNil)) (eFld [0] 0 (eVar 0))) aNil)) (gN 6) (sSeq (sAsg (gT 2 (gsC (gN 7) (gsC (gN 8) gsN))) (eMe 3 tab_step (eVar 0) (aCons (eVar 1) (aCons (eC (.int 0)) aNil))))
    (sSeq (sSet 9 (eCal gIntT (aCons (eBin gGt (eBin gAdd (eBin gIx (eBin gIx (eVar 3) (eBin gAdd (eVar 6) (eC (.int 1)))) (eVar 7)) (eMe 3 tab_unlike (eVar 0) (aCons (eVar 8) (aCons (eBin gIx (eVar 2) (eVar 6)) aNil)))) (eBin gIx (eBin gIx (eVar 3) (eVar 6)) (eVar 1))) aNil)))
    (sSeq (sApp 5 (eVar 9))
    (sSet 1 (eBin gIx (eMe 3 tab_step (eVar 0) (aCons (eVar 1) (aCons (eVar 9) aNil))) (eC (.int 0))))))))
    (sDem 5 (sRet (eTup (aCons (eVar 4) (aCons (eVar 5) aNil)))))))))
noncomputable def m_Machine_read_on : FM := fnM 10 b_Machine_read_on
noncomputable def b_Machine_dull_steps : SM :=
    (sSeq (sOwn 2 (eLst aNil))
    (sSeq (sFor (iSeq (eTup (aCons (eC (.int 0)) (aCons (eC (.int 1)) aNil)))) (gN 3) (sSeq (sAsg (gT 2 (gsC (gN 4) (gsC (gN 5) gsN))) (eMe 3 tab_step (eVar 0) (aCons (eVar 1) (aCons (eVar 3) aNil))))
    (sIf (tAndM (tVal (eBin (gEq false) (eCal gSum (aCons (eVar 5) aNil)) (eC (.int 0)))) (tVal (eBin gGt (eBin gAdd (eVar 4) (eVar 1)) (eC (.int 0))))) (sApp 2 (eVar 4)) sNil)))
    (sRetV 2)))
noncomputable def m_Machine_dull_steps : FM := fnM 6 b_Machine_dull_steps
noncomputable def tab_dull_steps : Nat → Option FM := fun C => if C = 0 then some m_Machine_dull_steps else none
noncomputable def b_Machine_ring_from : SM :=
    (sSeq (sOwn 2 eDict0)
    (sSeq (sOwn 3 (eMe 2 tab_dull_steps (eVar 0) (aCons (eVar 1) aNil)))
    (sSeq (sForO 3 (gN 4) (sDSub 2 (eVar 4) (eLst (aCons (eVar 1) aNil))))
    (sSeq (sSet 5 (eC (.int 0)))
    (sSeq (sWhile (tVal (eBin gLt (eVar 5) (eCal gLen (aCons (eVar 3) aNil)))) (sSeq (sSet 6 (eBin gIx (eVar 3) (eVar 5)))
    (sSeq (sIf (tVal (eBin (gEq false) (eVar 6) (eVar 1))) (sRet (eBin gDIx (eVar 2) (eVar 6))) sNil)
    (sSeq (sFor (iSeq (eMe 2 tab_dull_steps (eVar 0) (aCons (eVar 6) aNil))) (gN 4) (sIf (tVal (eBin gDNi (eVar 4) (eVar 2))) (sSeq (sDSub 2 (eVar 4) (eBin gAdd (eBin gDIx (eVar 2) (eVar 6)) (eLst (aCons (eVar 6) aNil))))
    (sApp 3 (eVar 4))) sNil))
    (sInc 5 (eC (.int 1)))))))
    (sRet (eC .non)))))))
noncomputable def m_Machine_ring_from : FM := fnM 7 b_Machine_ring_from
noncomputable def tab_ring_from : Nat → Option FM := fun C => if C = 0 then some m_Machine_ring_from else none
noncomputable def b_Machine_ring : SM :=
    (sSeq (sFor (iArgs gRng1 (aCons (eFld [0] 2 (eVar 0)) aNil)) (gN 1) (sSeq (sSet 2 (eMe 2 tab_ring_from (eVar 0) (aCons (eVar 1) aNil)))
    (sIf (tVal (eBin (gIsN true) (eVar 2) (eC .non))) (sRetV 2) sNil)))
    (sRet (eC .non)))
noncomputable def m_Machine_ring : FM := fnM 3 b_Machine_ring
noncomputable def tab_ring : Nat → Option FM := fun C => if C = 0 then some m_Machine_ring else none
noncomputable def tab_read_on : Nat → Option FM := fun C => if C = 0 then some m_Machine_read_on else none
noncomputable def b_Machine_lightest : SM :=
    (sSeq (sIf (tVal (eBin (gIsN true) (eMe 1 tab_ring (eVar 0) aNil) (eC .non))) (sRet (eC .non)) sNil)
    (sSeq (sSet 1 (eC .non))
    (sSeq (sFor (iArgs gRng1 (aCons (eFld [0] 2 (eVar 0)) aNil)) (gN 2) (sSeq (sAsg (gT 2 (gsC (gN 3) (gsC (gN 4) gsN))) (eMe 3 tab_read_on (eVar 0) (aCons (eC (.int 1)) (aCons (eBin gMul (eLst (aCons (eBin gMul (eLst (aCons (eC (.int 0)) aNil)) (eCal gLen (aCons (eFld [0] 1 (eVar 0)) aNil))) aNil)) (eBin gAdd (eVar 2) (eFld [0] 0 (eVar 0)))) aNil))))
    (sSeq (sSet 3 (eBin gAdd (eVar 3) (eCal gSum (aCons (eBin gIx (eMe 3 tab_step (eVar 0) (aCons (eC (.int 0)) (aCons (eC (.int 1)) aNil))) (eC (.int 1))) aNil))))
    (sIf (tOrM (tVal (eBin (gIsN false) (eVar 1) (eC .non))) (tVal (eBin gLt (eVar 3) (eBin gIx (eVar 1) (eC (.int 0)))))) (sSet 1 (eTup (aCons (eVar 3) (aCons (eBin gAdd (eLst (aCons (eC (.int 1)) aNil)) (eVar 4)) aNil)))) sNil))))
    (sRetV 1))))
noncomputable def m_Machine_lightest : FM := fnM 5 b_Machine_lightest
noncomputable def b_is_whole : SM :=
    (sRet (eAnd (eCal (gIsi "int" isiInt) (aCons (eVar 0) (aCons (eC (.cst (.ty "int"))) aNil))) (eNot (eCal (gIsi "bool" (isiOne "bool")) (aCons (eVar 0) (aCons (eC (.cst (.ty "bool"))) aNil))))))
noncomputable def m_is_whole : FM := fnM 1 b_is_whole
noncomputable def b_is_among : SM :=
    (sRet (eAnd (eFn 1 m_is_whole (aCons (eVar 0) aNil)) (eChain gLe gLe (eVar 1) (eVar 0) (eVar 2))))
noncomputable def m_is_among : FM := fnM 3 b_is_among
noncomputable def b_Machine___init__ : SM :=
    (sSeq (sIf (tNotM (tVal (eFn 3 m_is_among (aCons (eVar 1) (aCons (eC (.int 1)) (aCons (eC (.int 4)) aNil)))))) (sRaise 3) sNil)
    (sSeq (sIf (tOrM (tNotM (tVal (eCal (gIsi "list" (isiOne "list")) (aCons (eVar 2) (aCons (eC (.cst (.ty "list"))) aNil))))) (tNotM (tVal (eChain gLe gLe (eC (.int 2)) (eCal gLen (aCons (eVar 2) aNil)) (eC (.int 4)))))) (sRaise 3) sNil)
    (sSeq (sIf (tNotM (tVal (eCal gAll (aCons (eLc (iSeq (eVar 2)) [3] (gN 3) tYesM (eFn 3 m_is_among (aCons (eVar 3) (aCons (eC (.int 1)) (aCons (eBin gSub (eBin gShl (eC (.int 1)) (eBin gAdd (eVar 1) (eC (.int 1)))) (eC (.int 1))) aNil))))) aNil)))) (sRaise 3) sNil)
    (sSeq (sAt [0] 0 (eVar 0) (eVar 1))
    (sSeq (sAt [0] 1 (eVar 0) (eFrz (eCal gList (aCons (eVar 2) aNil))))
    (sAt [0] 2 (eVar 0) (eBin gShl (eC (.int 1)) (eVar 1))))))))
noncomputable def m_Machine___init__ : FM := fnM 4 b_Machine___init__
noncomputable def tab_lightest : Nat → Option FM := fun C => if C = 0 then some m_Machine_lightest else none
noncomputable def b_law : SM :=
    (sSeq (sFor (iArgs gRng1 (aCons (eC (.int 4)) aNil)) (gN 1) (sSeq (sAsg (gT 2 (gsC (gN 2) (gsC (gN 3) gsN))) (eFn 2 m__law_own (aCons (eVar 0) (aCons (eBin gMul (eC (.int 20)) (eVar 1)) aNil))))
    (sSeq (sSet 4 (eNew 0 3 m_Machine___init__ (aCons (eVar 2) (aCons (eVar 3) aNil))))
    (sDeep 5 (eNewM 1 tab_ring (eVar 4) aNil)
    (sDeep 6 (eNewM 1 tab_lightest (eVar 4) aNil)
    (sIf (tVal (eFn 2 m__law_is_dull (aCons (eVar 2) (aCons (eVar 3) aNil)))) (sSeq (sIf (tOrM (tNotM (tVal (eFnP 3 m__law_is_ring (aCons (eVar 2) (aCons (eVar 3) (aCons (eVarD 5) aNil)))))) (tVal (eBin (gIsN true) (eVarD 6) (eC .non)))) (sRet (eC (.bl false))) sNil)
    (sSeq (sSet 7 (eCal gListG (aCons (eVarD 5) aNil)))
    (sSeq (sAp0 5 (eC (.int 99)))
    (sIf (tVal (eBin (gEq true) (eMe 1 tab_ring (eVar 4) aNil) (eVar 7))) (sRet (eC (.bl false))) sNil)))) (sIf (tVal (eBin (gIsN true) (eVarD 5) (eC .non))) (sRet (eC (.bl false))) (sSeq (sSet 8 (eFn 2 m__law_lightest (aCons (eVar 2) (aCons (eVar 3) aNil))))
    (sSeq (sIf (tOrM (tNotM (tVal (eCal (gIsi "tuple" (isiOne "tuple")) (aCons (eVarD 6) (aCons (eC (.cst (.ty "tuple"))) aNil))))) (tOrM (tVal (eBin (gEq true) (eVarD 6) (eVar 8))) (tNotM (tVal (eFn 1 m__law_whole (aCons (eIxD 6 (eC (.int 0))) aNil)))))) (sRet (eC (.bl false))) sNil)
    (sSeq (sIf (tNotM (tVal (eFn 2 m__law_is (aCons (eIxD 6 (eC (.int 1))) (aCons (eBin gIx (eVar 8) (eC (.int 1))) aNil))))) (sRet (eC (.bl false))) sNil)
    (sSeq (sApD 6 (eC (.int 1)) (eC (.int 1)))
    (sIf (tVal (eBin (gEq true) (eMe 1 tab_lightest (eVar 4) aNil) (eVar 8))) (sRet (eC (.bl false))) sNil))))))))))))
    (sRet (eC (.bl true))))
noncomputable def m_law : FM := fnM 9 b_law
end Mir

set_option maxRecDepth 100000
set_option maxHeartbeats 4000000
namespace Fin
open Mv Mir Ev
open PySem (sizeLine sizeLine_eq)
open L2 (atI ixN)
theorem s_is_whole_int (i : Int) (f : Fl) (S : Store) : m_is_whole [(f, .int i)] S = .ok (.bl true, .c) S := by
  simp [m_is_whole, b_is_whole, isiOne]
def wholeD : D → Bool
  | .int _ => true
  | _ => false
theorem s_is_whole (d : D) (f : Fl) (S : Store) (h : (tyD d).isSome = true) : m_is_whole [(f, d)] S = .ok (.bl (wholeD d), .c) S := by
  cases d with
  | ins n => cases h
  | cst v => cases h
  | _ => simp [m_is_whole, b_is_whole, isiOne, wholeD]
def amongD (d : D) (lo hi : Int) : Bool := match d with
  | .int i => decide (lo ≤ i ∧ i ≤ hi)
  | _ => false
theorem s_is_among (d : D) (lo hi : Int) (f f1 f2 : Fl) (S : Store) (h : (tyD d).isSome = true) : m_is_among [(f, d), (f1, .int lo), (f2, .int hi)] S = .ok (.bl (amongD d lo hi), .c) S := by
  cases d with
  | ins n => cases h
  | cst v => cases h
  | int i =>
    simp [m_is_among, b_is_among, s_is_whole, wholeD, amongD]
    split <;> simp [*]
  | _ => simp [m_is_among, b_is_among, s_is_whole, wholeD, amongD]
def drawF (ns : List Int) (k : Int) : Int :=
  let cell : Int := if ns = [] then 0 else 31 * ns.sum + ns.getD (k % ns.length).toNat 0
  let number := cell % 1000000007 + 7919 * k + 13
  number * number % 1000000007 * number % 998244353 / 11
theorem s_draw (ns : List Int) (k : Int) (f2 : Fl) (S : Store) (hk : 0 ≤ k ∧ k ≤ 1000000) : m__law_draw [(.c, .frz (ns.map D.int)), (f2, .int k)] S = .ok (.int (drawF ns k), .c) S := by
  have m1 : mulOk 7919 k = true := mulOk_l (by decide)
  have m3 : ∀ c x : Int, mulOk x (c % 1000000007 + 7919 * k + 13) = true := fun c x => mulOk_r (by omega)
  have m4 : ∀ x : Int, mulOk x (7919 * k + 13) = true := fun x => mulOk_r (by omega)
  have lg : Nat.log2 11 < 9000 := by decide +kernel
  by_cases h : ns = []
  · subst h
    simp [m__law_draw, b__law_draw, drawF, m1, m3, m4, lg]
  · have hl : 0 < ns.length := List.length_pos_iff.mpr h
    have a : atI (ns.map D.int) (k % ns.length) = some (.int (ns.getD (k % ns.length).toNat 0)) := atI_i (Int.emod_nonneg _ (by omega)) (Int.emod_lt_of_pos _ (by omega))
    have m0 : ∀ x, mulOk 31 x = true := fun x => mulOk_l (by decide)
    simp [m__law_draw, b__law_draw, drawF, h, a, m0, m1, m3, m4, hl, lg]
theorem draw_nn (ns : List Int) (k : Int) : 0 ≤ drawF ns k := by
  unfold drawF
  dsimp only
  have := Int.emod_nonneg ((((if ns = [] then 0 else 31 * ns.sum + ns.getD (k % ns.length).toNat 0) % 1000000007 + 7919 * k + 13) * ((if ns = [] then 0 else 31 * ns.sum + ns.getD (k % ns.length).toNat 0) % 1000000007 + 7919 * k + 13) % 1000000007 * ((if ns = [] then 0 else 31 * ns.sum + ns.getD (k % ns.length).toNat 0) % 1000000007 + 7919 * k + 13))) (show (998244353 : Int) ≠ 0 by decide)
  omega
/-- popcount of a small number -/
def wtF : Nat → Int
  | 0 => 0
  | n + 1 => ((n + 1) % 2 : Nat) + wtF ((n + 1) / 2)
theorem s_weight (n : Nat) (f : Fl) (S : Store) : m_weight [(f, .int n)] S = .ok (.int (wtF n), .c) S := by
  have go : ∀ (fuel n : Nat) (g : Fl) (acc : Int), n ≤ fuel → ∃ g' , loopN (tVal (eBin gGt (eVar 0) (eC (.int 0)))) (sSeq (sSet 1 (eBin gAdd (eVar 1) (eBin gAnd (eVar 0) (eC (.int 1)))))
    (sSet 0 (eBin gShr (eVar 0) (eC (.int 1))))) (fuel + 1) [.ar g (.int n), .ar .c (.int acc)] S = .nx [.ar g' (.int 0), .ar .c (.int (acc + wtF n))] S := by
    intro fuel
    induction fuel with
    | zero =>
      intro n g acc h
      have : n = 0 := by omega
      subst this
      exact ⟨g, by simp [loopN, wtF]⟩
    | succ k ih =>
      intro n g acc h
      cases n with
      | zero => exact ⟨g, by simp [loopN, wtF]⟩
      | succ n =>
        obtain ⟨g', q⟩ := ih ((n + 1) / 2) .c (acc + ((n + 1) % 2 : Nat)) (by omega)
        refine ⟨g', ?_⟩
        have e3 : wtF (n + 1) = ((n : Int) + 1) % 2 + wtF ((n + 1) / 2) := by
          rw [wtF]
          simp
        simp at q
        rw [loopN]
        simp [PyProof.Rows.bitAnd_m1]
        rw [q, e3, Int.add_assoc]
  obtain ⟨g', q⟩ := go n n f 0 (Nat.le_refl _)
  have q2 := sWhile_of q (by simp)
  simp [m_weight, b_weight, q2]
theorem s_is_odd (n : Nat) (f : Fl) (S : Store) : m_is_odd [(f, .int n)] S = .ok (.bl (decide (wtF n % 2 = 1)), .c) S := by
  simp [m_is_odd, b_is_odd, s_weight]
theorem inR_nat {n : Nat} (h : n ≤ 1000000) : inR (n : Int) = true := by
  unfold inR
  rw [Bool.and_eq_true, decide_eq_true_eq, decide_eq_true_eq]
  omega
theorem lg3 : Nat.log2 3 < 9000 := by decide +kernel
def tapsF (ns : List Int) (k mem : Int) (many : Nat) : List Int := (List.range many).map fun (j : Nat) => 1 + drawF ns (k + 1 + j) / 3 % (2 * 2 ^ mem.toNat - 1)
def someF : Nat → Int × List Int
  | 0 => (2, [7, 5])
  | 1 => (2, [7, 6, 5])
  | 2 => (3, [15, 13])
  | _ => (4, [19, 29])
def machF (ns : List Int) (k : Int) : Int × List Int :=
  if drawF ns k / 16 % 4 = 1 then someF (drawF ns k / 64 % 4).toNat else (1 + drawF ns k % 4, tapsF ns k (1 + drawF ns k % 4) (2 + drawF ns k / 4 % 3).toNat)
theorem lg4 : Nat.log2 4 < 9000 := by decide +kernel
theorem lg16 : Nat.log2 16 < 9000 := by decide +kernel
theorem lg64 : Nat.log2 64 < 9000 := by decide +kernel
theorem c_taps (ns : List Int) (k n mem : Int) (many : Nat) (f2 : Fl) (S : Store) (hk : 0 ≤ k ∧ k ≤ 10000) (hm : many ≤ 10000) (hb : 0 ≤ mem ∧ mem ≤ 10) : compL (gN 5) tYesM
      (eBin gAdd (eC (.int 1)) (eBin gMod (eBin gDiv (eFn 2 m__law_draw (aCons (eVar 0) (aCons (eBin gAdd (eBin gAdd (eVar 1) (eC (.int 1))) (eVar 5)) aNil))) (eC (.int 3))) (eBin gSub (eBin gShl (eC (.int 2)) (eVar 3)) (eC (.int 1)))))
    [.ar .c (.frz (ns.map D.int)), .ar f2 (.int k), .ar .c (.int n), .ar .c (.int mem), .no, .no] (rangeD 0 1 many) S = .ok ((rangeD 0 1 many).map (fun d => match d with
      | .int j => .int (1 + drawF ns (k + 1 + j) / 3 % (2 * 2 ^ mem.toNat - 1))
      | d => d)) S := comp_map _ S _ _ _ _ _ (fun d hd => by
      unfold rangeD at hd
      obtain ⟨j, hj, rfl⟩ := List.mem_map.mp hd
      have hj := List.mem_range.mp hj
      have hp : (0 : Int) < 2 * 2 ^ mem.toNat - 1 := by
        have : (0 : Int) < 2 ^ mem.toNat := Int.pow_pos (by decide)
        omega
      have h1 : mem ≤ 1000000 := by omega
      refine ⟨_, rfl, rfl, .c, ?_, rfl⟩
      simp [s_draw ns (k + 1 + j) _ S (by omega), lg3, hb, h1, (by omega : (1 : Int) < 2 * 2 ^ mem.toNat)])
theorem s_machine (ns : List Int) (k : Int) (f2 : Fl) (S : Store) (hk : 0 ≤ k ∧ k ≤ 10000) : m__law_machine [(.c, .frz (ns.map D.int)), (f2, .int k)] S = .ok (.tup [.int (machF ns k).1, .lst ((machF ns k).2.map D.int)], .c) S := by
  have d0 := draw_nn ns k
  have hm : (2 + drawF ns k / 4 % 3).toNat ≤ 10000 := by omega
  have hin : inR (2 + drawF ns k / 4 % 3) = true := by
    unfold inR
    rw [Bool.and_eq_true, decide_eq_true_eq, decide_eq_true_eq]
    omega
  have c2 := kcp_ap [.ar .c (.frz (ns.map D.int)), .ar f2 (.int k), .ar .c (.int (drawF ns k)), .ar .c (.int (1 + drawF ns k % 4)), .no, .no] S [5] (gN 5) tYesM _ _ _ S (by unfold rangeD; rw [List.length_map, List.length_range]; omega) (c_taps ns k (drawF ns k) (1 + drawF ns k % 4) (2 + drawF ns k / 4 % 3).toNat f2 S hk hm (by omega))
  by_cases h : drawF ns k / 16 % 4 = 1
  · have hx : drawF ns k / 64 % 4 = 0 ∨ drawF ns k / 64 % 4 = 1 ∨ drawF ns k / 64 % 4 = 2 ∨ drawF ns k / 64 % 4 = 3 := by omega
    rcases hx with hx | hx | hx | hx <;>
    simp [m__law_machine, b__law_machine, s_draw ns k _ S (by omega), lg4, lg3, lg16, lg64, hin, freeE, c2, h, hx, machF, atI, ixN, someF]
  · simp [m__law_machine, b__law_machine, s_draw ns k _ S (by omega), lg4, lg3, lg16, lg64, hin, freeE, c2, h, machF]
    unfold rangeD tapsF
    simp
theorem mach_ok (ns : List Int) (k : Int) : 1 ≤ (machF ns k).1 ∧ (machF ns k).1 ≤ 4 ∧ 2 ≤ (machF ns k).2.length ∧ (machF ns k).2.length ≤ 4 ∧ ∀ t ∈ (machF ns k).2, 1 ≤ t ∧ t ≤ 2 ^ ((machF ns k).1 + 1).toNat - 1 := by
  have d0 := draw_nn ns k
  unfold machF
  split
  · have hx : (drawF ns k / 64 % 4).toNat = 0 ∨ (drawF ns k / 64 % 4).toNat = 1 ∨ (drawF ns k / 64 % 4).toNat = 2 ∨ (drawF ns k / 64 % 4).toNat = 3 := by omega
    rcases hx with hx | hx | hx | hx <;> rw [hx] <;> decide
  · unfold tapsF
    refine ⟨by dsimp only; omega, by dsimp only; omega, by simp; omega, by simp; omega, fun t ht => ?_⟩
    obtain ⟨j, _, rfl⟩ := List.mem_map.mp ht
    dsimp only
    have hp : (2 : Int) * 2 ^ (1 + drawF ns k % 4).toNat = 2 ^ (1 + drawF ns k % 4 + 1).toNat := by
      rw [show (1 + drawF ns k % 4 + 1).toNat = (1 + drawF ns k % 4).toNat + 1 by omega, Int.pow_succ]
      omega
    have h2 : (0 : Int) < 2 ^ (1 + drawF ns k % 4).toNat := Int.pow_pos (by decide)
    have h3 := Int.emod_nonneg (drawF ns (k + 1 + j) / 3) (show (2 * 2 ^ (1 + drawF ns k % 4).toNat - 1 : Int) ≠ 0 by omega)
    have h4 := Int.emod_lt_of_pos (drawF ns (k + 1 + j) / 3) (show (0 : Int) < 2 * 2 ^ (1 + drawF ns k % 4).toNat - 1 by omega)
    omega
def oddF (w t : Nat) : Int := wtF (w &&& t) % 2
theorem bit_or (st b : Fin 16) (h : b.val < 2) : PySem.Builtin.bitOr ((st.val : Int) * 2) (b.val : Int) = ((2 * st.val + b.val : Nat) : Int) := by
  revert st b
  decide +kernel
theorem and_mask (m : Fin 5) (w : Fin 32) : PySem.Builtin.bitAnd (w.val : Int) (2 ^ m.val - 1) = ((w.val % 2 ^ m.val : Nat) : Int) := by
  revert m w
  decide +kernel
theorem wt_nn : ∀ n, 0 ≤ wtF n := by
  intro n
  induction n using Nat.strongRecOn with
  | _ n ih =>
    cases n with
    | zero => simp [wtF]
    | succ n =>
      rw [wtF]
      have := ih ((n + 1) / 2) (by omega)
      omega
abbrev mach (m : Nat) (taps : List Nat) : List D := [.int m, .frz ((taps.map fun (t : Nat) => (t : Int)).map D.int), .int (2 ^ m)]
theorem s_step (n m st b w q : Nat) (taps : List Nat) (f0 f1 f2 : Fl) (S : Store) (hS : S[n]? = some (0, mach m taps)) (hm : m ≤ 4) (hst : st < 16) (hb : b < 2) (hl : taps.length ≤ 10) (hw : w = 2 * st + b) (hq : q = w % 2 ^ m) :
    m_Machine_step [(f0, .ins n), (f1, .int st), (f2, .int b)] S = .ok (.tup [.int q, .lst ((taps.map (oddF w)).map D.int)], .c) S := by
  have e1 : PySem.Builtin.bitOr ((st : Int) * 2) (b : Int) = (w : Int) := by
    rw [hw]
    exact bit_or ⟨st, hst⟩ ⟨b, by omega⟩ hb
  have hw32 : w < 32 := by omega
  have e2 : PySem.Builtin.bitAnd (w : Int) (2 ^ m - 1) = (q : Int) := by
    rw [hq]
    exact and_mask ⟨m, by omega⟩ ⟨w, hw32⟩
  clear hw hq
  have c : compL (gN 4) tYesM (eCal gIntT (aCons (eFn 1 m_is_odd (aCons (eBin gAnd (eVar 3) (eVar 4)) aNil)) aNil)) [.ar f0 (.ins n), .ar f1 (.int st), .ar f2 (.int b), .ar .c (.int w), .no] ((taps.map fun (t : Nat) => (t : Int)).map D.int) S =
      .ok ((taps.map fun (t : Nat) => (t : Int)).map fun i => D.int (oddF w i.toNat)) S := by
    refine comp_ints _ _ _ _ _ _ _ fun x hx => ⟨_, rfl, rfl, .c, ?_, Eq.trans rfl rfl⟩
    obtain ⟨t, ht', rfl⟩ := List.mem_map.mp hx
    have e3 : PySem.Builtin.bitAnd (w : Int) (t : Int) = ((w &&& t : Nat) : Int) := by
      rw [PyProof.Rows.bitAnd_pp (by omega) (by omega)]
      simp
    have w0 := wt_nn (w &&& t)
    simp [e3, s_is_odd, oddF]
    split <;> omega
  have e4 : ((taps.map fun (t : Nat) => (t : Int)).map fun i => D.int (oddF w i.toNat)) = (taps.map (oddF w)).map D.int := by simp
  rw [e4] at c
  generalize hL : taps.map (oddF w) = L at c
  have c2 := kcp_ap [.ar f0 (.ins n), .ar f1 (.int st), .ar f2 (.int b), .ar .c (.int w), .no] S [4] (gN 4) tYesM _ ((taps.map fun (t : Nat) => (t : Int)).map D.int) _ S (by simp; omega) c
  have h1 : st < 18446744073709551616 := by omega
  have ll : L.length = taps.length := by rw [← hL, List.length_map]
  simp at c2
  simp [m_Machine_step, b_Machine_step, hS, freeE, h1, e1, e2, c2]
/-- all(is_among(x, lo, hi) for x in xs) as a comprehension in any frame -/
theorem c_among (r : Env) (S : Store) (i : Nat) (ma mb : EM) (lo hi : Int) (xs : List Int) (hi1 : i < r.length) (h1 : ∀ d, ∃ f, ma (r.set i (.ar .c d)) S = .ok (.int lo, f) S) (h2 : ∀ d, ∃ f, mb (r.set i (.ar .c d)) S = .ok (.int hi, f) S) :
    compL (gN i) tYesM (eFn 3 m_is_among (aCons (eVar i) (aCons ma (aCons mb aNil)))) r (xs.map D.int) S = .ok ((xs.map fun x => decide (lo ≤ x ∧ x ≤ hi)).map D.bl) S := by
  rw [List.map_map]
  refine comp_ints r S _ _ _ (D.bl ∘ fun x => decide (lo ≤ x ∧ x ≤ hi)) xs fun x hx => ⟨_, rfl, rfl, .c, ?_, Eq.trans rfl rfl⟩
  obtain ⟨f, h1⟩ := h1 (.int x)
  obtain ⟨f', h2⟩ := h2 (.int x)
  simp [List.getElem?_set_self hi1, h1, h2, s_is_among, amongD]
theorem s_init (n m : Nat) (taps : List Nat) (f0 f1 f2 : Fl) (S : Store) (hS : S[n]? = some (0, [])) (hm : 1 ≤ m ∧ m ≤ 4) (h2 : inf f2 ≠ .t) (hk : okI (inf f2) = true) (hl : 2 ≤ taps.length ∧ taps.length ≤ 4) (ht : ∀ t ∈ taps, 1 ≤ (t : Int) ∧ (t : Int) ≤ 2 ^ (m + 1) - 1) :
    m_Machine___init__ [(f0, .ins n), (f1, .int m), (f2, .lst ((taps.map fun (t : Nat) => (t : Int)).map D.int))] S = .ok (.non, .c) (S.set n (0, mach m taps)) := by
  have hn : n < S.length := (List.getElem?_eq_some_iff.mp hS).1
  have s1 : ∀ x, (S.set n x)[n]? = some x := fun x => List.getElem?_set_self hn
  generalize hT : (taps.map fun (t : Nat) => (t : Int)) = T
  have tl : T.length = taps.length := by rw [← hT, List.length_map]
  have c := c_among [.ar f0 (.ins n), .ar f1 (.int m), .ar f2 (.lst (T.map D.int)), .no] S 3 (eC (.int 1)) (eBin gSub (eBin gShl (eC (.int 1)) (eBin gAdd (eVar 1) (eC (.int 1)))) (eC (.int 1))) 1 (2 ^ (m + 1) - 1) T
    (by simp) (fun d => ⟨.c, by simp⟩) (fun d => ⟨.c, by
      have h3 : (m : Int) + 1 ≤ 1000000 := by omega
      have h4 : (0 : Int) ≤ m + 1 := by omega
      have h5 : ((m : Int) + 1).toNat = m + 1 := by omega
      simp [h3, h4, h5]⟩)
  generalize hB : (T.map fun x => decide (1 ≤ x ∧ x ≤ 2 ^ (m + 1) - 1)) = B at c
  have hall : B.all id = true := by
    rw [← hB, ← hT, List.all_eq_true]
    intro x hx
    simp only [List.mem_map] at hx
    obtain ⟨y, ⟨t, h1, rfl⟩, rfl⟩ := hx
    exact decide_eq_true (ht t h1)
  have c2 := kcp_ap [.ar f0 (.ins n), .ar f1 (.int m), .ar f2 (.lst (T.map D.int)), .no] S [3] (gN 3) tYesM _ (T.map D.int) _ S (by simp; omega) c
  have q1 : (1 : Int) ≤ m ∧ (m : Int) ≤ 4 := by omega
  have q2 : (2 : Int) ≤ T.length ∧ (T.length : Int) ≤ 4 := by omega
  have q3 : (m : Int) ≤ 1000000 := by omega
  simp [m_Machine___init__, b_Machine___init__, s_is_among, amongD, q1, q2, q3, isiOne, freeE, hk, c2, hall, hS, s1, h2, putD, mach, hT]

end Fin

set_option maxRecDepth 100000
set_option maxHeartbeats 4000000
namespace Fin
open Mv Mir Ev
open PySem (sizeLine sizeLine_eq)
open L2 (atI ixN)
/-- a whole number or None -/
def oD : Option Int → D
  | none => .non
  | some i => .int i
def lesF : Option Int → Option Int → Option Int
  | none, b => b
  | a, none => a
  | some a, some b => some (min a b)
theorem s_lesser (a b : Option Int) (S : Store) : m_lesser [(.c, oD a), (.c, oD b)] S = .ok (oD (lesF a b), .c) S := by
  cases a <;> cases b <;> simp [m_lesser, b_lesser, oD, lesF, gMin]
theorem s_bits_at (n m beat : Nat) (taps : List Nat) (beats : List D) (S : Store) (hS : S[n]? = some (0, mach m taps)) : m_Machine_bits_at [(.c, .ins n), (.c, .int beat), (.c, .lst beats)] S = .ok (.lst ((if (beat : Int) < beats.length - m then [0, 1] else [0] : List Int).map D.int), .n) S := by
  by_cases h : (beat : Int) < beats.length - m
  · simp [m_Machine_bits_at, b_Machine_bits_at, hS, h]
  · simp [m_Machine_bits_at, b_Machine_bits_at, hS, h]
/-- a bit or a lost one -/
inductive BitN : D → Prop
  | non : BitN .non
  | bit (b : Nat) (h : b < 2) : BitN (.int b)
def unlD : List Int → List D → Nat
  | x :: xs, .int y :: ds => (if x = y then 0 else 1) + unlD xs ds
  | _ :: xs, _ :: ds => unlD xs ds
  | _, _ => 0
theorem c_unlike (r : Env) (S : Store) (hr : r.length = 5) : ∀ (xs : List Int) (ds : List D), (∀ d ∈ ds, BitN d) → compL (gT 2 (gsC (gN 3) (gsC (gN 4) gsN))) (tAndM (tVal (eBin (gIsN true) (eVar 4) (eC .non))) (tVal (eBin (gEq true) (eVar 3) (eVar 4)))) (eC (.bl true)) r (zipD (xs.map D.int) ds) S = .ok (List.replicate (unlD xs ds) (.bl true)) S
  | [], ds, _ => by simp [zipD, cm_nil, unlD]
  | x :: xs, [], _ => by simp [zipD, cm_nil, unlD]
  | x :: xs, d :: ds, hd => by
    have ih := c_unlike r S hr xs ds fun y hy => hd y (List.mem_cons_of_mem _ hy)
    have e : zipD ((x :: xs).map D.int) (d :: ds) = .tup [.int x, d] :: zipD (xs.map D.int) ds := rfl
    have h1 : ((r.set 3 (.ar .c (.int x))).set 4 (.ar .c d))[3]? = some (.ar .c (.int x)) := by
      rw [List.getElem?_set_ne (by decide), List.getElem?_set_self (by omega)]
    have h2 : ((r.set 3 (.ar .c (.int x))).set 4 (.ar .c d))[4]? = some (.ar .c d) := List.getElem?_set_self (by simp; omega)
    rw [e, cm_cons]
    cases hd d List.mem_cons_self with
    | non => simp [cm1_ap, cm2_t, cm2_f, h1, h2, cm3_ap, ih, cm4_ap, unlD]
    | bit b hb =>
      by_cases q : x = (b : Int)
      · subst q
        simp [cm1_ap, cm2_t, cm2_f, h1, h2, cm3_ap, ih, cm4_ap, unlD]
      · simp [cm1_ap, cm2_t, cm2_f, h1, h2, cm3_ap, ih, cm4_ap, unlD, q]
        rw [Nat.add_comm, List.replicate_succ]
theorem s_unlike (n : Nat) (xs : List Int) (ds : List D) (S : Store) (hd : ∀ d ∈ ds, BitN d) (hx : xs.length ≤ 100000) : m_Machine_unlike [(.c, .ins n), (.c, .lst (xs.map D.int)), (.c, .lst ds)] S = .ok (.int (unlD xs ds), .c) S := by
  have c := c_unlike (wipeE [.ar .c (.ins n), .ar .c (.lst (xs.map D.int)), .ar .c (.lst ds), .no, .no] [3, 4]) S (by rw [wipeE_len]; rfl) xs ds hd
  have c2 := kcp_ap [.ar .c (.ins n), .ar .c (.lst (xs.map D.int)), .ar .c (.lst ds), .no, .no] S [3, 4] _ _ _ (zipD (xs.map D.int) ds) _ S (by unfold zipD; simp; omega) c
  simp [m_Machine_unlike, b_Machine_unlike, freeE, c2]
end Fin

set_option maxRecDepth 100000
set_option maxHeartbeats 4000000
namespace Fin
open Mv Mir Ev
open PySem (sizeLine sizeLine_eq)
open L2 (atI ixN)
def chunk (sz : Nat) (came : List D) (t : Nat) : List D := (came.drop (t * sz)).take sz
def chunks (sz cnt : Nat) (came : List D) : List D := (List.range cnt).map fun t => .lst (chunk sz came t)
end Fin

set_option maxRecDepth 100000
set_option maxHeartbeats 4000000
namespace Fin
open Mv Mir Ev
open PySem (sizeLine sizeLine_eq)
open L2 (atI ixN)
abbrev nL (l : List Nat) : List D := l.map fun (b : Nat) => D.int (b : Int)
def updR (m : Nat) (taps : List Nat) (beat : List D) (s : Nat) (c : Int) (row : List (Option Int)) (b : Nat) : List (Option Int) :=
  row.set ((2 * s + b) % 2 ^ m) (lesF (row.getD ((2 * s + b) % 2 ^ m) none) (some (c + unlD (taps.map (oddF (2 * s + b))) beat)))
theorem updR_len (m : Nat) (taps : List Nat) (beat : List D) (s : Nat) (c : Int) (row : List (Option Int)) (b : Nat) : (updR m taps beat s c row b).length = row.length := by unfold updR; simp
theorem fold_len (m : Nat) (taps : List Nat) (beat : List D) (s : Nat) (c : Int) : ∀ (bs : List Nat) (row : List (Option Int)), (bs.foldl (updR m taps beat s c) row).length = row.length
  | [], row => rfl
  | b :: bs, row => by rw [List.foldl_cons, fold_len m taps beat s c bs, updR_len]
theorem at_oD {row : List (Option Int)} {q : Nat} (h : q < row.length) : atI (row.map oD) (q : Int) = some (oD (row.getD q none)) := by
  unfold atI ixN
  rw [if_pos (by omega), List.length_map, if_pos (by omega)]
  simp [List.getElem?_eq_getElem h]
theorem ixN_nat {n q : Nat} (h : q < n) : ixN n (q : Int) = some q := by
  unfold ixN
  rw [if_pos (by omega), if_pos (by omega), Int.toNat_natCast]
theorem okst_oD (f : Fl) (a : Option Int) : okst f (oD a) = true := by cases a <;> exact ok_g _ _ rfl
def enD : Nat → List D → List D
  | _, [] => []
  | k, d :: ds => .tup [.int (k : Nat), d] :: enD (k + 1) ds
theorem enD_eq : ∀ (xs : List D) (k : Nat), List.zipWith (fun (i : Nat) d => D.tup [.int i, d]) (List.range' k xs.length) xs = enD k xs
  | [], k => rfl
  | d :: ds, k => by
    rw [List.length_cons, List.range'_succ, List.zipWith_cons_cons, enD_eq ds (k + 1)]
    rfl
theorem enumD_en (xs : List D) : enumD xs = enD 0 xs := by
  unfold enumD
  rw [List.range_eq_range']
  exact enD_eq xs 0
def midF (m : Nat) (taps : List Nat) (beat : List D) (bs : List Nat) : List (Option Int) → Nat → List (Option Int) → List (Option Int)
  | [], _, row => row
  | none :: cs, s, row => midF m taps beat bs cs (s + 1) row
  | some c :: cs, s, row => midF m taps beat bs cs (s + 1) (bs.foldl (updR m taps beat s c) row)
theorem midF_len (m : Nat) (taps : List Nat) (beat : List D) (bs : List Nat) : ∀ (cs : List (Option Int)) (s : Nat) (row : List (Option Int)), (midF m taps beat bs cs s row).length = row.length
  | [], _, _ => rfl
  | none :: cs, s, row => by rw [midF, midF_len m taps beat bs cs]
  | some c :: cs, s, row => by rw [midF, midF_len m taps beat bs cs, fold_len]
def bitsF (m place len : Nat) : List Nat := if (place : Int) < len - m then [0, 1] else [0]
theorem bitsF_lt (m place len : Nat) : ∀ b ∈ bitsF m place len, b < 2 := fun b hb => by
  unfold bitsF at hb
  split at hb <;> simp at hb <;> omega
theorem bitsF_eq (m place len : Nat) : (if (place : Int) < len - m then [0, 1] else [0] : List Int).map D.int = nL (bitsF m place len) := by
  unfold bitsF
  split <;> rfl
end Fin

set_option maxRecDepth 100000
set_option maxHeartbeats 4000000
namespace Fin
open Mv Mir Ev
open PySem (sizeLine sizeLine_eq)
open L2 (atI ixN)
theorem rep_flat (k : Nat) (d : D) : (List.replicate k [d]).flatten = List.replicate k d := by
  induction k with
  | zero => rfl
  | succ n ih => rw [List.replicate_succ, List.flatten_cons, ih]; rfl
theorem pow_le (m : Nat) (hm : m ≤ 4) : 2 ^ m ≤ 16 := Nat.pow_le_pow_right (by decide) hm
end Fin

set_option maxRecDepth 100000
set_option maxHeartbeats 4000000
namespace Fin
open Mv Mir Ev
open PySem (sizeLine sizeLine_eq)
open L2 (atI ixN)
abbrev rowI (r : List Int) : D := .lst (r.map D.int)
def wayB (m : Nat) (taps : List Nat) (beat : List D) (nxt : List Int) (s : Nat) (best : Option Int) (b : Nat) : Option Int :=
  lesF best (some (nxt.getD ((2 * s + b) % 2 ^ m) 0 + unlD (taps.map (oddF (2 * s + b))) beat))
noncomputable abbrev wayIn : SM := (sSeq (sAsg (gT 2 (gsC (gN 8) (gsC (gN 9) gsN))) (eMe 3 tab_step (eVar 0) (aCons (eVar 5) (aCons (eVar 7) aNil))))
    (sSet 6 (eFn 2 m_lesser (aCons (eVar 6) (aCons (eBin gAdd (eBin gIx (eBin gIx (eVar 2) (eC (.int 0))) (eVar 8)) (eMe 3 tab_unlike (eVar 0) (aCons (eVar 9) (aCons (eBin gIx (eVar 1) (eVar 3)) aNil)))) aNil)))))
abbrev wE (n : Nat) (beats : List D) (nxt : List Int) (rows : List D) (place : Nat) (x4 : Slot) (s : Nat) (best : Option Int) (x7 x8 x9 : Slot) : Env := [.ar .c (.ins n), .ar .c (.lst beats), .ar .c (.lst (rowI nxt :: rows)), .ar .c (.int place), x4, .ar .c (.int s), .ar .c (oD best), x7, x8, x9]
theorem atI_0 (d : D) (ds : List D) : atI (d :: ds) 0 = some d := by
  unfold atI ixN
  rw [if_pos (by decide), if_pos (by simp)]
  rfl
theorem way_bits (n m s place : Nat) (taps : List Nat) (beat : List D) (beats : List D) (nxt : List Int) (rows : List D) (x4 : Slot) (S : Store) (hS : S[n]? = some (0, mach m taps)) (hm : 1 ≤ m ∧ m ≤ 4) (hl : taps.length ≤ 10) (hs : s < 2 ^ m) (hp : atI beats (place : Int) = some (.lst beat)) (hb : ∀ d ∈ beat, BitN d) (hn : nxt.length = 2 ^ m) : ∀ (bs : List Nat) (best : Option Int) (x7 x8 x9 : Slot), (∀ b ∈ bs, b < 2) →
    ∃ y7 y8 y9, forL (gN 7) wayIn (nL bs) (wE n beats nxt rows place x4 s best x7 x8 x9) S = .nx (wE n beats nxt rows place x4 s (bs.foldl (wayB m taps beat nxt s) best) y7 y8 y9) S
  | [], best, x7, x8, x9, _ => ⟨x7, x8, x9, for_nil⟩
  | b :: bs, best, x7, x8, x9, hbs => by
    have hs16 : s < 16 := by
      have := pow_le m hm.2
      omega
    have hb0 := hbs b List.mem_cons_self
    have hq : (2 * s + b) % 2 ^ m < nxt.length := by
      rw [hn]
      exact Nat.mod_lt _ (Nat.two_pow_pos m)
    obtain ⟨y7, y8, y9, ih⟩ := way_bits n m s place taps beat beats nxt rows x4 S hS hm hl hs hp hb hn bs (wayB m taps beat nxt s best b) (.ar .c (.int b)) (.ar .c (.int ((2 * s + b) % 2 ^ m : Nat))) (.ar .c (.lst ((taps.map (oddF (2 * s + b))).map D.int))) (fun x hx => hbs x (List.mem_cons_of_mem _ hx))
    refine ⟨y7, y8, y9, ?_⟩
    have stp := s_step n m s b (2 * s + b) ((2 * s + b) % 2 ^ m) taps .c .c .c S hS hm.2 hs16 hb0 hl rfl rfl
    have un := s_unlike n (taps.map (oddF (2 * s + b))) beat S hb (by rw [List.length_map]; omega)
    show forL (gN 7) wayIn (D.int (b : Int) :: nL bs) _ S = _
    rw [List.foldl_cons, ← ih]
    refine for_cons (gn_ap _ _ _) ?_
    unfold wayB
    generalize taps.map (oddF (2 * s + b)) = L at *
    generalize (2 * s + b) % 2 ^ m = q at *
    have at1 : atI (nxt.map D.int) (q : Int) = some (.int (nxt.getD q 0)) := by
      rw [atI_i (by omega) (by omega), Int.toNat_natCast]
    have les := s_lesser best (some (nxt.getD q 0 + unlD L beat)) S
    have e1 : oD (some (nxt.getD q 0 + unlD L beat)) = .int (nxt.getD q 0 + unlD L beat) := rfl
    rw [e1] at les
    generalize lesF best (some (nxt.getD q 0 + unlD L beat)) = v at *
    generalize nxt.getD q 0 = u at *
    simp [hS, tab_step, tab_unlike, stp, atI_0, at1, hp, un, les, okst_oD]
/-- the fold ends in a number -/
theorem way_some (m : Nat) (taps : List Nat) (beat : List D) (nxt : List Int) (s : Nat) : ∀ (bs : List Nat) (best : Option Int), (bs ≠ [] ∨ best.isSome = true) → (bs.foldl (wayB m taps beat nxt s) best).isSome = true
  | [], best, h => h.elim (fun z => absurd rfl z) id
  | b :: bs, best, _ => by
    rw [List.foldl_cons]
    refine way_some m taps beat nxt s bs _ (.inr ?_)
    unfold wayB
    cases best <;> rfl
def wayV (m : Nat) (taps : List Nat) (beat : List D) (nxt : List Int) (bs : List Nat) (s : Nat) : Int := (bs.foldl (wayB m taps beat nxt s) none).getD 0
theorem wayV_eq (m : Nat) (taps : List Nat) (beat : List D) (nxt : List Int) (bs : List Nat) (s : Nat) (h : bs ≠ []) : oD (bs.foldl (wayB m taps beat nxt s) none) = .int (wayV m taps beat nxt bs s) := by
  have q := way_some m taps beat nxt s bs none (.inl h)
  unfold wayV
  cases e : bs.foldl (wayB m taps beat nxt s) none with
  | none => rw [e] at q; cases q
  | some v => rfl
noncomputable abbrev wayMid : SM := (sSeq (sSet 6 (eC .non))
    (sSeq (sFor (iSeq (eMe 3 tab_bits_at (eVar 0) (aCons (eVar 3) (aCons (eVar 1) aNil)))) (gN 7) wayIn)
    (sApp 4 (eVar 6))))
theorem bitsF_ne (m place len : Nat) : bitsF m place len ≠ [] := by
  unfold bitsF
  split <;> simp
theorem way_mid (n m place : Nat) (taps : List Nat) (beat : List D) (beats : List D) (nxt : List Int) (rows : List D) (S : Store) (hS : S[n]? = some (0, mach m taps)) (hm : 1 ≤ m ∧ m ≤ 4) (hl : taps.length ≤ 10) (hp : atI beats (place : Int) = some (.lst beat)) (hb : ∀ d ∈ beat, BitN d) (hn : nxt.length = 2 ^ m) (x5 x6 x7 x8 x9 : Slot) :
    ∃ y5 y6 y7 y8 y9, forL (gN 5) wayMid (rangeD 0 1 (2 ^ m)) [.ar .c (.ins n), .ar .c (.lst beats), .ar .c (.lst (rowI nxt :: rows)), .ar .c (.int place), .own (.lst []), x5, x6, x7, x8, x9] S =
      .nx [.ar .c (.ins n), .ar .c (.lst beats), .ar .c (.lst (rowI nxt :: rows)), .ar .c (.int place), .own (rowI ((List.range (2 ^ m)).map (wayV m taps beat nxt (bitsF m place beats.length)))), y5, y6, y7, y8, y9] S := by
  obtain ⟨r2, S2, h1, rfl, y5, y6, y7, y8, y9, h2⟩ := for_inv (P := fun j r S' => S' = S ∧ ∃ y5 y6 y7 y8 y9, r = [.ar .c (.ins n), .ar .c (.lst beats), .ar .c (.lst (rowI nxt :: rows)), .ar .c (.int place), .own (rowI ((List.range j).map (wayV m taps beat nxt (bitsF m place beats.length)))), y5, y6, y7, y8, y9])
    (g := gN 5) (p := wayMid) (rangeD 0 1 (2 ^ m)) 0 [.ar .c (.ins n), .ar .c (.lst beats), .ar .c (.lst (rowI nxt :: rows)), .ar .c (.int place), .own (.lst []), x5, x6, x7, x8, x9] S ⟨rfl, x5, x6, x7, x8, x9, rfl⟩ (fun j d r S' hd hP => by
      obtain ⟨rfl, z5, z6, z7, z8, z9, rfl⟩ := hP
      have hj : j < 2 ^ m := by
        have := (List.getElem?_eq_some_iff.mp hd).1
        rw [rangeD_length] at this
        exact this
      have hd2 : d = .int (j : Nat) := by
        rw [rangeD_get hj] at hd
        rw [(Option.some.inj hd).symm]
        congr 1
        omega
      subst hd2
      have hj16 := pow_le m hm.2
      obtain ⟨w7, w8, w9, lp⟩ := way_bits n m j place taps beat beats nxt rows (.own (rowI ((List.range (0 + j)).map (wayV m taps beat nxt (bitsF m place beats.length))))) S' hS hm hl hj hp hb hn (bitsF m place beats.length) none z7 z8 z9 (bitsF_lt _ _ _)
      have ba := s_bits_at n m place taps beats S' hS
      rw [bitsF_eq] at ba
      have ev := wayV_eq m taps beat nxt (bitsF m place beats.length) j (bitsF_ne _ _ _)
      unfold wE at lp
      rw [ev] at lp
      have er : (List.range (0 + j + 1)).map (wayV m taps beat nxt (bitsF m place beats.length)) = (List.range (0 + j)).map (wayV m taps beat nxt (bitsF m place beats.length)) ++ [wayV m taps beat nxt (bitsF m place beats.length) j] := by
        rw [List.range_succ, List.map_append, Nat.zero_add]
        rfl
      rw [er]
      have ll : ((List.range (0 + j)).map (wayV m taps beat nxt (bitsF m place beats.length))).length < 16777216 := by
        rw [List.length_map, List.length_range]
        omega
      generalize (List.range (0 + j)).map (wayV m taps beat nxt (bitsF m place beats.length)) = R at *
      generalize wayV m taps beat nxt (bitsF m place beats.length) j = v at *
      generalize nL (bitsF m place beats.length) = BS at *
      refine ⟨_, gn_ap _ _ _, _, _, ?_, rfl, .ar .c (.int j), .ar .c (.int v), w7, w8, w9, rfl⟩
      have e0 : oD none = .non := rfl
      rw [e0] at lp
      simp [hS, tab_bits_at, ba]
      rw [lp]
      simp [rowI, ll])
  rw [rangeD_length, Nat.zero_add] at h2
  subst h2
  exact ⟨y5, y6, y7, y8, y9, h1⟩
def wayF (m : Nat) (taps : List Nat) (B : List (List D)) : Nat → List (List Int)
  | 0 => [List.replicate (2 ^ m) 0]
  | i + 1 => (List.range (2 ^ m)).map (wayV m taps (B.getD (B.length - 1 - i) []) ((wayF m taps B i).headD []) (bitsF m (B.length - 1 - i) B.length)) :: wayF m taps B i
theorem wayF_cons (m : Nat) (taps : List Nat) (B : List (List D)) (i : Nat) : ∃ nxt rows, wayF m taps B i = nxt :: rows ∧ nxt.length = 2 ^ m ∧ rows.length = i := by
  induction i with
  | zero => exact ⟨_, [], rfl, List.length_replicate, rfl⟩
  | succ i ih =>
    obtain ⟨nxt, rows, h1, h2, h3⟩ := ih
    exact ⟨_, _, rfl, by rw [List.length_map, List.length_range], by rw [h1, List.length_cons, h3]⟩
noncomputable abbrev wayOut : SM := (sSeq (sOwn 4 (eLst aNil))
    (sSeq (sFor (iArgs gRng1 (aCons (eFld [0] 2 (eVar 0)) aNil)) (gN 5) wayMid)
    (sDem 4 (sSet 2 (eBin gAdd (eLst (aCons (eVar 4) aNil)) (eVar 2))))))
theorem s_ways (n m : Nat) (taps : List Nat) (B : List (List D)) (S : Store) (hS : S[n]? = some (0, mach m taps)) (hm : 1 ≤ m ∧ m ≤ 4) (hl : taps.length ≤ 10) (hB : ∀ b ∈ B, ∀ d ∈ b, BitN d) (hlen : B.length ≤ 100) :
    m_Machine_ways_on [(.c, .ins n), (.c, .lst (B.map D.lst))] S = .ok (.lst ((wayF m taps B B.length).map rowI), .c) S := by
  have p16 := pow_le m hm.2
  have pz := Nat.two_pow_pos m
  have p1 : ((2 ^ m : Nat) : Int) = (2 : Int) ^ m := by simp
  have p2 : ((2 : Int) ^ m) < 9223372036854775808 := by omega
  have p3 : ((2 : Int) ^ m).toNat = 2 ^ m := by omega
  have p4 : -9223372036854775808 ≤ (2 : Int) ^ m := by omega
  have s16 : 2 ^ m ≤ 16777216 := by omega
  have i1 : inR ((2 : Int) ^ m) = true := by
    rw [← p1]
    exact inR_nat (by omega)
  obtain ⟨r2, S2, h1, rfl, y3, y4, y5, y6, y7, y8, y9, h2⟩ := for_inv (P := fun j r S' => S' = S ∧ ∃ y3 y4 y5 y6 y7 y8 y9, r = [.ar .c (.ins n), .ar .c (.lst (B.map D.lst)), .ar .c (.lst ((wayF m taps B j).map rowI)), y3, y4, y5, y6, y7, y8, y9])
    (g := gN 3) (p := wayOut) (rangeD ((B.length : Int) - 1) (-1) B.length) 0 [.ar .c (.ins n), .ar .c (.lst (B.map D.lst)), .ar .c (.lst [rowI (List.replicate (2 ^ m) 0)]), .no, .no, .no, .no, .no, .no, .no] S ⟨rfl, .no, .no, .no, .no, .no, .no, .no, rfl⟩ (fun j d r S' hd hP => by
      obtain ⟨rfl, y3, y4, y5, y6, y7, y8, y9, rfl⟩ := hP
      have hj : j < B.length := by
        have := (List.getElem?_eq_some_iff.mp hd).1
        rw [rangeD_length] at this
        exact this
      have hd2 : d = .int ((B.length - 1 - j : Nat) : Int) := by
        rw [rangeD_get hj] at hd
        refine (Option.some.inj hd).symm.trans (congrArg D.int ?_)
        omega
      subst hd2
      obtain ⟨nxt, rows, w1, w2, w3⟩ := wayF_cons m taps B j
      have hk : B.length - 1 - j < B.length := by omega
      have hp : atI (B.map D.lst) ((B.length - 1 - j : Nat) : Int) = some (.lst (B.getD (B.length - 1 - j) [])) := by
        unfold atI
        rw [ixN_nat (by rw [List.length_map]; exact hk)]
        simp [List.getElem?_eq_getElem hk]
      have hb : ∀ d ∈ B.getD (B.length - 1 - j) [], BitN d := by
        rw [List.getD_eq_getElem?_getD, List.getElem?_eq_getElem hk]
        exact hB _ (List.getElem_mem hk)
      obtain ⟨z5, z6, z7, z8, z9, lp⟩ := way_mid n m (B.length - 1 - j) taps (B.getD (B.length - 1 - j) []) (B.map D.lst) nxt (rows.map rowI) S' hS hm hl hp hb w2 y5 y6 y7 y8 y9
      have ws : wayF m taps B (0 + j + 1) = (List.range (2 ^ m)).map (wayV m taps (B.getD (B.length - 1 - j) []) nxt (bitsF m (B.length - 1 - j) B.length)) :: wayF m taps B j := by
        rw [Nat.zero_add]
        show (List.range (2 ^ m)).map (wayV m taps _ ((wayF m taps B j).headD []) _) :: _ = _
        rw [w1]
        rfl
      rw [ws, Nat.zero_add, w1]
      rw [List.length_map] at lp
      generalize (List.range (2 ^ m)).map (wayV m taps (B.getD (B.length - 1 - j) []) nxt (bitsF m (B.length - 1 - j) B.length)) = R at *
      generalize (B.length - 1 - j) = k at *
      refine ⟨_, gn_ap _ _ _, _, _, ?_, rfl, .ar .c (.int k), .ar .c (rowI R), z5, z6, z7, z8, z9, rfl⟩
      have l1 : 1 + (rows.length + 1) ≤ 16777216 := by omega
      simp [hS, i1, p3]
      rw [lp]
      simp [rowI, l1, sizeLine_eq])
  rw [rangeD_length, Nat.zero_add] at h2
  subst h2
  have ib : inR (B.length : Int) = true := inR_nat (by omega)
  simp [m_Machine_ways_on, b_Machine_ways_on, hS, p2, p3, p4, s16, sizeLine_eq, rep_flat, iRevR, ib]
  refine Eq.trans (congrArg (fun z : SR => kFn (z.bind (sRetV 2))) (Eq.trans ?_ h1)) ?_
  · simp [rowI]
  · simp
theorem wayF_len (m : Nat) (taps : List Nat) (B : List (List D)) (i : Nat) : (wayF m taps B i).length = i + 1 := by
  obtain ⟨nxt, rows, h1, h2, h3⟩ := wayF_cons m taps B i
  rw [h1, List.length_cons, h3]
theorem wayF_row (m : Nat) (taps : List Nat) (B : List (List D)) : ∀ i, ∀ r ∈ wayF m taps B i, r.length = 2 ^ m
  | 0, r, h => by
    rw [wayF, List.mem_singleton] at h
    rw [h, List.length_replicate]
  | i + 1, r, h => by
    rw [wayF] at h
    rcases List.mem_cons.mp h with h | h
    · rw [h, List.length_map, List.length_range]
    · exact wayF_row m taps B i r h
/-- an item of the rows -/
theorem at_row {m : Nat} {W : List (List Int)} {i q : Nat} (hi : i < W.length) (hW : ∀ r ∈ W, r.length = 2 ^ m) (hq : q < 2 ^ m) : atI (W.map rowI) (i : Int) = some (rowI (W.getD i [])) ∧ atI ((W.getD i []).map D.int) (q : Int) = some (.int ((W.getD i []).getD q 0)) := by
  have hl : (W.getD i []).length = 2 ^ m := by
    rw [List.getD_eq_getElem?_getD, List.getElem?_eq_getElem hi]
    exact hW _ (List.getElem_mem hi)
  refine ⟨?_, ?_⟩
  · unfold atI
    rw [ixN_nat (by rw [List.length_map]; exact hi)]
    simp [List.getElem?_eq_getElem hi]
  · rw [atI_i (by omega) (by omega), Int.toNat_natCast]
noncomputable abbrev readIn : SM := (sSeq (sAsg (gT 2 (gsC (gN 7) (gsC (gN 8) gsN))) (eMe 3 tab_step (eVar 0) (aCons (eVar 1) (aCons (eC (.int 0)) aNil))))
    (sSeq (sSet 9 (eCal gIntT (aCons (eBin gGt (eBin gAdd (eBin gIx (eBin gIx (eVar 3) (eBin gAdd (eVar 6) (eC (.int 1)))) (eVar 7)) (eMe 3 tab_unlike (eVar 0) (aCons (eVar 8) (aCons (eBin gIx (eVar 2) (eVar 6)) aNil)))) (eBin gIx (eBin gIx (eVar 3) (eVar 6)) (eVar 1))) aNil)))
    (sSeq (sApp 5 (eVar 9))
    (sSet 1 (eBin gIx (eMe 3 tab_step (eVar 0) (aCons (eVar 1) (aCons (eVar 9) aNil))) (eC (.int 0)))))))
/-- one turn of read_on: the bit, the next state -/
def readB (m : Nat) (taps : List Nat) (B : List (List D)) (W : List (List Int)) (place st : Nat) : Nat :=
  if (W.getD place []).getD st 0 < (W.getD (place + 1) []).getD ((2 * st + 0) % 2 ^ m) 0 + unlD (taps.map (oddF (2 * st + 0))) (B.getD place []) then 1 else 0
theorem readB_lt (m : Nat) (taps : List Nat) (B : List (List D)) (W : List (List Int)) (place st : Nat) : readB m taps B W place st < 2 := by
  unfold readB
  split <;> decide
theorem read_one (n m place st : Nat) (taps : List Nat) (B : List (List D)) (W : List (List Int)) (bits : List Int) (x4 x7 x8 x9 : Slot) (S : Store) (hS : S[n]? = some (0, mach m taps)) (hm : 1 ≤ m ∧ m ≤ 4) (hl : taps.length ≤ 10) (hB : ∀ b ∈ B, ∀ d ∈ b, BitN d) (hW : ∀ r ∈ W, r.length = 2 ^ m) (hp : place < B.length) (hp2 : place + 1 < W.length) (hst : st < 2 ^ m) (hbl : bits.length ≤ 1000) :
    ∃ y7 y8 y9, readIn [.ar .c (.ins n), .ar .c (.int st), .ar .n (.lst (B.map D.lst)), .ar .c (.lst (W.map rowI)), x4, .own (.lst (bits.map D.int)), .ar .c (.int place), x7, x8, x9] S =
      .nx [.ar .c (.ins n), .ar .c (.int ((2 * st + readB m taps B W place st) % 2 ^ m : Nat)), .ar .n (.lst (B.map D.lst)), .ar .c (.lst (W.map rowI)), x4, .own (.lst ((bits ++ [((readB m taps B W place st : Nat) : Int)]).map D.int)), .ar .c (.int place), y7, y8, y9] S := by
  have p16 := pow_le m hm.2
  have pz := Nat.two_pow_pos m
  have rb := readB_lt m taps B W place st
  have stp0 := s_step n m st 0 (2 * st + 0) ((2 * st + 0) % 2 ^ m) taps .c .c .c S hS hm.2 (by omega) (by decide) hl rfl rfl
  have stp1 := s_step n m st (readB m taps B W place st) (2 * st + readB m taps B W place st) ((2 * st + readB m taps B W place st) % 2 ^ m) taps .c .c .c S hS hm.2 (by omega) rb hl rfl rfl
  have hb : ∀ d ∈ B.getD place [], BitN d := by
    rw [List.getD_eq_getElem?_getD, List.getElem?_eq_getElem hp]
    exact hB _ (List.getElem_mem hp)
  have un := s_unlike n (taps.map (oddF (2 * st + 0))) (B.getD place []) S hb (by rw [List.length_map]; omega)
  have hq : (2 * st + 0) % 2 ^ m < 2 ^ m := Nat.mod_lt _ pz
  obtain ⟨a1, a2⟩ := at_row (m := m) (q := (2 * st + 0) % 2 ^ m) hp2 hW hq
  obtain ⟨a3, a4⟩ := at_row (m := m) (q := st) (show place < W.length by omega) hW hst
  have a5 : atI (B.map D.lst) (place : Int) = some (.lst (B.getD place [])) := by
    unfold atI
    rw [ixN_nat (by rw [List.length_map]; exact hp)]
    simp [List.getElem?_eq_getElem hp]
  have eR : (if (W.getD place []).getD st 0 < (W.getD (place + 1) []).getD ((2 * st + 0) % 2 ^ m) 0 + unlD (taps.map (oddF (2 * st + 0))) (B.getD place []) then (1 : Int) else 0) = ((readB m taps B W place st : Nat) : Int) := by
    unfold readB
    split <;> rfl
  generalize readB m taps B W place st = rB at *
  generalize (2 * st + rB) % 2 ^ m = q1 at *
  generalize hL1 : taps.map (oddF (2 * st + rB)) = L1 at *
  generalize hL0 : taps.map (oddF (2 * st + 0)) = L0 at *
  generalize (2 * st + 0) % 2 ^ m = q0 at *
  generalize (W.getD (place + 1) []).getD q0 0 = u1 at *
  generalize (W.getD place []).getD st 0 = u2 at *
  generalize W.getD (place + 1) [] = r1 at *
  generalize W.getD place [] = r0 at *
  generalize B.getD place [] = bt at *
  have a1' : atI (W.map rowI) ((place : Int) + 1) = some (rowI r1) := by
    rw [← a1]
    congr 1
  have ll : bits.length < 16777216 := by omega
  refine ⟨.ar .c (.int q0), .ar .c (.lst (L0.map D.int)), .ar .c (.int rB), ?_⟩
  have z0 : ((0 : Nat) : Int) = 0 := rfl
  rw [z0] at stp0
  simp [hS, tab_step, tab_unlike, stp0, a1', a2, a3, a4, a5, un, eR, ll, stp1, atI_0]
end Fin

set_option maxRecDepth 100000
set_option maxHeartbeats 4000000
namespace Fin
open Mv Mir Ev
open PySem (sizeLine sizeLine_eq)
open L2 (atI ixN)
/-- the loop of written -/
def runF (m : Nat) (taps : List Nat) : List Nat → Nat → List Int
  | [], _ => []
  | b :: bs, st => taps.map (oddF (2 * st + b)) ++ runF m taps bs ((2 * st + b) % 2 ^ m)
end Fin

set_option maxRecDepth 100000
set_option maxHeartbeats 4000000
namespace Fin
open Mv Mir Ev
open PySem (sizeLine sizeLine_eq)
open L2 (atI ixN)
def win : Nat → List Nat → Nat
  | m + 1, b :: h => b + 2 * win m h
  | _, _ => 0
def dot : Nat → List Nat → Nat → Nat
  | m + 1, b :: h, t => b * (t % 2) + dot m h (t / 2)
  | _, _, _ => 0
theorem win_nil : ∀ m, win m [] = 0
  | 0 => rfl
  | _ + 1 => rfl
theorem win_mod : ∀ (m : Nat) (h : List Nat), (∀ b ∈ h, b < 2) → win (m + 1) h % 2 ^ m = win m h
  | 0, h, _ => by
    rw [Nat.pow_zero, Nat.mod_one]
    cases h <;> rfl
  | m + 1, [], _ => by rw [win_nil, win_nil, Nat.zero_mod]
  | m + 1, b :: h, hb => by
    have hb0 := hb b List.mem_cons_self
    have ih := win_mod m h fun x hx => hb x (List.mem_cons_of_mem _ hx)
    show (b + 2 * win (m + 1) h) % 2 ^ (m + 1) = b + 2 * win m h
    rw [Nat.pow_succ, Nat.mul_comm (2 ^ m) 2, Nat.mod_mul, ← ih]
    have e1 : (b + 2 * win (m + 1) h) % 2 = b := by omega
    have e2 : (b + 2 * win (m + 1) h) / 2 = win (m + 1) h := by omega
    rw [e1, e2]
theorem wt_rec (n : Nat) : wtF n = (n % 2 : Nat) + wtF (n / 2) := by
  cases n with
  | zero => simp [wtF]
  | succ n => rw [wtF]
theorem odd_win : ∀ (k : Nat) (h : List Nat) (t : Nat), (∀ b ∈ h, b < 2) → wtF (win k h &&& t) % 2 = (dot k h t : Int) % 2
  | 0, h, t, _ => by
    have : win 0 h = 0 := by cases h <;> rfl
    rw [this, Nat.zero_and]
    cases h <;> simp [wtF, dot]
  | k + 1, [], t, _ => by
    rw [win_nil, Nat.zero_and]
    simp [wtF, dot]
  | k + 1, b :: h, t, hb => by
    have hb0 := hb b List.mem_cons_self
    have ih := odd_win k h (t / 2) fun x hx => hb x (List.mem_cons_of_mem _ hx)
    show wtF ((b + 2 * win k h) &&& t) % 2 = ((b * (t % 2) + dot k h (t / 2) : Nat) : Int) % 2
    have e1 : ((b + 2 * win k h) &&& t) / 2 = win k h &&& (t / 2) := by
      rw [Nat.and_div_two]
      congr 1
      omega
    have e2 : ((b + 2 * win k h) &&& t) % 2 = b * (t % 2) := by
      have := @Nat.and_mod_two_pow (b + 2 * win k h) t 1
      rw [Nat.pow_one] at this
      rw [this]
      have hb1 : (b + 2 * win k h) % 2 = b := by omega
      rw [hb1]
      have h2 : b = 0 ∨ b = 1 := by omega
      have h3 : t % 2 = 0 ∨ t % 2 = 1 := by omega
      rcases h2 with h2 | h2 <;> rcases h3 with h3 | h3 <;> rw [h2, h3] <;> rfl
    rw [wt_rec, e1, e2]
    generalize wtF (win k h &&& t / 2) = x at *
    generalize b * (t % 2) = y
    omega
theorem dot_sum (h0 : List Nat) : ∀ (k : Nat) (h : List Nat) (t : Nat), k ≤ h.length → ((List.range k).map fun j => h.getD j 0 * (t / 2 ^ j % 2)).sum = dot k h t
  | 0, h, t, _ => by cases h <;> rfl
  | k + 1, [], t, hk => by simp at hk
  | k + 1, b :: h, t, hk => by
    have ih := dot_sum h0 k h (t / 2) (by simpa using hk)
    rw [List.range_succ_eq_map, List.map_cons, List.sum_cons, List.map_map]
    show _ = b * (t % 2) + dot k h (t / 2)
    rw [← ih]
    congr 1
    · simp
    · congr 1
      refine List.map_congr_left fun j _ => ?_
      simp [Nat.pow_succ, Nat.div_div_eq_div_mul, Nat.mul_comm]
theorem sum_cast : ∀ l : List Nat, ((l.sum : Nat) : Int) = (l.map fun (x : Nat) => (x : Int)).sum
  | [] => rfl
  | x :: l => by
    rw [List.sum_cons, List.map_cons, List.sum_cons, ← sum_cast l]
    simp
abbrev nI (l : List Nat) : List Int := l.map fun (x : Nat) => (x : Int)
theorem win_zero : ∀ m : Nat, win m (List.replicate m 0) = 0
  | 0 => rfl
  | m + 1 => by
    rw [List.replicate_succ]
    show 0 + 2 * win m (List.replicate m 0) = 0
    rw [win_zero m]
abbrev zs (m : Nat) : List Nat := List.replicate m 0
theorem zs_lt (m : Nat) : ∀ b ∈ zs m, b < 2 := fun b hb => by
  rw [(List.mem_replicate.mp hb).2]
  decide
theorem app_lt {a b : List Nat} (ha : ∀ x ∈ a, x < 2) (hb : ∀ x ∈ b, x < 2) : ∀ x ∈ a ++ b, x < 2 := fun x hx => (List.mem_append.mp hx).elim (ha x) (hb x)
def xr (a b : Nat) : Nat := (a + b) % 2
theorem xr_lt (a b : Nat) : xr a b < 2 := Nat.mod_lt _ (by decide)
abbrev xL (a b : List Nat) : List Nat := List.zipWith xr a b
theorem xL_lt : ∀ (a b : List Nat), ∀ x ∈ xL a b, x < 2
  | [], _, x, h => by simp at h
  | _ :: _, [], x, h => by simp at h
  | a :: as, b :: bs, x, h => by
    have h : x ∈ xr a b :: xL as bs := h
    rcases List.mem_cons.mp h with rfl | h
    · exact xr_lt a b
    · exact xL_lt as bs x h
theorem dot_x : ∀ (k : Nat) (h h' : List Nat) (t : Nat), h.length = h'.length → dot k (xL h h') t % 2 = (dot k h t + dot k h' t) % 2
  | 0, h, h', t, _ => by
    have : ∀ l, dot 0 l t = 0 := fun l => by cases l <;> rfl
    rw [this, this, this]
  | k + 1, [], [], t, _ => rfl
  | k + 1, [], b :: h, t, e => by simp at e
  | k + 1, b :: h, [], t, e => by simp at e
  | k + 1, a :: h, b :: h', t, e => by
    have ih := dot_x k h h' (t / 2) (by simpa using e)
    show (xr a b * (t % 2) + dot k (xL h h') (t / 2)) % 2 = (a * (t % 2) + dot k h (t / 2) + (b * (t % 2) + dot k h' (t / 2))) % 2
    have h3 : t % 2 = 0 ∨ t % 2 = 1 := by omega
    unfold xr
    rcases h3 with h3 | h3 <;> rw [h3] <;> omega
theorem bx (x y : Fin 2) : PySem.Builtin.bitXor (x.val : Int) (y.val : Int) = ((x.val + y.val : Nat) : Int) % 2 := by
  revert x y
  decide
theorem bxi {x y : Int} (hx : x = 0 ∨ x = 1) (hy : y = 0 ∨ y = 1) : PySem.Builtin.bitXor x y = (x + y) % 2 := by
  rcases hx with rfl | rfl <;> rcases hy with rfl | rfl <;> decide
theorem odd_x (k t : Nat) (h h' : List Nat) (e : h.length = h'.length) (hh : ∀ b ∈ h, b < 2) (hh' : ∀ b ∈ h', b < 2) : oddF (win k (xL h h')) t = PySem.Builtin.bitXor (oddF (win k h) t) (oddF (win k h') t) := by
  unfold oddF
  rw [odd_win k _ t (xL_lt h h'), odd_win k h t hh, odd_win k h' t hh']
  have q := dot_x k h h' t e
  rw [bxi (by omega) (by omega)]
  omega
theorem run_len (m : Nat) (taps : List Nat) : ∀ (bs : List Nat) (st : Nat), (runF m taps bs st).length = bs.length * taps.length
  | [], st => by simp [runF]
  | b :: bs, st => by
    rw [runF, List.length_append, List.length_map, run_len m taps bs, List.length_cons, Nat.succ_mul, Nat.add_comm]
theorem run_x (m : Nat) (taps : List Nat) : ∀ (bs cs h h' : List Nat), bs.length = cs.length → h.length = h'.length → (∀ b ∈ bs, b < 2) → (∀ b ∈ cs, b < 2) → (∀ b ∈ h, b < 2) → (∀ b ∈ h', b < 2) →
    runF m taps (xL bs cs) (win m (xL h h')) = List.zipWith PySem.Builtin.bitXor (runF m taps bs (win m h)) (runF m taps cs (win m h'))
  | [], [], h, h', _, _, _, _, _, _ => by simp [runF]
  | [], c :: cs, h, h', e, _, _, _, _, _ => by simp at e
  | b :: bs, [], h, h', e, _, _, _, _, _ => by simp at e
  | b :: bs, c :: cs, h, h', e, e', hb, hc, hh, hh' => by
    have b0 := hb b List.mem_cons_self
    have c0 := hc c List.mem_cons_self
    have l1 : ∀ x ∈ b :: h, x < 2 := fun x hx => by
      rcases List.mem_cons.mp hx with rfl | hx
      · exact b0
      · exact hh x hx
    have l2 : ∀ x ∈ c :: h', x < 2 := fun x hx => by
      rcases List.mem_cons.mp hx with rfl | hx
      · exact c0
      · exact hh' x hx
    have ih := run_x m taps bs cs (b :: h) (c :: h') (by simpa using e) (by simpa using e') (fun x hx => hb x (List.mem_cons_of_mem _ hx)) (fun x hx => hc x (List.mem_cons_of_mem _ hx)) l1 l2
    have w1 : 2 * win m h + b = win (m + 1) (b :: h) := by
      show _ = b + 2 * win m h
      omega
    have w2 : 2 * win m h' + c = win (m + 1) (c :: h') := by
      show _ = c + 2 * win m h'
      omega
    have w3 : 2 * win m (xL h h') + xr b c = win (m + 1) (xL (b :: h) (c :: h')) := by
      show _ = xr b c + 2 * win m (xL h h')
      omega
    show runF m taps (xr b c :: xL bs cs) _ = _
    rw [runF, runF, runF, w1, w2, w3, win_mod m _ l1, win_mod m _ l2, win_mod m _ (xL_lt _ _), ih, List.zipWith_append (by simp)]
    congr 1
    rw [List.zipWith_map_left, List.zipWith_map_right]
    refine Eq.trans (List.map_congr_left fun t _ => odd_x (m + 1) t (b :: h) (c :: h') (by simpa using e') l1 l2) ?_
    clear ih
    induction taps with
    | nil => rfl
    | cons t ts ih => simp
end Fin

set_option maxRecDepth 100000
set_option maxHeartbeats 4000000
namespace Fin
open Mv Mir Ev
open PySem (sizeLine sizeLine_eq)
open L2 (atI ixN)
theorem nI_of {L : List Int} (h : ∀ x ∈ L, 0 ≤ x) : nI (L.map Int.toNat) = L := by
  unfold nI
  rw [List.map_map]
  refine Eq.trans (List.map_congr_left (g := id) fun x hx => ?_) (List.map_id L)
  have := h x hx
  show ((x.toNat : Nat) : Int) = x
  omega
theorem mach_nat (ns : List Int) (k : Int) : ∃ (m : Nat) (T : List Nat), (machF ns k).1 = m ∧ (machF ns k).2 = nI T ∧ (1 ≤ m ∧ m ≤ 4) ∧ (2 ≤ T.length ∧ T.length ≤ 4) ∧ ∀ t ∈ T, 1 ≤ (t : Int) ∧ (t : Int) ≤ 2 ^ (m + 1) - 1 := by
  obtain ⟨h1, h2, h3, h4, h5⟩ := mach_ok ns k
  have e1 : (((machF ns k).1.toNat : Nat) : Int) = (machF ns k).1 := by omega
  have e2 : nI ((machF ns k).2.map Int.toNat) = (machF ns k).2 := nI_of fun x hx => by
    have := (h5 x hx).1
    omega
  refine ⟨(machF ns k).1.toNat, (machF ns k).2.map Int.toNat, e1.symm, e2.symm, by omega, by rw [List.length_map]; exact ⟨h3, h4⟩, fun t ht => ?_⟩
  obtain ⟨x, hx, rfl⟩ := List.mem_map.mp ht
  have q := h5 x hx
  rw [show ((x.toNat : Nat) : Int) = x by omega, show (machF ns k).1.toNat + 1 = ((machF ns k).1 + 1).toNat by omega]
  exact q
end Fin

set_option maxRecDepth 100000
set_option maxHeartbeats 4000000
namespace Fin
open Mv Mir Ev
open PySem (sizeLine sizeLine_eq)
open L2 (atI ixN)
/-! words, their costs, the cheapest ones -/
def dF (T : List Nat) (t : List D) (s b : Nat) : Nat := unlD (T.map (oddF (2 * s + b))) t
def nx (m s b : Nat) : Nat := (2 * s + b) % 2 ^ m
theorem nx_lt (m s b : Nat) : nx m s b < 2 ^ m := Nat.mod_lt _ (Nat.two_pow_pos m)
def pc (m : Nat) (T : List Nat) : List (List D) → List Nat → Nat → Nat
  | t :: B, b :: bs, s => dF T t s b + pc m T B bs (nx m s b)
  | [], _, _ => 0
  | _ :: _, [], _ => 0
def fnl (m : Nat) : List Nat → Nat → Nat
  | [], s => s
  | b :: bs, s => fnl m bs (nx m s b)
def Alw (m len : Nat) : Nat → List Nat → Prop
  | _, [] => True
  | k, b :: bs => b ∈ bitsF m k len ∧ Alw m len (k + 1) bs
theorem fnl_app (m : Nat) : ∀ (u v : List Nat) (s : Nat), fnl m (u ++ v) s = fnl m v (fnl m u s)
  | [], v, s => rfl
  | b :: u, v, s => fnl_app m u v (nx m s b)
theorem alw_app (m len : Nat) : ∀ (u v : List Nat) (k : Nat), Alw m len k (u ++ v) ↔ Alw m len k u ∧ Alw m len (k + u.length) v
  | [], v, k => by simp [Alw]
  | b :: u, v, k => by
    rw [List.cons_append, Alw, Alw, alw_app m len u v (k + 1), List.length_cons, show k + 1 + u.length = k + (u.length + 1) by omega, and_assoc]
theorem pc_nil (m : Nat) (T : List Nat) (B : List (List D)) (s : Nat) : pc m T B [] s = 0 := by cases B <;> rfl
theorem pc_snoc (m : Nat) (T : List Nat) : ∀ (w : List Nat) (B : List (List D)) (b s : Nat), w.length < B.length → pc m T B (w ++ [b]) s = pc m T B w s + dF T (B.getD w.length []) (fnl m w s) b
  | [], t :: B, b, s, _ => by simp [pc, pc_nil, fnl]
  | a :: w, t :: B, b, s, h => by
    have ih := pc_snoc m T w B b (nx m s a) (by simpa using h)
    rw [List.cons_append, pc, pc, ih, fnl, List.length_cons, List.getD_cons_succ]
    omega
  | [], [], _, _, h => by cases h
  | _ :: _, [], _, _, h => by cases h
theorem bitsF_lo {m k len : Nat} (h : k + m < len) : bitsF m k len = [0, 1] := by
  unfold bitsF
  rw [if_pos (by omega)]
theorem bitsF_hi {m k len : Nat} (h : len ≤ k + m) : bitsF m k len = [0] := by
  unfold bitsF
  rw [if_neg (by omega)]
theorem zs_succ (n : Nat) : zs (n + 1) = 0 :: zs n := rfl
theorem alw_zs (m len : Nat) : ∀ (w : List Nat) (k : Nat), len ≤ k + m → Alw m len k w → w = zs w.length
  | [], _, _, _ => rfl
  | b :: w, k, h, a => by
    rw [Alw, bitsF_hi h, List.mem_singleton] at a
    rw [List.length_cons, zs_succ, a.1, ← alw_zs m len w (k + 1) (by omega) a.2]
theorem zs_alw (m len : Nat) : ∀ (n k : Nat), Alw m len k (zs n)
  | 0, _ => trivial
  | n + 1, k => by
    rw [zs_succ, Alw]
    refine ⟨?_, zs_alw m len n (k + 1)⟩
    unfold bitsF
    split <;> simp
theorem alw_lt (m len : Nat) : ∀ (w : List Nat) (k : Nat), Alw m len k w → ∀ b ∈ w, b < 2
  | [], _, _, _, h => by cases h
  | b :: w, k, a, c, h => by
    rcases List.mem_cons.mp h with rfl | h
    · exact bitsF_lt m k len _ a.1
    · exact alw_lt m len w (k + 1) a.2 c h
theorem lt_alw (m len : Nat) : ∀ (w : List Nat) (k : Nat), k + w.length + m ≤ len → (∀ b ∈ w, b < 2) → Alw m len k w
  | [], _, _, _ => trivial
  | b :: w, k, h, q => by
    rw [List.length_cons] at h
    refine ⟨?_, lt_alw m len w (k + 1) (by omega) fun c hc => q c (.tail _ hc)⟩
    rw [bitsF_lo (by omega)]
    have := q b (.head _)
    simp
    omega
theorem fnl_zs (m : Nat) : ∀ (n s : Nat), s < 2 ^ m → fnl m (zs n) s = 2 ^ n * s % 2 ^ m
  | 0, s, h => by
    show s = _
    rw [Nat.pow_zero, Nat.one_mul, Nat.mod_eq_of_lt h]
  | n + 1, s, h => by
    rw [zs_succ, fnl, fnl_zs m n _ (nx_lt m s 0)]
    unfold nx
    rw [Nat.mul_mod_mod, Nat.pow_succ]
    congr 1
    rw [Nat.mul_assoc]
    rfl
theorem fnl_lt (m : Nat) : ∀ (w : List Nat) (s : Nat), s < 2 ^ m → fnl m w s < 2 ^ m
  | [], s, h => h
  | b :: w, s, h => fnl_lt m w _ (nx_lt m s b)
/-- a whole word ends in noughts, so at state 0 -/
theorem full_split {m len : Nat} {w : List Nat} (hm : m ≤ len) (hl : w.length = len) (a : Alw m len 0 w) : ∃ u, w = u ++ zs m ∧ u.length = len - m ∧ ∀ b ∈ u, b < 2 := by
  refine ⟨w.take (len - m), ?_, by rw [List.length_take]; omega, fun b hb => alw_lt m len w 0 a b (List.mem_of_mem_take hb)⟩
  have e := (List.take_append_drop (len - m) w)
  rw [← e, alw_app] at a
  have z := alw_zs m len (w.drop (len - m)) (0 + (w.take (len - m)).length) (by rw [List.length_take]; omega) a.2
  have l : (w.drop (len - m)).length = m := by rw [List.length_drop]; omega
  rw [l] at z
  rw [← z]
  exact e.symm
theorem full_end {m len : Nat} {w : List Nat} (hm : m ≤ len) (hl : w.length = len) (a : Alw m len 0 w) : fnl m w 0 = 0 := by
  obtain ⟨u, rfl, _, _⟩ := full_split hm hl a
  rw [fnl_app, fnl_zs m m _ (fnl_lt m u 0 (Nat.two_pow_pos m)), Nat.mul_mod_right]
/-! the least by rows of candidates -/
structure Rlx {α : Type} (le : α → α → Prop) (Cs : List (Nat × α)) (f : Nat → Option α) : Prop where
  sub : ∀ g x, f g = some x → (g, x) ∈ Cs
  low : ∀ g y, (g, y) ∈ Cs → ∃ x, f g = some x ∧ le x y
theorem rlx_nil {α : Type} {le : α → α → Prop} {f : Nat → Option α} (h : ∀ g, f g = none) : Rlx le [] f :=
  ⟨fun g x e => (by rw [h g] at e; cases e), fun _ _ h => by cases h⟩
theorem rlx_step {α : Type} {le : α → α → Prop} (tr : ∀ {a b c}, le a b → le b c → le a c) (rf : ∀ a, le a a) {Cs : List (Nat × α)} {f f' : Nat → Option α} {g : Nat} {c v : α} (h : Rlx le Cs f)
    (h1 : f' g = some v) (h2 : ∀ j, j ≠ g → f' j = f j) (h3 : (f g = none ∧ v = c) ∨ (∃ o, f g = some o ∧ ((v = c ∧ le c o) ∨ (v = o ∧ le o c)))) : Rlx le (Cs ++ [(g, c)]) f' := by
  refine ⟨fun j x e => ?_, fun j y e => ?_⟩
  · by_cases hj : j = g
    · subst hj
      rw [h1] at e
      cases e
      rcases h3 with ⟨_, rfl⟩ | ⟨o, ho, ⟨rfl, _⟩ | ⟨rfl, _⟩⟩
      · simp
      · simp
      · exact List.mem_append_left _ (h.sub _ _ ho)
    · rw [h2 j hj] at e
      exact List.mem_append_left _ (h.sub _ _ e)
  · have cv : le v c := by
      rcases h3 with ⟨_, rfl⟩ | ⟨o, ho, ⟨rfl, _⟩ | ⟨rfl, q⟩⟩
      · exact rf _
      · exact rf _
      · exact q
    rcases List.mem_append.mp e with e' | e'
    · by_cases hj : j = g
      · subst hj
        obtain ⟨x, e1, e2⟩ := h.low _ _ e'
        refine ⟨v, h1, ?_⟩
        rcases h3 with ⟨z, _⟩ | ⟨o, ho, z⟩
        · rw [z] at e1; cases e1
        · rw [ho] at e1
          cases e1
          rcases z with ⟨rfl, q⟩ | ⟨rfl, _⟩
          · exact tr q e2
          · exact e2
      · rw [h2 j hj]
        exact h.low _ _ e'
    · cases List.mem_singleton.mp e'
      exact ⟨v, h1, cv⟩
structure Dpi {α : Type} (le : α → α → Prop) (m len : Nat) (val : List Nat → α) (j : Nat) (f : Nat → Option α) : Prop where
  sub : ∀ g x, f g = some x → ∃ w, Alw m len 0 w ∧ w.length = j ∧ fnl m w 0 = g ∧ val w = x
  low : ∀ w, Alw m len 0 w → w.length = j → ∃ x, f (fnl m w 0) = some x ∧ le x (val w)
theorem dpi_nil {α : Type} {le : α → α → Prop} (rf : ∀ a, le a a) {m len : Nat} {val : List Nat → α} {f : Nat → Option α} (h0 : f 0 = some (val [])) (h1 : ∀ g, g ≠ 0 → f g = none) : Dpi le m len val 0 f := by
  refine ⟨fun g x e => ?_, fun w _ hw => ?_⟩
  · by_cases hg : g = 0
    · subst hg
      rw [h0] at e
      cases e
      exact ⟨[], trivial, rfl, rfl, rfl⟩
    · rw [h1 g hg] at e
      cases e
  · rw [List.length_eq_zero_iff.mp hw]
    exact ⟨_, h0, rf _⟩
theorem dpi_step {α : Type} {le : α → α → Prop} (tr : ∀ {a b c}, le a b → le b c → le a c) {m len j : Nat} {val : List Nat → α} {f f' : Nat → Option α} {ext : Nat → α → Nat → α} (h : Dpi le m len val j f)
    (he : ∀ w b, w.length = j → val (w ++ [b]) = ext (fnl m w 0) (val w) b) (mo : ∀ w w' b, w.length = j → w'.length = j → fnl m w 0 = fnl m w' 0 → le (val w) (val w') → le (val (w ++ [b])) (val (w' ++ [b])))
    {Cs : List (Nat × α)} (hC : ∀ g y, (g, y) ∈ Cs ↔ ∃ s x b, f s = some x ∧ b ∈ bitsF m j len ∧ g = nx m s b ∧ y = ext s x b) (r : Rlx le Cs f') : Dpi le m len val (j + 1) f' := by
  refine ⟨fun g x e => ?_, fun w a hw => ?_⟩
  · obtain ⟨s, x0, b, e1, e2, rfl, rfl⟩ := (hC _ _).mp (r.sub _ _ e)
    obtain ⟨w, a1, a2, rfl, rfl⟩ := h.sub _ _ e1
    refine ⟨w ++ [b], (alw_app ..).mpr ⟨a1, ?_, trivial⟩, by rw [List.length_append, a2]; rfl, by rw [fnl_app]; rfl, he w b a2⟩
    rw [a2, Nat.zero_add]
    exact e2
  · rcases List.eq_nil_or_concat w with rfl | ⟨u, b, rfl⟩
    · cases hw
    · rw [List.concat_eq_append] at a hw ⊢
      have lu : u.length = j := by simpa using hw
      obtain ⟨a1, a2, _⟩ := (alw_app ..).mp a
      rw [lu, Nat.zero_add] at a2
      obtain ⟨x0, e1, e2⟩ := h.low u a1 lu
      obtain ⟨w0, b1, b2, b3, rfl⟩ := h.sub _ _ e1
      obtain ⟨x, e3, e4⟩ := r.low _ _ ((hC (nx m (fnl m u 0) b) (ext (fnl m u 0) (val w0) b)).mpr ⟨_, _, b, e1, a2, rfl, rfl⟩)
      refine ⟨x, by rw [fnl_app]; exact e3, tr e4 ?_⟩
      rw [← b3, ← he w0 b b2]
      exact mo w0 u b b2 lu b3 e2
/-! the order of costs and words -/
def lle : List Nat → List Nat → Prop
  | [], _ => True
  | _ :: _, [] => False
  | a :: as, b :: bs => a < b ∨ a = b ∧ lle as bs
theorem lle_refl : ∀ a, lle a a
  | [] => trivial
  | _ :: as => .inr ⟨rfl, lle_refl as⟩
theorem lle_trans : ∀ {a b c}, lle a b → lle b c → lle a c
  | [], _, _, _, _ => trivial
  | _ :: _, [], _, h, _ => h.elim
  | _ :: _, _ :: _, [], _, h => h.elim
  | a :: as, b :: bs, c :: cs, h, g => by
    rcases h with h | ⟨rfl, h⟩
    · rcases g with g | ⟨rfl, _⟩
      · exact .inl (by omega)
      · exact .inl h
    · rcases g with g | ⟨rfl, g⟩
      · exact .inl g
      · exact .inr ⟨rfl, lle_trans h g⟩
theorem lle_anti : ∀ {a b}, lle a b → lle b a → a = b
  | [], [], _, _ => rfl
  | [], _ :: _, _, h => h.elim
  | _ :: _, [], h, _ => h.elim
  | a :: as, b :: bs, h, g => by
    rcases h with h | ⟨rfl, h⟩
    · rcases g with g | ⟨rfl, _⟩ <;> omega
    · rcases g with g | ⟨_, g⟩
      · omega
      · rw [lle_anti h g]
theorem lle_snoc : ∀ {a b : List Nat} (x : Nat), a.length = b.length → lle a b → lle (a ++ [x]) (b ++ [x])
  | [], [], x, _, _ => .inr ⟨rfl, trivial⟩
  | [], _ :: _, _, h, _ => by cases h
  | _ :: _, [], _, h, _ => by cases h
  | a :: as, b :: bs, x, h, g => by
    rcases g with g | ⟨rfl, g⟩
    · exact .inl g
    · exact .inr ⟨rfl, lle_snoc x (by simpa using h) g⟩
theorem lex_lle : ∀ a b : List Nat, HT.lexLt (nI b) (nI a) = false ↔ lle a b
  | [], [] => by simp [lle, HT.lexLt]
  | [], _ :: _ => by simp [lle, HT.lexLt]
  | _ :: _, [] => by simp [lle, HT.lexLt]
  | a :: as, b :: bs => by
    show HT.lexLt ((b : Int) :: nI bs) ((a : Int) :: nI as) = false ↔ _
    rw [HT.lexLt_cons, lle]
    by_cases h : (b : Int) = a
    · have : b = a := by omega
      subst this
      rw [if_pos rfl, lex_lle as bs]
      simp
    · rw [if_neg h, decide_eq_false_iff_not]
      constructor
      · intro q; exact .inl (by omega)
      · rintro (q | ⟨rfl, _⟩)
        · omega
        · exact absurd rfl h
abbrev CW := Int × List Nat
def ple (x y : CW) : Prop := x.1 < y.1 ∨ x.1 = y.1 ∧ lle x.2 y.2
theorem ple_refl (x : CW) : ple x x := .inr ⟨rfl, lle_refl _⟩
theorem ple_trans {x y z : CW} (h : ple x y) (g : ple y z) : ple x z := by
  rcases h with h | ⟨h1, h2⟩ <;> rcases g with g | ⟨g1, g2⟩
  · exact .inl (by omega)
  · exact .inl (by omega)
  · exact .inl (by omega)
  · exact .inr ⟨by omega, lle_trans h2 g2⟩
theorem ple_anti {x y : CW} (h : ple x y) (g : ple y x) : x = y := by
  rcases h with h | ⟨h1, h2⟩ <;> rcases g with g | ⟨g1, g2⟩
  · omega
  · omega
  · omega
  · exact Prod.ext h1 (lle_anti h2 g2)
theorem ltL_ple (x y : CW) : ltL y.1 x.1 (nI y.2) (nI x.2) = false ↔ ple x y := by
  unfold ltL ple
  by_cases h : y.1 = x.1
  · rw [if_pos h, lex_lle]
    constructor
    · intro q; exact .inr ⟨h.symm, q⟩
    · rintro (q | ⟨_, q⟩)
      · omega
      · exact q
  · rw [if_neg h, decide_eq_false_iff_not]
    constructor
    · intro q; exact .inl (by omega)
    · rintro (q | ⟨q, _⟩) <;> omega
theorem HT_as : ∀ a b : List Int, HT.lexLt a b = true → HT.lexLt b a = false
  | [], [], h => by cases h
  | [], _ :: _, _ => rfl
  | _ :: _, [], h => by cases h
  | a :: as, b :: bs, h => by
    rw [HT.lexLt_cons] at h ⊢
    by_cases e : a = b
    · rw [if_pos e] at h
      rw [if_pos e.symm, HT_as as bs h]
    · rw [if_neg e, decide_eq_true_iff] at h
      rw [if_neg (Ne.symm e), decide_eq_false_iff_not]
      omega
theorem ple_of_lt {x y : CW} (h : ltL y.1 x.1 (nI y.2) (nI x.2) = true) : ple y x := by
  unfold ltL at h
  by_cases e : y.1 = x.1
  · rw [if_pos e] at h
    refine .inr ⟨e, (lex_lle _ _).mp ?_⟩
    cases q : HT.lexLt (nI x.2) (nI y.2)
    · rfl
    · rw [HT_as _ _ h] at q
      cases q
  · rw [if_neg e] at h
    exact .inl (of_decide_eq_true h)
end Fin

set_option maxRecDepth 100000
set_option maxHeartbeats 4000000
namespace Fin
open Mv Mir Ev
open PySem (sizeLine sizeLine_eq)
open L2 (atI ixN)
theorem way_get (m : Nat) (T : List Nat) (B : List (List D)) : ∀ (k i : Nat), (wayF m T B (i + k)).getD k [] = (wayF m T B i).headD []
  | 0, i => by
    obtain ⟨nxt, rows, h, _, _⟩ := wayF_cons m T B i
    rw [Nat.add_zero, h]
    rfl
  | k + 1, i => by
    rw [← Nat.add_assoc, wayF, List.getD_cons_succ, way_get m T B k i]
abbrev wW (m : Nat) (T : List Nat) (B : List (List D)) : List (List Int) := wayF m T B B.length
def uF (m : Nat) (T : List Nat) (B : List (List D)) (k s : Nat) : Int := ((wW m T B).getD k []).getD s 0
theorem u_last (m : Nat) (T : List Nat) (B : List (List D)) (s : Nat) : uF m T B B.length s = 0 := by
  have e := way_get m T B B.length 0
  rw [Nat.zero_add] at e
  unfold uF wW
  rw [e, wayF, List.headD_cons, List.getD_eq_getElem?_getD, List.getElem?_replicate]
  split <;> rfl
theorem u_rec (m : Nat) (T : List Nat) (B : List (List D)) (k s : Nat) (hk : k < B.length) (hs : s < 2 ^ m) : uF m T B k s = wayV m T (B.getD k []) ((wW m T B).getD (k + 1) []) (bitsF m k B.length) s := by
  have e := way_get m T B k (B.length - k)
  rw [show B.length - k + k = B.length by omega, show B.length - k = (B.length - 1 - k) + 1 by omega, wayF, List.headD_cons, show B.length - 1 - (B.length - 1 - k) = k by omega] at e
  have e2 := way_get m T B (k + 1) (B.length - 1 - k)
  rw [show B.length - 1 - k + (k + 1) = B.length by omega] at e2
  unfold uF wW
  rw [e, e2, List.getD_eq_getElem?_getD, List.getElem?_map, List.getElem?_range hs]
  rfl
theorem u_hi {m : Nat} {T : List Nat} {B : List (List D)} {k s : Nat} (hk : k < B.length) (hs : s < 2 ^ m) (h : B.length ≤ k + m) : uF m T B k s = uF m T B (k + 1) (nx m s 0) + dF T (B.getD k []) s 0 := by
  rw [u_rec m T B k s hk hs, bitsF_hi h]
  rfl
theorem u_lo {m : Nat} {T : List Nat} {B : List (List D)} {k s : Nat} (hk : k < B.length) (hs : s < 2 ^ m) (h : k + m < B.length) : uF m T B k s = min (uF m T B (k + 1) (nx m s 0) + dF T (B.getD k []) s 0) (uF m T B (k + 1) (nx m s 1) + dF T (B.getD k []) s 1) := by
  rw [u_rec m T B k s hk hs, bitsF_lo h]
  rfl
def rdW (m : Nat) (T : List Nat) (B : List (List D)) (W : List (List Int)) : Nat → Nat → Nat → List Nat
  | 0, _, _ => []
  | n + 1, k, s => readB m T B W k s :: rdW m T B W n (k + 1) (nx m s (readB m T B W k s))
theorem rdW_len (m : Nat) (T : List Nat) (B : List (List D)) (W : List (List Int)) : ∀ n k s, (rdW m T B W n k s).length = n
  | 0, _, _ => rfl
  | n + 1, k, s => by rw [rdW, List.length_cons, rdW_len m T B W n]
theorem rdW_lt (m : Nat) (T : List Nat) (B : List (List D)) (W : List (List Int)) : ∀ n k s, ∀ b ∈ rdW m T B W n k s, b < 2
  | 0, _, _, _, h => by cases h
  | n + 1, k, s, b, h => by
    rw [rdW] at h
    rcases List.mem_cons.mp h with rfl | h
    · exact readB_lt ..
    · exact rdW_lt m T B W n _ _ b h
theorem rdW_snoc (m : Nat) (T : List Nat) (B : List (List D)) (W : List (List Int)) : ∀ n k s, rdW m T B W (n + 1) k s = rdW m T B W n k s ++ [readB m T B W (k + n) (fnl m (rdW m T B W n k s) s)]
  | 0, k, s => rfl
  | n + 1, k, s => by
    rw [rdW, rdW_snoc m T B W n, rdW, List.cons_append, fnl, show k + 1 + n = k + (n + 1) by omega]
theorem drop_get (B : List (List D)) {k : Nat} (h : k < B.length) : B.drop k = B.getD k [] :: B.drop (k + 1) := by
  rw [List.drop_eq_getElem_cons h, List.getD_eq_getElem?_getD, List.getElem?_eq_getElem h]
  rfl
theorem u_zs (m : Nat) (T : List Nat) (B : List (List D)) : ∀ (i k s : Nat), k + i = B.length → B.length ≤ k + m → s < 2 ^ m → uF m T B k s = (pc m T (B.drop k) (zs i) s : Nat)
  | 0, k, s, h, _, _ => by
    rw [show k = B.length by omega, u_last, List.drop_length]
    rfl
  | i + 1, k, s, h, h2, hs => by
    rw [u_hi (by omega) hs h2, drop_get B (show k < B.length by omega), zs_succ, pc, u_zs m T B i (k + 1) (nx m s 0) (by omega) (by omega) (nx_lt m s 0)]
    omega
theorem readB_eq (m : Nat) (T : List Nat) (B : List (List D)) (k s : Nat) : readB m T B (wW m T B) k s = if uF m T B k s < uF m T B (k + 1) (nx m s 0) + dF T (B.getD k []) s 0 then 1 else 0 := rfl
/-- the way told by read is the cheapest, of these the least -/
theorem opt (m : Nat) (T : List Nat) (B : List (List D)) : ∀ (n k s : Nat), k + n + m = B.length → s < 2 ^ m →
    uF m T B k s = (pc m T (B.drop k) (rdW m T B (wW m T B) n k s ++ zs m) s : Nat) ∧
    ∀ w, Alw m B.length k w → w.length = n + m → ple (uF m T B k s, rdW m T B (wW m T B) n k s ++ zs m) ((pc m T (B.drop k) w s : Nat), w)
  | 0, k, s, h, hs => by
    have e := u_zs m T B m k s (by omega) (by omega) hs
    refine ⟨e, fun w a hw => ?_⟩
    have hw' : w = zs m := by
      rw [alw_zs m B.length w k (by omega) a, hw, Nat.zero_add]
    rw [hw', e]
    exact ple_refl _
  | n + 1, k, s, h, hs => by
    have d := drop_get B (show k < B.length by omega)
    have ul := u_lo (T := T) (show k < B.length by omega) hs (show k + m < B.length by omega)
    have rb := readB_eq m T B k s
    obtain ⟨a0, b0⟩ := opt m T B n (k + 1) (nx m s 0) (by omega) (nx_lt m s 0)
    obtain ⟨a1, b1⟩ := opt m T B n (k + 1) (nx m s 1) (by omega) (nx_lt m s 1)
    rw [rdW, List.cons_append]
    rw [d]
    have key : ∀ b : Nat, readB m T B (wW m T B) k s = b → uF m T B k s = uF m T B (k + 1) (nx m s b) + dF T (B.getD k []) s b := by
      rintro b rfl
      rw [rb]
      split
      · omega
      · omega
    refine ⟨?_, fun w a hw => ?_⟩
    · rw [pc, key _ rfl, (opt m T B n (k + 1) (nx m s (readB m T B (wW m T B) k s)) (by omega) (nx_lt m s _)).1]
      omega
    · cases w with
      | nil => rw [List.length_nil] at hw; omega
      | cons c w =>
        rw [Alw, bitsF_lo (by omega)] at a
        have hc : c = 0 ∨ c = 1 := by simpa using a.1
        have hw2 : w.length = n + m := by
          rw [List.length_cons] at hw
          omega
        rw [pc]
        have le : ∀ c, c = 0 ∨ c = 1 → uF m T B k s ≤ uF m T B (k + 1) (nx m s c) + dF T (B.getD k []) s c := by
          rintro c (rfl | rfl) <;> omega
        have hb := (opt m T B n (k + 1) (nx m s c) (by omega) (nx_lt m s c)).2 w a.2 hw2
        have l1 := le c hc
        by_cases e : readB m T B (wW m T B) k s = c
        · have kk := key c e
          rw [e]
          rcases hb with hb | ⟨hb, hl⟩
          · refine .inl ?_
            show uF m T B k s < ((dF T (B.getD k []) s c + pc m T (B.drop (k + 1)) w (nx m s c) : Nat) : Int)
            have : uF m T B (k + 1) (nx m s c) < (pc m T (B.drop (k + 1)) w (nx m s c) : Nat) := hb
            omega
          · refine .inr ⟨?_, .inr ⟨rfl, hl⟩⟩
            show uF m T B k s = ((dF T (B.getD k []) s c + pc m T (B.drop (k + 1)) w (nx m s c) : Nat) : Int)
            have : uF m T B (k + 1) (nx m s c) = (pc m T (B.drop (k + 1)) w (nx m s c) : Nat) := hb
            omega
        · have hb' : uF m T B (k + 1) (nx m s c) ≤ (pc m T (B.drop (k + 1)) w (nx m s c) : Nat) := by
            rcases hb with hb | ⟨hb, _⟩
            · exact Int.le_of_lt hb
            · exact Int.le_of_eq hb
          rw [rb] at e
          by_cases q : uF m T B k s < uF m T B (k + 1) (nx m s 0) + dF T (B.getD k []) s 0
          · rw [if_pos q] at e
            have c0 : c = 0 := by omega
            subst c0
            refine .inl ?_
            show uF m T B k s < ((dF T (B.getD k []) s 0 + pc m T (B.drop (k + 1)) w (nx m s 0) : Nat) : Int)
            omega
          · rw [if_neg q] at e
            have c1 : c = 1 := by omega
            subst c1
            have r0 : readB m T B (wW m T B) k s = 0 := by rw [rb, if_neg q]
            rw [r0]
            by_cases z : uF m T B k s < ((dF T (B.getD k []) s 1 + pc m T (B.drop (k + 1)) w (nx m s 1) : Nat) : Int)
            · exact .inl z
            · refine .inr ⟨?_, .inl (by decide)⟩
              show uF m T B k s = ((dF T (B.getD k []) s 1 + pc m T (B.drop (k + 1)) w (nx m s 1) : Nat) : Int)
              omega
end Fin

set_option maxRecDepth 100000
set_option maxHeartbeats 4000000
namespace Fin
open Mv Mir Ev
open PySem (sizeLine sizeLine_eq)
open L2 (atI ixN)
theorem s_read_onX (n m s0 : Nat) (hs0 : s0 < 2 ^ m) (taps : List Nat) (B : List (List D)) (S : Store) (hS : S[n]? = some (0, mach m taps)) (hm : 1 ≤ m ∧ m ≤ 4) (hl : taps.length ≤ 10) (hB : ∀ b ∈ B, ∀ d ∈ b, BitN d) (hlen : m ≤ B.length ∧ B.length ≤ 100) :
    m_Machine_read_on [(.c, .ins n), (.c, .int s0), (.n, .lst (B.map D.lst))] S = .ok (.tup [.int (uF m taps B 0 s0), .lst ((nI (rdW m taps B (wW m taps B) (B.length - m) 0 s0)).map D.int)], .c) S := by
  have wy := s_ways n m taps B S hS hm hl hB hlen.2
  have wl := wayF_len m taps B B.length
  have wr := wayF_row m taps B B.length
  unfold uF wW
  generalize wayF m taps B B.length = W at *
  have pz := Nat.two_pow_pos m
  obtain ⟨a1, a2⟩ := at_row (m := m) (i := 0) (q := s0) (show 0 < W.length by omega) wr hs0
  obtain ⟨r2, S2, h1, rfl, y6, y7, y8, y9, h2⟩ := for_inv (P := fun j r S' => S' = S ∧ ∃ (y6 y7 y8 y9 : Slot), r = [.ar .c (.ins n), .ar .c (.int (fnl m (rdW m taps B W j 0 s0) s0 : Nat)), .ar .n (.lst (B.map D.lst)), .ar .c (.lst (W.map rowI)), .ar .c (.int ((W.getD 0 []).getD s0 0)), .own (.lst ((nI (rdW m taps B W j 0 s0)).map D.int)), y6, y7, y8, y9])
    (g := gN 6) (p := readIn) (rangeD 0 1 (B.length - m)) 0 [.ar .c (.ins n), .ar .c (.int (s0 : Nat)), .ar .n (.lst (B.map D.lst)), .ar .c (.lst (W.map rowI)), .ar .c (.int ((W.getD 0 []).getD s0 0)), .own (.lst []), .no, .no, .no, .no] S ⟨rfl, .no, .no, .no, .no, rfl⟩ (fun j d r S' hd hP => by
      obtain ⟨rfl, y6, y7, y8, y9, rfl⟩ := hP
      have hj : j < B.length - m := by
        have := (List.getElem?_eq_some_iff.mp hd).1
        rw [rangeD_length] at this
        exact this
      have hd2 : d = .int (j : Nat) := by
        rw [rangeD_get hj] at hd
        refine (Option.some.inj hd).symm.trans (congrArg D.int ?_)
        omega
      subst hd2
      rw [Nat.zero_add]
      obtain ⟨z7, z8, z9, q⟩ := read_one n m j (fnl m (rdW m taps B W j 0 s0) s0) taps B W (nI (rdW m taps B W j 0 s0)) (.ar .c (.int ((W.getD 0 []).getD s0 0))) y7 y8 y9 S' hS hm hl hB wr (by omega) (by omega) (fnl_lt m _ s0 hs0) (by rw [List.length_map, rdW_len]; omega)
      have sn := rdW_snoc m taps B W j 0 s0
      rw [Nat.zero_add] at sn
      refine ⟨_, gn_ap _ _ _, _, _, q, rfl, .ar .c (.int j), z7, z8, z9, ?_⟩
      have eN : ∀ (a : List Nat) (b : Nat), nI (a ++ [b]) = nI a ++ [(b : Int)] := fun a b => by simp [nI]
      rw [sn, fnl_app, eN]
      rfl)
  rw [rangeD_length, Nat.zero_add] at h2
  subst h2
  have ib : inR ((B.length : Int) - m) = true := by
    rw [show ((B.length : Int) - m) = ((B.length - m : Nat) : Int) by omega]
    exact inR_nat (by omega)
  have it : ((B.length : Int) - m).toNat = B.length - m := by omega
  have a1' : atI (W.map rowI) 0 = some (rowI (W.getD 0 [])) := a1
  have a2' : atI ((W.getD 0 []).map D.int) (s0 : Int) = some (.int ((W.getD 0 []).getD s0 0)) := a2
  generalize hR : rdW m taps B W (B.length - m) 0 s0 = R at *
  generalize (W.getD 0 []).getD s0 0 = c0 at *
  generalize W.getD 0 [] = w0 at *
  simp [m_Machine_read_on, b_Machine_read_on, hS, tab_ways_on, wy, a1', a2', ib, it]
  rw [h1]
  simp
abbrev btF (T : List Nat) (cnt : Nat) (came : List D) : List (List D) := (List.range cnt).map fun t => chunk T.length came t
theorem bt_eq (T : List Nat) (cnt : Nat) (came : List D) : chunks T.length cnt came = (btF T cnt came).map D.lst := by
  show _ = ((List.range cnt).map _).map D.lst
  rw [List.map_map]
  rfl
theorem bt_len (T : List Nat) (cnt : Nat) (came : List D) : (btF T cnt came).length = cnt := by
  show ((List.range cnt).map _).length = cnt
  rw [List.length_map, List.length_range]
theorem bt_ok {T : List Nat} {cnt : Nat} {came : List D} (hb : ∀ d ∈ came, BitN d) : ∀ b ∈ btF T cnt came, ∀ d ∈ b, BitN d := fun b hb' d hd => by
  obtain ⟨t, _, rfl⟩ := List.mem_map.mp hb'
  exact hb d (List.mem_of_mem_drop (List.mem_of_mem_take hd))
end Fin

set_option maxRecDepth 100000
set_option maxHeartbeats 4000000
namespace Fin
open Mv Mir Ev
open PySem (sizeLine sizeLine_eq)
open L2 (atI ixN)
theorem wt_sum : ∀ (k x : Nat), x < 2 ^ k → ((List.range k).map fun (j : Nat) => ((x / 2 ^ j % 2 : Nat) : Int)).sum = wtF x
  | 0, x, h => by
    rw [show x = 0 by simpa using h]
    unfold wtF
    rfl
  | k + 1, x, h => by
    rw [List.range_succ_eq_map, List.map_cons, List.sum_cons, List.map_map, wt_rec x, ← wt_sum k (x / 2) (by rw [Nat.pow_succ] at h; omega)]
    congr 1
    · simp
    · congr 1
      refine List.map_congr_left fun j _ => ?_
      show ((x / 2 ^ (j + 1) % 2 : Nat) : Int) = ((x / 2 / 2 ^ j % 2 : Nat) : Int)
      rw [Nat.pow_succ, Nat.mul_comm, Nat.div_div_eq_div_mul]
theorem and_div (w t j : Nat) : (w / 2 ^ j) &&& (t / 2 ^ j) = (w &&& t) / 2 ^ j := by
  rw [← Nat.shiftRight_eq_div_pow, ← Nat.shiftRight_eq_div_pow, ← Nat.shiftRight_eq_div_pow, Nat.shiftRight_and_distrib]
theorem c_place (m w t : Nat) (x0 x1 x2 x3 x5 : Slot) (S : Store) (hm : m ≤ 4) :
    compL (gN 7) tYesM (eBin gAnd (eBin gAnd (eBin gShr (eVar 4) (eVar 7)) (eBin gShr (eVar 6) (eVar 7))) (eC (.int 1)))
      [x0, x1, x2, x3, .ar .c (.int w), x5, .ar .c (.int t), .no] (rangeD 0 1 (m + 1)) S =
      .ok (((List.range (m + 1)).map fun (j : Nat) => (((w &&& t) / 2 ^ j % 2 : Nat) : Int)).map D.int) S := by
  rw [List.map_map]
  refine comp_rng _ _ _ _ _ _ _ _ fun j hj => ⟨_, rfl, rfl, .c, ?_, Eq.trans rfl rfl⟩
  have e1 : PySem.Builtin.bitAnd ((w : Int) / 2 ^ j) ((t : Int) / 2 ^ j) = (((w &&& t) / 2 ^ j : Nat) : Int) := by
    rw [← and_div]
    have c1 : ((w : Int) / 2 ^ j) = ((w / 2 ^ j : Nat) : Int) := by simp
    have c2 : ((t : Int) / 2 ^ j) = ((t / 2 ^ j : Nat) : Int) := by simp
    rw [c1, c2]
    generalize w / 2 ^ j = a
    generalize t / 2 ^ j = b
    rw [PyProof.Rows.bitAnd_pp (by omega) (by omega)]
    simp
  have hj2 : j < 18446744073709551616 := by omega
  have e2 : (((w &&& t) / 2 ^ j % 2 : Nat) : Int) = (((w &&& t) / 2 ^ j : Nat) : Int) % 2 := by omega
  show _ = Rs.ok (D.int (((w &&& t) / 2 ^ j % 2 : Nat) : Int), Fl.c) S
  rw [e2]
  generalize (((w &&& t) / 2 ^ j : Nat) : Int) = v at *
  simp [e1, PyProof.Rows.bitAnd_m1, hj2]
theorem s_lstep (m s b : Nat) (T : List Nat) (f0 f1 f2 f3 : Fl) (S : Store) (hm : m ≤ 4) (hs : s < 2 ^ m) (hb : b < 2) (hl : T.length ≤ 10) (h1 : inf f1 ≠ .t) (k1 : okI (inf f1) = true) :
    m__law_step [(f0, .int m), (f1, .lst ((nI T).map D.int)), (f2, .int s), (f3, .int b)] S = .ok (.tup [.int (nx m s b : Nat), .lst ((T.map (oddF (2 * s + b))).map D.int)], .c) S := by
  have hw : 2 * s + b < 2 ^ (m + 1) := by rw [Nat.pow_succ]; omega
  have ew : (2 : Int) * s + b = ((2 * s + b : Nat) : Int) := by omega
  have enx : ((2 * s + b : Nat) : Int) % 2 ^ m = (nx m s b : Nat) := by
    unfold nx
    simp
  have hin : inR ((m : Int) + 1) = true := inR_nat (n := m + 1) (by omega)
  have hn : ((m : Int) + 1).toNat = m + 1 := by omega
  have c : compL (gN 6) tYesM (eBin gMod (eCal gSum (aCons (eLc (iArgs gRng1 (aCons (eBin gAdd (eVar 0) (eC (.int 1))) aNil)) [7] (gN 7) tYesM (eBin gAnd (eBin gAnd (eBin gShr (eVar 4) (eVar 7)) (eBin gShr (eVar 6) (eVar 7))) (eC (.int 1)))) aNil)) (eC (.int 2)))
      [.ar f0 (.int m), .ar f1 (.lst ((nI T).map D.int)), .ar f2 (.int s), .ar f3 (.int b), .ar .c (.int (2 * s + b : Nat)), .no, .no, .no] ((nI T).map D.int) S = .ok ((nI T).map fun x => D.int (oddF (2 * s + b) x.toNat)) S := by
    refine comp_ints _ _ _ _ _ _ _ fun x hx => ⟨_, rfl, rfl, .c, ?_, Eq.trans rfl rfl⟩
    obtain ⟨t, ht, rfl⟩ := List.mem_map.mp hx
    have c1 := c_place m (2 * s + b) t (.ar f0 (.int m)) (.ar f1 (.lst ((nI T).map D.int))) (.ar f2 (.int s)) (.ar f3 (.int b)) .no S hm
    have sm := wt_sum (m + 1) ((2 * s + b) &&& t) (Nat.lt_of_le_of_lt Nat.and_le_left hw)
    generalize hL : (List.range (m + 1)).map (fun (j : Nat) => ((((2 * s + b) &&& t) / 2 ^ j % 2 : Nat) : Int)) = L at c1 sm
    have c2 := kcp_ap [.ar f0 (.int m), .ar f1 (.lst ((nI T).map D.int)), .ar f2 (.int s), .ar f3 (.int b), .ar .c (.int (2 * s + b : Nat)), .no, .ar .c (.int t), .no] S [7] (gN 7) tYesM _ (rangeD 0 1 (m + 1)) _ S (by rw [rangeD_length]; omega) c1
    generalize (2 * s + b) = w at *
    simp at c2
    simp [freeE, hin, hn, c2, sm, oddF]
  have e2 : ((nI T).map fun x => D.int (oddF (2 * s + b) x.toNat)) = (T.map (oddF (2 * s + b))).map D.int := by simp [nI]
  rw [e2] at c
  generalize hLL : T.map (oddF (2 * s + b)) = LL at *
  have lT : ((nI T).map D.int).length ≤ 16777216 := by simp; omega
  have c2 := kcp_ap [.ar f0 (.int m), .ar f1 (.lst ((nI T).map D.int)), .ar f2 (.int s), .ar f3 (.int b), .ar .c (.int (2 * s + b : Nat)), .no, .no, .no] S [6] (gN 6) tYesM _ ((nI T).map D.int) _ S lT c
  generalize (nI T).map D.int = TT at *
  have hm2 : m < 18446744073709551616 := by omega
  generalize hW : 2 * s + b = w at *
  generalize hN : nx m s b = q at *
  have hm3 : (m : Int) ≤ 1000000 := by omega
  have lgp : ((2 : Int) ^ m).natAbs.log2 < 9000 := by
    have : m = 0 ∨ m = 1 ∨ m = 2 ∨ m = 3 ∨ m = 4 := by omega
    rcases this with rfl | rfl | rfl | rfl | rfl <;> decide +kernel
  have pz : 0 < ((2 : Int) ^ m) := by
    have := Nat.two_pow_pos m
    have e : ((2 ^ m : Nat) : Int) = (2 : Int) ^ m := by simp
    omega
  have mu : mulOk 2 (s : Int) = true := by simp [mulOk]
  simp [m__law_step, b__law_step, freeE, ew, c2, hm2, mu, enx, h1, k1, hm3, lgp, pz]
end Fin

set_option maxRecDepth 100000
set_option maxHeartbeats 4000000
namespace Fin
open Mv Mir Ev
open PySem (sizeLine sizeLine_eq)
open L2 (atI ixN)
/-- what is no message -/
inductive BadW : D → Prop
  | non : BadW .non
  | str (z : PySem.Str) : BadW (.str z)
  | tup (xs : List D) : BadW (.tup xs)
  | dic (k) (xs : List D) : BadW (.dic k xs)
  | long (xs : List D) (h : 40 < xs.length) : BadW (.lst xs)
  | odd (xs : List D) (h : xs.length ≤ 40) (ht : ∀ d ∈ xs, (tyD d).isSome = true) (hb : (xs.map fun d => amongD d 0 1).all id = false) : BadW (.lst xs)
theorem unl_app : ∀ (xs ys : List Int) (ds es : List D), xs.length = ds.length → unlD (xs ++ ys) (ds ++ es) = unlD xs ds + unlD ys es
  | [], ys, [], es, _ => by simp [unlD]
  | [], _, _ :: _, _, h => by cases h
  | _ :: _, _, [], _, h => by cases h
  | x :: xs, ys, d :: ds, es, h => by
    have ih := unl_app xs ys ds es (by simpa using h)
    rw [List.cons_append, List.cons_append]
    cases d with
    | int y =>
      rw [unlD, unlD, ih]
      omega
    | _ => simp only [unlD, ih]
theorem pc_run (m : Nat) (T : List Nat) : ∀ (B : List (List D)) (w : List Nat) (s : Nat), (∀ t ∈ B, t.length = T.length) → w.length = B.length → pc m T B w s = unlD (runF m T w s) B.flatten
  | [], [], s, _, _ => by simp [pc, runF, unlD]
  | [], _ :: _, _, _, h => by cases h
  | _ :: _, [], _, _, h => by cases h
  | t :: B, b :: w, s, hB, h => by
    rw [pc, runF, List.flatten_cons, unl_app _ _ _ _ (by rw [List.length_map, hB t (.head _)]), pc_run m T B w _ (fun u hu => hB u (.tail _ hu)) (by simpa using h)]
    rfl
theorem chunk_flat (sz : Nat) (came : List D) : ∀ n, ((List.range n).map fun t => chunk sz came t).flatten = came.take (n * sz)
  | 0 => by simp
  | n + 1 => by
    rw [List.range_succ, List.map_append, List.flatten_append, chunk_flat sz came n, Nat.succ_mul, List.take_add]
    simp [chunk]
theorem chunk_len (sz cnt : Nat) (came : List D) (h : came.length = cnt * sz) (t : Nat) (ht : t < cnt) : (chunk sz came t).length = sz := by
  unfold chunk
  have : (t + 1) * sz ≤ cnt * sz := Nat.mul_le_mul_right sz ht
  rw [Nat.succ_mul] at this
  rw [List.length_take, List.length_drop]
  omega
theorem cost_run (m cnt : Nat) (T : List Nat) (came : List D) (w : List Nat) (hl : came.length = cnt * T.length) (hw : w.length = cnt) : pc m T (btF T cnt came) w 0 = unlD (runF m T w 0) came := by
  rw [pc_run m T (btF T cnt came) w 0 (fun t ht => by
    obtain ⟨i, hi, rfl⟩ := List.mem_map.mp ht
    exact chunk_len _ cnt came hl i (List.mem_range.mp hi)) (by rw [bt_len, hw])]
  congr 1
  unfold btF
  rw [chunk_flat, ← hl, List.take_length]
/-! a writing tells its message -/
theorem unl_zero : ∀ (xs ys : List Int), xs.length = ys.length → unlD xs (ys.map D.int) = 0 → xs = ys
  | [], [], _, _ => rfl
  | [], _ :: _, h, _ => by cases h
  | _ :: _, [], h, _ => by cases h
  | x :: xs, y :: ys, h, z => by
    rw [List.map_cons, unlD] at z
    by_cases e : x = y
    · rw [if_pos e, Nat.zero_add] at z
      rw [e, unl_zero xs ys (by simpa using h) z]
    · rw [if_neg e] at z
      omega
theorem unl_self : ∀ xs : List Int, unlD xs (xs.map D.int) = 0
  | [] => rfl
  | x :: xs => by
    rw [List.map_cons, unlD, if_pos rfl, unl_self xs]
theorem low_bit : ∀ (t : Nat), t ≠ 0 → ∃ p u, t = 2 ^ p * (2 * u + 1)
  | t, h => by
    by_cases e : t % 2 = 1
    · exact ⟨0, t / 2, by omega⟩
    · obtain ⟨p, u, q⟩ := low_bit (t / 2) (by omega)
      refine ⟨p + 1, u, ?_⟩
      rw [Nat.pow_succ, Nat.mul_assoc, Nat.mul_left_comm, ← q]
      omega
  termination_by t => t
theorem and_low : ∀ (p r u : Nat), r < 2 ^ p → (2 ^ p + r) &&& (2 ^ p * (2 * u + 1)) = 2 ^ p
  | p, r, u, h => by
    refine Nat.eq_of_testBit_eq fun i => ?_
    rw [Nat.testBit_and, Nat.testBit_two_pow_mul, Nat.testBit_two_pow]
    by_cases h1 : i < p
    · have : ¬ p ≤ i := by omega
      have : ¬ p = i := by omega
      simp [*]
    · by_cases h2 : p = i
      · subst h2
        rw [Nat.testBit_two_pow_add_eq, Nat.testBit_lt_two_pow h]
        simp [Nat.testBit_zero]
      · have lt : 2 ^ p + r < 2 ^ i := by
          have : 2 ^ (p + 1) ≤ 2 ^ i := Nat.pow_le_pow_right (by decide) (by omega)
          rw [Nat.pow_succ] at this
          omega
        rw [Nat.testBit_lt_two_pow lt]
        simp [h2]
theorem wt_pow : ∀ p, wtF (2 ^ p) = 1
  | 0 => by
    rw [wt_rec]
    simp [wtF]
  | p + 1 => by
    rw [wt_rec, show 2 ^ (p + 1) % 2 = 0 by rw [Nat.pow_succ]; omega, show 2 ^ (p + 1) / 2 = 2 ^ p by rw [Nat.pow_succ]; omega, wt_pow p]
    rfl
theorem run_hit (m : Nat) (T : List Nat) (p u : Nat) (ht : 2 ^ p * (2 * u + 1) ∈ T) (hp : p ≤ m) : ∀ (k q r st b : Nat) (bs : List Nat), 2 * st + b = 2 ^ q + r → r < 2 ^ q → q + k = p → k ≤ bs.length → (∀ c ∈ bs, c < 2) → ∃ x ∈ runF m T (b :: bs) st, x ≠ 0
  | 0, q, r, st, b, bs, h1, h2, h3, _, _ => by
    have : q = p := by omega
    subst this
    refine ⟨1, ?_, by decide⟩
    rw [runF]
    refine List.mem_append_left _ (List.mem_map.mpr ⟨_, ht, ?_⟩)
    unfold oddF
    rw [h1, and_low q r u h2, wt_pow]
    rfl
  | k + 1, q, r, st, b, bs, h1, h2, h3, h4, h5 => by
    cases bs with
    | nil => cases h4
    | cons c bs =>
      have hc := h5 c (.head _)
      have lt : 2 ^ q + r < 2 ^ m := by
        have : 2 ^ (q + 1) ≤ 2 ^ m := Nat.pow_le_pow_right (by decide) (by omega)
        rw [Nat.pow_succ] at this
        omega
      obtain ⟨x, hx, nx⟩ := run_hit m T p u ht hp k (q + 1) (2 * r + c) ((2 * st + b) % 2 ^ m) c bs (by rw [h1, Nat.mod_eq_of_lt lt, Nat.pow_succ]; omega) (by rw [Nat.pow_succ]; omega) (by omega) (by simpa using h4) (fun y hy => h5 y (.tail _ hy))
      refine ⟨x, ?_, nx⟩
      rw [runF]
      exact List.mem_append_right _ hx
theorem run_null (m : Nat) (T : List Nat) (p u : Nat) (ht : 2 ^ p * (2 * u + 1) ∈ T) (hp : p ≤ m) : ∀ (d : List Nat), (∀ c ∈ d, c < 2) → (∀ x ∈ runF m T (d ++ zs m) 0, x = 0) → ∀ c ∈ d, c = 0
  | [], _, _, c, h => by cases h
  | b :: d, hb, hx, c, hc => by
    have b0 : b = 0 := by
      have b2 := hb b (.head _)
      by_cases e : b = 0
      · exact e
      · have b1 : b = 1 := by omega
        subst b1
        obtain ⟨x, h1, h2⟩ := run_hit m T p u ht hp p 0 0 0 1 (d ++ zs m) (by decide) (by decide) (by omega) (by rw [List.length_append, List.length_replicate]; omega) (app_lt (fun y hy => hb y (.tail _ hy)) (zs_lt m))
        exact absurd (hx x h1) h2
    subst b0
    rcases List.mem_cons.mp hc with rfl | hc
    · rfl
    · refine run_null m T p u ht hp d (fun y hy => hb y (.tail _ hy)) (fun x h => hx x ?_) c hc
      rw [List.cons_append, runF]
      refine List.mem_append_right _ ?_
      rw [show (2 * 0 + 0) % 2 ^ m = 0 by simp]
      exact h
theorem xL_zero : ∀ (a b : List Nat), a.length = b.length → (∀ c ∈ a, c < 2) → (∀ c ∈ b, c < 2) → (∀ c ∈ xL a b, c = 0) → a = b
  | [], [], _, _, _, _ => rfl
  | [], _ :: _, h, _, _, _ => by cases h
  | _ :: _, [], h, _, _, _ => by cases h
  | x :: a, y :: b, h, ha, hb, hz => by
    have e : xr x y = 0 := hz _ (.head _)
    unfold xr at e
    have := ha x (.head _)
    have := hb y (.head _)
    rw [show x = y by omega, xL_zero a b (by simpa using h) (fun c hc => ha c (.tail _ hc)) (fun c hc => hb c (.tail _ hc)) (fun c hc => hz c (.tail _ hc))]
theorem xL_zs (m : Nat) : xL (zs m) (zs m) = zs m := by
  unfold xL zs
  rw [List.zipWith_replicate]
  simp [xr]
theorem run_sum (m : Nat) (T B C : List Nat) (e : B.length = C.length) (hb : ∀ b ∈ B, b < 2) (hc : ∀ b ∈ C, b < 2) : runF m T (xL B C ++ zs m) 0 = List.zipWith PySem.Builtin.bitXor (runF m T (B ++ zs m) 0) (runF m T (C ++ zs m) 0) := by
  have q := run_x m T (B ++ zs m) (C ++ zs m) (zs m) (zs m) (by simp [e]) rfl (app_lt hb (zs_lt m)) (app_lt hc (zs_lt m)) (zs_lt m) (zs_lt m)
  rw [xL_zs, win_zero] at q
  rw [← q]
  congr 1
  show _ = List.zipWith xr (B ++ zs m) (C ++ zs m)
  rw [List.zipWith_append e]
  congr 1
  exact (xL_zs m).symm

theorem run_bit (m : Nat) (T : List Nat) : ∀ (w : List Nat) (s : Nat), ∀ x ∈ runF m T w s, x = 0 ∨ x = 1
  | [], _, _, h => by cases h
  | b :: w, s, x, h => by
    rw [runF] at h
    rcases List.mem_append.mp h with h | h
    · obtain ⟨t, _, rfl⟩ := List.mem_map.mp h
      unfold oddF
      omega
    · exact run_bit m T w _ x h
theorem run_inj {m : Nat} {T : List Nat} (hT : T ≠ []) (ht : ∀ t ∈ T, 1 ≤ t ∧ t < 2 ^ (m + 1)) (B C : List Nat) (e : B.length = C.length) (hb : ∀ b ∈ B, b < 2) (hc : ∀ b ∈ C, b < 2) (h : runF m T (B ++ zs m) 0 = runF m T (C ++ zs m) 0) : B = C := by
  obtain ⟨t, T', rfl⟩ := List.exists_cons_of_ne_nil hT
  obtain ⟨h1, h2⟩ := ht t (.head _)
  obtain ⟨p, u, q⟩ := low_bit t (by omega)
  have hp : p ≤ m := by
    by_cases z : p ≤ m
    · exact z
    · have : 2 ^ (m + 1) ≤ 2 ^ p := Nat.pow_le_pow_right (by decide) (by omega)
      have : 2 ^ p * 1 ≤ 2 ^ p * (2 * u + 1) := Nat.mul_le_mul_left _ (by omega)
      omega
  have sm := run_sum m (t :: T') B C e hb hc
  refine xL_zero B C e hb hc (run_null m (t :: T') p u (by rw [q]; exact .head _) hp (xL B C) (xL_lt B C) (fun x hx => ?_))
  rw [sm, h, List.zipWith_self] at hx
  obtain ⟨y, hy, rfl⟩ := List.mem_map.mp hx
  rcases run_bit _ _ _ _ y hy with rfl | rfl <;> decide
end Fin

set_option maxRecDepth 100000
set_option maxHeartbeats 4000000
namespace Fin
open Mv Mir Ev
open PySem (sizeLine sizeLine_eq PyData)
open L2 (atI ixN)
theorem seq_nx {A T : SM} {r r' : Env} {S S' : Store} (h : A r S = .nx r' S') : sSeq A T r S = T r' S' := by
  unfold sSeq
  rw [h]
  rfl
theorem seq_set {i : Nat} {A : EM} {T : SM} {r : Env} {S : Store} {d : D} (h : A r S = .ok (d, .c) S) (hk : okst .c d = true) : sSeq (sSet i A) T r S = T (r.set i (.ar .c d)) S := by
  unfold sSeq sSet
  rw [h]
  simp only [Rs.sb, hk, if_true, SR.bind]
theorem seq_own {i : Nat} {A : EM} {T : SM} {r : Env} {S : Store} {d : D} (h : A r S = .ok (d, .n) S) : sSeq (sOwn i A) T r S = T (r.set i (.own d)) S := by
  unfold sSeq sOwn
  rw [h]
  rfl
theorem if_t {t : TM} {a b : SM} {r : Env} {S : Store} {c : Bool} (h : t r S = .ok c S) : sIf t a b r S = if c then a r S else b r S := by
  unfold sIf
  rw [h]
  rfl
/-! the states that follow at a beat of noughts -/
def dul (m : Nat) (T : List Nat) (s b : Nat) : Bool := decide ((T.map (oddF (2 * s + b))).sum = 0) && decide (0 < nx m s b + s)
def dsF (m : Nat) (T : List Nat) (s : Nat) : List Nat := (if dul m T s 0 then [nx m s 0] else []) ++ (if dul m T s 1 then [nx m s 1] else [])
noncomputable abbrev duB : SM := (sSeq (sAsg (gT 2 (gsC (gN 4) (gsC (gN 5) gsN))) (eMe 3 tab_step (eVar 0) (aCons (eVar 1) (aCons (eVar 3) aNil))))
    (sIf (tAndM (tVal (eBin (gEq false) (eCal gSum (aCons (eVar 5) aNil)) (eC (.int 0)))) (tVal (eBin gGt (eBin gAdd (eVar 4) (eVar 1)) (eC (.int 0))))) (sApp 2 (eVar 4)) sNil))
theorem du_turn (n m s b : Nat) (T acc : List Nat) (f0 f1 : Fl) (x4 x5 : Slot) (S : Store) (hS : S[n]? = some (0, mach m T)) (hm : m ≤ 4) (hs : s < 2 ^ m) (hb : b < 2) (hT : T.length ≤ 10) (ha : acc.length ≤ 1000) :
    ∃ y4 y5, duB [.ar f0 (.ins n), .ar f1 (.int s), .own (.lst (nL acc)), .ar .c (.int b), x4, x5] S = .nx [.ar f0 (.ins n), .ar f1 (.int s), .own (.lst (nL (acc ++ if dul m T s b then [nx m s b] else []))), .ar .c (.int b), y4, y5] S := by
  have p16 := pow_le m hm
  have stp := s_step n m s b (2 * s + b) ((2 * s + b) % 2 ^ m) T .c (inf f1) .c S hS hm (by omega) hb hT rfl rfl
  have hn : (2 * s + b) % 2 ^ m = nx m s b := rfl
  rw [hn] at stp
  refine ⟨.ar .c (.int (nx m s b : Nat)), .ar .c (.lst ((T.map (oddF (2 * s + b))).map D.int)), ?_⟩
  have hd : dul m T s b = (decide ((T.map (oddF (2 * s + b))).sum = 0) && decide (0 < nx m s b + s)) := rfl
  rw [hd]
  generalize T.map (oddF (2 * s + b)) = L at *
  generalize nx m s b = q at *
  have la : (nL acc).length < 16777216 := by simp; omega
  have e : ∀ x : Nat, nL (acc ++ [x]) = nL acc ++ [.int x] := fun x => by simp
  by_cases h1 : L.sum = 0
  · by_cases h2 : 0 < q + s
    · have h3 : (0 : Int) < (q : Int) + s := by omega
      rw [decide_eq_true h1, decide_eq_true h2, Bool.and_self, if_pos rfl, e]
      generalize nL acc = A at *
      simp [hS, tab_step, stp, h1, h3, la]
    · have h3 : ¬ (0 : Int) < (q : Int) + s := by omega
      rw [decide_eq_true h1, decide_eq_false h2, Bool.and_false, if_neg (by decide), List.append_nil]
      generalize nL acc = A at *
      simp [hS, tab_step, stp, h1, h3, la]
  · rw [decide_eq_false h1, Bool.false_and, if_neg (by decide), List.append_nil]
    generalize nL acc = A at *
    simp [hS, tab_step, stp, h1, la]
theorem s_dull (n m s : Nat) (T : List Nat) (f0 f1 : Fl) (S : Store) (hS : S[n]? = some (0, mach m T)) (hm : m ≤ 4) (hs : s < 2 ^ m) (hT : T.length ≤ 10) :
    m_Machine_dull_steps [(f0, .ins n), (f1, .int s)] S = .ok (.lst (nL (dsF m T s)), .n) S := by
  obtain ⟨y4, y5, e0⟩ := du_turn n m s 0 T [] f0 f1 .no .no S hS hm hs (by decide) hT (by simp)
  obtain ⟨z4, z5, e1⟩ := du_turn n m s 1 T (if dul m T s 0 then [nx m s 0] else []) f0 f1 y4 y5 S hS hm hs (by decide) hT (by split <;> simp)
  rw [List.nil_append] at e0
  have lp : forL (gN 3) duB [.int 0, .int 1] [.ar f0 (.ins n), .ar f1 (.int s), .own (.lst []), .no, .no, .no] S = .nx [.ar f0 (.ins n), .ar f1 (.int s), .own (.lst (nL (dsF m T s))), .ar .c (.int 1), z4, z5] S := by
    refine (for_cons (gn_ap _ _ _) e0).trans ((for_cons (gn_ap _ _ _) e1).trans for_nil)
  generalize nL (dsF m T s) = R at *
  simp [m_Machine_dull_steps, b_Machine_dull_steps, sizeLine_eq]
  rw [lp]
  simp
theorem ds_mem {m : Nat} {T : List Nat} {s x : Nat} : x ∈ dsF m T s ↔ ∃ b, b < 2 ∧ dul m T s b = true ∧ x = nx m s b := by
  unfold dsF
  rw [List.mem_append]
  constructor
  · rintro (h | h)
    · split at h
      · exact ⟨0, by decide, by assumption, List.mem_singleton.mp h⟩
      · cases h
    · split at h
      · exact ⟨1, by decide, by assumption, List.mem_singleton.mp h⟩
      · cases h
  · rintro ⟨b, hb, h, rfl⟩
    have : b = 0 ∨ b = 1 := by omega
    rcases this with rfl | rfl
    · left; rw [if_pos h]; exact .head _
    · right; rw [if_pos h]; exact .head _
theorem ds_nd {m : Nat} {T : List Nat} {s : Nat} (hm : 1 ≤ m) : (dsF m T s).Nodup := by
  have ne : nx m s 0 ≠ nx m s 1 := fun e => by
    unfold nx at e
    have h2 : 2 ∣ 2 ^ m := ⟨2 ^ (m - 1), by rw [← Nat.pow_succ', show (m - 1).succ = m by omega]⟩
    have e1 := congrArg (· % 2) e
    simp only [Nat.mod_mod_of_dvd _ h2] at e1
    omega
  unfold dsF
  split <;> split <;> simp [ne]
theorem ds_len (m : Nat) (T : List Nat) (s : Nat) : (dsF m T s).length ≤ 2 := by
  unfold dsF
  split <;> split <;> simp
end Fin

set_option maxRecDepth 100000
set_option maxHeartbeats 4000000
namespace Fin
open Mv Mir Ev
open PySem (sizeLine sizeLine_eq PyData)
open L2 (atI ixN)
/-! dicts from states to ways -/
abbrev KW := List (Nat × List Nat)
def keyI (m : Nat) : L2.Key := Sum.inl (m : Int)
theorem keyI_inj {a b : Nat} (h : keyI a = keyI b) : a = b := Int.ofNat.inj (Sum.inl.inj h)
def keysW (A : KW) : List L2.Key := A.map fun p => keyI p.1
def valsW (A : KW) : List D := A.map fun p => .lst (nL p.2)
def kwD (A : KW) : D := .dic (keysW A) (valsW A)
def lookW : KW → Nat → Option (List Nat)
  | [], _ => none
  | p :: A, w => if p.1 = w then some p.2 else lookW A w
theorem getK_lookW : ∀ (A : KW) (w : Nat), getK (keysW A) (valsW A) (keyI w) = (lookW A w).map fun p => .lst (nL p)
  | [], _ => rfl
  | p :: A, w => by
    show (if keyI p.1 = keyI w then some (D.lst (nL p.2)) else getK (keysW A) (valsW A) (keyI w)) = (if p.1 = w then some p.2 else lookW A w).map fun p => .lst (nL p)
    by_cases h : p.1 = w
    · rw [if_pos h, if_pos (by rw [h])]
      rfl
    · rw [if_neg h, if_neg (fun e => h (keyI_inj e))]
      exact getK_lookW A w
theorem putKD_W (A : KW) (w : Nat) (c : List Nat) (h : w ∉ A.map Prod.fst) : putKD (keysW A) (valsW A) (keyI w) (.lst (nL c)) = (keysW (A ++ [(w, c)]), valsW (A ++ [(w, c)])) := by
  have a : ((keysW A).any fun j => decide (j = keyI w)) = false := by
    rw [List.any_eq_false]
    intro k hk e
    obtain ⟨p, hp, rfl⟩ := List.mem_map.mp hk
    have := keyI_inj (of_decide_eq_true e)
    exact h (this ▸ List.mem_map_of_mem hp)
  unfold putKD
  rw [if_neg (by rw [a]; decide)]
  unfold keysW valsW
  rw [List.map_append, List.map_append]
  rfl
theorem lookW_some : ∀ (A : KW) (w : Nat), (lookW A w).isSome = decide (w ∈ A.map Prod.fst)
  | [], _ => by simp [lookW]
  | p :: A, w => by
    rw [lookW, List.map_cons]
    by_cases h : p.1 = w
    · rw [if_pos h]
      simp [h]
    · rw [if_neg h, lookW_some A w]
      simp [Ne.symm h]
theorem lookW_at : ∀ (A : KW), (A.map Prod.fst).Nodup → ∀ (i s : Nat) (p : List Nat), A[i]? = some (s, p) → lookW A s = some p
  | [], _, i, s, p, h => by simp at h
  | q :: A, nd, 0, s, p, h => by
    cases h
    rw [lookW, if_pos rfl]
  | q :: A, nd, i + 1, s, p, h => by
    rw [List.map_cons, List.nodup_cons] at nd
    have h : A[i]? = some (s, p) := h
    have m : s ∈ A.map Prod.fst := List.mem_map_of_mem (f := Prod.fst) (List.mem_of_getElem? h)
    rw [lookW, if_neg (fun e => nd.1 (by rw [e]; exact m)), lookW_at A nd.2 i s p h]
theorem dni_w (A : KW) (k : Nat) (f f' : Fl) : gDNi (.int (k : Int), f') (kwD A, f) = some (.bl (!decide (k ∈ A.map Prod.fst)), .c) := by
  show some (D.bl (!(getK (keysW A) (valsW A) (keyI k)).isSome), Fl.c) = _
  rw [getK_lookW, Option.isSome_map, lookW_some]
theorem dix_w (A : KW) (k : Nat) (a : List Nat) (f f' : Fl) (hf : f ≠ .t) (h : lookW A k = some a) : gDIx (kwD A, f) (.int (k : Int), f') = some (.lst (nL a), .c) := by
  show (getK (keysW A) (valsW A) (keyI k)).map (fun d => (d, if f = Fl.t then Fl.t else Fl.c)) = _
  rw [getK_lookW, h, if_neg hf]
  rfl
theorem ds_putW (i : Nat) (mi m : EM) (r : Env) (S : Store) (A : KW) (k : Nat) (c : List Nat) (f1 f2 : Fl) (h1 : r[i]? = some (.own (kwD A))) (hk : mi r S = .ok (.int (k : Int), f1) S) (hv : m r S = .ok (.lst (nL c), f2) S) (h2 : f2 = .c ∨ f2 = .n) (hl : A.length < 1000000) (nm : k ∉ A.map Prod.fst) : sDSub i mi m r S = .nx (r.set i (.own (kwD (A ++ [(k, c)])))) S := by
  unfold sDSub
  rw [hv]
  show (match r[i]? with
    | some (.own (.dic ks xs)) => (mi r S).sb r fun j S2 => match keyD j.1 with
      | some k => if okst f2 (.lst (nL c)) && decide (ks.length < sizeLine) then SR.nx (r.set i (.own (.dic (putKD ks xs k (.lst (nL c))).1 (putKD ks xs k (.lst (nL c))).2))) S2 else SR.no
      | none => SR.no
    | _ => SR.no) = _
  rw [h1]
  show (mi r S).sb r _ = _
  rw [hk]
  show (if okst f2 (.lst (nL c)) && decide ((keysW A).length < sizeLine) then SR.nx (r.set i (.own (.dic (putKD (keysW A) (valsW A) (keyI k) (.lst (nL c))).1 (putKD (keysW A) (valsW A) (keyI k) (.lst (nL c))).2))) S else SR.no) = _
  rw [putKD_W A k c nm]
  have l : (keysW A).length < sizeLine := by
    unfold keysW
    rw [List.length_map, sizeLine_eq]
    omega
  rw [decide_eq_true l]
  rcases h2 with rfl | rfl <;> rfl
theorem ints_nL : ∀ l : List Nat, intsOf (nL l) = some (nI l)
  | [] => rfl
  | x :: l => by
    show (intsOf (nL l)).map ((x : Int) :: ·) = _
    rw [ints_nL l]
    rfl
theorem forO_nil {i : Nat} {js : List Int} {g : GM} {b : SM} {r : Env} {S : Store} : forO i js g b [] r S = .nx r S := rfl
theorem forO_cons {i : Nat} {js : List Int} {g : GM} {b : SM} {d : D} {ds : List D} {r r1 r2 : Env} {S S2 : Store} (h1 : g d r = some r1) (h2 : b r1 S = .nx r2 S2) (h3 : sameI r1[i]? js = true) (h4 : sameI r2[i]? js = true) : forO i js g b (d :: ds) r S = forO i js g b ds r2 S2 := by
  unfold forO
  rw [h1]
  show (match b r1 S with
    | .nx r2 S2 => _
    | .er c p r2 S2 => _
    | _ => _) = _
  rw [h2]
  dsimp only
  rw [h3, h4]
  rw [Bool.and_self, if_pos rfl]
  cases ds <;> rfl
theorem same_nL (l : List Nat) : sameI (some (.own (.lst (nL l)))) (nI l) = true := by
  unfold sameI
  exact decide_eq_true (ints_nL l)
noncomputable abbrev iniB : SM := (sDSub 2 (eVar 4) (eLst (aCons (eVar 1) aNil)))
theorem ini_loop (n fi : Nat) (row : List Nat) (f0 f1 : Fl) (S : Store) (h1 : f1 = .c) : ∀ (rest done : List Nat) (x4 : Slot), (done ++ rest).Nodup → (done ++ rest).length ≤ 1000 →
    ∃ y4, forO 3 (nI row) (gN 4) iniB (nL rest) [.ar f0 (.ins n), .ar f1 (.int fi), .own (kwD (done.map fun s => (s, [fi]))), .own (.lst (nL row)), x4, .no, .no] S =
      .nx [.ar f0 (.ins n), .ar f1 (.int fi), .own (kwD ((done ++ rest).map fun s => (s, [fi]))), .own (.lst (nL row)), y4, .no, .no] S
  | [], done, x4, _, _ => ⟨x4, by rw [List.append_nil]; exact forO_nil⟩
  | s :: rest, done, x4, nd, hl => by
    subst h1
    have nd2 : (done ++ [s] ++ rest).Nodup := by rw [List.append_assoc]; exact nd
    obtain ⟨y4, ih⟩ := ini_loop n fi row f0 .c S rfl rest (done ++ [s]) (.ar .c (.int s)) nd2 (by rw [List.append_assoc]; exact hl)
    refine ⟨y4, ?_⟩
    rw [List.append_assoc] at ih
    have nm : s ∉ (done.map fun s => (s, [fi])).map Prod.fst := by
      rw [List.map_map]
      intro h
      obtain ⟨x, hx, e⟩ := List.mem_map.mp h
      have e : x = s := e
      subst e
      have := (List.nodup_append.mp nd).2.2 x hx x (.head _)
      exact this rfl
    have ev : eLst (aCons (eVar 1) aNil) [.ar f0 (.ins n), .ar .c (.int fi), .own (kwD (done.map fun s => (s, [fi]))), .own (.lst (nL row)), .ar .c (.int s), .no, .no] S = .ok (.lst (nL [fi]), .n) S := by
      generalize kwD (done.map fun s => (s, [fi])) = K
      generalize nL row = R
      simp [sizeLine_eq]
    have p := ds_putW 2 (eVar 4) (eLst (aCons (eVar 1) aNil)) [.ar f0 (.ins n), .ar .c (.int fi), .own (kwD (done.map fun s => (s, [fi]))), .own (.lst (nL row)), .ar .c (.int s), .no, .no] S _ s [fi] .c .n rfl (by simp) ev (.inr rfl) (by rw [List.length_map]; rw [List.length_append] at hl; omega) nm
    have e2 : (done.map fun s => (s, [fi])) ++ [(s, [fi])] = ((done ++ [s]).map fun s => (s, [fi])) := by rw [List.map_append]; rfl
    rw [e2] at p
    exact (forO_cons (gn_ap _ _ _) p (same_nL row) (same_nL row)).trans ih
end Fin

set_option maxRecDepth 100000
set_option maxHeartbeats 4000000
namespace Fin
open Mv Mir Ev
open PySem (sizeLine sizeLine_eq PyData)
open L2 (atI ixN)
theorem loop_go {t : TM} {b : SM} {n : Nat} {r r' : Env} {S S' : Store} (h1 : t r S = .ok true S) (h2 : b r S = .nx r' S') : loopN t b (n + 1) r S = loopN t b n r' S' := by
  rw [loopN, h1]
  show (match b r S with
    | .nx r' S' => _
    | .ct r' S' => _
    | .bk r' S' => _
    | x => x) = _
  rw [h2]
theorem loop_end {t : TM} {b : SM} {n : Nat} {r : Env} {S : Store} (h1 : t r S = .ok false S) : loopN t b (n + 1) r S = .nx r S := by
  rw [loopN, h1]
  rfl
theorem loop_rt {t : TM} {b : SM} {n : Nat} {r : Env} {S S' : Store} {d : D} {f : Fl} (h1 : t r S = .ok true S) (h2 : b r S = .rt d f S') : loopN t b (n + 1) r S = .rt d f S' := by
  rw [loopN, h1]
  show (match b r S with
    | .nx r' S' => _
    | .ct r' S' => _
    | .bk r' S' => _
    | x => x) = _
  rw [h2]
theorem seq_rt {A T : SM} {r : Env} {S S' : Store} {d : D} {f : Fl} (h : A r S = .rt d f S') : sSeq A T r S = .rt d f S' := by
  unfold sSeq
  rw [h]
  rfl
/-! the way round -/
def Chn (m : Nat) (T : List Nat) : List Nat → Prop
  | a :: b :: l => b ∈ dsF m T a ∧ Chn m T (b :: l)
  | _ => True
theorem chn_snoc {m : Nat} {T : List Nat} : ∀ (l : List Nat) (a b : Nat), Chn m T (l ++ [a]) → b ∈ dsF m T a → Chn m T (l ++ [a] ++ [b])
  | [], a, b, _, h => ⟨h, trivial⟩
  | [x], a, b, h, g => ⟨h.1, g, trivial⟩
  | x :: y :: l, a, b, h, g => ⟨h.1, chn_snoc (y :: l) a b h.2 g⟩
structure WayP (m : Nat) (T : List Nat) (fi : Nat) (A : KW) (at_ i : Nat) (p : List Nat) (s : Nat) : Prop where
  ex : ∃ tail, p = fi :: tail ∧ tail.Nodup ∧ fi ∉ tail ∧ (∀ x ∈ tail, ∃ j, j < i ∧ j < at_ ∧ (A.map Prod.fst)[j]? = some x) ∧ Chn m T (p ++ [s])
structure InvW (m : Nat) (T : List Nat) (fi at_ : Nat) (A : KW) : Prop where
  nd : (A.map Prod.fst).Nodup
  lt : ∀ s ∈ A.map Prod.fst, s < 2 ^ m
  way : ∀ (i s : Nat) (p : List Nat), A[i]? = some (s, p) → WayP m T fi A at_ i p s
theorem inv_at {m : Nat} {T : List Nat} {fi at_ : Nat} {A : KW} (h : InvW m T fi at_ A) : InvW m T fi (at_ + 1) A :=
  ⟨h.nd, h.lt, fun i s p e => by
    obtain ⟨tail, e1, e2, e3, e4, e5⟩ := (h.way i s p e).ex
    exact ⟨tail, e1, e2, e3, fun x hx => by
      obtain ⟨j, j1, j2, j3⟩ := e4 x hx
      exact ⟨j, j1, by omega, j3⟩, e5⟩⟩
theorem inv_len {m : Nat} {T : List Nat} {fi at_ : Nat} {A : KW} (h : InvW m T fi at_ A) : A.length ≤ 2 ^ m := by
  have e : ((List.range (2 ^ m)).filter fun k => decide (k ∈ A.map Prod.fst)).length = (A.map Prod.fst).length := ((List.perm_ext_iff_of_nodup ((List.nodup_range).sublist List.filter_sublist) h.nd).mpr fun k => by
    rw [List.mem_filter, List.mem_range, decide_eq_true_eq]
    exact ⟨fun z => z.2, fun z => ⟨h.lt k z, z⟩⟩).length_eq
  have l := List.length_filter_le (fun k => decide (k ∈ A.map Prod.fst)) (List.range (2 ^ m))
  rw [List.length_range] at l
  rw [← List.length_map (f := Prod.fst), ← e]
  exact l
theorem map_at {A : KW} {i s : Nat} {p : List Nat} (e : A[i]? = some (s, p)) : (A.map Prod.fst)[i]? = some s := by
  rw [List.getElem?_map, e]
  rfl
theorem inv_add {m : Nat} {T : List Nat} {fi at_ : Nat} {A : KW} {here s : Nat} {p : List Nat} (h : InvW m T fi (at_ + 1) A) (ha : A[at_]? = some (here, p)) (hn : here ≠ fi) (hs : s ∈ dsF m T here) (nm : s ∉ A.map Prod.fst) : InvW m T fi (at_ + 1) (A ++ [(s, p ++ [here])]) := by
  have hat : at_ < A.length := (List.getElem?_eq_some_iff.mp ha).1
  have mA : (A ++ [(s, p ++ [here])]).map Prod.fst = A.map Prod.fst ++ [s] := by rw [List.map_append]; rfl
  have keep : ∀ (j x : Nat), (A.map Prod.fst)[j]? = some x → ((A ++ [(s, p ++ [here])]).map Prod.fst)[j]? = some x := fun j x e => by
    rw [mA, List.getElem?_append_left (List.getElem?_eq_some_iff.mp e).1]
    exact e
  refine ⟨?_, fun x hx => ?_, fun i s' p' e => ?_⟩
  · rw [mA]
    refine List.nodup_append.mpr ⟨h.nd, by simp, fun a ha' b hb e => ?_⟩
    rw [List.mem_singleton] at hb
    subst hb
    subst e
    exact nm ha'
  · rw [mA] at hx
    rcases List.mem_append.mp hx with hx | hx
    · exact h.lt x hx
    · rw [List.mem_singleton] at hx
      subst hx
      obtain ⟨b, _, _, rfl⟩ := ds_mem.mp hs
      exact nx_lt m here b
  · by_cases hi : i < A.length
    · rw [List.getElem?_append_left hi] at e
      obtain ⟨tail, e1, e2, e3, e4, e5⟩ := (h.way i s' p' e).ex
      exact ⟨tail, e1, e2, e3, fun x hx => by
        obtain ⟨j, j1, j2, j3⟩ := e4 x hx
        exact ⟨j, j1, j2, keep j x j3⟩, e5⟩
    · rw [List.getElem?_append_right (by omega)] at e
      have hi0 : i - A.length = 0 := by
        have := (List.getElem?_eq_some_iff.mp e).1
        simp at this
        omega
      rw [hi0] at e
      cases e
      obtain ⟨tail, e1, e2, e3, e4, e5⟩ := (h.way at_ here p ha).ex
      have hh := map_at ha
      have nt : here ∉ tail := fun z => by
        obtain ⟨j, j1, _, j3⟩ := e4 here z
        have l1 := (List.getElem?_eq_some_iff.mp j3).1
        have l2 := (List.getElem?_eq_some_iff.mp hh).1
        have g1 := (List.getElem?_eq_some_iff.mp j3).2
        have g2 := (List.getElem?_eq_some_iff.mp hh).2
        exact (List.pairwise_iff_getElem.mp h.nd j at_ l1 l2 j1) (g1.trans g2.symm)
      refine ⟨tail ++ [here], by rw [e1]; rfl, List.nodup_append.mpr ⟨e2, by simp, fun a ha' b hb e => ?_⟩, fun z => ?_, fun x hx => ?_, chn_snoc p here _ e5 hs⟩
      · rw [List.mem_singleton] at hb
        subst hb
        subst e
        exact nt ha'
      · rcases List.mem_append.mp z with z | z
        · exact e3 z
        · exact hn (List.mem_singleton.mp z).symm
      · rcases List.mem_append.mp hx with hx | hx
        · obtain ⟨j, j1, j2, j3⟩ := e4 x hx
          exact ⟨j, by omega, j2, keep j x j3⟩
        · rw [List.mem_singleton] at hx
          subst hx
          exact ⟨at_, by omega, by omega, keep at_ x hh⟩
structure RingP (m : Nat) (T : List Nat) (ring : List Nat) : Prop where
  ex : ∃ fi tail, ring = fi :: tail ∧ ring.Nodup ∧ (∀ x ∈ ring, x < 2 ^ m) ∧ Chn m T (ring ++ [fi])
theorem ring_of {m : Nat} {T : List Nat} {fi at_ : Nat} {A : KW} {p : List Nat} (h : InvW m T fi at_ A) (hf : fi < 2 ^ m) (ha : A[at_]? = some (fi, p)) : RingP m T p := by
  obtain ⟨tail, e1, e2, e3, e4, e5⟩ := (h.way at_ fi p ha).ex
  refine ⟨fi, tail, e1, by rw [e1]; exact List.nodup_cons.mpr ⟨e3, e2⟩, fun x hx => ?_, e5⟩
  rw [e1] at hx
  rcases List.mem_cons.mp hx with rfl | hx
  · exact hf
  · obtain ⟨j, _, _, j3⟩ := e4 x hx
    exact h.lt x (List.mem_of_getElem? j3)
def grow (q : List Nat) : List Nat → KW → KW
  | [], A => A
  | s :: ss, A => grow q ss (if s ∈ A.map Prod.fst then A else A ++ [(s, q)])
theorem grow_inv {m : Nat} {T : List Nat} {fi at_ here : Nat} {p : List Nat} (hn : here ≠ fi) : ∀ (ss : List Nat) (A : KW), (∀ s ∈ ss, s ∈ dsF m T here) → InvW m T fi (at_ + 1) A → A[at_]? = some (here, p) → InvW m T fi (at_ + 1) (grow (p ++ [here]) ss A) ∧ at_ < (grow (p ++ [here]) ss A).length
  | [], A, _, h, ha => ⟨h, (List.getElem?_eq_some_iff.mp ha).1⟩
  | s :: ss, A, hs, h, ha => by
    rw [grow]
    split
    · exact grow_inv hn ss A (fun x hx => hs x (.tail _ hx)) h ha
    · rename_i nm
      refine grow_inv hn ss _ (fun x hx => hs x (.tail _ hx)) (inv_add h ha hn (hs s (.head _)) nm) ?_
      rw [List.getElem?_append_left (List.getElem?_eq_some_iff.mp ha).1]
      exact ha
end Fin

set_option maxRecDepth 100000
set_option maxHeartbeats 4000000
namespace Fin
open Mv Mir Ev
open PySem (sizeLine sizeLine_eq PyData)
open L2 (atI ixN)
theorem for_rtx {g : GM} {p : SM} {d x : D} {fl : Fl} {ds : List D} {r r1 : Env} {S S2 : Store} (h1 : g d r = some r1) (h2 : p r1 S = .rt x fl S2) : forL g p (d :: ds) r S = .rt x fl S2 := by
  rw [forL, h1]
  dsimp only
  rw [h2]
noncomputable abbrev grB : SM := (sIf (tVal (eBin gDNi (eVar 4) (eVar 2))) (sSeq (sDSub 2 (eVar 4) (eBin gAdd (eBin gDIx (eVar 2) (eVar 6)) (eLst (aCons (eVar 6) aNil))))
    (sApp 3 (eVar 4))) sNil)
abbrev rgE (n fi : Nat) (A : KW) (x4 : Slot) (at_ : Nat) (x6 : Slot) : Env := [.ar .c (.ins n), .ar .c (.int fi), .own (kwD A), .own (.lst (nL (A.map Prod.fst))), x4, .ar .c (.int at_), x6]
theorem lookW_app {A B : KW} {w : Nat} {p : List Nat} (h : lookW A w = some p) : lookW (A ++ B) w = some p := by
  induction A with
  | nil => cases h
  | cons q A ih =>
    rw [List.cons_append, lookW]
    rw [lookW] at h
    split
    · rename_i e
      rw [if_pos e] at h
      exact h
    · rename_i e
      rw [if_neg e] at h
      exact ih h
theorem gr_loop (n fi at_ here : Nat) (p : List Nat) (S : Store) (hp : p.length ≤ 1000) : ∀ (ss : List Nat) (A : KW) (x4 : Slot), A.length + ss.length ≤ 1000 → lookW A here = some p →
    ∃ y4, forL (gN 4) grB (nL ss) (rgE n fi A x4 at_ (.ar .c (.int here))) S = .nx (rgE n fi (grow (p ++ [here]) ss A) y4 at_ (.ar .c (.int here))) S
  | [], A, x4, _, _ => ⟨x4, for_nil⟩
  | s :: ss, A, x4, hl, hk => by
    rw [List.length_cons] at hl
    by_cases m : s ∈ A.map Prod.fst
    · obtain ⟨y4, ih⟩ := gr_loop n fi at_ here p S hp ss A (.ar .c (.int s)) (by omega) hk
      refine ⟨y4, ?_⟩
      rw [grow, if_pos m]
      have dn := dni_w A s .o .c
      rw [decide_eq_true m] at dn
      refine (for_cons (gn_ap _ _ _) ?_).trans ih
      unfold rgE
      generalize kwD A = K at *
      generalize nL (A.map Prod.fst) = R at *
      simp at dn
      simp [dn]
    · obtain ⟨y4, ih⟩ := gr_loop n fi at_ here p S hp ss (A ++ [(s, p ++ [here])]) (.ar .c (.int s)) (by rw [List.length_append, List.length_singleton]; omega) (lookW_app hk)
      refine ⟨y4, ?_⟩
      rw [grow, if_neg m]
      have dn := dni_w A s .o .c
      rw [decide_eq_false m] at dn
      have dx := fun f' => dix_w A here p .o f' (by decide) hk
      have ev : eBin gAdd (eBin gDIx (eVar 2) (eVar 6)) (eLst (aCons (eVar 6) aNil)) (rgE n fi A (.ar .c (.int s)) at_ (.ar .c (.int here))) S = .ok (.lst (nL (p ++ [here])), .n) S := by
        have e : nL (p ++ [here]) = nL p ++ [D.int here] := by simp
        have l : (nL p).length + 1 ≤ 16777216 := by simp; omega
        rw [e]
        unfold rgE
        generalize kwD A = K at *
        generalize nL (A.map Prod.fst) = R at *
        generalize nL p = P at *
        simp [dx, l, sizeLine_eq]
      have pt := ds_putW 2 (eVar 4) (eBin gAdd (eBin gDIx (eVar 2) (eVar 6)) (eLst (aCons (eVar 6) aNil))) (rgE n fi A (.ar .c (.int s)) at_ (.ar .c (.int here))) S A s (p ++ [here]) .c .n rfl (by unfold rgE; generalize kwD A = K; generalize nL (A.map Prod.fst) = R; simp) ev (.inr rfl) (by omega) m
      refine (for_cons (gn_ap _ _ _) ?_).trans ih
      have t : tVal (eBin gDNi (eVar 4) (eVar 2)) (rgE n fi A (.ar .c (.int s)) at_ (.ar .c (.int here))) S = .ok true S := by
        unfold rgE
        generalize kwD A = K at *
        generalize nL (A.map Prod.fst) = R at *
        simp at dn
        simp [dn]
      refine (if_t t).trans ?_
      rw [if_pos rfl]
      refine (seq_nx pt).trans ?_
      have e : nL ((A ++ [(s, p ++ [here])]).map Prod.fst) = nL (A.map Prod.fst) ++ [D.int s] := by simp
      have l : (nL (A.map Prod.fst)).length < 16777216 := by simp; omega
      unfold rgE
      rw [e]
      generalize kwD (A ++ [(s, p ++ [here])]) = K2 at *
      generalize nL (A.map Prod.fst) = R at *
      simp [l]
structure ClW (m : Nat) (T : List Nat) (fi at_ : Nat) (A : KW) : Prop where
  st : ∀ x ∈ dsF m T fi, x ∈ A.map Prod.fst
  cl : ∀ i s, i < at_ → (A.map Prod.fst)[i]? = some s → s ≠ fi ∧ ∀ x ∈ dsF m T s, x ∈ A.map Prod.fst
/-- from there no way leads back -/
def NoW (m : Nat) (T : List Nat) (fi : Nat) : Prop := ∃ R : List Nat, (∀ x ∈ dsF m T fi, x ∈ R) ∧ fi ∉ R ∧ ∀ s ∈ R, ∀ x ∈ dsF m T s, x ∈ R
theorem now_of {m : Nat} {T : List Nat} {fi at_ : Nat} {A : KW} (h : ClW m T fi at_ A) (ha : A.length ≤ at_) : NoW m T fi := by
  have g : ∀ s ∈ A.map Prod.fst, s ≠ fi ∧ ∀ x ∈ dsF m T s, x ∈ A.map Prod.fst := fun s hs => by
    obtain ⟨i, hi⟩ := List.mem_iff_getElem?.mp hs
    have l := (List.getElem?_eq_some_iff.mp hi).1
    rw [List.length_map] at l
    exact h.cl i s (by omega) hi
  exact ⟨A.map Prod.fst, h.st, fun z => (g fi z).1 rfl, fun s hs => (g s hs).2⟩
theorem grow_pre (q : List Nat) : ∀ (ss : List Nat) (A : KW), (∃ B, grow q ss A = A ++ B) ∧ ∀ s ∈ ss, s ∈ (grow q ss A).map Prod.fst
  | [], A => ⟨⟨[], by rw [grow, List.append_nil]⟩, fun s h => by cases h⟩
  | s :: ss, A => by
    rw [grow]
    obtain ⟨⟨B, hB⟩, h2⟩ := grow_pre q ss (if s ∈ A.map Prod.fst then A else A ++ [(s, q)])
    have sub : s ∈ (if s ∈ A.map Prod.fst then A else A ++ [(s, q)]).map Prod.fst := by
      split
      · assumption
      · rw [List.map_append]
        exact List.mem_append_right _ (.head _)
    refine ⟨?_, fun x hx => ?_⟩
    · rw [hB]
      split
      · exact ⟨B, rfl⟩
      · exact ⟨[(s, q)] ++ B, by rw [List.append_assoc]⟩
    · rcases List.mem_cons.mp hx with rfl | hx
      · rw [hB, List.map_append]
        exact List.mem_append_left _ sub
      · exact h2 x hx
theorem cl_grow {m : Nat} {T : List Nat} {fi at_ here : Nat} {p q : List Nat} {A : KW} (h : ClW m T fi at_ A) (ha : A[at_]? = some (here, p)) (hn : here ≠ fi) : ClW m T fi (at_ + 1) (grow q (dsF m T here) A) := by
  obtain ⟨⟨B, hB⟩, h2⟩ := grow_pre q (dsF m T here) A
  have sub : ∀ x ∈ A.map Prod.fst, x ∈ (grow q (dsF m T here) A).map Prod.fst := fun x hx => by
    rw [hB, List.map_append]
    exact List.mem_append_left _ hx
  have hat : at_ < A.length := (List.getElem?_eq_some_iff.mp ha).1
  refine ⟨fun x hx => sub x (h.st x hx), fun i s hi e => ?_⟩
  have e2 : (A.map Prod.fst)[i]? = some s := by
    rw [hB, List.map_append, List.getElem?_append_left (by rw [List.length_map]; omega)] at e
    exact e
  by_cases c : i = at_
  · subst c
    rw [map_at ha] at e2
    cases e2
    exact ⟨hn, h2⟩
  · obtain ⟨c1, c2⟩ := h.cl i s (by omega) e2
    exact ⟨c1, fun x hx => sub x (c2 x hx)⟩
noncomputable abbrev whT : TM := (tVal (eBin gLt (eVar 5) (eCal gLen (aCons (eVar 3) aNil))))
noncomputable abbrev whB : SM := (sSeq (sSet 6 (eBin gIx (eVar 3) (eVar 5)))
    (sSeq (sIf (tVal (eBin (gEq false) (eVar 6) (eVar 1))) (sRet (eBin gDIx (eVar 2) (eVar 6))) sNil)
    (sSeq (sFor (iSeq (eMe 2 tab_dull_steps (eVar 0) (aCons (eVar 6) aNil))) (gN 4) grB)
    (sInc 5 (eC (.int 1))))))
theorem wh_loop (n m fi : Nat) (T : List Nat) (S : Store) (hS : S[n]? = some (0, mach m T)) (hm : 1 ≤ m ∧ m ≤ 4) (hT : T.length ≤ 10) (hf : fi < 2 ^ m) : ∀ (k at_ : Nat) (A : KW) (x4 x6 : Slot), at_ + k = 2 ^ m → at_ ≤ A.length → InvW m T fi at_ A → ClW m T fi at_ A →
    ∃ N, (NoW m T fi ∧ ∃ r', loopN whT whB N (rgE n fi A x4 at_ x6) S = .nx r' S) ∨ ∃ p, RingP m T p ∧ loopN whT whB N (rgE n fi A x4 at_ x6) S = .rt (.lst (nL p)) .c S := by
  intro k
  have p16 := pow_le m hm.2
  induction k with
  | zero =>
    intro at_ A x4 x6 hk ha I C
    have la := inv_len I
    refine ⟨1, .inl ⟨now_of C (by omega), _, loop_end ?_⟩⟩
    have l : ¬ ((at_ : Int) < ((nL (A.map Prod.fst)).length : Nat)) := by simp; omega
    unfold rgE
    generalize kwD A = K at *
    generalize nL (A.map Prod.fst) = R at *
    simp [l]
  | succ k ih =>
    intro at_ A x4 x6 hk ha I C
    have la := inv_len I
    by_cases hlt : at_ < A.length
    · obtain ⟨⟨here, p⟩, hp⟩ : ∃ q, A[at_]? = some q := ⟨A[at_], List.getElem?_eq_getElem hlt⟩
      have hh := map_at hp
      have hlook := lookW_at A I.nd at_ here p hp
      have h16 : here < 2 ^ m := I.lt here (List.mem_of_getElem? hh)
      have t : whT (rgE n fi A x4 at_ x6) S = .ok true S := by
        have l : (at_ : Int) < ((nL (A.map Prod.fst)).length : Nat) := by simp; omega
        unfold rgE
        generalize kwD A = K at *
        generalize nL (A.map Prod.fst) = R at *
        simp [l]
      have e1 : eBin gIx (eVar 3) (eVar 5) (rgE n fi A x4 at_ x6) S = .ok (.int here, .c) S := by
        have a : atI (nL (A.map Prod.fst)) (at_ : Int) = some (.int here) := by
          unfold atI
          rw [ixN_nat (by simp; omega)]
          show (nL (A.map Prod.fst))[at_]? = _
          rw [List.getElem?_map, hh]
          rfl
        unfold rgE
        generalize kwD A = K at *
        generalize nL (A.map Prod.fst) = R at *
        simp [a]
      have st : ∀ T2, sSeq (sSet 6 (eBin gIx (eVar 3) (eVar 5))) T2 (rgE n fi A x4 at_ x6) S = T2 (rgE n fi A x4 at_ (.ar .c (.int here))) S := fun T2 => seq_set e1 rfl
      by_cases hf2 : here = fi
      · subst hf2
        refine ⟨1, .inr ⟨p, ring_of I hf hp, loop_rt t ?_⟩⟩
        refine (st _).trans (seq_rt ?_)
        have dx := fun f' => dix_w A here p .o f' (by decide) hlook
        unfold rgE
        generalize kwD A = K at *
        generalize nL (A.map Prod.fst) = R at *
        generalize nL p = P at *
        simp [dx]
      · have pl : p.length ≤ 1000 := by
          obtain ⟨tail, e1, e2, _, e4, _⟩ := (I.way at_ here p hp).ex
          have sub : ∀ x ∈ tail, x ∈ A.map Prod.fst := fun x hx => by
            obtain ⟨j, _, _, j3⟩ := e4 x hx
            exact List.mem_of_getElem? j3
          have e : ((List.range (2 ^ m)).filter fun k => decide (k ∈ tail)).length = tail.length := ((List.perm_ext_iff_of_nodup ((List.nodup_range).sublist List.filter_sublist) e2).mpr fun k => by
            rw [List.mem_filter, List.mem_range, decide_eq_true_eq]
            exact ⟨fun z => z.2, fun z => ⟨I.lt k (sub k z), z⟩⟩).length_eq
          have l := List.length_filter_le (fun k => decide (k ∈ tail)) (List.range (2 ^ m))
          rw [List.length_range] at l
          rw [e1, List.length_cons]
          omega
        obtain ⟨g1, g2⟩ := grow_inv hf2 (dsF m T here) A (fun s hs => hs) (inv_at I) hp
        obtain ⟨y4, gl⟩ := gr_loop n fi at_ here p S pl (dsF m T here) A x4 (by have := ds_len m T here; omega) hlook
        obtain ⟨N, hN⟩ := ih (at_ + 1) (grow (p ++ [here]) (dsF m T here) A) y4 (.ar .c (.int here)) (by omega) (by omega) g1 (cl_grow C hp hf2)
        have body : whB (rgE n fi A x4 at_ x6) S = .nx (rgE n fi (grow (p ++ [here]) (dsF m T here) A) y4 (at_ + 1) (.ar .c (.int here))) S := by
          refine (st _).trans ?_
          have e2 : (sIf (tVal (eBin (gEq false) (eVar 6) (eVar 1))) (sRet (eBin gDIx (eVar 2) (eVar 6))) sNil) (rgE n fi A x4 at_ (.ar .c (.int here))) S = .nx (rgE n fi A x4 at_ (.ar .c (.int here))) S := by
            have ne : ¬ ((here : Int) = fi) := by omega
            unfold rgE
            generalize kwD A = K at *
            generalize nL (A.map Prod.fst) = R at *
            simp [ne]
          refine (seq_nx e2).trans ?_
          have e3 : (sFor (iSeq (eMe 2 tab_dull_steps (eVar 0) (aCons (eVar 6) aNil))) (gN 4) grB) (rgE n fi A x4 at_ (.ar .c (.int here))) S = .nx (rgE n fi (grow (p ++ [here]) (dsF m T here) A) y4 at_ (.ar .c (.int here))) S := by
            rw [← gl]
            have sd := s_dull n m here T .c .c S hS hm.2 h16 hT
            unfold rgE
            generalize kwD A = K at *
            generalize nL (A.map Prod.fst) = R at *
            generalize nL (dsF m T here) = DS at *
            simp [hS, tab_dull_steps, sd]
          refine (seq_nx e3).trans ?_
          unfold rgE
          have c : ((at_ + 1 : Nat) : Int) = (at_ : Int) + 1 := by omega
          rw [c]
          generalize kwD (grow (p ++ [here]) (dsF m T here) A) = K at *
          generalize nL ((grow (p ++ [here]) (dsF m T here) A).map Prod.fst) = R at *
          simp
        refine ⟨N + 1, ?_⟩
        rw [loop_go t body]
        exact hN
    · refine ⟨1, .inl ⟨now_of C (by omega), _, loop_end ?_⟩⟩
      have l : ¬ ((at_ : Int) < ((nL (A.map Prod.fst)).length : Nat)) := by simp; omega
      unfold rgE
      generalize kwD A = K at *
      generalize nL (A.map Prod.fst) = R at *
      simp [l]
end Fin

set_option maxRecDepth 100000
set_option maxHeartbeats 4000000
namespace Fin
open Mv Mir Ev
open PySem (sizeLine sizeLine_eq PyData)
open L2 (atI ixN)
theorem ini_inv (m fi : Nat) (T : List Nat) (hm : 1 ≤ m) : InvW m T fi 0 ((dsF m T fi).map fun s => (s, [fi])) := by
  have e : ((dsF m T fi).map fun s => (s, [fi])).map Prod.fst = dsF m T fi := by
    rw [List.map_map]
    exact List.map_id _
  refine ⟨by rw [e]; exact ds_nd hm, fun s hs => ?_, fun i s p h => ?_⟩
  · rw [e] at hs
    obtain ⟨b, _, _, rfl⟩ := ds_mem.mp hs
    exact nx_lt m fi b
  · rw [List.getElem?_map] at h
    obtain ⟨x, hx, e2⟩ := Option.map_eq_some_iff.mp h
    cases e2
    exact ⟨[], rfl, List.nodup_nil, by simp, (fun x hx => by cases hx), List.mem_of_getElem? hx, trivial⟩
theorem s_ring_from (n m fi : Nat) (T : List Nat) (S : Store) (hS : S[n]? = some (0, mach m T)) (hm : 1 ≤ m ∧ m ≤ 4) (hT : T.length ≤ 10) (hf : fi < 2 ^ m) :
    (NoW m T fi ∧ m_Machine_ring_from [(.c, .ins n), (.c, .int fi)] S = .ok (.non, .c) S) ∨ ∃ p, RingP m T p ∧ m_Machine_ring_from [(.c, .ins n), (.c, .int fi)] S = .ok (.lst (nL p), .c) S := by
  have sd := s_dull n m fi T .c .c S hS hm.2 hf hT
  have l2 := ds_len m T fi
  obtain ⟨y4, il⟩ := ini_loop n fi (dsF m T fi) .c .c S rfl (dsF m T fi) [] .no (by rw [List.nil_append]; exact ds_nd hm.1) (by rw [List.nil_append]; omega)
  rw [List.nil_append] at il
  have e : ((dsF m T fi).map fun s => (s, [fi])).map Prod.fst = dsF m T fi := by
    rw [List.map_map]
    exact List.map_id _
  obtain ⟨N, hN⟩ := wh_loop n m fi T S hS hm hT hf (2 ^ m) 0 ((dsF m T fi).map fun s => (s, [fi])) y4 .no (by omega) (Nat.zero_le _) (ini_inv m fi T hm.1) ⟨fun x hx => by rw [e]; exact hx, fun i s hi => by omega⟩
  unfold rgE at hN
  rw [e] at hN
  have s1 : ∀ T2, sSeq (sOwn 2 eDict0) T2 [.ar .c (.ins n), .ar .c (.int fi), .no, .no, .no, .no, .no] S = T2 [.ar .c (.ins n), .ar .c (.int fi), .own (kwD []), .no, .no, .no, .no] S := fun T2 => seq_own rfl
  have s2 : ∀ T2, sSeq (sOwn 3 (eMe 2 tab_dull_steps (eVar 0) (aCons (eVar 1) aNil))) T2 [.ar .c (.ins n), .ar .c (.int fi), .own (kwD []), .no, .no, .no, .no] S = T2 [.ar .c (.ins n), .ar .c (.int fi), .own (kwD []), .own (.lst (nL (dsF m T fi))), .no, .no, .no] S := fun T2 => by
    refine seq_own ?_
    generalize kwD [] = K at *
    generalize nL (dsF m T fi) = DS at *
    simp [hS, tab_dull_steps, sd]
  have s3 : ∀ T2, sSeq (sForO 3 (gN 4) iniB) T2 [.ar .c (.ins n), .ar .c (.int fi), .own (kwD []), .own (.lst (nL (dsF m T fi))), .no, .no, .no] S = T2 [.ar .c (.ins n), .ar .c (.int fi), .own (kwD ((dsF m T fi).map fun s => (s, [fi]))), .own (.lst (nL (dsF m T fi))), y4, .no, .no] S := fun T2 => by
    refine seq_nx ?_
    unfold sForO
    show (match intsOf (nL (dsF m T fi)) with
      | some js => forO 3 js (gN 4) iniB (nL (dsF m T fi)) _ S
      | none => SR.no) = _
    rw [ints_nL]
    exact il
  have s4 : ∀ T2, sSeq (sSet 5 (eC (.int 0))) T2 [.ar .c (.ins n), .ar .c (.int fi), .own (kwD ((dsF m T fi).map fun s => (s, [fi]))), .own (.lst (nL (dsF m T fi))), y4, .no, .no] S = T2 [.ar .c (.ins n), .ar .c (.int fi), .own (kwD ((dsF m T fi).map fun s => (s, [fi]))), .own (.lst (nL (dsF m T fi))), y4, .ar .c (.int 0), .no] S := fun T2 => seq_set rfl rfl
  have z0 : ((0 : Nat) : Int) = 0 := rfl
  rw [z0] at hN
  have all : ∀ x, (sSeq (sWhile whT whB) (sRet (eC .non))) [.ar .c (.ins n), .ar .c (.int fi), .own (kwD ((dsF m T fi).map fun s => (s, [fi]))), .own (.lst (nL (dsF m T fi))), y4, .ar .c (.int 0), .no] S = x → m_Machine_ring_from [(.c, .ins n), (.c, .int fi)] S = kFn x := fun x hx => by
    rw [← hx]
    exact congrArg kFn ((s1 _).trans ((s2 _).trans ((s3 _).trans (s4 _))))
  rcases hN with ⟨nw, r', q⟩ | ⟨p, hp, q⟩
  · left
    refine ⟨nw, ?_⟩
    have w := sWhile_of q (by simp)
    rw [all _ rfl, seq_nx w]
    rfl
  · right
    have w := sWhile_of q (by simp)
    refine ⟨p, hp, ?_⟩
    rw [all _ rfl, seq_rt w]
    rfl
noncomputable abbrev riB : SM := (sSeq (sSet 2 (eMe 2 tab_ring_from (eVar 0) (aCons (eVar 1) aNil)))
    (sIf (tVal (eBin (gIsN true) (eVar 2) (eC .non))) (sRetV 2) sNil))
theorem ri_loop (n m : Nat) (T : List Nat) (S : Store) (hS : S[n]? = some (0, mach m T)) (hm : 1 ≤ m ∧ m ≤ 4) (hT : T.length ≤ 10) : ∀ (l : List Nat) (x1 x2 : Slot), (∀ s ∈ l, s < 2 ^ m) →
    ((∀ s ∈ l, NoW m T s) ∧ ∃ r', forL (gN 1) riB (nL l) [.ar .c (.ins n), x1, x2] S = .nx r' S) ∨ ∃ p, RingP m T p ∧ forL (gN 1) riB (nL l) [.ar .c (.ins n), x1, x2] S = .rt (.lst (nL p)) .c S
  | [], x1, x2, _ => .inl ⟨fun s h => (by cases h), _, for_nil⟩
  | s :: l, x1, x2, hl => by
    have hc : nL (s :: l) = D.int (s : Int) :: nL l := rfl
    rcases s_ring_from n m s T S hS hm hT (hl s (.head _)) with ⟨nw, q⟩ | ⟨p, hp, q⟩
    · rcases ri_loop n m T S hS hm hT l (.ar .c (.int s)) (.ar .c .non) (fun x hx => hl x (.tail _ hx)) with ⟨nws, r', h⟩ | ⟨p, hp, h⟩
      · refine .inl ⟨fun x hx => (List.mem_cons.mp hx).elim (fun e => e ▸ nw) (nws x), r', ?_⟩
        rw [hc, ← h]
        refine for_cons (gn_ap _ _ _) ?_
        simp [hS, tab_ring_from, q]
      · refine .inr ⟨p, hp, ?_⟩
        rw [hc, ← h]
        refine for_cons (gn_ap _ _ _) ?_
        simp [hS, tab_ring_from, q]
    · refine .inr ⟨p, hp, ?_⟩
      rw [hc]
      refine for_rtx (gn_ap _ _ _) ?_
      generalize nL p = P at *
      simp [hS, tab_ring_from, q]
theorem s_ring (n m : Nat) (T : List Nat) (S : Store) (hS : S[n]? = some (0, mach m T)) (hm : 1 ≤ m ∧ m ≤ 4) (hT : T.length ≤ 10) :
    ((∀ s < 2 ^ m, NoW m T s) ∧ m_Machine_ring [(.c, .ins n)] S = .ok (.non, .c) S) ∨ ∃ p, RingP m T p ∧ m_Machine_ring [(.c, .ins n)] S = .ok (.lst (nL p), .c) S := by
  have p16 := pow_le m hm.2
  have e : ((2 ^ m : Nat) : Int) = (2 : Int) ^ m := by simp
  have i1 : inR ((2 : Int) ^ m) = true := by
    rw [← e]
    exact inR_nat (by omega)
  have pz := Nat.two_pow_pos m
  have i2 : ((2 : Int) ^ m).toNat = 2 ^ m := by omega
  have rg : rangeD 0 1 (2 ^ m) = nL (List.range (2 ^ m)) := by
    unfold rangeD
    refine List.map_congr_left fun j _ => ?_
    exact congrArg D.int (show (0 : Int) + (j : Int) * 1 = j by omega)
  rcases ri_loop n m T S hS hm hT (List.range (2 ^ m)) .no .no (fun s hs => List.mem_range.mp hs) with ⟨nws, r', h⟩ | ⟨p, hp, h⟩
  · left
    refine ⟨fun s hs => nws s (List.mem_range.mpr hs), ?_⟩
    rw [← rg] at h
    simp [m_Machine_ring, b_Machine_ring, hS, i1, i2]
    rw [h]
    simp
  · right
    refine ⟨p, hp, ?_⟩
    rw [← rg] at h
    generalize nL p = P at *
    simp [m_Machine_ring, b_Machine_ring, hS, i1, i2]
    rw [h]
    simp
end Fin

set_option maxRecDepth 100000
set_option maxHeartbeats 4000000
namespace Fin
open Mv Mir Ev
open PySem (sizeLine sizeLine_eq PyData)
open L2 (atI ixN)
/-! weights of writings -/
abbrev zb (T : List Nat) : List D := List.replicate T.length (D.int 0)
def ws (m : Nat) (T : List Nat) : List Nat → Nat → Nat
  | [], _ => 0
  | b :: w, s => dF T (zb T) s b + ws m T w (nx m s b)
theorem pc_ws (m : Nat) (T : List Nat) : ∀ (w : List Nat) (n s : Nat), w.length ≤ n → pc m T (List.replicate n (zb T)) w s = ws m T w s
  | [], n, s, _ => by rw [pc_nil, ws]
  | b :: w, 0, s, h => by cases h
  | b :: w, n + 1, s, h => by
    rw [List.replicate_succ, pc, ws, pc_ws m T w n _ (by simpa using h)]
theorem ws_app (m : Nat) (T : List Nat) : ∀ (u v : List Nat) (s : Nat), ws m T (u ++ v) s = ws m T u s + ws m T v (fnl m u s)
  | [], v, s => by rw [List.nil_append, ws, fnl, Nat.zero_add]
  | b :: u, v, s => by
    rw [List.cons_append, ws, ws, fnl, ws_app m T u v]
    omega
theorem nd_len {l : List Nat} {N : Nat} (nd : l.Nodup) (h : ∀ x ∈ l, x < N) : l.length ≤ N := by
  have e : ((List.range N).filter fun k => decide (k ∈ l)).length = l.length := ((List.perm_ext_iff_of_nodup ((List.nodup_range).sublist List.filter_sublist) nd).mpr fun k => by
    rw [List.mem_filter, List.mem_range, decide_eq_true_eq]
    exact ⟨fun z => z.2, fun z => ⟨h k z, z⟩⟩).length_eq
  have l := List.length_filter_le (fun k => decide (k ∈ l)) (List.range N)
  rw [List.length_range] at l
  omega
theorem two_alike (m : Nat) (w : List Nat) (s : Nat) (hs : s < 2 ^ m) (h : 2 ^ m ≤ w.length) : ∃ i j, i < j ∧ j ≤ w.length ∧ fnl m (w.take i) s = fnl m (w.take j) s := by
  by_cases hx : ∃ i j, i < j ∧ j ≤ w.length ∧ fnl m (w.take i) s = fnl m (w.take j) s
  · exact hx
  · have nd : ((List.range (w.length + 1)).map fun i => fnl m (w.take i) s).Nodup := by
      refine List.pairwise_iff_getElem.mpr fun i j hi hj hij e => hx ⟨i, j, hij, ?_, ?_⟩
      · rw [List.length_map, List.length_range] at hj
        omega
      · simpa using e
    have l := nd_len (N := 2 ^ m) nd fun x hx => by
      obtain ⟨i, _, rfl⟩ := List.mem_map.mp hx
      exact fnl_lt m _ s hs
    rw [List.length_map, List.length_range] at l
    omega
theorem cut_way (m : Nat) (T : List Nat) (s : Nat) (hs : s < 2 ^ m) : ∀ (N : Nat) (w : List Nat), w.length ≤ N → (∀ b ∈ w, b < 2) → ∃ w', w'.length < 2 ^ m ∧ (∀ b ∈ w', b < 2) ∧ ws m T (w' ++ zs m) s ≤ ws m T (w ++ zs m) s
  | 0, w, h, hb => ⟨w, by have := Nat.two_pow_pos m; omega, hb, Nat.le_refl _⟩
  | N + 1, w, h, hb => by
    by_cases hl : w.length < 2 ^ m
    · exact ⟨w, hl, hb, Nat.le_refl _⟩
    · obtain ⟨i, j, hij, hj, e⟩ := two_alike m w s hs (by omega)
      obtain ⟨w', h1, h2, h3⟩ := cut_way m T s hs N (w.take i ++ w.drop j) (by rw [List.length_append, List.length_take, List.length_drop]; omega) (fun b hb' => by
        rcases List.mem_append.mp hb' with z | z
        · exact hb b (List.mem_of_mem_take z)
        · exact hb b (List.mem_of_mem_drop z))
      refine ⟨w', h1, h2, Nat.le_trans h3 ?_⟩
      have e2 : w ++ zs m = w.take j ++ (w.drop j ++ zs m) := by rw [← List.append_assoc, List.take_append_drop]
      rw [e2, List.append_assoc, ws_app m T (w.take i), ws_app m T (w.take j), e]
      have e3 : w.take j = w.take i ++ (w.take j).drop i := by
        have := (List.take_append_drop i (w.take j)).symm
        rw [List.take_take, Nat.min_eq_left (by omega)] at this
        exact this
      have : ws m T (w.take i) s ≤ ws m T (w.take j) s := by
        rw [e3, ws_app]
        exact Nat.le_add_right _ _
      omega
theorem d0_zero (T : List Nat) : dF T (zb T) 0 0 = 0 := by
  unfold dF zb
  have : ∀ l : List Nat, unlD (l.map (oddF (2 * 0 + 0))) (List.replicate l.length (.int 0)) = 0 := fun l => by
    induction l with
    | nil => rfl
    | cons t l ih =>
      rw [List.map_cons, List.length_cons, List.replicate_succ, unlD, ih]
      have : oddF (2 * 0 + 0) t = 0 := by
        unfold oddF
        rw [show (2 * 0 + 0) &&& t = 0 by simp, show wtF 0 = 0 by unfold wtF; rfl]
        rfl
      rw [this, if_pos rfl]
  exact this T
/-- the least weight of what begins with a one -/
def bitW (m : Nat) (T : List Nat) (k : Nat) : List Nat := rdW m T (List.replicate (k + m) (zb T)) (wW m T (List.replicate (k + m) (zb T))) k 0 1
def farW (m : Nat) (T : List Nat) (k : Nat) : Int := uF m T (List.replicate (k + m) (zb T)) 0 1 + dF T (zb T) 0 1
theorem nx01 {m : Nat} (hm : 1 ≤ m) : nx m 0 1 = 1 := by
  unfold nx
  have : 2 ^ 1 ≤ 2 ^ m := Nat.pow_le_pow_right (by decide) hm
  rw [Nat.mod_eq_of_lt (by omega)]
theorem far_own {m : Nat} (T : List Nat) (hm : 1 ≤ m) (k : Nat) : farW m T k = (ws m T (1 :: bitW m T k ++ zs m) 0 : Nat) := by
  have one : 1 < 2 ^ m := by
    have : 2 ^ 1 ≤ 2 ^ m := Nat.pow_le_pow_right (by decide) hm
    omega
  have o := (opt m T (List.replicate (k + m) (zb T)) k 0 1 (by rw [List.length_replicate]; omega) one).1
  rw [List.drop_zero, pc_ws m T _ _ _ (by rw [List.length_append, rdW_len, List.length_replicate]; omega)] at o
  have hb : rdW m T (List.replicate (k + m) (zb T)) (wW m T (List.replicate (k + m) (zb T))) k 0 1 = bitW m T k := rfl
  rw [hb] at o
  unfold farW
  rw [o, List.cons_append, ws, nx01 hm]
  omega
theorem far_least {m : Nat} (T : List Nat) (hm : 1 ≤ m) (far : Int) (h : ∀ k < 2 ^ m, far ≤ farW m T k) (w : List Nat) (hw : ∀ b ∈ w, b < 2) : far ≤ (ws m T (1 :: w ++ zs m) 0 : Nat) := by
  have one : 1 < 2 ^ m := by
    have : 2 ^ 1 ≤ 2 ^ m := Nat.pow_le_pow_right (by decide) hm
    omega
  obtain ⟨w', h1, h2, h3⟩ := cut_way m T 1 one w.length w (Nat.le_refl _) hw
  have q := h w'.length h1
  have o := (opt m T (List.replicate (w'.length + m) (zb T)) w'.length 0 1 (by rw [List.length_replicate]; omega) one).2 (w' ++ zs m) ((alw_app ..).mpr ⟨lt_alw m _ _ 0 (by rw [List.length_replicate]; omega) h2, zs_alw ..⟩) (by rw [List.length_append, List.length_replicate])
  rw [List.drop_zero, pc_ws m T _ _ _ (by rw [List.length_append, List.length_replicate]; omega)] at o
  have o2 : uF m T (List.replicate (w'.length + m) (zb T)) 0 1 ≤ (ws m T (w' ++ zs m) 1 : Nat) := by
    rcases o with o | ⟨o, _⟩
    · exact Int.le_of_lt o
    · exact Int.le_of_eq o
  unfold farW at q
  rw [List.cons_append, ws, nx01 hm]
  omega
/-- so has every message that is not all noughts -/
theorem far_all {m : Nat} (T : List Nat) (hm : 1 ≤ m) (far : Int) (h : ∀ k < 2 ^ m, far ≤ farW m T k) : ∀ (w : List Nat), (∀ b ∈ w, b < 2) → (∃ b ∈ w, b ≠ 0) → far ≤ (ws m T (w ++ zs m) 0 : Nat)
  | [], _, ⟨b, hb, _⟩ => by cases hb
  | c :: w, hw, hn => by
    have c2 := hw c (.head _)
    by_cases hc : c = 0
    · subst hc
      have ih := far_all T hm far h w (fun b hb => hw b (.tail _ hb)) (by
        obtain ⟨b, hb, n⟩ := hn
        rcases List.mem_cons.mp hb with rfl | hb
        · exact absurd rfl n
        · exact ⟨b, hb, n⟩)
      rw [List.cons_append, ws, d0_zero, show nx m 0 0 = 0 by unfold nx; simp, Nat.zero_add]
      exact ih
    · have : c = 1 := by omega
      subst this
      exact far_least T hm far h w fun b hb => hw b (.tail _ hb)
theorem unl_sum : ∀ xs : List Int, (∀ x ∈ xs, x = 0 ∨ x = 1) → ((unlD xs (List.replicate xs.length (.int 0)) : Nat) : Int) = xs.sum
  | [], _ => rfl
  | x :: xs, h => by
    have ih := unl_sum xs fun y hy => h y (.tail _ hy)
    rw [List.length_cons, List.replicate_succ, unlD, List.sum_cons, ← ih]
    rcases h x (.head _) with rfl | rfl
    · rw [if_pos rfl]
      omega
    · rw [if_neg (by decide)]
      omega
theorem ws_run (m : Nat) (T : List Nat) (w : List Nat) (s : Nat) : ((ws m T w s : Nat) : Int) = (runF m T w s).sum := by
  rw [← pc_ws m T w w.length s (Nat.le_refl _), pc_run m T _ w s (fun t ht => by rw [(List.mem_replicate.mp ht).2, List.length_replicate]) (by rw [List.length_replicate])]
  rw [← unl_sum _ (run_bit m T w s), run_len]
  congr 2
  have : ∀ n k : Nat, (List.replicate n (List.replicate k (D.int 0))).flatten = List.replicate (n * k) (.int 0) := fun n k => by
    induction n with
    | zero => simp
    | succ n ih => rw [List.replicate_succ, List.flatten_cons, ih, List.replicate_append_replicate, Nat.succ_mul, Nat.add_comm]
  rw [this]
end Fin

set_option maxRecDepth 100000
set_option maxHeartbeats 4000000
namespace Fin
open Mv Mir Ev
open PySem (sizeLine sizeLine_eq PyData)
open L2 (atI ixN)
noncomputable abbrev ligB : SM := (sSeq (sAsg (gT 2 (gsC (gN 3) (gsC (gN 4) gsN))) (eMe 3 tab_read_on (eVar 0) (aCons (eC (.int 1)) (aCons (eBin gMul (eLst (aCons (eBin gMul (eLst (aCons (eC (.int 0)) aNil)) (eCal gLen (aCons (eFld [0] 1 (eVar 0)) aNil))) aNil)) (eBin gAdd (eVar 2) (eFld [0] 0 (eVar 0)))) aNil))))
    (sSeq (sSet 3 (eBin gAdd (eVar 3) (eCal gSum (aCons (eBin gIx (eMe 3 tab_step (eVar 0) (aCons (eC (.int 0)) (aCons (eC (.int 1)) aNil))) (eC (.int 1))) aNil))))
    (sIf (tOrM (tVal (eBin (gIsN false) (eVar 1) (eC .non))) (tVal (eBin gLt (eVar 3) (eBin gIx (eVar 1) (eC (.int 0)))))) (sSet 1 (eTup (aCons (eVar 3) (aCons (eBin gAdd (eLst (aCons (eC (.int 1)) aNil)) (eVar 4)) aNil)))) sNil)))
noncomputable abbrev ligIf : SM := (sIf (tOrM (tVal (eBin (gIsN false) (eVar 1) (eC .non))) (tVal (eBin gLt (eVar 3) (eBin gIx (eVar 1) (eC (.int 0)))))) (sSet 1 (eTup (aCons (eVar 3) (aCons (eBin gAdd (eLst (aCons (eC (.int 1)) aNil)) (eVar 4)) aNil)))) sNil)
def litD (m : Nat) (T : List Nat) (k : Nat) : D := .tup [.int (farW m T k), .lst (nL (1 :: bitW m T k))]
def bestD (m : Nat) (T : List Nat) : Option Nat → D
  | none => .non
  | some j => litD m T j
def nextB (m : Nat) (T : List Nat) (k : Nat) : Option Nat → Nat
  | none => k
  | some j => if farW m T k < farW m T j then k else j
def InvB (m : Nat) (T : List Nat) (lo : Nat) : Option Nat → Prop
  | none => lo = 0
  | some j => j < lo ∧ (∀ k < lo, farW m T j ≤ farW m T k) ∧ ∀ k < j, farW m T j < farW m T k
theorem d01_sum (T : List Nat) : (T.map (oddF 1)).sum = ((dF T (zb T) 0 1 : Nat) : Int) := by
  have h : ∀ x ∈ T.map (oddF 1), x = 0 ∨ x = 1 := fun x hx => by
    obtain ⟨t, _, rfl⟩ := List.mem_map.mp hx
    unfold oddF
    omega
  rw [← unl_sum _ h, List.length_map]
  rfl
theorem lig_turn (n m k : Nat) (T : List Nat) (best : Option Nat) (x3 x4 : Slot) (S : Store) (hS : S[n]? = some (0, mach m T)) (hm : 1 ≤ m ∧ m ≤ 4) (hT : 2 ≤ T.length ∧ T.length ≤ 4) (hk : k < 2 ^ m) :
    ∃ y3 y4, ligB [.ar .c (.ins n), .ar .c (bestD m T best), .ar .c (.int k), x3, x4] S =
      .nx [.ar .c (.ins n), .ar .c (litD m T (nextB m T k best)), .ar .c (.int k), y3, y4] S := by
  have p16 := pow_le m hm.2
  have one : 1 < 2 ^ m := by
    have : 2 ^ 1 ≤ 2 ^ m := Nat.pow_le_pow_right (by decide) hm.1
    omega
  have lB : (List.replicate (k + m) (zb T)).length = k + m := List.length_replicate
  have ro := s_read_onX n m 1 one T (List.replicate (k + m) (zb T)) S hS hm (by omega) (fun b hb d hd => by
    rw [(List.mem_replicate.mp hb).2] at hd
    rw [(List.mem_replicate.mp hd).2]
    exact .bit 0 (by decide)) (by rw [lB]; omega)
  rw [lB, show k + m - m = k by omega, List.map_replicate] at ro
  have hbw : rdW m T (List.replicate (k + m) (zb T)) (wW m T (List.replicate (k + m) (zb T))) k 0 1 = bitW m T k := rfl
  rw [hbw] at ro
  have hfar : farW m T k = uF m T (List.replicate (k + m) (zb T)) 0 1 + (T.map (oddF 1)).sum := by
    rw [d01_sum]
    rfl
  have stp := s_step n m 0 1 (2 * 0 + 1) ((2 * 0 + 1) % 2 ^ m) T .c .c .c S hS hm.2 (by decide) (by decide) (by omega) rfl rfl
  rw [show 2 * 0 + 1 = 1 from rfl] at stp
  have z0 : ((0 : Nat) : Int) = 0 := rfl
  have z1 : ((1 : Nat) : Int) = 1 := rfl
  rw [z0, z1] at stp
  rw [z1] at ro
  have bl : (bitW m T k).length = k := by rw [← hbw, rdW_len]
  have lit : ∀ j, litD m T j = .tup [.int (farW m T j), .lst (nL (1 :: bitW m T j))] := fun _ => rfl
  have cons1 : nL (1 :: bitW m T k) = D.int 1 :: nL (bitW m T k) := rfl
  have nn : (nI (bitW m T k)).map D.int = nL (bitW m T k) := by simp [nI]
  rw [nn] at ro
  have ln : (nL (bitW m T k)).length = k := by rw [List.length_map, bl]
  have mk : ((k : Int) + m).toNat = k + m := by omega
  have i1 : (-9223372036854775808 : Int) ≤ (k : Int) + m := by omega
  have i2 : (k : Int) + m < 9223372036854775808 := by omega
  have i3 : k + m ≤ 16777216 := by omega
  have i4 : T.length ≤ 16777216 := by omega
  have j1 : (-9223372036854775808 : Int) ≤ (T.length : Int) := by omega
  have j2 : (T.length : Int) < 9223372036854775808 := by omega
  have tl : ((T.map fun (t : Nat) => (t : Int)).map D.int).length = T.length := by simp
  have a1 : ∀ a b : D, atI [a, b] 1 = some b := fun _ _ => rfl
  have a0 : ∀ a b : D, atI [a, b] 0 = some a := fun _ _ => rfl
  have i5 : 1 + k ≤ 16777216 := by omega
  have i6 : k + 1 ≤ 16777216 := by omega
  unfold zb at ro
  generalize (1 % 2 ^ m) = qq at *
  generalize hLL : T.map (oddF 1) = LL at *
  generalize uF m T (List.replicate (k + m) (zb T)) 0 1 = u at *
  have core : ∀ d1 : D, ligB [.ar .c (.ins n), .ar .c d1, .ar .c (.int k), x3, x4] S = ligIf [.ar .c (.ins n), .ar .c d1, .ar .c (.int k), .ar .c (.int (farW m T k)), .ar .c (.lst (nL (bitW m T k)))] S := by
    intro d1
    rw [hfar]
    generalize nL (bitW m T k) = BW at *
    unfold mach at hS
    generalize ((T.map fun (t : Nat) => (t : Int)).map D.int) = TT at *
    simp [hS, tl, mk, i1, i2, i3, i4, j1, j2, rep_flat, sizeLine_eq, tab_read_on, tab_step, ro, stp, a1]
  refine ⟨.ar .c (.int (farW m T k)), .ar .c (.lst (nL (bitW m T k))), (core _).trans ?_⟩
  cases best with
  | none =>
    simp only [bestD, nextB]
    rw [lit k, cons1]
    generalize nL (bitW m T k) = BW at *
    generalize farW m T k = fk at *
    simp [ln, i5, i6, sizeLine_eq]
  | some j =>
    simp only [bestD, nextB]
    by_cases h : farW m T k < farW m T j
    · rw [if_pos h, lit k, lit j, cons1]
      generalize nL (1 :: bitW m T j) = BJ at *
      generalize nL (bitW m T k) = BW at *
      generalize farW m T k = fk at *
      generalize farW m T j = fj at *
      simp [ln, i5, i6, sizeLine_eq, a0, h]
    · rw [if_neg h, lit j]
      generalize nL (1 :: bitW m T j) = BJ at *
      generalize nL (bitW m T k) = BW at *
      generalize farW m T k = fk at *
      generalize farW m T j = fj at *
      simp [a0, h]
theorem lig_loop (n m : Nat) (T : List Nat) (S : Store) (hS : S[n]? = some (0, mach m T)) (hm : 1 ≤ m ∧ m ≤ 4) (hT : 2 ≤ T.length ∧ T.length ≤ 4) : ∀ (r lo : Nat) (best : Option Nat) (x2 x3 x4 : Slot), lo + r = 2 ^ m → InvB m T lo best → (r ≠ 0 ∨ best.isSome = true) →
    ∃ k y2 y3 y4, k < 2 ^ m ∧ (∀ j < 2 ^ m, farW m T k ≤ farW m T j) ∧ (∀ j < k, farW m T k < farW m T j) ∧ forL (gN 2) ligB (nL (List.range' lo r)) [.ar .c (.ins n), .ar .c (bestD m T best), x2, x3, x4] S = .nx [.ar .c (.ins n), .ar .c (litD m T k), y2, y3, y4] S
  | 0, lo, none, x2, x3, x4, h, hb, hr => by rcases hr with hr | hr <;> simp at hr
  | 0, lo, some j, x2, x3, x4, h, hb, hr => by
    have : lo = 2 ^ m := by omega
    subst this
    exact ⟨j, x2, x3, x4, hb.1, hb.2.1, hb.2.2, for_nil⟩
  | r + 1, lo, best, x2, x3, x4, h, hb, hr => by
    obtain ⟨z3, z4, t⟩ := lig_turn n m lo T best x3 x4 S hS hm hT (by omega)
    have inv : InvB m T (lo + 1) (some (nextB m T lo best)) := by
      cases best with
      | none =>
        simp only [InvB, nextB] at hb ⊢
        refine ⟨by omega, fun k hk => ?_, fun k hk => by omega⟩
        have : k = lo := by omega
        rw [this]
        exact Int.le_refl _
      | some j =>
        simp only [InvB, nextB] at hb ⊢
        by_cases c : farW m T lo < farW m T j
        · rw [if_pos c]
          refine ⟨by omega, fun k hk => ?_, fun k hk => by
            have := hb.2.1 k (by omega)
            omega⟩
          by_cases e : k = lo
          · rw [e]
            exact Int.le_refl _
          · have := hb.2.1 k (by omega)
            omega
        · rw [if_neg c]
          refine ⟨by omega, fun k hk => ?_, hb.2.2⟩
          by_cases e : k = lo
          · rw [e]
            omega
          · exact hb.2.1 k (by omega)
    obtain ⟨k, y2, y3, y4, h1, h2, hs, h3⟩ := lig_loop n m T S hS hm hT r (lo + 1) (some (nextB m T lo best)) (.ar .c (.int lo)) z3 z4 (by omega) inv (.inr rfl)
    refine ⟨k, y2, y3, y4, h1, h2, hs, ?_⟩
    rw [List.range'_succ]
    show forL (gN 2) ligB (D.int (lo : Int) :: nL (List.range' (lo + 1) r)) _ S = _
    exact (for_cons (gn_ap _ _ _) t).trans h3
theorem s_lightest (n m : Nat) (T : List Nat) (S : Store) (hS : S[n]? = some (0, mach m T)) (hm : 1 ≤ m ∧ m ≤ 4) (hT : 2 ≤ T.length ∧ T.length ≤ 4) :
    (∃ p, RingP m T p ∧ m_Machine_ring [(.c, .ins n)] S = .ok (.lst (nL p), .c) S ∧ m_Machine_lightest [(.c, .ins n)] S = .ok (.non, .c) S) ∨
    ((∀ s < 2 ^ m, NoW m T s) ∧ m_Machine_ring [(.c, .ins n)] S = .ok (.non, .c) S ∧ ∃ k, k < 2 ^ m ∧ (∀ j < 2 ^ m, farW m T k ≤ farW m T j) ∧ (∀ j < k, farW m T k < farW m T j) ∧ m_Machine_lightest [(.c, .ins n)] S = .ok (litD m T k, .c) S) := by
  have p16 := pow_le m hm.2
  have pz := Nat.two_pow_pos m
  have e : ((2 ^ m : Nat) : Int) = (2 : Int) ^ m := by simp
  have i1 : inR ((2 : Int) ^ m) = true := by
    rw [← e]
    exact inR_nat (by omega)
  have i2 : ((2 : Int) ^ m).toNat = 2 ^ m := by omega
  have rg : rangeD 0 1 (2 ^ m) = nL (List.range' 0 (2 ^ m)) := by
    rw [← List.range_eq_range']
    unfold rangeD
    refine List.map_congr_left fun j _ => ?_
    exact congrArg D.int (show (0 : Int) + (j : Int) * 1 = j by omega)
  rcases s_ring n m T S hS hm (by omega) with ⟨nw, q⟩ | ⟨p, hp, q⟩
  · right
    obtain ⟨k, y2, y3, y4, h1, h2, hs, h3⟩ := lig_loop n m T S hS hm hT (2 ^ m) 0 none .no .no .no (by omega) rfl (.inl (by omega))
    refine ⟨nw, q, k, h1, h2, hs, ?_⟩
    simp only [bestD] at h3
    rw [← rg] at h3
    generalize litD m T k = L at *
    simp [m_Machine_lightest, b_Machine_lightest, tab_ring, q, hS, i1, i2]
    rw [h3]
    simp
  · left
    refine ⟨p, hp, q, ?_⟩
    generalize nL p = P at *
    simp [m_Machine_lightest, b_Machine_lightest, tab_ring, q, hS]
end Fin

set_option maxRecDepth 100000
set_option maxHeartbeats 4000000
namespace Fin
open Mv Mir Ev
open PySem (sizeLine sizeLine_eq)
open L2 (atI ixN)
/-- a comprehension with a test -/
theorem comp_fm (r : Env) (S : Store) (g : GM) (tt : TM) (te : EM) (p : D → Bool) (h : D → D) : ∀ (ds : List D), (∀ d ∈ ds, ∃ r1, g d r = some r1 ∧ tt r1 S = .ok (p d) S ∧ (p d = true → ∃ f, te r1 S = .ok (h d, f) S ∧ okst f (h d) = true)) → compL g tt te r ds S = .ok ((ds.filter p).map h) S
  | [], _ => rfl
  | d :: ds, q => by
    obtain ⟨r1, h1, h2, h3⟩ := q d (.head _)
    have ih := comp_fm r S g tt te p h ds fun d hd => q d (.tail _ hd)
    unfold compL
    rw [h1]
    dsimp only
    rw [h2]
    cases hp : p d with
    | false =>
      dsimp only
      rw [ih, List.filter_cons_of_neg (by rw [hp]; decide)]
    | true =>
      obtain ⟨f, h4, h5⟩ := h3 hp
      dsimp only
      rw [h4]
      dsimp only
      rw [if_pos h5, ih, List.filter_cons_of_pos hp]
      rfl
/-- of a list of numbers, with a test -/
theorem comp_nL (r : Env) (S : Store) (g : GM) (tt : TM) (te : EM) (p : Nat → Bool) : ∀ (l : List Nat), (∀ x ∈ l, ∃ r1, g (.int (x : Nat)) r = some r1 ∧ tt r1 S = .ok (p x) S ∧ ∃ f, te r1 S = .ok (.int (x : Nat), f) S) → compL g tt te r (nL l) S = .ok (nL (l.filter p)) S
  | [], _ => rfl
  | x :: l, q => by
    obtain ⟨r1, h1, h2, f, h3⟩ := q x (.head _)
    have ih := comp_nL r S g tt te p l fun d hd => q d (.tail _ hd)
    show compL g tt te r (.int (x : Nat) :: nL l) S = _
    unfold compL
    rw [h1]
    dsimp only
    rw [h2]
    cases hp : p x with
    | false =>
      dsimp only
      rw [ih, List.filter_cons_of_neg (by rw [hp]; decide)]
    | true =>
      dsimp only
      rw [h3]
      dsimp only
      rw [if_pos (ok_g _ _ rfl), ih, List.filter_cons_of_pos hp]
      rfl
theorem flat_nL : ∀ l : List Nat, (nL l).all flatD = true
  | [] => rfl
  | x :: l => by
    show (flatD (D.int x) && (nL l).all flatD) = true
    rw [flat_nL l]
    rfl
theorem inD_nL (x : Nat) : ∀ l : List Nat, inD (.int x) (nL l) = decide (x ∈ l)
  | [] => by
    rw [decide_eq_false (by simp)]
    rfl
  | y :: l => by
    have ih := inD_nL x l
    show (L2.eqV (.int (y : Int)) (.int (x : Int)) || inD (.int x) (nL l)) = _
    rw [ih]
    have q : L2.eqV (.int (y : Int)) (.int (x : Int)) = decide (x = y) := by
      show ((y : Int) == (x : Int)) = _
      by_cases h : x = y
      · subst h
        simp
      · have : ¬ (y : Int) = (x : Int) := by omega
        simp [h, this]
    rw [q]
    simp [List.mem_cons]
theorem in_nL (neg : Bool) (x : Nat) (l : List Nat) (f f' : Fl) : gIn neg (.int x, f) (.lst (nL l), f') = some (.bl (if neg then !decide (x ∈ l) else decide (x ∈ l)), .c) := by
  have h : gIn neg (.int x, f) (.lst (nL l), f') = if flatD (.int x) && (nL l).all flatD then some (.bl (if neg then !inD (.int x) (nL l) else inD (.int x) (nL l)), .c) else none := rfl
  rw [h, flat_nL, inD_nL]
  rfl
theorem eq_nil (l : List Nat) : eqO (.lst (nL l)) (.lst []) = some (decide (l = [])) := by
  have nn : nL l = (nI l).map D.int := by simp [nI]
  rw [nn]
  have := eqO_ll (nI l) []
  refine this.trans ?_
  congr 1
  cases l with
  | nil => rfl
  | cons x l => simp [nI]
theorem s_lsteps (m s : Nat) (T : List Nat) (S : Store) (hm : m ≤ 4) (hs : s < 2 ^ m) (hT : T.length ≤ 10) :
    m__law_steps [(.c, .int m), (.c, .lst ((nI T).map D.int)), (.c, .int s)] S = .ok (.lst (nL (dsF m T s)), .n) S := by
  have st : ∀ b : Nat, b < 2 → m__law_step [(.c, .int m), (.c, .lst ((nI T).map D.int)), (.c, .int s), (.c, .int b)] S = .ok (.tup [.int (nx m s b : Nat), .lst ((T.map (oddF (2 * s + b))).map D.int)], .c) S := fun b hb => s_lstep m s b T .c .c .c .c S hm hs hb hT (by decide) rfl
  have s0 := st 0 (by decide)
  have s1 := st 1 (by decide)
  have z0 : ((0 : Nat) : Int) = 0 := rfl
  have z1 : ((1 : Nat) : Int) = 1 := rfl
  rw [z0] at s0
  rw [z1] at s1
  unfold dsF
  have hd0 : dul m T s 0 = (decide ((T.map (oddF (2 * s + 0))).sum = 0) && decide (0 < nx m s 0 + s)) := rfl
  have hd1 : dul m T s 1 = (decide ((T.map (oddF (2 * s + 1))).sum = 0) && decide (0 < nx m s 1 + s)) := rfl
  rw [hd0, hd1]
  clear st hd0 hd1
  generalize T.map (oddF (2 * s + 0)) = L0 at *
  generalize T.map (oddF (2 * s + 1)) = L1 at *
  generalize nx m s 0 = q0 at *
  generalize nx m s 1 = q1 at *
  generalize (nI T).map D.int = TT at *
  have c1 : compL (gN 4) tYesM (eFn 4 m__law_step (aCons (eVar 0) (aCons (eVar 1) (aCons (eVar 2) (aCons (eVar 4) aNil))))) [.ar .c (.int m), .ar .c (.lst TT), .ar .c (.int s), .no, .no, .no, .no] [.int 0, .int 1] S = .ok [.tup [.int q0, .lst (L0.map D.int)], .tup [.int q1, .lst (L1.map D.int)]] S := by
    simp [cm_cons, cm_nil, cm1_ap, cm2_t, cm3_ap, cm4_ap, s0, s1]
  have c2 : compL (gT 2 (gsC (gN 5) (gsC (gN 6) gsN))) (tAndM (tVal (eBin (gEq false) (eCal gSum (aCons (eVar 6) aNil)) (eC (.int 0)))) (tVal (eBin gGt (eBin gAdd (eVar 5) (eVar 2)) (eC (.int 0))))) (eVar 5) [.ar .c (.int m), .ar .c (.lst TT), .ar .c (.int s), .ar .c (.lst [.tup [.int q0, .lst (L0.map D.int)], .tup [.int q1, .lst (L1.map D.int)]]), .no, .no, .no] [.tup [.int q0, .lst (L0.map D.int)], .tup [.int q1, .lst (L1.map D.int)]] S =
      .ok (nL ((if (decide (L0.sum = 0) && decide (0 < q0 + s)) = true then [q0] else []) ++ (if (decide (L1.sum = 0) && decide (0 < q1 + s)) = true then [q1] else []))) S := by
    have i0 : ((0 : Int) < (q0 : Int) + s) ↔ 0 < q0 + s := by omega
    have i1 : ((0 : Int) < (q1 : Int) + s) ↔ 0 < q1 + s := by omega
    by_cases a0 : L0.sum = 0 <;> by_cases b0 : 0 < q0 + s <;> by_cases a1 : L1.sum = 0 <;> by_cases b1 : 0 < q1 + s <;> simp only [a0, b0, a1, b1, i0, i1, decide_true, decide_false, Bool.and_true, Bool.and_false, Bool.true_and, Bool.false_and, if_true, if_false, Bool.false_eq_true] <;>
      simp [cm_cons, cm_nil, cm1_ap, cm2_t, cm2_f, cm3_ap, cm4_ap, a0, b0, a1, b1, i0, i1]
  have k1 := kcp_ap [.ar .c (.int m), .ar .c (.lst TT), .ar .c (.int s), .no, .no, .no, .no] S [4] (gN 4) tYesM _ [.int 0, .int 1] _ S (by decide) c1
  have k2 := kcp_ap [.ar .c (.int m), .ar .c (.lst TT), .ar .c (.int s), .ar .c (.lst [.tup [.int q0, .lst (L0.map D.int)], .tup [.int q1, .lst (L1.map D.int)]]), .no, .no, .no] S [5, 6] (gT 2 (gsC (gN 5) (gsC (gN 6) gsN))) _ _ [.tup [.int q0, .lst (L0.map D.int)], .tup [.int q1, .lst (L1.map D.int)]] _ S (by simp) c2
  generalize nL ((if (decide (L0.sum = 0) && decide (0 < q0 + s)) = true then [q0] else []) ++ (if (decide (L1.sum = 0) && decide (0 < q1 + s)) = true then [q1] else [])) = R at *
  simp [m__law_steps, b__law_steps, freeE, k1, k2, sizeLine_eq]
/-! what is left when ways that end are cut -/
def lfF (m : Nat) (T : List Nat) : Nat → List Nat
  | 0 => List.range (2 ^ m)
  | t + 1 => (lfF m T t).filter fun s => !decide ((dsF m T s).filter (fun g => decide (g ∈ lfF m T t)) = [])
theorem lf_lt (m : Nat) (T : List Nat) : ∀ t, ∀ s ∈ lfF m T t, s < 2 ^ m
  | 0, s, h => List.mem_range.mp h
  | t + 1, s, h => lf_lt m T t s (List.mem_filter.mp h).1
theorem lf_len (m : Nat) (T : List Nat) : ∀ t, (lfF m T t).length ≤ 2 ^ m
  | 0 => by rw [lfF, List.length_range]; exact Nat.le_refl _
  | t + 1 => Nat.le_trans (List.length_filter_le ..) (lf_len m T t)
theorem lf_succ {m t s : Nat} {T : List Nat} : s ∈ lfF m T (t + 1) ↔ s ∈ lfF m T t ∧ ∃ g ∈ dsF m T s, g ∈ lfF m T t := by
  rw [lfF, List.mem_filter]
  refine and_congr_right fun _ => ?_
  rw [Bool.not_eq_true', decide_eq_false_iff_not, List.filter_eq_nil_iff]
  constructor
  · intro h
    refine Classical.byContradiction fun z => h fun g hg q => z ⟨g, hg, of_decide_eq_true q⟩
  · rintro ⟨g, hg, q⟩ h
    exact h g hg (decide_eq_true q)
theorem lf_chain {m : Nat} {T : List Nat} : ∀ (t s : Nat), s ∈ lfF m T t → ∃ l : List Nat, l.length = t ∧ Chn m T (s :: l) ∧ ∀ x ∈ s :: l, x < 2 ^ m
  | 0, s, h => ⟨[], rfl, trivial, fun x hx => by
    rw [List.mem_singleton.mp hx]
    exact lf_lt m T 0 s h⟩
  | t + 1, s, h => by
    obtain ⟨h1, g, h2, h3⟩ := lf_succ.mp h
    obtain ⟨l, l1, l2, l3⟩ := lf_chain t g h3
    refine ⟨g :: l, by rw [List.length_cons, l1], ⟨h2, l2⟩, fun x hx => ?_⟩
    rcases List.mem_cons.mp hx with rfl | hx
    · exact lf_lt m T _ x h
    · exact l3 x hx
theorem chn_in {m : Nat} {T R : List Nat} (cl : ∀ s ∈ R, ∀ x ∈ dsF m T s, x ∈ R) : ∀ (a : Nat) (l : List Nat), (∀ x ∈ dsF m T a, x ∈ R) → Chn m T (a :: l) → ∀ x ∈ l, x ∈ R
  | a, [], _, _, x, hx => by cases hx
  | a, b :: l, ha, h, x, hx => by
    have hb := ha b h.1
    rcases List.mem_cons.mp hx with rfl | hx
    · exact hb
    · exact chn_in cl b l (cl b hb) h.2 x hx
theorem chn_nd {m : Nat} {T : List Nat} (nw : ∀ s < 2 ^ m, NoW m T s) : ∀ (l : List Nat), Chn m T l → (∀ x ∈ l, x < 2 ^ m) → l.Nodup
  | [], _, _ => List.nodup_nil
  | a :: l, h, hl => by
    obtain ⟨R, r1, r2, r3⟩ := nw a (hl a (.head _))
    refine List.nodup_cons.mpr ⟨fun z => r2 (chn_in r3 a l r1 h a z), chn_nd nw l ?_ fun x hx => hl x (.tail _ hx)⟩
    cases l with
    | nil => trivial
    | cons b l => exact h.2
theorem lf_none {m : Nat} {T : List Nat} (nw : ∀ s < 2 ^ m, NoW m T s) : lfF m T (2 ^ m) = [] := by
  cases e : lfF m T (2 ^ m) with
  | nil => rfl
  | cons s l0 =>
    obtain ⟨l, l1, l2, l3⟩ := lf_chain (2 ^ m) s (by rw [e]; exact .head _)
    have := nd_len (chn_nd nw _ l2 l3) l3
    rw [List.length_cons, l1] at this
    omega
theorem chn_next {m : Nat} {T : List Nat} : ∀ (l : List Nat) (a x : Nat), Chn m T (l ++ [a]) → x ∈ l → ∃ g ∈ dsF m T x, g ∈ l ++ [a]
  | [], a, x, _, h => by cases h
  | [b], a, x, h, hx => by
    rw [List.mem_singleton.mp hx]
    exact ⟨a, h.1, by simp⟩
  | b :: c :: l, a, x, h, hx => by
    rcases List.mem_cons.mp hx with rfl | hx
    · exact ⟨c, h.1, by simp⟩
    · obtain ⟨g, g1, g2⟩ := chn_next (c :: l) a x h.2 hx
      exact ⟨g, g1, .tail _ g2⟩
theorem lf_ring {m : Nat} {T p : List Nat} (h : RingP m T p) : ∀ t, ∀ x ∈ p, x ∈ lfF m T t := by
  obtain ⟨fi, tail, e1, _, e3, e4⟩ := h.ex
  intro t
  induction t with
  | zero => exact fun x hx => List.mem_range.mpr (e3 x hx)
  | succ t ih =>
    intro x hx
    obtain ⟨g, g1, g2⟩ := chn_next p fi x e4 hx
    refine lf_succ.mpr ⟨ih x hx, g, g1, ih g ?_⟩
    rcases List.mem_append.mp g2 with g2 | g2
    · exact g2
    · rw [List.mem_singleton.mp g2, e1]
      exact .head _
noncomputable abbrev dlB : SM := (sSet 2 (eLc (iSeq (eVar 2)) [4] (gN 4) (tVal (eBin (gEq true) (eLc (iSeq (eFn 3 m__law_steps (aCons (eVar 0) (aCons (eVar 1) (aCons (eVar 4) aNil))))) [5] (gN 5) (tVal (eBin (gIn false) (eVar 5) (eVar 2))) (eVar 5)) (eLst aNil))) (eVar 4)))
theorem dl_turn (m t : Nat) (T : List Nat) (x3 : Slot) (S : Store) (hm : m ≤ 4) (hT : T.length ≤ 10) : dlB [.ar .c (.int m), .ar .c (.lst ((nI T).map D.int)), .ar .c (.lst (nL (lfF m T t))), x3, .no, .no] S = .nx [.ar .c (.int m), .ar .c (.lst ((nI T).map D.int)), .ar .c (.lst (nL (lfF m T (t + 1)))), x3, .no, .no] S := by
  have lt := lf_lt m T t
  have ll := lf_len m T t
  have p16 := pow_le m hm
  rw [lfF]
  generalize lfF m T t = L at *
  have c := comp_nL [.ar .c (.int m), .ar .c (.lst ((nI T).map D.int)), .ar .c (.lst (nL L)), x3, .no, .no] S (gN 4) (tVal (eBin (gEq true) (eLc (iSeq (eFn 3 m__law_steps (aCons (eVar 0) (aCons (eVar 1) (aCons (eVar 4) aNil))))) [5] (gN 5) (tVal (eBin (gIn false) (eVar 5) (eVar 2))) (eVar 5)) (eLst aNil))) (eVar 4) (fun s => !decide ((dsF m T s).filter (fun g => decide (g ∈ L)) = [])) L fun s hs => by
    refine ⟨_, gn_ap _ _ _, ?_, .c, by simp⟩
    have ls := s_lsteps m s T S hm (lt s hs) hT
    have dl := ds_len m T s
    have c5 := comp_nL [.ar .c (.int m), .ar .c (.lst ((nI T).map D.int)), .ar .c (.lst (nL L)), x3, .ar .c (.int s), .no] S (gN 5) (tVal (eBin (gIn false) (eVar 5) (eVar 2))) (eVar 5) (fun g => decide (g ∈ L)) (dsF m T s) fun g hg => by
      have i := in_nL false g L .c .c
      refine ⟨_, gn_ap _ _ _, ?_, .c, by simp⟩
      generalize nL L = LL at *
      generalize decide (g ∈ L) = B at *
      simp at i
      simp [i]
    have k5 := kcp_ap [.ar .c (.int m), .ar .c (.lst ((nI T).map D.int)), .ar .c (.lst (nL L)), x3, .ar .c (.int s), .no] S [5] (gN 5) _ _ (nL (dsF m T s)) _ S (by rw [List.length_map]; omega) c5
    have en := eq_nil ((dsF m T s).filter fun g => decide (g ∈ L))
    generalize ((dsF m T s).filter fun g => decide (g ∈ L)) = F at *
    generalize nL (dsF m T s) = DS at *
    generalize nL L = LL at *
    generalize nL F = FF at *
    generalize (nI T).map D.int = TT at *
    simp [freeE, ls, k5, en]
  have k := kcp_ap [.ar .c (.int m), .ar .c (.lst ((nI T).map D.int)), .ar .c (.lst (nL L)), x3, .no, .no] S [4] (gN 4) _ _ (nL L) _ S (by rw [List.length_map]; omega) c
  generalize (L.filter fun s => !decide ((dsF m T s).filter (fun g => decide (g ∈ L)) = [])) = F at *
  generalize nL L = LL at *
  generalize nL F = FF at *
  generalize (nI T).map D.int = TT at *
  simp [freeE, k]
theorem s_is_dull (m : Nat) (T : List Nat) (S : Store) (hm : m ≤ 4) (hT : T.length ≤ 10) : m__law_is_dull [(.c, .int m), (.c, .lst ((nI T).map D.int))] S = .ok (.bl (!decide (lfF m T (2 ^ m) = [])), .c) S := by
  obtain ⟨r2, S2, h1, rfl, x3, h2⟩ := for_inv (P := fun j r S' => S' = S ∧ ∃ x3, r = [.ar .c (.int m), .ar .c (.lst ((nI T).map D.int)), .ar .c (.lst (nL (lfF m T j))), x3, .no, .no])
    (g := gN 3) (p := dlB) (rangeD 0 1 (2 ^ m)) 0 [.ar .c (.int m), .ar .c (.lst ((nI T).map D.int)), .ar .c (.lst (nL (List.range (2 ^ m)))), .no, .no, .no] S ⟨rfl, .no, rfl⟩ (fun j d r S' hd hP => by
      obtain ⟨rfl, x3, rfl⟩ := hP
      rw [Nat.zero_add]
      exact ⟨_, gn_ap _ _ _, _, _, dl_turn m j T (.ar .c d) S' hm hT, rfl, _, rfl⟩)
  rw [rangeD_length, Nat.zero_add] at h2
  subst h2
  have p16 := pow_le m hm
  have pz := Nat.two_pow_pos m
  have e : ((2 ^ m : Nat) : Int) = (2 : Int) ^ m := by simp
  have i1 : inR ((2 : Int) ^ m) = true := by
    rw [← e]
    exact inR_nat (by omega)
  have i2 : ((2 : Int) ^ m).toNat = 2 ^ m := by omega
  have hm3 : (m : Int) ≤ 1000000 := by omega
  have hm2 : m < 18446744073709551616 := by omega
  have rg : rangeD 0 1 (2 ^ m) = nL (List.range (2 ^ m)) := by
    unfold rangeD
    refine List.map_congr_left fun j _ => ?_
    exact congrArg D.int (show (0 : Int) + (j : Int) * 1 = j by omega)
  have lr : gLRg (.int ((2 : Int) ^ m), .c) = some (.lst (nL (List.range (2 ^ m))), .n) := by
    show (if 0 ≤ (2 : Int) ^ m ∧ (2 : Int) ^ m ≤ 1000000 then some (D.lst (rangeD 0 1 ((2 : Int) ^ m).toNat), Fl.n) else none) = _
    rw [if_pos (by omega), i2, rg]
  have en := eq_nil (lfF m T (2 ^ m))
  generalize lfF m T (2 ^ m) = F at *
  generalize nL F = FF at *
  generalize nL (List.range (2 ^ m)) = RG at *
  generalize (nI T).map D.int = TT at *
  simp [m__law_is_dull, b__law_is_dull, i1, i2, hm3, hm2, lr]
  rw [h1]
  simp [en]
end Fin

set_option maxRecDepth 100000
set_option maxHeartbeats 4000000
namespace Fin
open Mv Mir Ev
open PySem (sizeLine sizeLine_eq PyData)
open L2 (atI ixN)
def prs : List Nat → List D
  | a :: b :: l => .tup [.int a, .int b] :: prs (b :: l)
  | _ => []
theorem zip_prs : ∀ (t : List Nat) (a f : Nat), zipD (nL (a :: t)) (nL (t ++ [f])) = prs (a :: t ++ [f])
  | [], a, f => rfl
  | b :: t, a, f => by
    have ih := zip_prs t b f
    show D.tup [.int a, .int b] :: zipD (nL (b :: t)) (nL (t ++ [f])) = D.tup [.int a, .int b] :: prs (b :: t ++ [f])
    rw [ih]
theorem cut_tl (x : D) (xs : List D) : cutD (x :: xs) (some 1) none = xs := by
  have h1 : (1 : Int) = ((1 : Nat) : Int) := rfl
  have z : ∀ n, HT.sIx n n none = n := fun _ => rfl
  unfold cutD
  rw [h1, HT.sIx_nat, z]
  simp
theorem cut_hd (x : D) (xs : List D) : cutD (x :: xs) none (some 1) = [x] := by
  have h1 : (1 : Int) = ((1 : Nat) : Int) := rfl
  have z : ∀ n, HT.sIx n 0 none = 0 := fun _ => rfl
  unfold cutD
  rw [h1, HT.sIx_nat, z]
  simp
theorem nub_id : ∀ xs : List Int, xs.Pairwise (· < ·) → nubS xs = xs
  | [], _ => rfl
  | [_], _ => rfl
  | x :: y :: r, h => by
    have h := List.pairwise_cons.mp h
    have h1 := h.1 y (.head _)
    rw [nubS, if_neg (by omega), nub_id (y :: r) h.2]
theorem srt_lt {xs : List Int} (h : xs.Nodup) : (sortI xs).Pairwise (· < ·) := by
  have s := sortI_sorted xs
  have n : (sortI xs).Nodup := (sortI_perm xs).nodup_iff.mpr h
  exact (s.and n).imp fun {a b} q => by
    have := q.1
    have := q.2
    omega
theorem min_ex : ∀ l : List Int, l ≠ [] → ∃ x ∈ l, ∀ y ∈ l, x ≤ y
  | [], h => absurd rfl h
  | [x], _ => ⟨x, .head _, fun y hy => by rw [List.mem_singleton.mp hy]; exact Int.le_refl _⟩
  | x :: z :: l, _ => by
    obtain ⟨w, h1, h2⟩ := min_ex (z :: l) (List.cons_ne_nil _ _)
    by_cases c : x ≤ w
    · exact ⟨x, .head _, fun y hy => by
        rcases List.mem_cons.mp hy with rfl | hy
        · exact Int.le_refl _
        · exact Int.le_trans c (h2 y hy)⟩
    · exact ⟨w, .tail _ h1, fun y hy => by
        rcases List.mem_cons.mp hy with rfl | hy
        · omega
        · exact h2 y hy⟩
theorem max_ex : ∀ l : List Int, l ≠ [] → ∃ x ∈ l, ∀ y ∈ l, y ≤ x
  | [], h => absurd rfl h
  | [x], _ => ⟨x, .head _, fun y hy => by rw [List.mem_singleton.mp hy]; exact Int.le_refl _⟩
  | x :: z :: l, _ => by
    obtain ⟨w, h1, h2⟩ := max_ex (z :: l) (List.cons_ne_nil _ _)
    by_cases c : w ≤ x
    · exact ⟨x, .head _, fun y hy => by
        rcases List.mem_cons.mp hy with rfl | hy
        · exact Int.le_refl _
        · exact Int.le_trans (h2 y hy) c⟩
    · exact ⟨w, .tail _ h1, fun y hy => by
        rcases List.mem_cons.mp hy with rfl | hy
        · omega
        · exact h2 y hy⟩
noncomputable abbrev rnB : SM := (sIf (tVal (eBin (gIn true) (eVar 4) (eFn 3 m__law_steps (aCons (eVar 0) (aCons (eVar 1) (aCons (eVar 3) aNil)))))) (sRet (eC (.bl false))) sNil)
theorem rn_loop (m : Nat) (T : List Nat) (x2 : Slot) (S : Store) (hm : m ≤ 4) (hT : T.length ≤ 10) : ∀ (l : List Nat) (x3 x4 : Slot), Chn m T l → (∀ x ∈ l, x < 2 ^ m) →
    ∃ y3 y4, forL (gT 2 (gsC (gN 3) (gsC (gN 4) gsN))) rnB (prs l) [.ar .c (.int m), .ar .c (.lst ((nI T).map D.int)), x2, x3, x4] S = .nx [.ar .c (.int m), .ar .c (.lst ((nI T).map D.int)), x2, y3, y4] S
  | [], x3, x4, _, _ => ⟨x3, x4, for_nil⟩
  | [_], x3, x4, _, _ => ⟨x3, x4, for_nil⟩
  | a :: b :: l, x3, x4, hc, hl => by
    obtain ⟨y3, y4, ih⟩ := rn_loop m T x2 S hm hT (b :: l) (.ar .c (.int a)) (.ar .c (.int b)) hc.2 (fun x hx => hl x (.tail _ hx))
    refine ⟨y3, y4, (for_cons (r1 := [.ar .c (.int m), .ar .c (.lst ((nI T).map D.int)), x2, .ar .c (.int a), .ar .c (.int b)]) rfl ?_).trans ih⟩
    have ls := s_lsteps m a T S hm (hl a (.head _)) hT
    have i := in_nL true b (dsF m T a) .c .n
    rw [decide_eq_true hc.1] at i
    generalize nL (dsF m T a) = DS at *
    generalize (nI T).map D.int = TT at *
    simp at i
    simp [ls, i]
theorem s_law_whole (i : Int) (f : Fl) (S : Store) : m__law_whole [(f, .int i)] S = .ok (.bl true, .c) S := by
  simp [m__law_whole, b__law_whole, isiOne]
theorem s_is_ring (m : Nat) (T ring : List Nat) (S : Store) (hm : 1 ≤ m ∧ m ≤ 4) (hT : T.length ≤ 10) (h : RingP m T ring) :
    m__law_is_ring [(.c, .int m), (.c, .lst ((nI T).map D.int)), (.c, .lst (nL ring))] S = .ok (.bl true, .c) S := by
  obtain ⟨fi, tail, e1, e2, e3, e4⟩ := h.ex
  have p16 := pow_le m hm.2
  have rl : ring.length ≤ 16 := Nat.le_trans (nd_len e2 e3) p16
  obtain ⟨y3, y4, lp⟩ := rn_loop m T (.ar .c (.lst (nL ring))) S hm.2 hT (ring ++ [fi]) .no .no e4 (fun x hx => by
    rcases List.mem_append.mp hx with hx | hx
    · exact e3 x hx
    · rw [List.mem_singleton.mp hx]
      exact e3 fi (by rw [e1]; exact .head _))
  have zp := zip_prs tail fi fi
  rw [← e1] at zp
  rw [← zp] at lp
  have c1 : cutD (nL ring) (some 1) none = nL tail := by
    rw [e1]
    exact cut_tl _ _
  have c2 : cutD (nL ring) none (some 1) = [.int fi] := by
    rw [e1]
    exact cut_hd _ _
  have ap : nL (tail ++ [fi]) = nL tail ++ [D.int fi] := by simp
  rw [ap] at lp
  have nn : nL ring = (nI ring).map D.int := by simp [nI]
  have ne : eqO (.lst (nL ring)) (.lst [.int 0]) = some false := by
    rw [nn]
    have := eqO_ll (nI ring) [0]
    refine this.trans ?_
    congr 1
    refine decide_eq_false fun z => ?_
    have hr : ring = [0] := by
      rw [e1] at z ⊢
      cases tail with
      | nil =>
        have : (fi : Int) = 0 := by simpa [nI] using z
        rw [show fi = 0 by omega]
      | cons x t => simp [nI] at z
    rw [e1] at hr
    cases hr
    have c := e4
    rw [e1] at c
    obtain ⟨b, _, hd, e⟩ := ds_mem.mp c.1
    unfold dul at hd
    rw [Bool.and_eq_true, decide_eq_true_eq, decide_eq_true_eq] at hd
    omega
  have nn0 : eqO (.lst (nL ring)) (.lst []) = some false := by
    rw [eq_nil, e1]
    rfl
  have hne : nI ring ≠ [] := by
    rw [e1]
    exact List.cons_ne_nil _ _
  have nd : (nI ring).Nodup := List.Pairwise.map _ (fun a b h e => h (Int.ofNat.inj e)) e2
  have ss : gSrtSet (.lst (nL ring), .c) = some (.lst ((sortI (nI ring)).map D.int), .n) := by
    unfold gSrtSet
    dsimp only
    rw [nn, intsOf_map]
    dsimp only
    rw [if_pos (by rw [List.length_map]; omega), nub_id _ (srt_lt nd)]
  have so : gSorted [(.c, .lst (nL ring))] = some (.lst ((sortI (nI ring)).map D.int), .n) := by
    rw [nn]
    show (match intsOf ((nI ring).map D.int) with
      | some is => some (D.lst ((sortI is).map .int), Fl.n)
      | none => none) = _
    rw [intsOf_map]
  have eqs : eqO (.lst ((sortI (nI ring)).map D.int)) (.lst ((sortI (nI ring)).map D.int)) = some true := by
    rw [eqO_ll]
    simp
  obtain ⟨mn, n1, n2⟩ := min_ex (nI ring) hne
  obtain ⟨mx, x1, x2⟩ := max_ex (nI ring) hne
  have gm : gMin [(.c, .lst (nL ring))] = some (.int mn, .c) := by
    rw [nn]
    show gInts (fun is => (minL is).map .int) [(.c, .lst ((nI ring).map D.int))] = _
    show (match intsOf ((nI ring).map D.int) with
      | some is => ((minL is).map D.int).map fun d => (d, Fl.c)
      | none => none) = _
    rw [intsOf_map]
    dsimp only
    rw [minL_of n1 n2]
    rfl
  have gx : gMax [(.c, .lst (nL ring))] = some (.int mx, .c) := by
    rw [nn]
    show (match intsOf ((nI ring).map D.int) with
      | some is => ((maxL is).map D.int).map fun d => (d, Fl.c)
      | none => none) = _
    rw [intsOf_map]
    dsimp only
    rw [maxL_of x1 x2]
    rfl
  obtain ⟨a, ha, ea⟩ := List.mem_map.mp n1
  obtain ⟨b, hb, eb⟩ := List.mem_map.mp x1
  have mn0 : ¬ mn < 0 := by omega
  have b16 := e3 b hb
  have mxs : mx / 2 ^ m = 0 := by
    rw [← eb]
    have pe : ((2 ^ m : Nat) : Int) = (2 : Int) ^ m := by simp
    exact Int.ediv_eq_zero_of_lt (by omega) (by omega)
  have cw : compL (gN 3) tYesM (eFn 1 m__law_whole (aCons (eVar 3) aNil)) [.ar .c (.int m), .ar .c (.lst ((nI T).map D.int)), .ar .c (.lst (nL ring)), .no, .no] (nL ring) S = .ok ((ring.map fun _ => true).map D.bl) S := by
    have := comp_map [.ar .c (.int m), .ar .c (.lst ((nI T).map D.int)), .ar .c (.lst (nL ring)), .no, .no] S (gN 3) tYesM (eFn 1 m__law_whole (aCons (eVar 3) aNil)) (fun _ => D.bl true) (nL ring) fun d hd => ⟨_, gn_ap _ _ _, rfl, .c, by
      obtain ⟨x, _, rfl⟩ := List.mem_map.mp hd
      simp [s_law_whole], Eq.trans rfl rfl⟩
    rw [this, List.map_map, List.map_map]
    rfl
  have kw := kcp_ap [.ar .c (.int m), .ar .c (.lst ((nI T).map D.int)), .ar .c (.lst (nL ring)), .no, .no] S [3] (gN 3) _ _ (nL ring) _ S (by rw [List.length_map]; omega) cw
  have hall : (ring.map fun _ => true).all id = true := by simp
  have tl : (nL tail).length + 1 ≤ 16777216 := by rw [e1] at rl; simp at rl ⊢; omega
  generalize (ring.map fun _ => true) = BB at *
  generalize (sortI (nI ring)).map D.int = SO at *
  generalize hRR : nL ring = RR at *
  generalize nL tail = TL at *
  generalize (nI T).map D.int = TT at *
  have hm3 : (m : Int) ≤ 1000000 := by omega
  have hm2 : m < 18446744073709551616 := by omega
  simp [m__law_is_ring, b__law_is_ring, isiOne, nn0, ne, freeE, kw, hall, gm, gx, mn0, mxs, ss, so, eqs, c1, c2, sizeLine_eq, tl, hm2, hm3]
  rw [lp]
  simp
end Fin

set_option maxRecDepth 100000
set_option maxHeartbeats 4000000
namespace Fin
open Mv Mir Ev
open PySem (sizeLine sizeLine_eq)
open L2 (atI ixN)
abbrev MTD (m : Nat) (T : List Nat) : D := .tup [.int m, .lst ((nI T).map D.int)]
def sixM : List (Nat × List Nat) := [(1, [3, 3]), (2, [5, 3]), (2, [6, 6]), (3, [9, 5]), (3, [15, 10]), (4, [17, 10])]
theorem six_ok : ∀ p ∈ sixM, (1 ≤ p.1 ∧ p.1 ≤ 4) ∧ (2 ≤ p.2.length ∧ p.2.length ≤ 4) ∧ ∀ t ∈ p.2, 1 ≤ (t : Int) ∧ (t : Int) ≤ 2 ^ (p.1 + 1) - 1 := by decide
theorem six_at (n : Int) (h : 0 ≤ n ∧ n < 6) : ∃ p ∈ sixM, atI [D.tup [.int 1, .lst [.int 3, .int 3]], D.tup [.int 2, .lst [.int 5, .int 3]], D.tup [.int 2, .lst [.int 6, .int 6]], D.tup [.int 3, .lst [.int 9, .int 5]], D.tup [.int 3, .lst [.int 15, .int 10]], D.tup [.int 4, .lst [.int 17, .int 10]]] n = some (MTD p.1 p.2) := by
  have : n = 0 ∨ n = 1 ∨ n = 2 ∨ n = 3 ∨ n = 4 ∨ n = 5 := by omega
  rcases this with rfl | rfl | rfl | rfl | rfl | rfl
  · exact ⟨(1, [3, 3]), by decide, rfl⟩
  · exact ⟨(2, [5, 3]), by decide, rfl⟩
  · exact ⟨(2, [6, 6]), by decide, rfl⟩
  · exact ⟨(3, [9, 5]), by decide, rfl⟩
  · exact ⟨(3, [15, 10]), by decide, rfl⟩
  · exact ⟨(4, [17, 10]), by decide, rfl⟩
theorem s_own (ns : List Int) (k : Nat) (S : Store) (hk : k ≤ 1000) : ∃ (m : Nat) (T : List Nat), (1 ≤ m ∧ m ≤ 4) ∧ (2 ≤ T.length ∧ T.length ≤ 4) ∧ (∀ t ∈ T, 1 ≤ (t : Int) ∧ (t : Int) ≤ 2 ^ (m + 1) - 1) ∧ m__law_own [(.c, .frz (ns.map D.int)), (.c, .int k)] S = .ok (MTD m T, .c) S := by
  obtain ⟨m, T, hm1, hT1, hm, hT, ht⟩ := mach_nat ns k
  have sm := s_machine ns k .c S (by omega)
  rw [hm1, hT1] at sm
  have sd := s_draw ns (k + 9) .c S (by omega)
  have d0 := draw_nn ns (k + 9)
  generalize drawF ns (k + 9) = n4 at *
  by_cases z : n4 % 4 = 1
  · obtain ⟨p, hp, ea⟩ := six_at (n4 / 4 % 6) ⟨by omega, by omega⟩
    obtain ⟨a1, a2, a3⟩ := six_ok p hp
    refine ⟨p.1, p.2, a1, a2, a3, ?_⟩
    unfold MTD at ea ⊢
    generalize (nI T).map D.int = TT at *
    generalize (nI p.2).map D.int = T2 at *
    generalize ((p.1 : Nat) : Int) = pm at *
    simp [m__law_own, b__law_own, sm, sd, z, lg4, ea]
  · refine ⟨m, T, hm, hT, ht, ?_⟩
    unfold MTD
    generalize (nI T).map D.int = TT at *
    simp [m__law_own, b__law_own, sm, sd, z]
noncomputable abbrev taB : SM := (sSeq (sAsg (gT 2 (gsC (gN 2) (gsC (gN 5) gsN))) (eFn 4 m__law_step (aCons (eVar 0) (aCons (eVar 1) (aCons (eVar 2) (aCons (eC (.int 0)) aNil))))))
    (sSet 3 (eBin gAdd (eVar 3) (eCal gSum (aCons (eVar 5) aNil)))))
theorem odd_sum (T : List Nat) (s b : Nat) : (T.map (oddF (2 * s + b))).sum = ((dF T (zb T) s b : Nat) : Int) := by
  have h : ∀ x ∈ T.map (oddF (2 * s + b)), x = 0 ∨ x = 1 := fun x hx => by
    obtain ⟨t, _, rfl⟩ := List.mem_map.mp hx
    unfold oddF
    omega
  rw [← unl_sum _ h, List.length_map]
  rfl
theorem ws_cons (m : Nat) (T : List Nat) (b : Nat) (w : List Nat) (s : Nat) : ws m T (b :: w) s = dF T (zb T) s b + ws m T w (nx m s b) := rfl
theorem ta_turn (m s acc : Nat) (T : List Nat) (x4 x5 : Slot) (S : Store) (hm : m ≤ 4) (hs : s < 2 ^ m) (hT : T.length ≤ 10) : ∃ y5, taB [.ar .c (.int m), .ar .c (.lst ((nI T).map D.int)), .ar .c (.int s), .ar .c (.int acc), x4, x5] S = .nx [.ar .c (.int m), .ar .c (.lst ((nI T).map D.int)), .ar .c (.int (nx m s 0 : Nat)), .ar .c (.int ((acc + dF T (zb T) s 0 : Nat) : Int)), x4, y5] S := by
  have stp := s_lstep m s 0 T .c .c .c .c S hm hs (by decide) hT (by decide) rfl
  have os := odd_sum T s 0
  refine ⟨.ar .c (.lst ((T.map (oddF (2 * s + 0))).map D.int)), ?_⟩
  have z0 : ((0 : Nat) : Int) = 0 := rfl
  rw [z0] at stp
  rw [Int.natCast_add]
  generalize T.map (oddF (2 * s + 0)) = L at *
  generalize dF T (zb T) s 0 = dd at *
  generalize nx m s 0 = q at *
  generalize (nI T).map D.int = TT at *
  simp [stp, os]
theorem s_tail (m s : Nat) (T : List Nat) (S : Store) (hm : m ≤ 4) (hs : s < 2 ^ m) (hT : T.length ≤ 10) : m__law_tail [(.c, .int m), (.c, .lst ((nI T).map D.int)), (.c, .int s)] S = .ok (.int (ws m T (zs m) s : Nat), .c) S := by
  obtain ⟨r2, S2, h1, rfl, s2, acc, x4, x5, h2, h3, rfl⟩ := for_inv (P := fun j r S' => S' = S ∧ ∃ (s2 acc : Nat) (x4 x5 : Slot), s2 < 2 ^ m ∧ acc + ws m T (zs (m - j)) s2 = ws m T (zs m) s ∧ r = [.ar .c (.int m), .ar .c (.lst ((nI T).map D.int)), .ar .c (.int s2), .ar .c (.int acc), x4, x5])
    (g := gN 4) (p := taB) (rangeD 0 1 m) 0 [.ar .c (.int m), .ar .c (.lst ((nI T).map D.int)), .ar .c (.int s), .ar .c (.int (0 : Nat)), .no, .no] S ⟨rfl, s, 0, .no, .no, hs, by rw [Nat.zero_add, Nat.sub_zero], rfl⟩ (fun j d r S' hd hP => by
      obtain ⟨rfl, s2, acc, x4, x5, hs2, he, rfl⟩ := hP
      rw [Nat.zero_add] at he ⊢
      have hj : j < m := by
        have := (List.getElem?_eq_some_iff.mp hd).1
        rw [rangeD_length] at this
        exact this
      obtain ⟨y5, q⟩ := ta_turn m s2 acc T (.ar .c d) x5 S' hm hs2 hT
      refine ⟨_, gn_ap _ _ _, _, _, q, rfl, nx m s2 0, acc + dF T (zb T) s2 0, .ar .c d, y5, nx_lt m s2 0, ?_, rfl⟩
      rw [show m - j = (m - (j + 1)) + 1 by omega, zs_succ, ws_cons] at he
      omega)
  rw [rangeD_length, Nat.zero_add, Nat.sub_self] at h3
  have z0 : ((0 : Nat) : Int) = 0 := rfl
  rw [z0] at h1
  have w0 : ws m T (zs 0) s2 = 0 := rfl
  rw [w0, Nat.add_zero] at h3
  rw [h3] at h1
  have im : inR (m : Int) = true := inR_nat (by omega)
  generalize ws m T (zs m) s = W at *
  generalize (nI T).map D.int = TT at *
  simp [m__law_tail, b__law_tail, im]
  rw [h1]
  simp
end Fin

set_option maxRecDepth 100000
set_option maxHeartbeats 4000000
namespace Fin
open Mv Mir Ev
open PySem (sizeLine sizeLine_eq)
open L2 (atI ixN)
/-! dicts from numbers to costs and words -/
abbrev KV := List (Nat × CW)
def cwD (c : CW) : D := .tup [.int c.1, .lst ((nI c.2).map D.int)]
def keysV (kv : KV) : List L2.Key := kv.map fun p => keyI p.1
def valsV (kv : KV) : List D := kv.map fun p => cwD p.2
def kvD (kv : KV) : D := .dic (keysV kv) (valsV kv)
def lookV : KV → Nat → Option CW
  | [], _ => none
  | p :: kv, w => if p.1 = w then some p.2 else lookV kv w
def putV (kv : KV) (w : Nat) (c : CW) : KV := if kv.any (fun p => decide (p.1 = w)) = true then kv.map (fun p => if p.1 = w then (p.1, c) else p) else kv ++ [(w, c)]
theorem getK_lookV : ∀ (kv : KV) (w : Nat), getK (keysV kv) (valsV kv) (keyI w) = (lookV kv w).map cwD
  | [], _ => rfl
  | p :: kv, w => by
    show (if keyI p.1 = keyI w then some (cwD p.2) else getK (keysV kv) (valsV kv) (keyI w)) = (if p.1 = w then some p.2 else lookV kv w).map cwD
    by_cases h : p.1 = w
    · rw [if_pos h, if_pos (by rw [h])]
      rfl
    · rw [if_neg h, if_neg (fun e => h (keyI_inj e))]
      exact getK_lookV kv w
theorem putX_putV (w : Nat) (c : CW) : ∀ kv : KV, putX (keysV kv) (valsV kv) (keyI w) (cwD c) = valsV (kv.map fun p => if p.1 = w then (p.1, c) else p)
  | [] => rfl
  | p :: kv => by
    show (if keyI p.1 = keyI w then cwD c else cwD p.2) :: putX (keysV kv) (valsV kv) (keyI w) (cwD c) = cwD (if p.1 = w then (p.1, c) else p).2 :: valsV (kv.map fun p => if p.1 = w then (p.1, c) else p)
    rw [putX_putV w c kv]
    by_cases h : p.1 = w
    · rw [if_pos h, if_pos (by rw [h])]
    · rw [if_neg h, if_neg (fun e => h (keyI_inj e))]
theorem putKD_putV (kv : KV) (w : Nat) (c : CW) : putKD (keysV kv) (valsV kv) (keyI w) (cwD c) = (keysV (putV kv w c), valsV (putV kv w c)) := by
  have a : ((keysV kv).any fun j => decide (j = keyI w)) = kv.any fun p => decide (p.1 = w) := by
    unfold keysV
    rw [List.any_map]
    congr 1
    funext p
    show decide (keyI p.1 = keyI w) = decide (p.1 = w)
    by_cases h : p.1 = w
    · rw [decide_eq_true h, decide_eq_true (by rw [h])]
    · rw [decide_eq_false h, decide_eq_false (fun e => h (keyI_inj e))]
  unfold putKD putV
  rw [a]
  split
  · rw [putX_putV]
    congr 1
    unfold keysV
    rw [List.map_map]
    refine List.map_congr_left fun p _ => ?_
    show keyI p.1 = keyI (if p.1 = w then (p.1, c) else p).1
    split <;> rfl
  · unfold keysV valsV
    rw [List.map_append, List.map_append]
    rfl
theorem putV_len (kv : KV) (w : Nat) (c : CW) : (putV kv w c).length ≤ kv.length + 1 := by
  unfold putV
  split
  · rw [List.length_map]
    omega
  · rw [List.length_append]
    exact Nat.le_refl _
theorem putV_keys (kv : KV) (w : Nat) (c : CW) (h : (kv.map Prod.fst).Nodup) : ((putV kv w c).map Prod.fst).Nodup := by
  unfold putV
  split
  · rw [List.map_map]
    have : (Prod.fst ∘ fun p : Nat × CW => if p.1 = w then (p.1, c) else p) = Prod.fst := by
      funext p
      show (if p.1 = w then (p.1, c) else p).1 = p.1
      split <;> rfl
    rw [this]
    exact h
  · rename_i n
    rw [List.map_append]
    refine List.nodup_append.mpr ⟨h, by simp, fun a ha b hb e => ?_⟩
    rw [List.map_cons, List.map_nil, List.mem_singleton] at hb
    subst hb
    subst e
    obtain ⟨p, hp, rfl⟩ := List.mem_map.mp ha
    exact n (List.any_eq_true.mpr ⟨p, hp, decide_eq_true rfl⟩)
theorem look_map (w : Nat) (c : CW) (j : Nat) : ∀ kv : KV, lookV (kv.map fun p => if p.1 = w then (p.1, c) else p) j = if j = w then (lookV kv j).map fun _ => c else lookV kv j
  | [] => by
    rw [List.map_nil, lookV]
    split <;> rfl
  | p :: kv => by
    rw [List.map_cons, lookV, look_map w c j kv, lookV]
    by_cases h : p.1 = w
    · rw [if_pos h]
      by_cases h2 : p.1 = j
      · rw [if_pos h2, if_pos (h2.symm.trans h), if_pos h2]
        rfl
      · rw [if_neg h2, if_neg h2]
    · rw [if_neg h]
      by_cases h2 : p.1 = j
      · rw [if_pos h2, if_pos h2, if_neg (fun e => h (h2.trans e))]
      · rw [if_neg h2, if_neg h2]
theorem look_none : ∀ (kv : KV) (w : Nat), (kv.any fun p => decide (p.1 = w)) = false → lookV kv w = none
  | [], _, _ => rfl
  | p :: kv, w, h => by
    rw [List.any_cons, Bool.or_eq_false_iff] at h
    rw [lookV, if_neg (of_decide_eq_false h.1), look_none kv w h.2]
theorem look_some : ∀ (kv : KV) (w : Nat), (kv.any fun p => decide (p.1 = w)) = true → ∃ c, lookV kv w = some c
  | [], _, h => by cases h
  | p :: kv, w, h => by
    rw [lookV]
    by_cases e : p.1 = w
    · exact ⟨p.2, if_pos e⟩
    · rw [List.any_cons, decide_eq_false e, Bool.false_or] at h
      obtain ⟨c, q⟩ := look_some kv w h
      exact ⟨c, by rw [if_neg e, q]⟩
theorem look_app (j : Nat) : ∀ (kv kw : KV), lookV (kv ++ kw) j = match lookV kv j with
    | some c => some c
    | none => lookV kw j
  | [], kw => rfl
  | p :: kv, kw => by
    rw [List.cons_append, lookV, lookV]
    split
    · rfl
    · exact look_app j kv kw
theorem look_put (kv : KV) (w : Nat) (c : CW) (j : Nat) : lookV (putV kv w c) j = if j = w then some c else lookV kv j := by
  unfold putV
  split
  · rename_i h
    rw [look_map]
    split
    · rename_i e
      subst e
      obtain ⟨x, hx⟩ := look_some kv j h
      rw [hx]
      rfl
    · rfl
  · rename_i h
    rw [look_app]
    have n := look_none kv w (Bool.eq_false_iff.mpr h)
    by_cases e : j = w
    · subst e
      rw [n, if_pos rfl]
      show (if j = j then some c else none) = some c
      rw [if_pos rfl]
    · rw [if_neg e]
      cases lookV kv j with
      | some x => rfl
      | none =>
        show (if w = j then some c else none) = none
        rw [if_neg (Ne.symm e)]
theorem look_mem : ∀ (kv : KV), (kv.map Prod.fst).Nodup → ∀ p ∈ kv, lookV kv p.1 = some p.2
  | [], _, _, h => by cases h
  | q :: kv, nd, p, h => by
    rw [List.map_cons, List.nodup_cons] at nd
    rw [lookV]
    rcases List.mem_cons.mp h with rfl | h
    · rw [if_pos rfl]
    · have ne : ¬ q.1 = p.1 := fun e => nd.1 (by rw [e]; exact List.mem_map_of_mem h)
      rw [if_neg ne, look_mem kv nd.2 p h]
theorem mem_look : ∀ (kv : KV) (w : Nat) (c : CW), lookV kv w = some c → (w, c) ∈ kv
  | [], _, _, h => by cases h
  | p :: kv, w, c, h => by
    rw [lookV] at h
    by_cases e : p.1 = w
    · rw [if_pos e] at h
      cases h
      rw [← e]
      exact .head _
    · rw [if_neg e] at h
      exact .tail _ (mem_look kv w c h)
theorem items_V : ∀ kv : KV, itemsD (keysV kv) (valsV kv) = kv.map fun p => D.tup [.int (p.1 : Nat), cwD p.2]
  | [] => rfl
  | p :: kv => by
    show D.tup [kD (keyI p.1), cwD p.2] :: itemsD (keysV kv) (valsV kv) = _
    rw [items_V kv]
    rfl
theorem kv_len (kv : KV) (N : Nat) (nd : (kv.map Prod.fst).Nodup) (h : ∀ p ∈ kv, p.1 < N) : kv.length ≤ N := by
  have mem : ∀ m, m ∈ kv.map Prod.fst → m < N := fun m hm => by
    obtain ⟨p, hp, rfl⟩ := List.mem_map.mp hm
    exact h p hp
  have e : ((List.range N).filter fun m => decide (m ∈ kv.map Prod.fst)).length = (kv.map Prod.fst).length := ((List.perm_ext_iff_of_nodup ((List.nodup_range).sublist List.filter_sublist) nd).mpr fun m => by
    rw [List.mem_filter, List.mem_range, decide_eq_true_eq]
    exact ⟨fun z => z.2, fun z => ⟨mem m z, z⟩⟩).length_eq
  have l := List.length_filter_le (fun m => decide (m ∈ kv.map Prod.fst)) (List.range N)
  rw [List.length_range] at l
  rw [← List.length_map (f := Prod.fst), ← e]
  exact l
/-! the deeds on such dicts -/
theorem dni_v (kv : KV) (k : Nat) (f f' : Fl) : gDNi (.int (k : Int), f') (kvD kv, f) = some (.bl (!(lookV kv k).isSome), .c) := by
  show some (D.bl (!(getK (keysV kv) (valsV kv) (keyI k)).isSome), Fl.c) = _
  rw [getK_lookV, Option.isSome_map]
theorem dix_v (kv : KV) (k : Nat) (a : CW) (f f' : Fl) (hf : f ≠ .t) (h : lookV kv k = some a) : gDIx (kvD kv, f) (.int (k : Int), f') = some (cwD a, .c) := by
  show (getK (keysV kv) (valsV kv) (keyI k)).map (fun d => (d, if f = Fl.t then Fl.t else Fl.c)) = _
  rw [getK_lookV, h, if_neg hf]
  rfl
theorem ints_D : ∀ is : List Int, intsOf (is.map D.int) = some is
  | [] => rfl
  | i :: is => by
    rw [List.map_cons, intsOf, ints_D is]
    rfl
theorem ltl_v (a b : CW) (f f' : Fl) : gLtL (cwD a, f) (cwD b, f') = some (.bl (ltL a.1 b.1 (nI a.2) (nI b.2)), .c) := by
  unfold gLtL cwD
  dsimp only
  rw [ints_D, ints_D]
theorem ds_put (i : Nat) (mi m : EM) (r : Env) (S : Store) (kv : KV) (k : Nat) (c : CW) (f1 : Fl) (h1 : r[i]? = some (.own (kvD kv))) (hk : mi r S = .ok (.int (k : Int), f1) S) (hv : m r S = .ok (cwD c, .c) S) (hl : kv.length < 1000000) : sDSub i mi m r S = .nx (r.set i (.own (kvD (putV kv k c)))) S := by
  unfold sDSub
  rw [hv]
  show (match r[i]? with
    | some (.own (.dic ks xs)) => (mi r S).sb r fun j S2 => match keyD j.1 with
      | some k => if okst Fl.c (cwD c) && decide (ks.length < sizeLine) then SR.nx (r.set i (.own (.dic (putKD ks xs k (cwD c)).1 (putKD ks xs k (cwD c)).2))) S2 else SR.no
      | none => SR.no
    | _ => SR.no) = _
  rw [h1]
  show (mi r S).sb r _ = _
  rw [hk]
  show (if okst Fl.c (cwD c) && decide ((keysV kv).length < sizeLine) then SR.nx (r.set i (.own (.dic (putKD (keysV kv) (valsV kv) (keyI k) (cwD c)).1 (putKD (keysV kv) (valsV kv) (keyI k) (cwD c)).2))) S else SR.no) = _
  rw [putKD_putV]
  have l : (keysV kv).length < sizeLine := by
    unfold keysV
    rw [List.length_map, sizeLine_eq]
    omega
  rw [decide_eq_true l]
  rfl
end Fin

set_option maxRecDepth 100000
set_option maxHeartbeats 4000000
namespace Fin
open Mv Mir Ev
open PySem (sizeLine sizeLine_eq)
open L2 (atI ixN)
def rlx (L : KV) (g : Nat) (c : CW) : KV := match lookV L g with
  | none => putV L g c
  | some o => if ltL c.1 o.1 (nI c.2) (nI o.2) = true then putV L g c else L
def extW (T : List Nat) (t : List D) (s : Nat) (x : CW) (b : Nat) : CW := (x.1 + dF T t s b, x.2 ++ [b])
theorem rlx_len (L : KV) (g : Nat) (c : CW) : (rlx L g c).length ≤ L.length + 1 := by
  unfold rlx
  split
  · exact putV_len ..
  · split
    · exact putV_len ..
    · omega
end Fin

set_option maxRecDepth 100000
set_option maxHeartbeats 4000000
namespace Fin
open Mv Mir Ev
open PySem (sizeLine sizeLine_eq)
open L2 (atI ixN)
structure WfV (m j : Nat) (L : KV) : Prop where
  nd : (L.map Prod.fst).Nodup
  ok : ∀ p ∈ L, p.1 < 2 ^ m ∧ p.2.2.length = j
theorem wf_len {m j : Nat} {L : KV} (hm : m ≤ 4) (h : WfV m j L) : L.length ≤ 16 := Nat.le_trans (kv_len L (2 ^ m) h.nd fun p hp => (h.ok p hp).1) (pow_le m hm)
theorem wf_nil (m j : Nat) : WfV m j [] := ⟨List.nodup_nil, fun _ h => by cases h⟩
theorem mem_put {kv : KV} {w : Nat} {c : CW} {p : Nat × CW} (h : p ∈ putV kv w c) : p ∈ kv ∨ p = (w, c) := by
  unfold putV at h
  split at h
  · obtain ⟨q, hq, e⟩ := List.mem_map.mp h
    by_cases z : q.1 = w
    · rw [if_pos z, z] at e
      exact .inr e.symm
    · rw [if_neg z] at e
      exact .inl (e ▸ hq)
  · rcases List.mem_append.mp h with h | h
    · exact .inl h
    · exact .inr (List.mem_singleton.mp h)
theorem wf_put {m j : Nat} {L : KV} {g : Nat} {c : CW} (h : WfV m j L) (hg : g < 2 ^ m) (hc : c.2.length = j) : WfV m j (putV L g c) :=
  ⟨putV_keys L g c h.nd, fun p hp => by
    rcases mem_put hp with hp | rfl
    · exact h.ok p hp
    · exact ⟨hg, hc⟩⟩
theorem wf_rlx {m j : Nat} {L : KV} {g : Nat} {c : CW} (h : WfV m j L) (hg : g < 2 ^ m) (hc : c.2.length = j) : WfV m j (rlx L g c) := by
  unfold rlx
  split
  · exact wf_put h hg hc
  · split
    · exact wf_put h hg hc
    · exact h
def bitsV (m : Nat) (T : List Nat) (t : List D) (s : Nat) (x : CW) (bs : List Nat) (L : KV) : KV := bs.foldl (fun L b => rlx L (nx m s b) (extW T t s x b)) L
theorem wf_bits {m j : Nat} (T : List Nat) (t : List D) (s : Nat) (x : CW) (hx : x.2.length = j) : ∀ (bs : List Nat) (L : KV), WfV m (j + 1) L → WfV m (j + 1) (bitsV m T t s x bs L)
  | [], L, h => h
  | b :: bs, L, h => wf_bits T t s x hx bs _ (wf_rlx h (nx_lt m s b) (by unfold extW; rw [List.length_append, hx]; rfl))
def stepV (m : Nat) (T : List Nat) (t : List D) (bs : List Nat) (R L : KV) : KV := R.foldl (fun L p => bitsV m T t p.1 p.2 bs L) L
theorem wf_step {m j : Nat} (T : List Nat) (t : List D) (bs : List Nat) : ∀ (R L : KV), (∀ p ∈ R, p.2.2.length = j) → WfV m (j + 1) L → WfV m (j + 1) (stepV m T t bs R L)
  | [], L, _, h => h
  | p :: R, L, hR, h => wf_step T t bs R _ (fun q hq => hR q (.tail _ hq)) (wf_bits T t p.1 p.2 (hR p (.head _)) bs L h)
end Fin

set_option maxRecDepth 100000
set_option maxHeartbeats 4000000
namespace Fin
open Mv Mir Ev
open PySem (sizeLine sizeLine_eq)
open L2 (atI ixN)
theorem rlx_R {Cs : List (Nat × CW)} {L : KV} {g : Nat} {c : CW} (h : Rlx ple Cs (lookV L)) : Rlx ple (Cs ++ [(g, c)]) (lookV (rlx L g c)) := by
  cases q : lookV L g with
  | none =>
    have e : rlx L g c = putV L g c := by unfold rlx; rw [q]
    rw [e]
    exact rlx_step (le := ple) (f' := lookV (putV L g c)) (v := c) (fun a b => ple_trans a b) ple_refl h (by rw [look_put, if_pos rfl]) (fun j hj => by rw [look_put, if_neg hj]) (.inl ⟨q, rfl⟩)
  | some o =>
    cases z : ltL c.1 o.1 (nI c.2) (nI o.2) with
    | true =>
      have e : rlx L g c = putV L g c := by unfold rlx; rw [q]; exact if_pos z
      rw [e]
      exact rlx_step (le := ple) (f' := lookV (putV L g c)) (v := c) (fun a b => ple_trans a b) ple_refl h (by rw [look_put, if_pos rfl]) (fun j hj => by rw [look_put, if_neg hj]) (.inr ⟨o, q, .inl ⟨rfl, ple_of_lt z⟩⟩)
    | false =>
      have e : rlx L g c = L := by unfold rlx; rw [q]; exact if_neg (by rw [z]; decide)
      rw [e]
      exact rlx_step (le := ple) (f' := lookV L) (v := o) (fun a b => ple_trans a b) ple_refl h q (fun j hj => rfl) (.inr ⟨o, q, .inr ⟨rfl, (ltL_ple o c).mp z⟩⟩)
def candB (m : Nat) (T : List Nat) (t : List D) (bs : List Nat) (p : Nat × CW) : List (Nat × CW) := bs.map fun b => (nx m p.1 b, extW T t p.1 p.2 b)
theorem bits_R {m : Nat} {T : List Nat} {t : List D} {s : Nat} {x : CW} : ∀ (bs : List Nat) (Cs : List (Nat × CW)) (L : KV), Rlx ple Cs (lookV L) → Rlx ple (Cs ++ candB m T t bs (s, x)) (lookV (bitsV m T t s x bs L))
  | [], Cs, L, h => by
    rw [candB, List.map_nil, List.append_nil]
    exact h
  | b :: bs, Cs, L, h => by
    have := bits_R (m := m) (T := T) (t := t) (s := s) (x := x) bs _ _ (rlx_R (g := nx m s b) (c := extW T t s x b) h)
    rw [List.append_assoc] at this
    exact this
theorem step_R {m : Nat} {T : List Nat} {t : List D} {bs : List Nat} : ∀ (R : KV) (Cs : List (Nat × CW)) (L : KV), Rlx ple Cs (lookV L) → Rlx ple (Cs ++ R.flatMap (candB m T t bs)) (lookV (stepV m T t bs R L))
  | [], Cs, L, h => by
    rw [List.flatMap_nil, List.append_nil]
    exact h
  | p :: R, Cs, L, h => by
    have := step_R (m := m) (T := T) (t := t) (bs := bs) R _ _ (bits_R (m := m) (T := T) (t := t) (s := p.1) (x := p.2) bs _ _ h)
    rw [List.append_assoc] at this
    exact this
end Fin

set_option maxRecDepth 100000
set_option maxHeartbeats 4000000
namespace Fin
open Mv Mir Ev
open PySem (sizeLine sizeLine_eq)
open L2 (atI ixN)
noncomputable abbrev lgRlx : SM := (sIf (tOrM (tVal (eBin gDNi (eVar 11) (eVar 9))) (tVal (eBin gLtL (eVar 8) (eBin gDIx (eVar 9) (eVar 11))))) (sDSub 9 (eVar 11) (eVar 8)) sNil)
noncomputable abbrev lgIn : SM := (sSeq (sAsg (gT 2 (gsC (gN 11) (gsC (gN 12) gsN))) (eFn 4 m__law_step (aCons (eVar 0) (aCons (eVar 1) (aCons (eVar 2) (aCons (eVar 10) aNil))))))
    (sSeq (sSet 8 (eTup (aCons (eBin gAdd (eBin gIx (eVar 7) (eC (.int 0))) (eCal gSum (aCons (eVar 12) aNil))) (aCons (eBin gAdd (eBin gIx (eVar 7) (eC (.int 1))) (eLst (aCons (eVar 10) aNil))) aNil))))
    lgRlx))
theorem lg_rlx (L : KV) (g : Nat) (c : CW) (r : Env) (S : Store) (h8 : r[9]? = some (.own (kvD L))) (h12 : r[11]? = some (.ar .c (.int (g : Nat)))) (h14 : r[8]? = some (.ar .c (cwD c))) (hl : L.length < 1000000) (r' : Env) (hr : r' = r.set 9 (.own (kvD (rlx L g c)))) (h8' : r.set 9 (.own (kvD L)) = r) :
    lgRlx r S = .nx r' S := by
  subst hr
  have dn := dni_v L g .o .c
  have ex : eVar 11 r S = .ok (.int (g : Nat), .c) S := by simp [h12]
  have e14 : eVar 8 r S = .ok (cwD c, .c) S := by simp [h14, cwD]
  have e8 : eVar 9 r S = .ok (kvD L, .o) S := by simp [h8]
  have ds := ds_put 9 (eVar 11) (eVar 8) r S L g c .c h8 ex e14 hl
  cases q : lookV L g with
  | none =>
    have t : (tOrM (tVal (eBin gDNi (eVar 11) (eVar 9))) (tVal (eBin gLtL (eVar 8) (eBin gDIx (eVar 9) (eVar 11))))) r S = .ok true S := by
      rw [q] at dn
      simp [h12, h8, dn, ex, e8]
    refine (if_t t).trans ?_
    rw [if_pos rfl, ds]
    unfold rlx
    rw [q]
  | some o =>
    rw [q] at dn
    have dx := dix_v L g o .o .c (by decide) q
    have lt := ltl_v c o .c .c
    have t : (tOrM (tVal (eBin gDNi (eVar 11) (eVar 9))) (tVal (eBin gLtL (eVar 8) (eBin gDIx (eVar 9) (eVar 11))))) r S = .ok (ltL c.1 o.1 (nI c.2) (nI o.2)) S := by
      generalize ltL c.1 o.1 (nI c.2) (nI o.2) = B at *
      generalize cwD c = F at *
      generalize cwD o = A at *
      generalize kvD L = K at *
      simp at dn
      simp [h12, h8, h14, dn, dx, lt]
    refine (if_t t).trans ?_
    unfold rlx
    rw [q]
    dsimp only
    cases ltL c.1 o.1 (nI c.2) (nI o.2) with
    | true =>
      rw [if_pos rfl, if_pos rfl, ds]
    | false =>
      simp only [Bool.false_eq_true, if_false]
      rw [h8']
      rfl
abbrev gE (m : Nat) (T : List Nat) (s : Nat) (x3 x4 x5 x6 : Slot) (x : CW) (x8 : Slot) (L : KV) (x10 x11 x12 : Slot) : Env :=
  [.ar .c (.int m), .ar .c (.lst ((nI T).map D.int)), .ar .c (.int s), x3, x4, x5, x6, .ar .c (cwD x), x8, .own (kvD L), x10, x11, x12]
theorem lg_in (m : Nat) (T : List Nat) (s b : Nat) (x : CW) (L : KV) (x3 x5 x6 x8 x11 x12 : Slot) (S : Store) (hm : m ≤ 4) (hs : s < 2 ^ m) (hb : b < 2) (hT : T.length ≤ 10) (hl : L.length < 1000000) (hx : x.2.length ≤ 1000) :
    ∃ y8 y11 y12, ∀ x4, lgIn (gE m T s x3 x4 x5 x6 x x8 L (.ar .c (.int b)) x11 x12) S =
      .nx (gE m T s x3 x4 x5 x6 x y8 (rlx L (nx m s b) (extW T (zb T) s x b)) (.ar .c (.int b)) y11 y12) S := by
  have stp := s_lstep m s b T .c .c .c .c S hm hs hb hT (by decide) rfl
  have os := odd_sum T s b
  refine ⟨.ar .c (cwD (extW T (zb T) s x b)), .ar .c (.int (nx m s b : Nat)), .ar .c (.lst ((T.map (oddF (2 * s + b))).map D.int)), fun x4 => ?_⟩
  have e1 : sAsg (gT 2 (gsC (gN 11) (gsC (gN 12) gsN))) (eFn 4 m__law_step (aCons (eVar 0) (aCons (eVar 1) (aCons (eVar 2) (aCons (eVar 10) aNil))))) (gE m T s x3 x4 x5 x6 x x8 L (.ar .c (.int b)) x11 x12) S =
      .nx (gE m T s x3 x4 x5 x6 x x8 L (.ar .c (.int b)) (.ar .c (.int (nx m s b : Nat))) (.ar .c (.lst ((T.map (oddF (2 * s + b))).map D.int)))) S := by
    unfold gE
    generalize T.map (oddF (2 * s + b)) = LL at *
    generalize nx m s b = q at *
    generalize cwD x = C at *
    generalize kvD L = K at *
    generalize (nI T).map D.int = TT at *
    simp [stp]
  refine (seq_nx e1).trans ?_
  have e2 : eTup (aCons (eBin gAdd (eBin gIx (eVar 7) (eC (.int 0))) (eCal gSum (aCons (eVar 12) aNil))) (aCons (eBin gAdd (eBin gIx (eVar 7) (eC (.int 1))) (eLst (aCons (eVar 10) aNil))) aNil)) (gE m T s x3 x4 x5 x6 x x8 L (.ar .c (.int b)) (.ar .c (.int (nx m s b : Nat))) (.ar .c (.lst ((T.map (oddF (2 * s + b))).map D.int)))) S = .ok (cwD (extW T (zb T) s x b), .c) S := by
    have a0 : ∀ a b : D, atI [a, b] 0 = some a := fun _ _ => rfl
    have a1 : ∀ a b : D, atI [a, b] 1 = some b := fun _ _ => rfl
    have ec : cwD (extW T (zb T) s x b) = .tup [.int (x.1 + dF T (zb T) s b), .lst ((nI x.2).map D.int ++ [D.int b])] := by
      unfold cwD extW
      simp [nI]
    rw [ec]
    have l : ((nI x.2).map D.int).length + 1 ≤ 16777216 := by simp; omega
    unfold gE cwD
    generalize T.map (oddF (2 * s + b)) = LL at *
    generalize nx m s b = q at *
    generalize kvD L = K at *
    generalize (nI T).map D.int = TT at *
    generalize (nI x.2).map D.int = X2 at *
    generalize dF T (zb T) s b = dd at *
    simp [a0, a1, os, l, sizeLine_eq]
  refine (seq_set e2 rfl).trans ?_
  exact lg_rlx L (nx m s b) (extW T (zb T) s x b) _ S rfl rfl rfl hl _ rfl rfl
theorem lg_bits (m : Nat) (T : List Nat) (s j : Nat) (x : CW) (x3 x5 x6 : Slot) (S : Store) (hm : m ≤ 4) (hs : s < 2 ^ m) (hT : T.length ≤ 10) (hx : x.2.length = j) (hj : j ≤ 1000) : ∀ (bs : List Nat) (L : KV) (x8 x10 x11 x12 : Slot), (∀ b ∈ bs, b < 2) → WfV m (j + 1) L →
    ∃ y8 y10 y11 y12, ∀ x4, forL (gN 10) lgIn (nL bs) (gE m T s x3 x4 x5 x6 x x8 L x10 x11 x12) S =
      .nx (gE m T s x3 x4 x5 x6 x y8 (bitsV m T (zb T) s x bs L) y10 y11 y12) S
  | [], L, x8, x10, x11, x12, _, _ => ⟨x8, x10, x11, x12, fun _ => for_nil⟩
  | b :: bs, L, x8, x10, x11, x12, hbs, hL => by
    have hl := wf_len hm hL
    obtain ⟨z8, z11, z12, e⟩ := lg_in m T s b x L x3 x5 x6 x8 x11 x12 S hm hs (hbs b (.head _)) hT (by omega) (by omega)
    obtain ⟨y8, y10, y11, y12, ih⟩ := lg_bits m T s j x x3 x5 x6 S hm hs hT hx hj bs (rlx L (nx m s b) (extW T (zb T) s x b)) z8 (.ar .c (.int b)) z11 z12 (fun c hc => hbs c (.tail _ hc)) (wf_rlx hL (nx_lt m s b) (by unfold extW; rw [List.length_append, hx]; rfl))
    refine ⟨y8, y10, y11, y12, fun x4 => ?_⟩
    show forL (gN 10) lgIn (D.int (b : Int) :: nL bs) _ S = _
    exact (for_cons (gn_ap _ _ _) (e x4)).trans (ih x4)
noncomputable abbrev lgMid : SM := (sFor (iSeq (eTup (aCons (eC (.int 0)) (aCons (eC (.int 1)) aNil)))) (gN 10) lgIn)
theorem lg_mid (m : Nat) (T : List Nat) (j : Nat) (x3 x5 x6 : Slot) (S : Store) (hm : m ≤ 4) (hT : T.length ≤ 10) (hj : j ≤ 1000) : ∀ (R L : KV) (x2 x7 x8 x10 x11 x12 : Slot), (∀ p ∈ R, p.1 < 2 ^ m ∧ p.2.2.length = j) → WfV m (j + 1) L →
    ∃ y2 y7 y8 y10 y11 y12, ∀ x4, forL (gT 2 (gsC (gN 2) (gsC (gN 7) gsN))) lgMid (R.map fun p => D.tup [.int (p.1 : Nat), cwD p.2]) [.ar .c (.int m), .ar .c (.lst ((nI T).map D.int)), x2, x3, x4, x5, x6, x7, x8, .own (kvD L), x10, x11, x12] S =
      .nx [.ar .c (.int m), .ar .c (.lst ((nI T).map D.int)), y2, x3, x4, x5, x6, y7, y8, .own (kvD (stepV m T (zb T) [0, 1] R L)), y10, y11, y12] S
  | [], L, x2, x7, x8, x10, x11, x12, _, _ => ⟨x2, x7, x8, x10, x11, x12, fun _ => for_nil⟩
  | p :: R, L, x2, x7, x8, x10, x11, x12, hR, hL => by
    obtain ⟨h1, h2⟩ := hR p (.head _)
    obtain ⟨z8, z10, z11, z12, e⟩ := lg_bits m T p.1 j p.2 x3 x5 x6 S hm h1 hT h2 hj [0, 1] L x8 x10 x11 x12 (by decide) hL
    obtain ⟨y2, y7, y8, y10, y11, y12, ih⟩ := lg_mid m T j x3 x5 x6 S hm hT hj R (bitsV m T (zb T) p.1 p.2 [0, 1] L) (.ar .c (.int (p.1 : Nat))) (.ar .c (cwD p.2)) z8 z10 z11 z12 (fun q hq => hR q (.tail _ hq)) (wf_bits T (zb T) p.1 p.2 h2 _ L hL)
    refine ⟨y2, y7, y8, y10, y11, y12, fun x4 => ?_⟩
    rw [List.map_cons]
    refine (for_cons (r1 := gE m T p.1 x3 x4 x5 x6 p.2 x8 L x10 x11 x12) rfl ?_).trans (ih x4)
    show sFor _ (gN 10) lgIn _ S = _
    have q : iSeq (eTup (aCons (eC (.int 0)) (aCons (eC (.int 1)) aNil))) (gE m T p.1 x3 x4 x5 x6 p.2 x8 L x10 x11 x12) S = .ok (nL [0, 1]) S := by
      unfold gE
      generalize kvD L = K
      generalize cwD p.2 = C
      generalize (nI T).map D.int = TT
      simp [sizeLine_eq]
    unfold sFor
    rw [q]
    exact e x4
/-! the best so far -/
abbrev C3 := Int × Nat × List Nat
def c3D (c : C3) : D := .tup [.int c.1, .int c.2.1, .lst ((nI c.2.2).map D.int)]
def b3D : Option C3 → D
  | none => .non
  | some c => c3D c
def lt3 (a b : C3) : Bool := ltT a.1 b.1 a.2.1 b.2.1 (nI a.2.2) (nI b.2.2)
def nx3 (b : Option C3) (c : C3) : Option C3 := match b with
  | none => some c
  | some o => if lt3 c o = true then some c else some o
theorem ltt_v (a b : C3) (f f' : Fl) : gLtT (c3D a, f) (c3D b, f') = some (.bl (lt3 a b), .c) := by
  unfold gLtT c3D
  dsimp only
  rw [ints_D, ints_D]
  rfl
noncomputable abbrev bsIn : SM := (sSeq (sSet 8 (eTup (aCons (eBin gAdd (eBin gIx (eVar 7) (eC (.int 0))) (eFn 3 m__law_tail (aCons (eVar 0) (aCons (eVar 1) (aCons (eVar 2) aNil))))) (aCons (eCal gLen (aCons (eBin gIx (eVar 7) (eC (.int 1))) aNil)) (aCons (eBin gIx (eVar 7) (eC (.int 1))) aNil)))))
    (sIf (tOrM (tVal (eBin (gIsN false) (eVar 5) (eC .non))) (tVal (eBin gLtT (eVar 8) (eVar 5)))) (sSet 5 (eVar 8)) sNil))
def can3 (m : Nat) (T : List Nat) (p : Nat × CW) : C3 := (p.2.1 + (ws m T (zs m) p.1 : Nat), p.2.2.length, p.2.2)
theorem bs_in (m : Nat) (T : List Nat) (p : Nat × CW) (b : Option C3) (x3 x6 x8 x9 x10 x11 x12 : Slot) (S : Store) (hm : m ≤ 4) (hs : p.1 < 2 ^ m) (hT : T.length ≤ 10) (hl : p.2.2.length ≤ 1000) :
    ∃ y8, ∀ x4, bsIn [.ar .c (.int m), .ar .c (.lst ((nI T).map D.int)), .ar .c (.int (p.1 : Nat)), x3, x4, .ar .c (b3D b), x6, .ar .c (cwD p.2), x8, x9, x10, x11, x12] S =
      .nx [.ar .c (.int m), .ar .c (.lst ((nI T).map D.int)), .ar .c (.int (p.1 : Nat)), x3, x4, .ar .c (b3D (nx3 b (can3 m T p))), x6, .ar .c (cwD p.2), y8, x9, x10, x11, x12] S := by
  have tl := s_tail m p.1 T S hm hs hT
  refine ⟨.ar .c (c3D (can3 m T p)), fun x4 => ?_⟩
  have e2 : eTup (aCons (eBin gAdd (eBin gIx (eVar 7) (eC (.int 0))) (eFn 3 m__law_tail (aCons (eVar 0) (aCons (eVar 1) (aCons (eVar 2) aNil))))) (aCons (eCal gLen (aCons (eBin gIx (eVar 7) (eC (.int 1))) aNil)) (aCons (eBin gIx (eVar 7) (eC (.int 1))) aNil))) [.ar .c (.int m), .ar .c (.lst ((nI T).map D.int)), .ar .c (.int (p.1 : Nat)), x3, x4, .ar .c (b3D b), x6, .ar .c (cwD p.2), x8, x9, x10, x11, x12] S = .ok (c3D (can3 m T p), .c) S := by
    have a0 : ∀ a b : D, atI [a, b] 0 = some a := fun _ _ => rfl
    have a1 : ∀ a b : D, atI [a, b] 1 = some b := fun _ _ => rfl
    have l : ((nI p.2.2).map D.int).length = p.2.2.length := by simp
    unfold c3D can3 cwD
    dsimp only
    generalize (nI p.2.2).map D.int = W at *
    generalize p.2.2.length = len at *
    generalize b3D b = BD at *
    generalize ws m T (zs m) p.1 = tw at *
    generalize (nI T).map D.int = TT at *
    simp [a0, a1, tl, l, sizeLine_eq]
  refine (seq_set e2 rfl).trans ?_
  show sIf _ _ _ [.ar .c (.int m), .ar .c (.lst ((nI T).map D.int)), .ar .c (.int (p.1 : Nat)), x3, x4, .ar .c (b3D b), x6, .ar .c (cwD p.2), .ar .c (c3D (can3 m T p)), x9, x10, x11, x12] S = _
  generalize can3 m T p = c
  generalize cwD p.2 = C
  generalize (nI T).map D.int = TT
  cases b with
  | none =>
    unfold nx3 b3D
    dsimp only
    have ok : okst .c (c3D c) = true := rfl
    generalize c3D c = CD at *
    simp [ok]
  | some o =>
    have lt := ltt_v c o .c .c
    have ok : okst .c (c3D c) = true := rfl
    have nn : ∃ xs, c3D o = .tup xs := ⟨_, rfl⟩
    unfold nx3 b3D
    dsimp only
    cases q : lt3 c o with
    | true =>
      rw [q] at lt
      rw [if_pos rfl]
      obtain ⟨xs, ex⟩ := nn
      dsimp only
      rw [ex] at lt ⊢
      generalize c3D c = CD at *
      simp [lt, ok]
    | false =>
      rw [q] at lt
      rw [if_neg (by decide)]
      obtain ⟨xs, ex⟩ := nn
      dsimp only
      rw [ex] at lt ⊢
      generalize c3D c = CD at *
      simp [lt, ok]
def bs3 (m : Nat) (T : List Nat) (R : KV) (b : Option C3) : Option C3 := R.foldl (fun b p => nx3 b (can3 m T p)) b
theorem bs_mid (m : Nat) (T : List Nat) (x3 x6 x9 x10 x11 x12 : Slot) (S : Store) (hm : m ≤ 4) (hT : T.length ≤ 10) : ∀ (R : KV) (b : Option C3) (x2 x7 x8 : Slot), (∀ p ∈ R, p.1 < 2 ^ m ∧ p.2.2.length ≤ 1000) →
    ∃ y2 y7 y8, ∀ x4, forL (gT 2 (gsC (gN 2) (gsC (gN 7) gsN))) bsIn (R.map fun p => D.tup [.int (p.1 : Nat), cwD p.2]) [.ar .c (.int m), .ar .c (.lst ((nI T).map D.int)), x2, x3, x4, .ar .c (b3D b), x6, x7, x8, x9, x10, x11, x12] S =
      .nx [.ar .c (.int m), .ar .c (.lst ((nI T).map D.int)), y2, x3, x4, .ar .c (b3D (bs3 m T R b)), x6, y7, y8, x9, x10, x11, x12] S
  | [], b, x2, x7, x8, _ => ⟨x2, x7, x8, fun _ => for_nil⟩
  | p :: R, b, x2, x7, x8, hR => by
    obtain ⟨h1, h2⟩ := hR p (.head _)
    obtain ⟨z8, e⟩ := bs_in m T p b x3 x6 x8 x9 x10 x11 x12 S hm h1 hT h2
    obtain ⟨y2, y7, y8, ih⟩ := bs_mid m T x3 x6 x9 x10 x11 x12 S hm hT R (nx3 b (can3 m T p)) (.ar .c (.int (p.1 : Nat))) (.ar .c (cwD p.2)) z8 (fun q hq => hR q (.tail _ hq))
    refine ⟨y2, y7, y8, fun x4 => ?_⟩
    rw [List.map_cons]
    exact (for_cons (r1 := [.ar .c (.int m), .ar .c (.lst ((nI T).map D.int)), .ar .c (.int (p.1 : Nat)), x3, x4, .ar .c (b3D b), x6, .ar .c (cwD p.2), x8, x9, x10, x11, x12]) rfl (e x4)).trans (ih x4)
end Fin

set_option maxRecDepth 100000
set_option maxHeartbeats 4000000
namespace Fin
open Mv Mir Ev
open PySem (sizeLine sizeLine_eq)
open L2 (atI ixN)
/-! the order of costs, lengths, words -/
def tle (a b : C3) : Prop := a.1 < b.1 ∨ a.1 = b.1 ∧ ple ((a.2.1 : Int), a.2.2) ((b.2.1 : Int), b.2.2)
theorem tle_refl (a : C3) : tle a a := .inr ⟨rfl, ple_refl _⟩
theorem tle_trans {a b c : C3} (h : tle a b) (g : tle b c) : tle a c := by
  rcases h with h | ⟨h1, h2⟩ <;> rcases g with g | ⟨g1, g2⟩
  · exact .inl (by omega)
  · exact .inl (by omega)
  · exact .inl (by omega)
  · exact .inr ⟨by omega, ple_trans h2 g2⟩
theorem tle_anti {a b : C3} (h : tle a b) (g : tle b a) : a = b := by
  rcases h with h | ⟨h1, h2⟩ <;> rcases g with g | ⟨g1, g2⟩
  · omega
  · omega
  · omega
  · have e := ple_anti h2 g2
    injection e with e1 e2
    exact Prod.ext h1 (Prod.ext (Int.ofNat.inj e1) e2)
theorem lt3_no {c o : C3} (h : lt3 c o = false) : tle o c := by
  unfold lt3 ltT at h
  by_cases e : c.1 = o.1
  · rw [if_pos e] at h
    exact .inr ⟨e.symm, (ltL_ple ((o.2.1 : Int), o.2.2) ((c.2.1 : Int), c.2.2)).mp h⟩
  · rw [if_neg e, decide_eq_false_iff_not] at h
    exact .inl (by omega)
theorem lt3_yes {c o : C3} (h : lt3 c o = true) : tle c o := by
  unfold lt3 ltT at h
  by_cases e : c.1 = o.1
  · rw [if_pos e] at h
    exact .inr ⟨e, ple_of_lt (x := ((o.2.1 : Int), o.2.2)) (y := ((c.2.1 : Int), c.2.2)) h⟩
  · rw [if_neg e, decide_eq_true_eq] at h
    exact .inl h
theorem nx3_ok (b : Option C3) (c : C3) : ∃ o, nx3 b c = some o ∧ tle o c ∧ (∀ o', b = some o' → tle o o') ∧ (o = c ∨ b = some o) := by
  cases b with
  | none => exact ⟨c, rfl, tle_refl c, (fun _ h => by cases h), .inl rfl⟩
  | some o' =>
    unfold nx3
    cases q : lt3 c o' with
    | true => exact ⟨c, by simp [q], tle_refl c, (fun o2 h => by cases h; exact lt3_yes q), .inl rfl⟩
    | false => exact ⟨o', by simp [q], lt3_no q, (fun o2 h => by cases h; exact tle_refl _), .inr rfl⟩
theorem bs3_ok (m : Nat) (T : List Nat) : ∀ (R : KV) (b : Option C3), (∀ p ∈ R, ∃ o, bs3 m T R b = some o ∧ tle o (can3 m T p)) ∧ (∀ o', b = some o' → ∃ o, bs3 m T R b = some o ∧ tle o o') ∧ ∀ o, bs3 m T R b = some o → b = some o ∨ ∃ p ∈ R, o = can3 m T p
  | [], b => ⟨fun p h => (by cases h), fun o' h => ⟨o', h, tle_refl _⟩, fun o h => .inl h⟩
  | p :: R, b => by
    obtain ⟨o1, n1, n2, n3, n4⟩ := nx3_ok b (can3 m T p)
    obtain ⟨h1, h2, h3⟩ := bs3_ok m T R (nx3 b (can3 m T p))
    have e : bs3 m T (p :: R) b = bs3 m T R (nx3 b (can3 m T p)) := rfl
    rw [e]
    obtain ⟨o2, e2, t2⟩ := h2 o1 n1
    refine ⟨fun q hq => ?_, fun o' ho => ⟨o2, e2, tle_trans t2 (n3 o' ho)⟩, fun o ho => ?_⟩
    · rcases List.mem_cons.mp hq with rfl | hq
      · exact ⟨o2, e2, tle_trans t2 n2⟩
      · exact h1 q hq
    · rcases h3 o ho with h | ⟨q, hq, e⟩
      · rw [n1] at h
        cases h
        rcases n4 with rfl | h
        · exact .inr ⟨p, .head _, rfl⟩
        · exact .inl h
      · exact .inr ⟨q, .tail _ hq, e⟩
/-! words that begin with 1 -/
abbrev valW (m : Nat) (T : List Nat) (w : List Nat) : CW := ((ws m T (1 :: w) 0 : Nat), 1 :: w)
abbrev stW (m : Nat) (w : List Nat) : Nat := fnl m (1 :: w) 0
abbrev Bts (w : List Nat) : Prop := ∀ b ∈ w, b < 2
structure DpL (m : Nat) (T : List Nat) (j : Nat) (f : Nat → Option CW) : Prop where
  sub : ∀ g x, f g = some x → ∃ w, Bts w ∧ w.length = j ∧ stW m w = g ∧ valW m T w = x
  low : ∀ w, Bts w → w.length = j → ∃ x, f (stW m w) = some x ∧ ple x (valW m T w)
theorem val_snoc (m : Nat) (T : List Nat) (w : List Nat) (b : Nat) : valW m T (w ++ [b]) = extW T (zb T) (stW m w) (valW m T w) b := by
  unfold extW
  show (((ws m T ((1 :: w) ++ [b]) 0 : Nat) : Int), (1 :: w) ++ [b]) = _
  rw [ws_app, ws_cons]
  show _ = (((ws m T (1 :: w) 0 : Nat) : Int) + (dF T (zb T) (fnl m (1 :: w) 0) b : Nat), (1 :: w) ++ [b])
  congr 1
theorem dpL_step {m : Nat} {T : List Nat} {j : Nat} {R : KV} (nd : (R.map Prod.fst).Nodup) (h : DpL m T j (lookV R)) : DpL m T (j + 1) (lookV (stepV m T (zb T) [0, 1] R [])) := by
  have r := step_R (m := m) (T := T) (t := zb T) (bs := [0, 1]) R [] [] (rlx_nil (fun _ => rfl))
  rw [List.nil_append] at r
  have hC : ∀ g y, (g, y) ∈ R.flatMap (candB m T (zb T) [0, 1]) ↔ ∃ s x b, lookV R s = some x ∧ b < 2 ∧ g = nx m s b ∧ y = extW T (zb T) s x b := fun gg y => by
    rw [List.mem_flatMap]
    constructor
    · rintro ⟨p, hp, hy⟩
      obtain ⟨b, hb, e⟩ := List.mem_map.mp hy
      cases e
      exact ⟨p.1, p.2, b, look_mem R nd p hp, by simp at hb; omega, rfl, rfl⟩
    · rintro ⟨s, x, b, e, hb, rfl, rfl⟩
      exact ⟨(s, x), mem_look R s x e, List.mem_map.mpr ⟨b, by simp; omega, rfl⟩⟩
  have st : ∀ w b, stW m (w ++ [b]) = nx m (stW m w) b := fun w b => by
    show fnl m ((1 :: w) ++ [b]) 0 = _
    rw [fnl_app]
    rfl
  refine ⟨fun g x e => ?_, fun w a hw => ?_⟩
  · obtain ⟨s, x0, b, e1, e2, rfl, rfl⟩ := (hC _ _).mp (r.sub _ _ e)
    obtain ⟨w, a1, rfl, rfl, rfl⟩ := h.sub _ _ e1
    refine ⟨w ++ [b], app_lt a1 (by simpa using e2), by simp, st w b, val_snoc m T w b⟩
  · rcases List.eq_nil_or_concat w with rfl | ⟨u, b, rfl⟩
    · cases hw
    · rw [List.concat_eq_append] at a hw ⊢
      have lu : u.length = j := by simpa using hw
      obtain ⟨x0, e1, e2⟩ := h.low u (fun c hc => a c (List.mem_append_left _ hc)) lu
      obtain ⟨w0, b1, b2, b3, rfl⟩ := h.sub _ _ e1
      obtain ⟨x, e3, e4⟩ := r.low _ _ ((hC (nx m (stW m u) b) (extW T (zb T) (stW m u) (valW m T w0) b)).mpr ⟨_, _, b, e1, a b (by simp), rfl, rfl⟩)
      refine ⟨x, by rw [st]; exact e3, ple_trans e4 ?_⟩
      rw [val_snoc m T u b]
      rcases e2 with e2 | ⟨e2, e5⟩
      · refine .inl ?_
        show (valW m T w0).1 + _ < (valW m T u).1 + _
        omega
      · refine .inr ⟨?_, lle_snoc b (by simp; omega) e5⟩
        show (valW m T w0).1 + _ = (valW m T u).1 + _
        omega
abbrev valT (m : Nat) (T : List Nat) (w : List Nat) : C3 := ((ws m T (1 :: w ++ zs m) 0 : Nat), (1 :: w).length, 1 :: w)
structure BstL (m : Nat) (T : List Nat) (j : Nat) (b : Option C3) : Prop where
  sub : ∀ c, b = some c → ∃ w, Bts w ∧ w.length < j ∧ c = valT m T w
  low : ∀ w, Bts w → w.length < j → ∃ c, b = some c ∧ tle c (valT m T w)
theorem can_val (m : Nat) (T : List Nat) (w : List Nat) : can3 m T (stW m w, valW m T w) = valT m T w := by
  unfold can3
  show (((ws m T (1 :: w) 0 : Nat) : Int) + (ws m T (zs m) (fnl m (1 :: w) 0) : Nat), (1 :: w).length, 1 :: w) = (((ws m T (1 :: w ++ zs m) 0 : Nat) : Int), (1 :: w).length, 1 :: w)
  rw [ws_app]
  congr 1
theorem bst_step {m : Nat} {T : List Nat} {j : Nat} {R : KV} {b : Option C3} (nd : (R.map Prod.fst).Nodup) (h : DpL m T j (lookV R)) (g : BstL m T j b) : BstL m T (j + 1) (bs3 m T R b) := by
  obtain ⟨h1, h2, h3⟩ := bs3_ok m T R b
  refine ⟨fun c hc => ?_, fun w a hw => ?_⟩
  · rcases h3 c hc with e | ⟨p, hp, e⟩
    · obtain ⟨w, a, l, e2⟩ := g.sub c e
      exact ⟨w, a, by omega, e2⟩
    · obtain ⟨w, a, l, e1, e2⟩ := h.sub p.1 p.2 (look_mem R nd p hp)
      refine ⟨w, a, by omega, ?_⟩
      rw [e, ← can_val, e1, e2]
  · by_cases c : w.length < j
    · obtain ⟨o, e1, e2⟩ := g.low w a c
      obtain ⟨o2, e3, e4⟩ := h2 o e1
      exact ⟨o2, e3, tle_trans e4 e2⟩
    · obtain ⟨x, e1, e2⟩ := h.low w a (by omega)
      obtain ⟨w0, a0, l0, s0, rfl⟩ := h.sub _ _ e1
      obtain ⟨o, e3, e4⟩ := h1 _ (mem_look R _ _ e1)
      refine ⟨o, e3, tle_trans e4 ?_⟩
      rw [← s0, can_val]
      have t : ∀ v, (ws m T (1 :: v ++ zs m) 0 : Nat) = ws m T (1 :: v) 0 + ws m T (zs m) (stW m v) := fun v => ws_app ..
      rcases e2 with e2 | ⟨e2, e5⟩
      · refine .inl ?_
        show ((ws m T (1 :: w0 ++ zs m) 0 : Nat) : Int) < (ws m T (1 :: w ++ zs m) 0 : Nat)
        rw [t, t, s0]
        have : ((ws m T (1 :: w0) 0 : Nat) : Int) < (ws m T (1 :: w) 0 : Nat) := e2
        omega
      · refine .inr ⟨?_, .inr ⟨?_, e5⟩⟩
        · show ((ws m T (1 :: w0 ++ zs m) 0 : Nat) : Int) = (ws m T (1 :: w ++ zs m) 0 : Nat)
          rw [t, t, s0]
          have : ((ws m T (1 :: w0) 0 : Nat) : Int) = (ws m T (1 :: w) 0 : Nat) := e2
          omega
        · show (((1 :: w0).length : Nat) : Int) = ((1 :: w).length : Nat)
          rw [List.length_cons, List.length_cons]
          omega
/-! what lightest tells is the least of all -/
theorem lle_cancel : ∀ {a b : List Nat} (c : List Nat), a.length = b.length → lle (a ++ c) (b ++ c) → lle a b
  | [], [], c, _, _ => trivial
  | [], _ :: _, c, h, _ => by cases h
  | _ :: _, [], c, h, _ => by cases h
  | a :: as, b :: bs, c, h, g => by
    rcases g with g | ⟨rfl, g⟩
    · exact .inl g
    · exact .inr ⟨rfl, lle_cancel c (by simpa using h) g⟩
theorem opt_w {m : Nat} (T : List Nat) (hm : 1 ≤ m) (w : List Nat) (hw : Bts w) : farW m T w.length ≤ (ws m T (1 :: w ++ zs m) 0 : Nat) ∧ (farW m T w.length = (ws m T (1 :: w ++ zs m) 0 : Nat) → lle (bitW m T w.length) w) := by
  have one : 1 < 2 ^ m := by
    have : 2 ^ 1 ≤ 2 ^ m := Nat.pow_le_pow_right (by decide) hm
    omega
  have o := (opt m T (List.replicate (w.length + m) (zb T)) w.length 0 1 (by rw [List.length_replicate]; omega) one).2 (w ++ zs m) ((alw_app ..).mpr ⟨lt_alw m _ _ 0 (by rw [List.length_replicate]; omega) hw, zs_alw ..⟩) (by rw [List.length_append, List.length_replicate])
  rw [List.drop_zero, pc_ws m T _ _ _ (by rw [List.length_append, List.length_replicate]; omega)] at o
  have hb : rdW m T (List.replicate (w.length + m) (zb T)) (wW m T (List.replicate (w.length + m) (zb T))) w.length 0 1 = bitW m T w.length := rfl
  rw [hb] at o
  have bl : (bitW m T w.length).length = w.length := by rw [← hb, rdW_len]
  unfold farW
  rw [List.cons_append, ws, nx01 hm]
  rcases o with o | ⟨o, l⟩
  · have o : uF m T (List.replicate (w.length + m) (zb T)) 0 1 < (ws m T (w ++ zs m) 1 : Nat) := o
    exact ⟨by omega, fun e => by omega⟩
  · have o : uF m T (List.replicate (w.length + m) (zb T)) 0 1 = (ws m T (w ++ zs m) 1 : Nat) := o
    exact ⟨by omega, fun _ => lle_cancel (zs m) bl l⟩
theorem lit_least {m k : Nat} (T : List Nat) (hm : 1 ≤ m) (hk : k < 2 ^ m) (h : ∀ j < 2 ^ m, farW m T k ≤ farW m T j) (h2 : ∀ j < k, farW m T k < farW m T j) (w : List Nat) (hw : Bts w) : tle (valT m T (bitW m T k)) (valT m T w) := by
  have fo := far_own T hm k
  have fl := far_least T hm (farW m T k) h w hw
  have bl : (bitW m T k).length = k := rdW_len ..
  by_cases c : farW m T k < (ws m T (1 :: w ++ zs m) 0 : Nat)
  · exact .inl (by
      show ((ws m T (1 :: bitW m T k ++ zs m) 0 : Nat) : Int) < (ws m T (1 :: w ++ zs m) 0 : Nat)
      omega)
  · have ce : farW m T k = (ws m T (1 :: w ++ zs m) 0 : Nat) := by omega
    obtain ⟨q1, q2⟩ := opt_w T hm w hw
    have kl : k ≤ w.length := by
      by_cases z : k ≤ w.length
      · exact z
      · have := h2 w.length (by omega)
        omega
    refine .inr ⟨?_, ?_⟩
    · show ((ws m T (1 :: bitW m T k ++ zs m) 0 : Nat) : Int) = (ws m T (1 :: w ++ zs m) 0 : Nat)
      omega
    · by_cases e : k = w.length
      · refine .inr ⟨?_, .inr ⟨rfl, ?_⟩⟩
        · show (((1 :: bitW m T k).length : Nat) : Int) = ((1 :: w).length : Nat)
          rw [List.length_cons, List.length_cons, bl, e]
        · rw [e]
          refine q2 ?_
          rw [← e]
          exact ce
      · refine .inl ?_
        show (((1 :: bitW m T k).length : Nat) : Int) < ((1 :: w).length : Nat)
        rw [List.length_cons, List.length_cons, bl]
        omega
theorem bst_is {m k j : Nat} {T : List Nat} {b : Option C3} (hm : 1 ≤ m) (hk : k < 2 ^ m) (hj : 2 ^ m ≤ j) (h : ∀ j < 2 ^ m, farW m T k ≤ farW m T j) (h2 : ∀ j < k, farW m T k < farW m T j) (g : BstL m T j b) : b = some (valT m T (bitW m T k)) := by
  have bl : (bitW m T k).length = k := rdW_len ..
  obtain ⟨c, e, t⟩ := g.low (bitW m T k) (fun b hb => rdW_lt _ _ _ _ _ _ _ b hb) (by omega)
  obtain ⟨w, a, _, rfl⟩ := g.sub c e
  rw [e, tle_anti t (lit_least T hm hk h h2 w a)]
end Fin

set_option maxRecDepth 100000
set_option maxHeartbeats 4000000
namespace Fin
open Mv Mir Ev
open PySem (sizeLine sizeLine_eq)
open L2 (atI ixN)
noncomputable abbrev lgOut : SM := (sSeq (sItmK 4 (gT 2 (gsC (gN 2) (gsC (gN 7) gsN))) bsIn)
    (sSeq (sOwn 9 eDict0)
    (sSeq (sItmK 4 (gT 2 (gsC (gN 2) (gsC (gN 7) gsN))) lgMid)
    (sMove 4 9))))
abbrev tE (m : Nat) (T : List Nat) (R : KV) (b : Option C3) (x2 x3 x6 x7 x8 x9 x10 x11 x12 : Slot) : Env :=
  [.ar .c (.int m), .ar .c (.lst ((nI T).map D.int)), x2, x3, .own (kvD R), .ar .c (b3D b), x6, x7, x8, x9, x10, x11, x12]
theorem lg_out (m : Nat) (T : List Nat) (R : KV) (b : Option C3) (j : Nat) (x2 x3 x6 x7 x8 x9 x10 x11 x12 : Slot) (S : Store) (hm : m ≤ 4) (hT : T.length ≤ 10) (hj : j ≤ 900) (hR : WfV m j R) :
    ∃ y2 y7 y8 y9 y10 y11 y12, lgOut (tE m T R b x2 x3 x6 x7 x8 x9 x10 x11 x12) S = .nx (tE m T (stepV m T (zb T) [0, 1] R []) (bs3 m T R b) y2 x3 x6 y7 y8 y9 y10 y11 y12) S := by
  obtain ⟨z2, z7, z8, e1⟩ := bs_mid m T x3 x6 x9 x10 x11 x12 S hm hT R b x2 x7 x8 (fun p hp => by
    obtain ⟨h1, h2⟩ := hR.ok p hp
    exact ⟨h1, by omega⟩)
  obtain ⟨y2, y7, y8, y10, y11, y12, e2⟩ := lg_mid m T j x3 (.ar .c (b3D (bs3 m T R b))) x6 S hm hT (by omega) R [] z2 z7 z8 x10 x11 x12 hR.ok (wf_nil ..)
  refine ⟨y2, y7, y8, .no, y10, y11, y12, ?_⟩
  have i1 : sItmK 4 (gT 2 (gsC (gN 2) (gsC (gN 7) gsN))) bsIn (tE m T R b x2 x3 x6 x7 x8 x9 x10 x11 x12) S = .nx (tE m T R (bs3 m T R b) z2 x3 x6 z7 z8 x9 x10 x11 x12) S := by
    show itmK 4 _ bsIn (keysV R) (valsV R) _ S = _
    refine (itmK_ap (r' := tE m T R (bs3 m T R b) z2 x3 x6 z7 z8 x9 x10 x11 x12) (S' := S) (show 4 < 13 by decide) fun a => ?_).trans rfl
    rw [items_V]
    exact e1 _
  refine (seq_nx i1).trans ?_
  refine (seq_own (d := kvD []) rfl).trans ?_
  have i2 : sItmK 4 (gT 2 (gsC (gN 2) (gsC (gN 7) gsN))) lgMid (tE m T R (bs3 m T R b) z2 x3 x6 z7 z8 (.own (kvD [])) x10 x11 x12) S = .nx (tE m T R (bs3 m T R b) y2 x3 x6 y7 y8 (.own (kvD (stepV m T (zb T) [0, 1] R []))) y10 y11 y12) S := by
    show itmK 4 _ lgMid (keysV R) (valsV R) _ S = _
    refine (itmK_ap (r' := tE m T R (bs3 m T R b) y2 x3 x6 y7 y8 (.own (kvD (stepV m T (zb T) [0, 1] R []))) y10 y11 y12) (S' := S) (show 4 < 13 by decide) fun a => ?_).trans rfl
    rw [items_V]
    exact e2 _
  refine (seq_nx i2).trans ?_
  unfold sMove
  show (if (4 : Nat) ≠ 9 ∧ 4 < 13 then SR.nx _ S else SR.no) = _
  rw [if_pos ⟨by decide, by decide⟩]
  rfl
theorem s_llight (m k : Nat) (T : List Nat) (S : Store) (hm : 1 ≤ m ∧ m ≤ 4) (hT : T.length ≤ 10) (hk : k < 2 ^ m) (h : ∀ j < 2 ^ m, farW m T k ≤ farW m T j) (h2 : ∀ j < k, farW m T k < farW m T j) :
    m__law_lightest [(.c, .int m), (.c, .lst ((nI T).map D.int))] S = .ok (litD m T k, .c) S := by
  have one : nx m 0 1 = 1 := nx01 hm.1
  have p16 := pow_le m hm.2
  have lt1 : 1 < 2 ^ m := by rw [← one]; exact nx_lt m 0 1
  have stp := s_lstep m 0 1 T .c .c .c .c S hm.2 (by omega) (by decide) hT (by decide) rfl
  have os := odd_sum T 0 1
  have v0 : valW m T [] = (((dF T (zb T) 0 1 : Nat) : Int), [1]) := by
    show (((ws m T [1] 0 : Nat) : Int), [1]) = _
    rw [ws_cons]
    rfl
  have s0 : stW m [] = 1 := one
  have dp0 : DpL m T 0 (lookV [(1, valW m T [])]) := by
    refine ⟨fun g x e => ?_, fun w a hw => ?_⟩
    · have e : (if 1 = g then some (valW m T []) else none) = some x := e
      split at e
      · rename_i c
        cases e
        exact ⟨[], fun b hb => (by cases hb), rfl, by rw [s0]; exact c, rfl⟩
      · cases e
    · rw [List.length_eq_zero_iff.mp hw, s0]
      exact ⟨_, rfl, ple_refl _⟩
  have bs0 : BstL m T 0 none := ⟨fun c e => (by cases e), fun w a hw => (by omega)⟩
  have wf0 : WfV m (0 + 1) [(1, valW m T [])] := ⟨by simp, fun p hp => by
    cases List.mem_singleton.mp hp
    exact ⟨lt1, rfl⟩⟩
  obtain ⟨r2, S2, h1, hSS, R, b, x2, x6, x7, x8, x9, x10, x11, x12, q1, q2, q3, rfl⟩ := for_inv (P := fun j r S' => S = S' ∧ ∃ (R : KV) (b : Option C3) (x2 x6 x7 x8 x9 x10 x11 x12 : Slot), WfV m (j + 1) R ∧ DpL m T j (lookV R) ∧ BstL m T j b ∧ r = tE m T R b x2 (.ar .c (.lst ((T.map (oddF (2 * 0 + 1))).map D.int))) x6 x7 x8 x9 x10 x11 x12)
    (g := gN 6) (p := lgOut) (rangeD 0 1 30) 0 (tE m T [(1, valW m T [])] none (.ar .c (.int 1)) (.ar .c (.lst ((T.map (oddF (2 * 0 + 1))).map D.int))) .no .no .no .no .no .no .no) S ⟨rfl, [(1, valW m T [])], none, .ar .c (.int 1), .no, .no, .no, .no, .no, .no, .no, wf0, dp0, bs0, rfl⟩ (fun j d r S' hd hP => by
      obtain ⟨hs, R, b, x2, x6, x7, x8, x9, x10, x11, x12, q1, q2, q3, rfl⟩ := hP
      subst hs
      rw [Nat.zero_add j] at q1 q2 q3 ⊢
      have hj : j < 30 := by
        have := (List.getElem?_eq_some_iff.mp hd).1
        rw [rangeD_length] at this
        exact this
      obtain ⟨y2, y7, y8, y9, y10, y11, y12, q⟩ := lg_out m T R b (j + 1) x2 (.ar .c (.lst ((T.map (oddF (2 * 0 + 1))).map D.int))) (.ar .c d) x7 x8 x9 x10 x11 x12 S hm.2 hT (by omega) q1
      exact ⟨_, gn_ap _ _ _, _, _, q, rfl, _, _, y2, .ar .c d, y7, y8, y9, y10, y11, y12, wf_step T (zb T) [0, 1] R [] (fun p hp => (q1.ok p hp).2) (wf_nil ..), dpL_step q1.nd q2, bst_step q1.nd q2 q3, rfl⟩)
  subst hSS
  rw [rangeD_length, Nat.zero_add 30] at q3
  have hb := bst_is hm.1 hk (by omega) h h2 q3
  rw [hb] at h1
  have fo := far_own T hm.1 k
  have lit : litD m T k = .tup [.int (farW m T k), .lst (nL (1 :: bitW m T k))] := rfl
  rw [lit, fo]
  have bb : b3D (some (valT m T (bitW m T k))) = .tup [.int (ws m T (1 :: bitW m T k ++ zs m) 0 : Nat), .int ((1 :: bitW m T k).length : Nat), .lst (nL (1 :: bitW m T k))] := by
    show D.tup [_, _, .lst ((nI (1 :: bitW m T k)).map D.int)] = _
    have nn : (nI (1 :: bitW m T k)).map D.int = nL (1 :: bitW m T k) := by simp [nI]
    rw [nn]
  unfold tE at h1
  rw [bb] at h1
  have kv1 : kvD [(1, valW m T [])] = .dic [.inl 1] [.tup [.int (dF T (zb T) 0 1 : Nat), .lst [.int 1]]] := by
    rw [v0]
    rfl
  rw [kv1] at h1
  have i30 : gRng1 [(.c, .int 30)] = some (rangeD 0 1 30) := rfl
  have b0 : b3D none = D.non := rfl
  rw [b0] at h1
  rw [one] at stp
  have z0 : ((0 : Nat) : Int) = 0 := rfl
  have z1 : ((1 : Nat) : Int) = 1 := rfl
  rw [z0, z1] at stp
  have a0 : ∀ a b c : D, atI [a, b, c] 0 = some a := fun _ _ _ => rfl
  have a2 : ∀ a b c : D, atI [a, b, c] 2 = some c := fun _ _ _ => rfl
  generalize T.map (oddF (2 * 0 + 1)) = LL at *
  generalize nL (1 :: bitW m T k) = NW at *
  generalize ((1 :: bitW m T k).length : Int) = nl at *
  generalize ((ws m T (1 :: bitW m T k ++ zs m) 0 : Nat) : Int) = wv at *
  generalize kvD R = KR at *
  generalize ((dF T (zb T) 0 1 : Nat) : Int) = dd at *
  generalize (nI T).map D.int = TT at *
  have st1 : sAsg (gT 2 (gsC (gN 2) (gsC (gN 3) gsN))) (eFn 4 m__law_step (aCons (eVar 0) (aCons (eVar 1) (aCons (eC (.int 0)) (aCons (eC (.int 1)) aNil))))) [.ar .c (.int m), .ar .c (.lst TT), .no, .no, .no, .no, .no, .no, .no, .no, .no, .no, .no] S =
      .nx [.ar .c (.int m), .ar .c (.lst TT), .ar .c (.int 1), .ar .c (.lst (LL.map D.int)), .no, .no, .no, .no, .no, .no, .no, .no, .no] S := by
    simp [stp]
  have st2 : eDisp (dpCons (eVar 2) (eTup (aCons (eCal gSum (aCons (eVar 3) aNil)) (aCons (eLst (aCons (eC (.int 1)) aNil)) aNil))) dpNil) [.ar .c (.int m), .ar .c (.lst TT), .ar .c (.int 1), .ar .c (.lst (LL.map D.int)), .no, .no, .no, .no, .no, .no, .no, .no, .no] S = .ok (.dic [.inl 1] [.tup [.int dd, .lst [.int 1]]], .n) S := by
    simp [os, sizeLine_eq]
    exact (kds_ap _ _ _ (by simp)).trans rfl
  show kFn (b__law_lightest [.ar .c (.int m), .ar .c (.lst TT), .no, .no, .no, .no, .no, .no, .no, .no, .no, .no, .no] S) = _
  have lp : sFor (iArgs gRng1 (aCons (eC (.int 30)) aNil)) (gN 6) lgOut [.ar .c (.int m), .ar .c (.lst TT), .ar .c (.int 1), .ar .c (.lst (LL.map D.int)), .own (.dic [.inl 1] [.tup [.int dd, .lst [.int 1]]]), .ar .c .non, .no, .no, .no, .no, .no, .no, .no] S = .nx [.ar .c (.int m), .ar .c (.lst TT), x2, .ar .c (.lst (LL.map D.int)), .own KR, .ar .c (.tup [.int wv, .int nl, .lst NW]), x6, x7, x8, x9, x10, x11, x12] S := by
    have ei : iArgs gRng1 (aCons (eC (.int 30)) aNil) [.ar .c (.int m), .ar .c (.lst TT), .ar .c (.int 1), .ar .c (.lst (LL.map D.int)), .own (.dic [.inl 1] [.tup [.int dd, .lst [.int 1]]]), .ar .c .non, .no, .no, .no, .no, .no, .no, .no] S = .ok (rangeD 0 1 30) S := rfl
    unfold sFor
    rw [ei]
    exact h1
  refine (congrArg kFn ((seq_nx st1).trans ((seq_own st2).trans ((seq_set (d := .non) rfl rfl).trans (seq_nx lp))))).trans ?_
  simp [a0, a2, sizeLine_eq]
end Fin

set_option maxRecDepth 100000
set_option maxHeartbeats 4000000
namespace Fin
open Mv Mir Ev
open PySem (sizeLine sizeLine_eq)
open L2 (atI ixN)
theorem s_is (f f' : Fl) (l : List Nat) (S : Store) (hl : l.length ≤ 16777216) (hk : okI (inf f) = true) : m__law_is [(f, .lst (nL l)), (f', .lst (nL l))] S = .ok (.bl true, .c) S := by
  have c : compL (gN 2) tYesM (eFn 1 m__law_whole (aCons (eVar 2) aNil)) [.ar f (.lst (nL l)), .ar f' (.lst (nL l)), .no] (nL l) S = .ok ((l.map fun _ => true).map D.bl) S := by
    have := comp_map [.ar f (.lst (nL l)), .ar f' (.lst (nL l)), .no] S (gN 2) tYesM (eFn 1 m__law_whole (aCons (eVar 2) aNil)) (fun _ => D.bl true) (nL l) fun d hd => ⟨_, gn_ap _ _ _, rfl, .c, by
      obtain ⟨x, _, rfl⟩ := List.mem_map.mp hd
      simp [s_law_whole], Eq.trans rfl rfl⟩
    rw [this, List.map_map, List.map_map]
    rfl
  have hall : (l.map fun _ => true).all id = true := by simp
  have nn : nL l = (nI l).map D.int := by simp [nI]
  have ee : eqO (.lst (nL l)) (.lst (nL l)) = some true := by
    rw [nn, eqO_ll]
    simp
  have c2 := kcp_ap [.ar f (.lst (nL l)), .ar f' (.lst (nL l)), .no] S [2] (gN 2) tYesM _ (nL l) _ S (by simpa using hl) c
  generalize (l.map fun _ => true) = B at *
  generalize nL l = LL at *
  simp [m__law_is, b__law_is, isiOne, freeE, hk, c2, hall, ee]
theorem oks_mach {S : Store} {m : Nat} {T : List Nat} (h : okS S = true) : okS (S ++ [(0, mach m T)]) = true := by
  have g : ((nI T).map D.int).all gnd1 = true := List.all_eq_true.mpr fun x hx => by
    obtain ⟨i, _, rfl⟩ := List.mem_map.mp hx
    rfl
  have e : (mach m T).all okF = true := by
    show (true && (((nI T).map D.int).all gnd1 && (true && true))) = true
    rw [g]
    rfl
  unfold okS at h ⊢
  rw [List.all_append, h]
  show (true && ((mach m T).all okF && true)) = true
  rw [e]
  rfl
theorem nL_facts (l : List Nat) : (nL l).all gnd1 = true ∧ noInss (nL l) = true := by
  refine ⟨List.all_eq_true.mpr fun x hx => ?_, ?_⟩
  · obtain ⟨i, _, rfl⟩ := List.mem_map.mp hx
    rfl
  · induction l with
    | nil => rfl
    | cons x l ih =>
      show (true && noInss (nL l)) = true
      rw [ih]
      rfl
theorem deep_nx {i : Nat} {me : Env → Store → Rs D} {b : SM} {r r' : Env} {S S' : Store} {d : D} (h : me r S = .ok d S) (hi : i < r.length) (hb : b (r.set i (deepS d)) S = .nx r' S') : sDeep i me b r S = .nx (r'.set i .no) S' := by
  rw [deep_ap, h]
  show kDeep i b r d S = _
  rw [kdeep_ap (h := hi), hb]
  rfl
noncomputable abbrev dullB : SM := (sSeq (sIf (tOrM (tNotM (tVal (eFnP 3 m__law_is_ring (aCons (eVar 2) (aCons (eVar 3) (aCons (eVarD 5) aNil)))))) (tVal (eBin (gIsN true) (eVarD 6) (eC .non)))) (sRet (eC (.bl false))) sNil)
    (sSeq (sSet 7 (eCal gListG (aCons (eVarD 5) aNil)))
    (sSeq (sAp0 5 (eC (.int 99)))
    (sIf (tVal (eBin (gEq true) (eMe 1 tab_ring (eVar 4) aNil) (eVar 7))) (sRet (eC (.bl false))) sNil))))
noncomputable abbrev elseB : SM := (sIf (tVal (eBin (gIsN true) (eVarD 5) (eC .non))) (sRet (eC (.bl false))) (sSeq (sSet 8 (eFn 2 m__law_lightest (aCons (eVar 2) (aCons (eVar 3) aNil))))
    (sSeq (sIf (tOrM (tNotM (tVal (eCal (gIsi "tuple" (isiOne "tuple")) (aCons (eVarD 6) (aCons (eC (.cst (.ty "tuple"))) aNil))))) (tOrM (tVal (eBin (gEq true) (eVarD 6) (eVar 8))) (tNotM (tVal (eFn 1 m__law_whole (aCons (eIxD 6 (eC (.int 0))) aNil)))))) (sRet (eC (.bl false))) sNil)
    (sSeq (sIf (tNotM (tVal (eFn 2 m__law_is (aCons (eIxD 6 (eC (.int 1))) (aCons (eBin gIx (eVar 8) (eC (.int 1))) aNil))))) (sRet (eC (.bl false))) sNil)
    (sSeq (sApD 6 (eC (.int 1)) (eC (.int 1)))
    (sIf (tVal (eBin (gEq true) (eMe 1 tab_lightest (eVar 4) aNil) (eVar 8))) (sRet (eC (.bl false))) sNil))))))
noncomputable abbrev ifB : SM := (sIf (tVal (eFn 2 m__law_is_dull (aCons (eVar 2) (aCons (eVar 3) aNil)))) dullB elseB)
noncomputable abbrev turB : SM := (sSeq (sAsg (gT 2 (gsC (gN 2) (gsC (gN 3) gsN))) (eFn 2 m__law_own (aCons (eVar 0) (aCons (eBin gMul (eC (.int 20)) (eVar 1)) aNil))))
    (sSeq (sSet 4 (eNew 0 3 m_Machine___init__ (aCons (eVar 2) (aCons (eVar 3) aNil))))
    (sDeep 5 (eNewM 1 tab_ring (eVar 4) aNil)
    (sDeep 6 (eNewM 1 tab_lightest (eVar 4) aNil)
    ifB))))
theorem rest_ok (x0 x1 x5 x6 x7 x8 : Slot) (m n : Nat) (T : List Nat) (S : Store) (hS : S[n]? = some (0, mach m T)) (hok : okS S = true) (hm : 1 ≤ m ∧ m ≤ 4) (hT : 2 ≤ T.length ∧ T.length ≤ 4) :
    ∃ y7 y8, (sDeep 5 (eNewM 1 tab_ring (eVar 4) aNil) (sDeep 6 (eNewM 1 tab_lightest (eVar 4) aNil) ifB)) [x0, x1, .ar .c (.int m), .ar .c (.lst ((nI T).map D.int)), .ar .c (.ins n), x5, x6, x7, x8] S = .nx [x0, x1, .ar .c (.int m), .ar .c (.lst ((nI T).map D.int)), .ar .c (.ins n), .no, .no, y7, y8] S := by
  have p16 := pow_le m hm.2
  have dl := s_is_dull m T S hm.2 (by omega)
  rcases s_lightest n m T S hS hm hT with ⟨p, hp, rg, lg⟩ | ⟨nw, rg, k, hk, h1, h2, lg⟩
  · have ir := s_is_ring m T p [] hm (by omega) hp
    obtain ⟨fi, tail, e1, e2, e3, e4⟩ := hp.ex
    have pl : p.length ≤ 16 := Nat.le_trans (nd_len e2 e3) p16
    have ne : lfF m T (2 ^ m) ≠ [] := fun z => by
      have := lf_ring hp (2 ^ m) fi (by rw [e1]; exact .head _)
      rw [z] at this
      cases this
    rw [decide_eq_false ne] at dl
    obtain ⟨g1, n1⟩ := nL_facts p
    have ee : eqO (.lst (nL p)) (.lst (nL p)) = some true := by
      have nn : nL p = (nI p).map D.int := by simp [nI]
      rw [nn, eqO_ll]
      simp
    have okr : okR (.lst (nL p)) = true := by
      refine List.all_eq_true.mpr fun x hx => ?_
      obtain ⟨i, _, rfl⟩ := List.mem_map.mp hx
      rfl
    have okn : okR .non = true := rfl
    have nq : noIns (.lst (nL p)) = true := n1
    have nT : noIns (.lst ((nI T).map D.int)) = true := noInss_i (nI T)
    have l99 : (nL p).length < 16777216 := by rw [List.length_map]; omega
    refine ⟨.ar .c (.lst (nL p)), x8, ?_⟩
    generalize nL p = P at *
    generalize mach m T = M at *
    generalize (nI T).map D.int = TT at *
    refine (deep_nx (d := .lst P) (r' := [x0, x1, .ar .c (.int m), .ar .c (.lst TT), .ar .c (.ins n), .no, .no, .ar .c (.lst P), x8]) ?_ (show 5 < 9 by decide) ?_).trans rfl
    · simp [hS, tab_ring, hok, rg, okr]
    show sDeep 6 (eNewM 1 tab_lightest (eVar 4) aNil) ifB [x0, x1, .ar .c (.int m), .ar .c (.lst TT), .ar .c (.ins n), .deep 0 (.lst P), x6, x7, x8] S = _
    have el : eNewM 1 tab_lightest (eVar 4) aNil [x0, x1, .ar .c (.int m), .ar .c (.lst TT), .ar .c (.ins n), .deep 0 (.lst P), x6, x7, x8] S = .ok .non S := by
      simp [hS, tab_lightest, hok, lg, okn]
    refine (deep_nx el (r' := [x0, x1, .ar .c (.int m), .ar .c (.lst TT), .ar .c (.ins n), .no, .ar .c .non, .ar .c (.lst P), x8]) (show 6 < 9 by decide) ?_).trans rfl
    show ifB [x0, x1, .ar .c (.int m), .ar .c (.lst TT), .ar .c (.ins n), .deep 0 (.lst P), .ar .c .non, x7, x8] S = _
    have t : tVal (eFn 2 m__law_is_dull (aCons (eVar 2) (aCons (eVar 3) aNil))) [x0, x1, .ar .c (.int m), .ar .c (.lst TT), .ar .c (.ins n), .deep 0 (.lst P), .ar .c .non, x7, x8] S = .ok true S := by
      simp [dl]
    refine (if_t t).trans ?_
    rw [if_pos rfl]
    have ni : ∀ i, noIns (.int i) = true := fun _ => rfl
    have lg2 := listG_ap P .t (gnds1_gnd g1)
    simp [hS, tab_ring, rg, ir, nq, nT, ni, ee, l99, lg2]
  · rw [lf_none nw] at dl
    have ll := s_llight m k T S hm (by omega) hk h1 h2
    have bl : (bitW m T k).length = k := rdW_len ..
    have wl : (1 :: bitW m T k).length ≤ 17 := by rw [List.length_cons, bl]; omega
    have lit : litD m T k = .tup [.int (farW m T k), .lst (nL (1 :: bitW m T k))] := rfl
    rw [lit] at ll lg
    have si := s_is .o .c (1 :: bitW m T k) S (by omega) rfl
    obtain ⟨g1, _⟩ := nL_facts (1 :: bitW m T k)
    have okr : okR (.tup [.int (farW m T k), .lst (nL (1 :: bitW m T k))]) = true := by
      show (true && ((nL (1 :: bitW m T k)).all gnd1 && true)) = true
      rw [g1]
      rfl
    have okn : okR .non = true := rfl
    have et : eqO (.tup [.int (farW m T k), .lst (nL (1 :: bitW m T k))]) (.tup [.int (farW m T k), .lst (nL (1 :: bitW m T k))]) = some true := eqO_self (n := 2) (plD_tup fun d hd => by
      simp only [List.mem_cons, List.not_mem_nil, or_false] at hd
      rcases hd with rfl | rfl
      · simp [plD]
      · have nn : nL (1 :: bitW m T k) = (nI (1 :: bitW m T k)).map D.int := by simp [nI]
        rw [nn]
        exact plD_ints 0 _) (by decide)
    have l99 : (nL (1 :: bitW m T k)).length < 16777216 := by rw [List.length_map]; omega
    have lw := s_law_whole (farW m T k) .c S
    have a0 : ∀ a b : D, atI [a, b] 0 = some a := fun _ _ => rfl
    have a1 : ∀ a b : D, atI [a, b] 1 = some b := fun _ _ => rfl
    refine ⟨x7, .ar .c (.tup [.int (farW m T k), .lst (nL (1 :: bitW m T k))]), ?_⟩
    clear lit
    generalize nL (1 :: bitW m T k) = P at *
    generalize farW m T k = fw at *
    generalize mach m T = M at *
    generalize (nI T).map D.int = TT at *
    refine (deep_nx (d := .non) (r' := [x0, x1, .ar .c (.int m), .ar .c (.lst TT), .ar .c (.ins n), .ar .c .non, .no, x7, .ar .c (.tup [.int fw, .lst P])]) ?_ (show 5 < 9 by decide) ?_).trans rfl
    · simp [hS, tab_ring, hok, rg, okn]
    show sDeep 6 (eNewM 1 tab_lightest (eVar 4) aNil) ifB [x0, x1, .ar .c (.int m), .ar .c (.lst TT), .ar .c (.ins n), .ar .c .non, x6, x7, x8] S = _
    have el : eNewM 1 tab_lightest (eVar 4) aNil [x0, x1, .ar .c (.int m), .ar .c (.lst TT), .ar .c (.ins n), .ar .c .non, x6, x7, x8] S = .ok (.tup [.int fw, .lst P]) S := by
      simp [hS, tab_lightest, hok, lg, okr]
    refine (deep_nx el (r' := [x0, x1, .ar .c (.int m), .ar .c (.lst TT), .ar .c (.ins n), .ar .c .non, .deep 1 (.tup [.int fw, .lst P]), x7, .ar .c (.tup [.int fw, .lst P])]) (show 6 < 9 by decide) ?_).trans rfl
    show ifB [x0, x1, .ar .c (.int m), .ar .c (.lst TT), .ar .c (.ins n), .ar .c .non, .deep 0 (.tup [.int fw, .lst P]), x7, x8] S = _
    have t : tVal (eFn 2 m__law_is_dull (aCons (eVar 2) (aCons (eVar 3) aNil))) [x0, x1, .ar .c (.int m), .ar .c (.lst TT), .ar .c (.ins n), .ar .c .non, .deep 0 (.tup [.int fw, .lst P]), x7, x8] S = .ok false S := by
      simp [dl]
    refine (if_t t).trans ?_
    rw [if_neg (by decide)]
    have t2 : tVal (eBin (gIsN true) (eVarD 5) (eC .non)) [x0, x1, .ar .c (.int m), .ar .c (.lst TT), .ar .c (.ins n), .ar .c .non, .deep 0 (.tup [.int fw, .lst P]), x7, x8] S = .ok false S := by
      simp
    refine (if_t t2).trans ?_
    rw [if_neg (by decide)]
    refine (seq_set (d := .tup [.int fw, .lst P]) ?_ rfl).trans ?_
    · simp [ll]
    simp [hS, tab_lightest, lg, isiOne, et, lw, si, a0, a1, l99]
end Fin

set_option maxRecDepth 100000
set_option maxHeartbeats 4000000
namespace Fin
open Mv Mir Ev
open PySem (sizeLine sizeLine_eq)
open L2 (atI ixN)
theorem turn_ok (ns : List Int) (k : Nat) (x2 x3 x4 x5 x6 x7 x8 : Slot) (S : Store) (hok : okS S = true) (hk : k ≤ 3) :
    ∃ y2 y3 y4 y5 y6 y7 y8 S', okS S' = true ∧ turB [.ar .c (.frz (ns.map D.int)), .ar .c (.int (k : Nat)), x2, x3, x4, x5, x6, x7, x8] S =
      .nx [.ar .c (.frz (ns.map D.int)), .ar .c (.int (k : Nat)), y2, y3, y4, y5, y6, y7, y8] S' := by
  obtain ⟨m, T, hm, hT, ht, so⟩ := s_own ns (20 * k) S (by omega)
  have si := s_init S.length m T .c .c .c (S ++ [(0, [])]) (by simp) hm (by decide) rfl hT ht
  have hS2 : (S ++ [(0, ([] : List D))]).set S.length (0, mach m T) = S ++ [(0, mach m T)] := by simp
  rw [hS2] at si
  have hS3 : (S ++ [(0, mach m T)])[S.length]? = some (0, mach m T) := by simp
  have ok3 := oks_mach (m := m) (T := T) hok
  generalize hS4 : S ++ [(0, mach m T)] = S1 at *
  obtain ⟨y7, y8, tl⟩ := rest_ok (.ar .c (.frz (ns.map D.int))) (.ar .c (.int (k : Nat))) x5 x6 x7 x8 m S.length T S1 hS3 ok3 hm hT
  have m20 : ∀ x, mulOk 20 x = true := fun x => mulOk_l (by decide)
  have mk : ((20 * k : Nat) : Int) = 20 * (k : Int) := by omega
  rw [mk] at so
  refine ⟨.ar .c (.int m), .ar .c (.lst ((nI T).map D.int)), .ar .c (.ins S.length), .no, .no, y7, y8, S1, ok3, ?_⟩
  refine (seq_nx (r' := [.ar .c (.frz (ns.map D.int)), .ar .c (.int (k : Nat)), .ar .c (.int m), .ar .c (.lst ((nI T).map D.int)), x4, x5, x6, x7, x8]) (S' := S) ?_).trans ?_
  · unfold MTD at so
    generalize (nI T).map D.int = TT at *
    simp [m20, so]
  refine (seq_nx (r' := [.ar .c (.frz (ns.map D.int)), .ar .c (.int (k : Nat)), .ar .c (.int m), .ar .c (.lst ((nI T).map D.int)), .ar .c (.ins S.length), x5, x6, x7, x8]) (S' := S1) ?_).trans tl
  generalize (nI T).map D.int = TT at *
  simp [si]
theorem math : ∀ ns : List Int, ns.length ≤ 63 → ∃ S f, m_law [(.c, .frz (ns.map D.int))] [] = .ok (.bl true, f) S := by
  intro ns _
  obtain ⟨r2, S2, h1, _, x1, x2, x3, x4, x5, x6, x7, x8, h2⟩ := for_inv (P := fun j r S' => okS S' = true ∧ ∃ x1 x2 x3 x4 x5 x6 x7 x8, r = [.ar .c (.frz (ns.map D.int)), x1, x2, x3, x4, x5, x6, x7, x8])
    (g := gN 1) (p := turB) (rangeD 0 1 4) 0 [.ar .c (.frz (ns.map D.int)), .no, .no, .no, .no, .no, .no, .no, .no] [] ⟨rfl, .no, .no, .no, .no, .no, .no, .no, .no, rfl⟩ (fun j d r S' hd hP => by
      obtain ⟨hok, x1, x2, x3, x4, x5, x6, x7, x8, rfl⟩ := hP
      have hj : j < 4 := by
        have := (List.getElem?_eq_some_iff.mp hd).1
        rw [rangeD_length] at this
        exact this
      have hd2 : d = .int (j : Nat) := by
        rw [rangeD_get hj] at hd
        refine (Option.some.inj hd).symm.trans (congrArg D.int ?_)
        omega
      subst hd2
      obtain ⟨y2, y3, y4, y5, y6, y7, y8, S3, ok3, q⟩ := turn_ok ns j x2 x3 x4 x5 x6 x7 x8 S' hok (by omega)
      exact ⟨_, gn_ap _ _ _, _, _, q, ok3, _, y2, y3, y4, y5, y6, y7, y8, rfl⟩)
  subst h2
  refine ⟨S2, .c, ?_⟩
  have ei : iArgs gRng1 (aCons (eC (.int 4)) aNil) [.ar .c (.frz (ns.map D.int)), .no, .no, .no, .no, .no, .no, .no, .no] [] = .ok (rangeD 0 1 4) [] := rfl
  have lp : sFor (iArgs gRng1 (aCons (eC (.int 4)) aNil)) (gN 1) turB [.ar .c (.frz (ns.map D.int)), .no, .no, .no, .no, .no, .no, .no, .no] [] = .nx [.ar .c (.frz (ns.map D.int)), x1, x2, x3, x4, x5, x6, x7, x8] S2 := by
    unfold sFor
    rw [ei]
    exact h1
  show kFn (b_law [.ar .c (.frz (ns.map D.int)), .no, .no, .no, .no, .no, .no, .no, .no] []) = _
  refine (congrArg kFn (seq_nx lp)).trans ?_
  rfl
end Fin

set_option maxHeartbeats 4000000
/-! the walks of codewright_k32_dull_machines_and_lightes, printed by gen.py -/
namespace Wlk
open PySem PySem.Spec PyProof.Rows L2 Mv Mir
set_option maxRecDepth 100000
abbrev topS (i : Nat) : Stmt := PySem.Challenge.pw_codewright_k32_dull_machines_and_lightes.main.body.getD i (.Pass ⟨0, 0, 0, 0⟩)
def fdt : Nat → List Str := fun n => ([["deep", "picks", "states"], [], [], []] : List (List Str)).getD n []
abbrev ctOf (pu : Bool) (A0 A1 A2 A3 : Addr) : CT := ⟨fun n => [A0, A1, A2, A3].getD n 0, fdt, fun n => ([false, true, true, true] : List Bool).getD n false, [], pu⟩
theorem sc__law_whole : FnScope ["found"] ["found"] (defScope (topS 19)) := ⟨rfl, rfl, rfl, by decide +kernel, rfl, by decide +kernel, by decide +kernel⟩
theorem sc__law_is : FnScope ["found", "due", "one"] ["found", "due"] (defScope (topS 20)) := ⟨rfl, rfl, rfl, by decide +kernel, rfl, by decide +kernel, by decide +kernel⟩
theorem sc__law_step : FnScope ["memory", "taps", "state", "bit", "both", "told", "tap", "place"] ["memory", "taps", "state", "bit"] (defScope (topS 22)) := ⟨rfl, rfl, rfl, by decide +kernel, rfl, by decide +kernel, by decide +kernel⟩
theorem sc__law_steps : FnScope ["memory", "taps", "state", "some", "bit", "goal", "told"] ["memory", "taps", "state"] (defScope (topS 23)) := ⟨rfl, rfl, rfl, by decide +kernel, rfl, by decide +kernel, by decide +kernel⟩
theorem sc__law_is_dull : FnScope ["memory", "taps", "left", "turn", "state", "goal"] ["memory", "taps"] (defScope (topS 24)) := ⟨rfl, rfl, rfl, by decide +kernel, rfl, by decide +kernel, by decide +kernel⟩
theorem sc__law_is_ring : FnScope ["memory", "taps", "ring", "state", "later"] ["memory", "taps", "ring"] (defScope (topS 26)) := ⟨rfl, rfl, rfl, by decide +kernel, rfl, by decide +kernel, by decide +kernel⟩
theorem sc__law_tail : FnScope ["memory", "taps", "state", "found", "turn", "told"] ["memory", "taps", "state"] (defScope (topS 27)) := ⟨rfl, rfl, rfl, by decide +kernel, rfl, by decide +kernel, by decide +kernel⟩
theorem sc__law_lightest : FnScope ["memory", "taps", "state", "told", "rows", "best", "turn", "own", "one", "later", "bit", "goal", "signs"] ["memory", "taps"] (defScope (topS 28)) := ⟨rfl, rfl, rfl, by decide +kernel, rfl, by decide +kernel, by decide +kernel⟩
theorem sc__law_draw : FnScope ["script", "k", "cell", "number"] ["script", "k"] (defScope (topS 18)) := ⟨rfl, rfl, rfl, by decide +kernel, rfl, by decide +kernel, by decide +kernel⟩
theorem sc__law_machine : FnScope ["script", "k", "number", "memory", "taps", "j"] ["script", "k"] (defScope (topS 21)) := ⟨rfl, rfl, rfl, by decide +kernel, rfl, by decide +kernel, by decide +kernel⟩
theorem sc__law_own : FnScope ["script", "k", "memory", "taps", "number", "some"] ["script", "k"] (defScope (topS 25)) := ⟨rfl, rfl, rfl, by decide +kernel, rfl, by decide +kernel, by decide +kernel⟩
theorem sc_weight : FnScope ["number", "found"] ["number"] (defScope (topS 4)) := ⟨rfl, rfl, rfl, by decide +kernel, rfl, by decide +kernel, by decide +kernel⟩
theorem sc_is_odd : FnScope ["number"] ["number"] (defScope (topS 5)) := ⟨rfl, rfl, rfl, by decide +kernel, rfl, by decide +kernel, by decide +kernel⟩
theorem sc_Machine_step : FnScope ["self", "state", "bit", "both", "tap"] ["self", "state", "bit"] (defScope (inClass (topS 16) 1)) := ⟨rfl, rfl, rfl, by decide +kernel, rfl, by decide +kernel, by decide +kernel⟩
theorem sc_Machine_unlike : FnScope ["self", "told", "beat", "one", "other"] ["self", "told", "beat"] (defScope (inClass (topS 16) 5)) := ⟨rfl, rfl, rfl, by decide +kernel, rfl, by decide +kernel, by decide +kernel⟩
theorem sc_lesser : FnScope ["one", "other"] ["one", "other"] (defScope (topS 15)) := ⟨rfl, rfl, rfl, by decide +kernel, rfl, by decide +kernel, by decide +kernel⟩
theorem sc_Machine_bits_at : FnScope ["self", "beat", "beats"] ["self", "beat", "beats"] (defScope (inClass (topS 16) 4)) := ⟨rfl, rfl, rfl, by decide +kernel, rfl, by decide +kernel, by decide +kernel⟩
theorem sc_Machine_ways_on : FnScope ["self", "beats", "found", "place", "row", "state", "best", "bit", "later", "told"] ["self", "beats"] (defScope (inClass (topS 16) 7)) := ⟨rfl, rfl, rfl, by decide +kernel, rfl, by decide +kernel, by decide +kernel⟩
theorem sc_Machine_read_on : FnScope ["self", "state", "beats", "rows", "cost", "bits", "place", "later", "told", "bit"] ["self", "state", "beats"] (defScope (inClass (topS 16) 13)) := ⟨rfl, rfl, rfl, by decide +kernel, rfl, by decide +kernel, by decide +kernel⟩
theorem sc_Machine_dull_steps : FnScope ["self", "state", "found", "bit", "later", "told"] ["self", "state"] (defScope (inClass (topS 16) 9)) := ⟨rfl, rfl, rfl, by decide +kernel, rfl, by decide +kernel, by decide +kernel⟩
theorem sc_Machine_ring_from : FnScope ["self", "first", "ahead", "row", "state", "at", "here"] ["self", "first"] (defScope (inClass (topS 16) 10)) := ⟨rfl, rfl, rfl, by decide +kernel, rfl, by decide +kernel, by decide +kernel⟩
theorem sc_Machine_ring : FnScope ["self", "state", "found"] ["self"] (defScope (inClass (topS 16) 11)) := ⟨rfl, rfl, rfl, by decide +kernel, rfl, by decide +kernel, by decide +kernel⟩
theorem sc_Machine_lightest : FnScope ["self", "found", "many", "weight", "bits"] ["self"] (defScope (inClass (topS 16) 12)) := ⟨rfl, rfl, rfl, by decide +kernel, rfl, by decide +kernel, by decide +kernel⟩
theorem sc_is_whole : FnScope ["thing"] ["thing"] (defScope (topS 2)) := ⟨rfl, rfl, rfl, by decide +kernel, rfl, by decide +kernel, by decide +kernel⟩
theorem sc_is_among : FnScope ["thing", "least", "most"] ["thing", "least", "most"] (defScope (topS 3)) := ⟨rfl, rfl, rfl, by decide +kernel, rfl, by decide +kernel, by decide +kernel⟩
theorem sc_Machine___init__ : FnScope ["self", "memory", "taps", "tap"] ["self", "memory", "taps"] (defScope (inClass (topS 16) 0)) := ⟨rfl, rfl, rfl, by decide +kernel, rfl, by decide +kernel, by decide +kernel⟩
theorem sc_law : FnScope ["script", "k", "memory", "taps", "machine", "ring", "found", "kept", "due"] ["script"] (defScope (topS 29)) := ⟨rfl, rfl, rfl, by decide +kernel, rfl, by decide +kernel, by decide +kernel⟩
structure Txt (K : PySem.W.Frag) (mg : Str → Option Value) (A0 A1 A2 A3 : Addr) : Prop where
  fn__law_whole : FunO K mg "_law_whole" (topS 19) ["found"]
  fn__law_is : FunO K mg "_law_is" (topS 20) ["found", "due"]
  fn__law_step : FunO K mg "_law_step" (topS 22) ["memory", "taps", "state", "bit"]
  fn__law_steps : FunO K mg "_law_steps" (topS 23) ["memory", "taps", "state"]
  fn__law_is_dull : FunO K mg "_law_is_dull" (topS 24) ["memory", "taps"]
  fn__law_is_ring : FunO K mg "_law_is_ring" (topS 26) ["memory", "taps", "ring"]
  fn__law_tail : FunO K mg "_law_tail" (topS 27) ["memory", "taps", "state"]
  fn__law_lightest : FunO K mg "_law_lightest" (topS 28) ["memory", "taps"]
  fn__law_draw : FunO K mg "_law_draw" (topS 18) ["script", "k"]
  fn__law_machine : FunO K mg "_law_machine" (topS 21) ["script", "k"]
  fn__law_own : FunO K mg "_law_own" (topS 25) ["script", "k"]
  fn_weight : FunO K mg "weight" (topS 4) ["number"]
  fn_is_odd : FunO K mg "is_odd" (topS 5) ["number"]
  fn_lesser : FunO K mg "lesser" (topS 15) ["one", "other"]
  fn_is_whole : FunO K mg "is_whole" (topS 2) ["thing"]
  fn_is_among : FunO K mg "is_among" (topS 3) ["thing", "least", "most"]
  fn_law : FunO K mg "law" (topS 29) ["script"]
  cls_Machine : Cls K A0
  me_Machine_bits_at : MeO K A0 "bits_at" "Machine.bits_at" (inClass (topS 16) 4) ["self", "beat", "beats"]
  me_Machine_dull_steps : MeO K A0 "dull_steps" "Machine.dull_steps" (inClass (topS 16) 9) ["self", "state"]
  me_Machine_lightest : MeO K A0 "lightest" "Machine.lightest" (inClass (topS 16) 12) ["self"]
  me_Machine_read_on : MeO K A0 "read_on" "Machine.read_on" (inClass (topS 16) 13) ["self", "state", "beats"]
  me_Machine_ring : MeO K A0 "ring" "Machine.ring" (inClass (topS 16) 11) ["self"]
  me_Machine_ring_from : MeO K A0 "ring_from" "Machine.ring_from" (inClass (topS 16) 10) ["self", "first"]
  me_Machine_step : MeO K A0 "step" "Machine.step" (inClass (topS 16) 1) ["self", "state", "bit"]
  me_Machine_unlike : MeO K A0 "unlike" "Machine.unlike" (inClass (topS 16) 5) ["self", "told", "beat"]
  me_Machine_ways_on : MeO K A0 "ways_on" "Machine.ways_on" (inClass (topS 16) 7) ["self", "beats"]
  mk_Machine : MkO K mg A0 "Machine" "Machine.__init__" (inClass (topS 16) 0) ["self", "memory", "taps"]
  na_Machine_deep : NoAttr K A0 "deep"
  na_Machine_picks : NoAttr K A0 "picks"
  na_Machine_states : NoAttr K A0 "states"
  g_MOST_MEMORY : ∃ t, mg "MOST_MEMORY" = some (.int 4 t)
  g_LEAST_TAPS : ∃ t, mg "LEAST_TAPS" = some (.int 2 t)
  g_MOST_TAPS : ∃ t, mg "MOST_TAPS" = some (.int 4 t)
  z_all : mg "all" = none
  z_bool : mg "bool" = none
  z_int : mg "int" = none
  z_isinstance : mg "isinstance" = none
  z_len : mg "len" = none
  z_list : mg "list" = none
  z_max : mg "max" = none
  z_min : mg "min" = none
  z_range : mg "range" = none
  z_reversed : mg "reversed" = none
  z_set : mg "set" = none
  z_sorted : mg "sorted" = none
  z_sum : mg "sum" = none
  z_tuple : mg "tuple" = none
  z_zip : mg "zip" = none
  ra_BadMachine : RaC K mg A3 "BadMachine"
section
variable {P : Program} {w : World} {K : PySem.W.Frag} {mg : Str → Option Value} {base : Heap} {A0 A1 A2 A3 : Addr} {pu : Bool}
theorem Txt.fd_deep (T : Txt K mg A0 A1 A2 A3) : ∀ C ∈ [0], FdT K (ctOf pu A0 A1 A2 A3) "deep" 0 C := (List.forall_mem_cons.mpr ⟨⟨T.cls_Machine, T.na_Machine_deep, rfl, (show (fdt 0).Nodup by decide +kernel), rfl⟩, (fun _ h => nomatch h)⟩)
theorem Txt.fa_deep (T : Txt K mg A0 A1 A2 A3) : ∀ C ∈ [0], FdT K (ctOf pu A0 A1 A2 A3) "deep" 0 C ∧ ((ctOf pu A0 A1 A2 A3).fd C).length < 900 := (List.forall_mem_cons.mpr ⟨⟨⟨T.cls_Machine, T.na_Machine_deep, rfl, (show (fdt 0).Nodup by decide +kernel), rfl⟩, (show (fdt 0).length < 900 by decide +kernel)⟩, (fun _ h => nomatch h)⟩)
theorem Txt.fd_picks (T : Txt K mg A0 A1 A2 A3) : ∀ C ∈ [0], FdT K (ctOf pu A0 A1 A2 A3) "picks" 1 C := (List.forall_mem_cons.mpr ⟨⟨T.cls_Machine, T.na_Machine_picks, rfl, (show (fdt 0).Nodup by decide +kernel), rfl⟩, (fun _ h => nomatch h)⟩)
theorem Txt.fa_picks (T : Txt K mg A0 A1 A2 A3) : ∀ C ∈ [0], FdT K (ctOf pu A0 A1 A2 A3) "picks" 1 C ∧ ((ctOf pu A0 A1 A2 A3).fd C).length < 900 := (List.forall_mem_cons.mpr ⟨⟨⟨T.cls_Machine, T.na_Machine_picks, rfl, (show (fdt 0).Nodup by decide +kernel), rfl⟩, (show (fdt 0).length < 900 by decide +kernel)⟩, (fun _ h => nomatch h)⟩)
theorem Txt.fd_states (T : Txt K mg A0 A1 A2 A3) : ∀ C ∈ [0], FdT K (ctOf pu A0 A1 A2 A3) "states" 2 C := (List.forall_mem_cons.mpr ⟨⟨T.cls_Machine, T.na_Machine_states, rfl, (show (fdt 0).Nodup by decide +kernel), rfl⟩, (fun _ h => nomatch h)⟩)
theorem Txt.fa_states (T : Txt K mg A0 A1 A2 A3) : ∀ C ∈ [0], FdT K (ctOf pu A0 A1 A2 A3) "states" 2 C ∧ ((ctOf pu A0 A1 A2 A3).fd C).length < 900 := (List.forall_mem_cons.mpr ⟨⟨⟨T.cls_Machine, T.na_Machine_states, rfl, (show (fdt 0).Nodup by decide +kernel), rfl⟩, (show (fdt 0).length < 900 by decide +kernel)⟩, (fun _ h => nomatch h)⟩)
theorem w__law_whole (T : Txt K mg A0 A1 A2 A3) : FnG P w K mg base (ctOf pu A0 A1 A2 A3) 1 "_law_whole" 1 m__law_whole :=
  fn_g (b := b__law_whole) T.fn__law_whole sc__law_whole rfl rfl fun f cdv A outer s H E hr =>
    (ms_one (ms_ret (me_and (me_callB call_isi (ok_isi (g := isiInt) isi_int) (by rfl) T.z_isinstance (by decide +kernel) (ma_cons (me_var (pv 0)) (ma_cons (me_ty (by rfl) T.z_int (by decide +kernel)) ma_nil))) (me_one (me_not (me_callB call_isi (ok_isi (g := (isiOne "bool")) isi_bool) (by rfl) T.z_isinstance (by decide +kernel) (ma_cons (me_var (pv 0)) (ma_cons (me_ty (by rfl) T.z_bool (by decide +kernel)) ma_nil))))))))
theorem w__law_is (T : Txt K mg A0 A1 A2 A3) : FnG P w K mg base (ctOf pu A0 A1 A2 A3) 2 "_law_is" 2 m__law_is :=
  fn_g (b := b__law_is) T.fn__law_is sc__law_is rfl rfl fun f cdv A outer s H E hr =>
    (ms_one (ms_ret (me_and (me_callB call_isi (ok_isi (g := (isiOne "list")) isi_list) (by rfl) T.z_isinstance (by decide +kernel) (ma_cons (me_var (pv 0)) (ma_cons (me_ty (by rfl) T.z_list (by decide +kernel)) ma_nil))) (me_and (me_cmp (op_eqA hr.units) ok_eq (me_var (pv 0)) (me_var (pv 1)) (nomark _)) (me_one (me_callB (cr_all rfl) ok_all (by rfl) T.z_all (by decide +kernel) (ma_cons (me_lc rfl sc__law_is.nd (MLc.mk (own := [("one", 2)]) (mi_seq (me_var (pv 0))) (blkOk_by (N := ["found", "due", "one"]) (sc := defScope (topS 20)) (own := [("one", 2)]) (by decide +kernel)) ⟨[2], by decide, fun _ _ _ _ _ => (mg_name (i := 2) sc__law_is.nd rfl (by first | exact Or.inl rfl | exact Or.inr rfl))⟩ (fun _ _ _ _ _ _ => pts_nilM) (fun _ _ _ _ _ => (me_call (w__law_whole T) (hr.mono (by decide)) (by rfl) (ma_cons (me_var (pv 2)) ma_nil))))) ma_nil)))))))
theorem w__law_step (T : Txt K mg A0 A1 A2 A3) : FnG P w K mg base (ctOf pu A0 A1 A2 A3) 1 "_law_step" 4 m__law_step :=
  fn_g (b := b__law_step) T.fn__law_step sc__law_step rfl rfl fun f cdv A outer s H E hr =>
    (ms_cons (ms_set (i := 4) sc__law_step.nd rfl (by first | exact Or.inl rfl | exact Or.inr rfl) (me_op op_addA ok_add (me_op op_mulA ok_mul me_int (me_var (pv 2))) (me_var (pv 3))))
    (ms_cons (ms_setLc (i := 5) rfl sc__law_step.nd rfl rfl (sw_true rfl rfl rfl (by decide +kernel)) (MLc.mk (own := [("tap", 6)]) (mi_seq (me_var (pv 1))) (blkOk_by (N := ["memory", "taps", "state", "bit", "both", "told", "tap", "place"]) (sc := defScope (topS 22)) (own := [("tap", 6)]) (by decide +kernel)) ⟨[6], by decide, fun _ _ _ _ _ => (mg_name (i := 6) sc__law_step.nd rfl (by first | exact Or.inl rfl | exact Or.inr rfl))⟩ (fun _ _ _ _ _ _ => pts_nilM) (fun _ _ _ _ _ => (me_op op_mod ok_mod (me_callB (cr_sum rfl) ok_sum (by rfl) T.z_sum (by decide +kernel) (ma_cons (me_lc rfl sc__law_step.nd (MLc.mk (own := [("place", 7)]) (mi_range1 (by rfl) T.z_range (ma_cons (me_op op_addA ok_add (me_var (pv 0)) me_int) ma_nil)) (blkIn (N := ["memory", "taps", "state", "bit", "both", "told", "tap", "place"]) (sc := defScope (topS 22)) (own := [("place", 7)]) rfl (by decide +kernel)) ⟨[7], by decide, fun _ _ _ _ _ => (mg_name (i := 7) sc__law_step.nd rfl (by first | exact Or.inl rfl | exact Or.inr rfl))⟩ (fun _ _ _ _ _ _ => pts_nilM) (fun _ _ _ _ _ => (me_op op_and ok_and (me_op op_and ok_and (me_op op_shr ok_shr (me_var (pv 4)) (me_var (pv 7))) (me_op op_shr ok_shr (me_var (pv 6)) (me_var (pv 7)))) me_int)))) ma_nil)) me_int))))
    (ms_one (ms_ret (me_tup (ma_cons (me_op op_mod ok_mod (me_var (pv 4)) (me_op op_shl ok_shl me_int (me_var (pv 0)))) (ma_cons (me_var (pv 5)) ma_nil)))))))
theorem w__law_steps (T : Txt K mg A0 A1 A2 A3) : FnG P w K mg base (ctOf pu A0 A1 A2 A3) 2 "_law_steps" 3 m__law_steps :=
  fn_g (b := b__law_steps) T.fn__law_steps sc__law_steps rfl rfl fun f cdv A outer s H E hr =>
    (ms_cons (ms_setLc (i := 3) rfl sc__law_steps.nd rfl rfl (sw_true rfl rfl rfl (by decide +kernel)) (MLc.mk (own := [("bit", 4)]) (mi_seq (me_tup (ma_cons me_int (ma_cons me_int ma_nil)))) (blkOk_by (N := ["memory", "taps", "state", "some", "bit", "goal", "told"]) (sc := defScope (topS 23)) (own := [("bit", 4)]) (by decide +kernel)) ⟨[4], by decide, fun _ _ _ _ _ => (mg_name (i := 4) sc__law_steps.nd rfl (by first | exact Or.inl rfl | exact Or.inr rfl))⟩ (fun _ _ _ _ _ _ => pts_nilM) (fun _ _ _ _ _ => (me_call (w__law_step T) (hr.mono (by decide)) (by rfl) (ma_cons (me_var (pv 0)) (ma_cons (me_var (pv 1)) (ma_cons (me_var (pv 2)) (ma_cons (me_var (pv 4)) ma_nil))))))))
    (ms_one (ms_ret (me_lc rfl sc__law_steps.nd (MLc.mk (own := [("goal", 5), ("told", 6)]) (mi_seq (me_var (pv 3))) (blkOk_by (N := ["memory", "taps", "state", "some", "bit", "goal", "told"]) (sc := defScope (topS 23)) (own := [("goal", 5), ("told", 6)]) (by decide +kernel)) ⟨[5, 6], by decide, fun _ _ _ _ _ => (mg_tup rfl (mgs_cons (mg_name (i := 5) sc__law_steps.nd rfl (by first | exact Or.inl rfl | exact Or.inr rfl)) (mgs_cons (mg_name (i := 6) sc__law_steps.nd rfl (by first | exact Or.inl rfl | exact Or.inr rfl)) mgs_nil)))⟩ (fun _ _ _ _ _ _ => (pts_oneM takesB (MW.mt (mw_and (mt_cmp (op_eqA hr.units) ok_eq (me_callB (cr_sum rfl) ok_sum (by rfl) T.z_sum (by decide +kernel) (ma_cons (me_var (pv 6)) ma_nil)) me_int (nomark _)) (mw_and1 (mt_cmp op_gt ok_gt (me_op op_addA ok_add (me_var (pv 5)) (me_var (pv 2))) me_int (nomark _))))))) (fun _ _ _ _ _ => (me_var (pv 5))))))))
theorem w__law_is_dull (T : Txt K mg A0 A1 A2 A3) : FnG P w K mg base (ctOf pu A0 A1 A2 A3) 3 "_law_is_dull" 2 m__law_is_dull :=
  fn_g (b := b__law_is_dull) T.fn__law_is_dull sc__law_is_dull rfl rfl fun f cdv A outer s H E hr =>
    (ms_cons (ms_set (i := 2) sc__law_is_dull.nd rfl (by first | exact Or.inl rfl | exact Or.inr rfl) (me_lRg rfl (by rfl) T.z_list (by rfl) T.z_range (me_op op_shl ok_shl me_int (me_var (pv 0)))))
    (ms_cons (ms_for rfl (mi_range1 (by rfl) T.z_range (ma_cons (me_op op_shl ok_shl me_int (me_var (pv 0))) ma_nil)) (mg_name (i := 3) sc__law_is_dull.nd rfl (by first | exact Or.inl rfl | exact Or.inr rfl)) (ms_one (ms_set (i := 2) sc__law_is_dull.nd rfl (by first | exact Or.inl rfl | exact Or.inr rfl) (me_lc rfl sc__law_is_dull.nd (MLc.mk (own := [("state", 4)]) (mi_seq (me_var (pv 2))) (blkOk_by (N := ["memory", "taps", "left", "turn", "state", "goal"]) (sc := defScope (topS 24)) (own := [("state", 4)]) (by decide +kernel)) ⟨[4], by decide, fun _ _ _ _ _ => (mg_name (i := 4) sc__law_is_dull.nd rfl (by first | exact Or.inl rfl | exact Or.inr rfl))⟩ (fun _ _ _ _ _ _ => (pts_oneM takesB (mt_cmp (op_neA hr.units) ok_ne (me_lc rfl sc__law_is_dull.nd (MLc.mk (own := [("goal", 5)]) (mi_seq (me_call (w__law_steps T) (hr.mono (by decide)) (by rfl) (ma_cons (me_var (pv 0)) (ma_cons (me_var (pv 1)) (ma_cons (me_var (pv 4)) ma_nil))))) (blkIn (N := ["memory", "taps", "left", "turn", "state", "goal"]) (sc := defScope (topS 24)) (own := [("goal", 5)]) rfl (by decide +kernel)) ⟨[5], by decide, fun _ _ _ _ _ => (mg_name (i := 5) sc__law_is_dull.nd rfl (by first | exact Or.inl rfl | exact Or.inr rfl))⟩ (fun _ _ _ _ _ _ => (pts_oneM takesB (mt_cmp op_inA ok_in (me_var (pv 5)) (me_var (pv 2)) (by rfl)))) (fun _ _ _ _ _ => (me_var (pv 5))))) (me_lst ma_nil) (nomark _)))) (fun _ _ _ _ _ => (me_var (pv 4))))))))
    (ms_one (ms_ret (me_cmp (op_neA hr.units) ok_ne (me_var (pv 2)) (me_lst ma_nil) (nomark _))))))
theorem w__law_is_ring (T : Txt K mg A0 A1 A2 A3) : FnG P w K mg base (ctOf pu A0 A1 A2 A3) 3 "_law_is_ring" 3 m__law_is_ring :=
  fn_g (b := b__law_is_ring) T.fn__law_is_ring sc__law_is_ring rfl rfl fun f cdv A outer s H E hr =>
    (ms_cons (ms_if (MW.mt (mw_or (mt_not (mt_val (me_callB call_isi (ok_isi (g := (isiOne "list")) isi_list) (by rfl) T.z_isinstance (by decide +kernel) (ma_cons (me_var (pv 2)) (ma_cons (me_ty (by rfl) T.z_list (by decide +kernel)) ma_nil))))) (mw_or (mt_cmp (op_eqA hr.units) ok_eq (me_var (pv 2)) (me_lst ma_nil) (nomark _)) (mw_or1 (mt_cmp (op_eqA hr.units) ok_eq (me_var (pv 2)) (me_lst (ma_cons me_int ma_nil)) (nomark _)))))) (ms_one (ms_ret me_bl)) ms_nil)
    (ms_cons (ms_if (mt_not (mt_val (me_callB (cr_all rfl) ok_all (by rfl) T.z_all (by decide +kernel) (ma_cons (me_lc rfl sc__law_is_ring.nd (MLc.mk (own := [("state", 3)]) (mi_seq (me_var (pv 2))) (blkOk_by (N := ["memory", "taps", "ring", "state", "later"]) (sc := defScope (topS 26)) (own := [("state", 3)]) (by decide +kernel)) ⟨[3], by decide, fun _ _ _ _ _ => (mg_name (i := 3) sc__law_is_ring.nd rfl (by first | exact Or.inl rfl | exact Or.inr rfl))⟩ (fun _ _ _ _ _ _ => pts_nilM) (fun _ _ _ _ _ => (me_call (w__law_whole T) (hr.mono (by decide)) (by rfl) (ma_cons (me_var (pv 3)) ma_nil))))) ma_nil)))) (ms_one (ms_ret me_bl)) ms_nil)
    (ms_cons (ms_if (MW.mt (mw_or (mt_cmp op_lt ok_lt (me_callB (call_minA rfl) ok_min (by rfl) T.z_min (by decide +kernel) (ma_cons (me_var (pv 2)) ma_nil)) me_int (nomark _)) (mw_or (mt_cmp op_gt ok_gt (me_op op_shr ok_shr (me_callB (call_maxA rfl) ok_max (by rfl) T.z_max (by decide +kernel) (ma_cons (me_var (pv 2)) ma_nil)) (me_var (pv 0))) me_int (nomark _)) (mw_or1 (mt_cmp (op_neA hr.units) ok_ne (me_srtSet rfl (by rfl) T.z_sorted (by rfl) T.z_set (me_var (pv 2))) (me_callB cr_sortedI ok_sorted (by rfl) T.z_sorted (by decide +kernel) (ma_cons (me_var (pv 2)) ma_nil)) (nomark _)))))) (ms_one (ms_ret me_bl)) ms_nil)
    (ms_cons (ms_for rfl (mi_zip (by rfl) T.z_zip (ma_cons (me_var (pv 2)) (ma_cons (me_op op_addA ok_add (me_sl (me_var (pv 2)) (mo_so me_int) mo_no) (me_sl (me_var (pv 2)) mo_no (mo_so me_int))) ma_nil))) (mg_tup rfl (mgs_cons (mg_name (i := 3) sc__law_is_ring.nd rfl (by first | exact Or.inl rfl | exact Or.inr rfl)) (mgs_cons (mg_name (i := 4) sc__law_is_ring.nd rfl (by first | exact Or.inl rfl | exact Or.inr rfl)) mgs_nil))) (ms_one (ms_if (mt_cmp op_notInA ok_notIn (me_var (pv 4)) (me_call (w__law_steps T) (hr.mono (by decide)) (by rfl) (ma_cons (me_var (pv 0)) (ma_cons (me_var (pv 1)) (ma_cons (me_var (pv 3)) ma_nil)))) (by rfl)) (ms_one (ms_ret me_bl)) ms_nil)))
    (ms_one (ms_ret me_bl))))))
theorem w__law_tail (T : Txt K mg A0 A1 A2 A3) : FnG P w K mg base (ctOf pu A0 A1 A2 A3) 2 "_law_tail" 3 m__law_tail :=
  fn_g (b := b__law_tail) T.fn__law_tail sc__law_tail rfl rfl fun f cdv A outer s H E hr =>
    (ms_cons (ms_set (i := 3) sc__law_tail.nd rfl (by first | exact Or.inl rfl | exact Or.inr rfl) me_int)
    (ms_cons (ms_for rfl (mi_range1 (by rfl) T.z_range (ma_cons (me_var (pv 0)) ma_nil)) (mg_name (i := 4) sc__law_tail.nd rfl (by first | exact Or.inl rfl | exact Or.inr rfl)) (ms_cons (ms_asg (me_call (w__law_step T) (hr.mono (by decide)) (by rfl) (ma_cons (me_var (pv 0)) (ma_cons (me_var (pv 1)) (ma_cons (me_var (pv 2)) (ma_cons me_int ma_nil))))) (mg_tup rfl (mgs_cons (mg_name (i := 2) sc__law_tail.nd rfl (by first | exact Or.inl rfl | exact Or.inr rfl)) (mgs_cons (mg_name (i := 5) sc__law_tail.nd rfl (by first | exact Or.inl rfl | exact Or.inr rfl)) mgs_nil))))
    (ms_one (ms_set (i := 3) sc__law_tail.nd rfl (by first | exact Or.inl rfl | exact Or.inr rfl) (me_op op_addA ok_add (me_var (pv 3)) (me_callB (cr_sum rfl) ok_sum (by rfl) T.z_sum (by decide +kernel) (ma_cons (me_var (pv 5)) ma_nil)))))))
    (ms_one (ms_retV (pv 3)))))
theorem w__law_lightest (T : Txt K mg A0 A1 A2 A3) : FnG P w K mg base (ctOf pu A0 A1 A2 A3) 3 "_law_lightest" 2 m__law_lightest :=
  fn_g (b := b__law_lightest) T.fn__law_lightest sc__law_lightest rfl rfl fun f cdv A outer s H E hr =>
    (ms_cons (ms_asg (me_call (w__law_step T) (hr.mono (by decide)) (by rfl) (ma_cons (me_var (pv 0)) (ma_cons (me_var (pv 1)) (ma_cons me_int (ma_cons me_int ma_nil))))) (mg_tup rfl (mgs_cons (mg_name (i := 2) sc__law_lightest.nd rfl (by first | exact Or.inl rfl | exact Or.inr rfl)) (mgs_cons (mg_name (i := 3) sc__law_lightest.nd rfl (by first | exact Or.inl rfl | exact Or.inr rfl)) mgs_nil))))
    (ms_cons (ms_own (i := 4) sc__law_lightest.nd rfl (by first | exact Or.inl rfl | exact Or.inr rfl) (me_dict (mdp_cons (me_var (pv 2)) (me_tup (ma_cons (me_callB (cr_sum rfl) ok_sum (by rfl) T.z_sum (by decide +kernel) (ma_cons (me_var (pv 3)) ma_nil)) (ma_cons (me_lst (ma_cons me_int ma_nil)) ma_nil))) mdp_nil) rfl rfl (by simp) (by decide)))
    (ms_cons (ms_set (i := 5) sc__law_lightest.nd rfl (by first | exact Or.inl rfl | exact Or.inr rfl) me_non)
    (ms_cons (ms_for rfl (mi_range1 (by rfl) T.z_range (ma_cons me_int ma_nil)) (mg_name (i := 6) sc__law_lightest.nd rfl (by first | exact Or.inl rfl | exact Or.inr rfl)) (ms_cons (ms_itmK (i := 4) rfl (pv 4) (mg_tup rfl (mgs_cons (mg_name (i := 2) sc__law_lightest.nd rfl (by first | exact Or.inl rfl | exact Or.inr rfl)) (mgs_cons (mg_name (i := 7) sc__law_lightest.nd rfl (by first | exact Or.inl rfl | exact Or.inr rfl)) mgs_nil))) (ms_cons (ms_set (i := 8) sc__law_lightest.nd rfl (by first | exact Or.inl rfl | exact Or.inr rfl) (me_tup (ma_cons (me_op op_addA ok_add (me_ix (me_var (pv 7)) me_int) (me_call (w__law_tail T) (hr.mono (by decide)) (by rfl) (ma_cons (me_var (pv 0)) (ma_cons (me_var (pv 1)) (ma_cons (me_var (pv 2)) ma_nil))))) (ma_cons (me_callB call_lenA ok_len (by rfl) T.z_len (by decide +kernel) (ma_cons (me_ix (me_var (pv 7)) me_int) ma_nil)) (ma_cons (me_ix (me_var (pv 7)) me_int) ma_nil)))))
    (ms_one (ms_if (MW.mt (mw_or (mt_cmp op_isN ok_isN (me_var (pv 5)) me_non (nomark _)) (mw_or1 (mt_cmp (op_ltD hr.units) ok_ltT (me_var (pv 8)) (me_var (pv 5)) (nomark _))))) (ms_one (ms_set (i := 5) sc__law_lightest.nd rfl (by first | exact Or.inl rfl | exact Or.inr rfl) (me_var (pv 8)))) ms_nil))))
    (ms_cons (ms_own (i := 9) sc__law_lightest.nd rfl (by first | exact Or.inl rfl | exact Or.inr rfl) me_dict0)
    (ms_cons (ms_itmK (i := 4) rfl (pv 4) (mg_tup rfl (mgs_cons (mg_name (i := 2) sc__law_lightest.nd rfl (by first | exact Or.inl rfl | exact Or.inr rfl)) (mgs_cons (mg_name (i := 7) sc__law_lightest.nd rfl (by first | exact Or.inl rfl | exact Or.inr rfl)) mgs_nil))) (ms_one (ms_for rfl (mi_seq (me_tup (ma_cons me_int (ma_cons me_int ma_nil)))) (mg_name (i := 10) sc__law_lightest.nd rfl (by first | exact Or.inl rfl | exact Or.inr rfl)) (ms_cons (ms_asg (me_call (w__law_step T) (hr.mono (by decide)) (by rfl) (ma_cons (me_var (pv 0)) (ma_cons (me_var (pv 1)) (ma_cons (me_var (pv 2)) (ma_cons (me_var (pv 10)) ma_nil))))) (mg_tup rfl (mgs_cons (mg_name (i := 11) sc__law_lightest.nd rfl (by first | exact Or.inl rfl | exact Or.inr rfl)) (mgs_cons (mg_name (i := 12) sc__law_lightest.nd rfl (by first | exact Or.inl rfl | exact Or.inr rfl)) mgs_nil))))
    (ms_cons (ms_set (i := 8) sc__law_lightest.nd rfl (by first | exact Or.inl rfl | exact Or.inr rfl) (me_tup (ma_cons (me_op op_addA ok_add (me_ix (me_var (pv 7)) me_int) (me_callB (cr_sum rfl) ok_sum (by rfl) T.z_sum (by decide +kernel) (ma_cons (me_var (pv 12)) ma_nil))) (ma_cons (me_op op_addA ok_add (me_ix (me_var (pv 7)) me_int) (me_lst (ma_cons (me_var (pv 10)) ma_nil))) ma_nil))))
    (ms_one (ms_if (MW.mt (mw_or (mt_dni hr.units (me_var (pv 11)) (me_var (pv 9))) (mw_or1 (mt_cmp (op_ltD hr.units) ok_ltL (me_var (pv 8)) (me_dix hr.units (me_var (pv 9)) (me_var (pv 11))) (nomark _))))) (ms_one (ms_dsub (i := 9) hr.units (pv 9) (me_var (pv 11)) (me_var (pv 8)))) ms_nil)))))))
    (ms_one (ms_move (i := 4) (j := 9) sc__law_lightest.nd rfl (by first | exact Or.inl rfl | exact Or.inr rfl) (pv 9)))))))
    (ms_one (ms_ret (me_tup (ma_cons (me_ix (me_var (pv 5)) me_int) (ma_cons (me_ix (me_var (pv 5)) me_int) ma_nil)))))))))
theorem w__law_draw (T : Txt K mg A0 A1 A2 A3) : FnG P w K mg base (ctOf pu A0 A1 A2 A3) 1 "_law_draw" 2 m__law_draw :=
  fn_g (b := b__law_draw) T.fn__law_draw sc__law_draw rfl rfl fun f cdv A outer s H E hr =>
    (ms_cons (ms_set (i := 2) sc__law_draw.nd rfl (by first | exact Or.inl rfl | exact Or.inr rfl) me_int)
    (ms_cons (ms_if (mt_cmp (op_neA hr.units) ok_ne (me_var (pv 0)) (me_lst ma_nil) (nomark _)) (ms_one (ms_set (i := 2) sc__law_draw.nd rfl (by first | exact Or.inl rfl | exact Or.inr rfl) (me_op op_addA ok_add (me_op op_mulA ok_mul me_int (me_callB (cr_sum rfl) ok_sum (by rfl) T.z_sum (by decide +kernel) (ma_cons (me_var (pv 0)) ma_nil))) (me_ix (me_var (pv 0)) (me_op op_mod ok_mod (me_var (pv 1)) (me_callB call_lenA ok_len (by rfl) T.z_len (by decide +kernel) (ma_cons (me_var (pv 0)) ma_nil))))))) ms_nil)
    (ms_cons (ms_set (i := 3) sc__law_draw.nd rfl (by first | exact Or.inl rfl | exact Or.inr rfl) (me_op op_addA ok_add (me_op op_addA ok_add (me_op op_mod ok_mod (me_var (pv 2)) me_int) (me_op op_mulA ok_mul me_int (me_var (pv 1)))) me_int))
    (ms_one (ms_ret (me_op op_fdivW ok_div (me_op op_mod ok_mod (me_op op_mulA ok_mul (me_op op_mod ok_mod (me_op op_mulA ok_mul (me_var (pv 3)) (me_var (pv 3))) me_int) (me_var (pv 3))) me_int) me_int))))))
theorem w__law_machine (T : Txt K mg A0 A1 A2 A3) : FnG P w K mg base (ctOf pu A0 A1 A2 A3) 2 "_law_machine" 2 m__law_machine :=
  fn_g (b := b__law_machine) T.fn__law_machine sc__law_machine rfl rfl fun f cdv A outer s H E hr =>
    (ms_cons (ms_set (i := 2) sc__law_machine.nd rfl (by first | exact Or.inl rfl | exact Or.inr rfl) (me_call (w__law_draw T) (hr.mono (by decide)) (by rfl) (ma_cons (me_var (pv 0)) (ma_cons (me_var (pv 1)) ma_nil))))
    (ms_cons (ms_set (i := 3) sc__law_machine.nd rfl (by first | exact Or.inl rfl | exact Or.inr rfl) (me_op op_addA ok_add me_int (me_op op_mod ok_mod (me_var (pv 2)) me_int)))
    (ms_cons (ms_setLc (i := 4) rfl sc__law_machine.nd rfl rfl (sw_true rfl rfl rfl (by decide +kernel)) (MLc.mk (own := [("j", 5)]) (mi_range1 (by rfl) T.z_range (ma_cons (me_op op_addA ok_add me_int (me_op op_mod ok_mod (me_op op_fdivW ok_div (me_var (pv 2)) me_int) me_int)) ma_nil)) (blkOk_by (N := ["script", "k", "number", "memory", "taps", "j"]) (sc := defScope (topS 21)) (own := [("j", 5)]) (by decide +kernel)) ⟨[5], by decide, fun _ _ _ _ _ => (mg_name (i := 5) sc__law_machine.nd rfl (by first | exact Or.inl rfl | exact Or.inr rfl))⟩ (fun _ _ _ _ _ _ => pts_nilM) (fun _ _ _ _ _ => (me_op op_addA ok_add me_int (me_op op_mod ok_mod (me_op op_fdivW ok_div (me_call (w__law_draw T) (hr.mono (by decide)) (by rfl) (ma_cons (me_var (pv 0)) (ma_cons (me_op op_addA ok_add (me_op op_addA ok_add (me_var (pv 1)) me_int) (me_var (pv 5))) ma_nil))) me_int) (me_op op_sub ok_sub (me_op op_shl ok_shl me_int (me_var (pv 3))) me_int))))))
    (ms_cons (ms_if (mt_cmp (op_eqA hr.units) ok_eq (me_op op_mod ok_mod (me_op op_fdivW ok_div (me_var (pv 2)) me_int) me_int) me_int (nomark _)) (ms_one (ms_asg (me_ix (me_lst (ma_cons (me_tup (ma_cons me_int (ma_cons (me_lst (ma_cons me_int (ma_cons me_int ma_nil))) ma_nil))) (ma_cons (me_tup (ma_cons me_int (ma_cons (me_lst (ma_cons me_int (ma_cons me_int (ma_cons me_int ma_nil)))) ma_nil))) (ma_cons (me_tup (ma_cons me_int (ma_cons (me_lst (ma_cons me_int (ma_cons me_int ma_nil))) ma_nil))) (ma_cons (me_tup (ma_cons me_int (ma_cons (me_lst (ma_cons me_int (ma_cons me_int ma_nil))) ma_nil))) ma_nil))))) (me_op op_mod ok_mod (me_op op_fdivW ok_div (me_var (pv 2)) me_int) me_int)) (mg_tup rfl (mgs_cons (mg_name (i := 3) sc__law_machine.nd rfl (by first | exact Or.inl rfl | exact Or.inr rfl)) (mgs_cons (mg_name (i := 4) sc__law_machine.nd rfl (by first | exact Or.inl rfl | exact Or.inr rfl)) mgs_nil))))) ms_nil)
    (ms_one (ms_ret (me_tup (ma_cons (me_var (pv 3)) (ma_cons (me_var (pv 4)) ma_nil)))))))))
theorem w__law_own (T : Txt K mg A0 A1 A2 A3) : FnG P w K mg base (ctOf pu A0 A1 A2 A3) 3 "_law_own" 2 m__law_own :=
  fn_g (b := b__law_own) T.fn__law_own sc__law_own rfl rfl fun f cdv A outer s H E hr =>
    (ms_cons (ms_asg (me_call (w__law_machine T) (hr.mono (by decide)) (by rfl) (ma_cons (me_var (pv 0)) (ma_cons (me_var (pv 1)) ma_nil))) (mg_tup rfl (mgs_cons (mg_name (i := 2) sc__law_own.nd rfl (by first | exact Or.inl rfl | exact Or.inr rfl)) (mgs_cons (mg_name (i := 3) sc__law_own.nd rfl (by first | exact Or.inl rfl | exact Or.inr rfl)) mgs_nil))))
    (ms_cons (ms_set (i := 4) sc__law_own.nd rfl (by first | exact Or.inl rfl | exact Or.inr rfl) (me_call (w__law_draw T) (hr.mono (by decide)) (by rfl) (ma_cons (me_var (pv 0)) (ma_cons (me_op op_addA ok_add (me_var (pv 1)) me_int) ma_nil))))
    (ms_cons (ms_if (mt_cmp (op_eqA hr.units) ok_eq (me_op op_mod ok_mod (me_var (pv 4)) me_int) me_int (nomark _)) (ms_cons (ms_set (i := 5) sc__law_own.nd rfl (by first | exact Or.inl rfl | exact Or.inr rfl) (me_lst (ma_cons (me_tup (ma_cons me_int (ma_cons (me_lst (ma_cons me_int (ma_cons me_int ma_nil))) ma_nil))) (ma_cons (me_tup (ma_cons me_int (ma_cons (me_lst (ma_cons me_int (ma_cons me_int ma_nil))) ma_nil))) (ma_cons (me_tup (ma_cons me_int (ma_cons (me_lst (ma_cons me_int (ma_cons me_int ma_nil))) ma_nil))) (ma_cons (me_tup (ma_cons me_int (ma_cons (me_lst (ma_cons me_int (ma_cons me_int ma_nil))) ma_nil))) (ma_cons (me_tup (ma_cons me_int (ma_cons (me_lst (ma_cons me_int (ma_cons me_int ma_nil))) ma_nil))) (ma_cons (me_tup (ma_cons me_int (ma_cons (me_lst (ma_cons me_int (ma_cons me_int ma_nil))) ma_nil))) ma_nil))))))))
    (ms_one (ms_asg (me_ix (me_var (pv 5)) (me_op op_mod ok_mod (me_op op_fdivW ok_div (me_var (pv 4)) me_int) me_int)) (mg_tup rfl (mgs_cons (mg_name (i := 2) sc__law_own.nd rfl (by first | exact Or.inl rfl | exact Or.inr rfl)) (mgs_cons (mg_name (i := 3) sc__law_own.nd rfl (by first | exact Or.inl rfl | exact Or.inr rfl)) mgs_nil)))))) ms_nil)
    (ms_one (ms_ret (me_tup (ma_cons (me_var (pv 2)) (ma_cons (me_var (pv 3)) ma_nil))))))))
theorem w_weight (T : Txt K mg A0 A1 A2 A3) : FnG P w K mg base (ctOf pu A0 A1 A2 A3) 1 "weight" 1 m_weight :=
  fn_g (b := b_weight) T.fn_weight sc_weight rfl rfl fun f cdv A outer s H E hr =>
    (ms_cons (ms_set (i := 1) sc_weight.nd rfl (by first | exact Or.inl rfl | exact Or.inr rfl) me_int)
    (ms_cons (ms_while (mt_cmp op_gt ok_gt (me_var (pv 0)) me_int (nomark _)) (ms_cons (ms_set (i := 1) sc_weight.nd rfl (by first | exact Or.inl rfl | exact Or.inr rfl) (me_op op_addA ok_add (me_var (pv 1)) (me_op op_and ok_and (me_var (pv 0)) me_int)))
    (ms_one (ms_set (i := 0) sc_weight.nd rfl (by first | exact Or.inl rfl | exact Or.inr rfl) (me_op op_shr ok_shr (me_var (pv 0)) me_int)))))
    (ms_one (ms_retV (pv 1)))))
theorem w_is_odd (T : Txt K mg A0 A1 A2 A3) : FnG P w K mg base (ctOf pu A0 A1 A2 A3) 2 "is_odd" 1 m_is_odd :=
  fn_g (b := b_is_odd) T.fn_is_odd sc_is_odd rfl rfl fun f cdv A outer s H E hr =>
    (ms_one (ms_ret (me_cmp (op_eqA hr.units) ok_eq (me_op op_mod ok_mod (me_call (w_weight T) (hr.mono (by decide)) (by rfl) (ma_cons (me_var (pv 0)) ma_nil)) me_int) me_int (nomark _))))
theorem w_Machine_step (T : Txt K mg A0 A1 A2 A3) : MeG P w K mg base (ctOf pu A0 A1 A2 A3) 3 0 "step" 3 m_Machine_step :=
  me_g (b := b_Machine_step) T.me_Machine_step T.cls_Machine (show _ ∉ fdt 0 by decide +kernel) rfl sc_Machine_step rfl rfl fun f cdv A outer s H E hr =>
    (ms_cons (ms_set (i := 3) sc_Machine_step.nd rfl (by first | exact Or.inl rfl | exact Or.inr rfl) (me_op op_or ok_or (me_op op_shl ok_shl (me_var (pv 1)) me_int) (me_var (pv 2))))
    (ms_one (ms_ret (me_tup (ma_cons (me_op op_and ok_and (me_var (pv 3)) (me_op op_sub ok_sub (me_fld (cs := [0]) (i := 2) (me_var (pv 0)) T.fd_states) me_int)) (ma_cons (me_lc rfl sc_Machine_step.nd (MLc.mk (own := [("tap", 4)]) (mi_seq (me_fld (cs := [0]) (i := 1) (me_var (pv 0)) T.fd_picks)) (blkOk_by (N := ["self", "state", "bit", "both", "tap"]) (sc := defScope (inClass (topS 16) 1)) (own := [("tap", 4)]) (by decide +kernel)) ⟨[4], by decide, fun _ _ _ _ _ => (mg_name (i := 4) sc_Machine_step.nd rfl (by first | exact Or.inl rfl | exact Or.inr rfl))⟩ (fun _ _ _ _ _ _ => pts_nilM) (fun _ _ _ _ _ => (me_callTy call_int1 ok_intT (by rfl) T.z_int (by decide +kernel) (ma_cons (me_call (w_is_odd T) (hr.mono (by decide)) (by rfl) (ma_cons (me_op op_and ok_and (me_var (pv 3)) (me_var (pv 4))) ma_nil)) ma_nil))))) ma_nil))))))
theorem w_Machine_unlike (T : Txt K mg A0 A1 A2 A3) : MeG P w K mg base (ctOf pu A0 A1 A2 A3) 1 0 "unlike" 3 m_Machine_unlike :=
  me_g (b := b_Machine_unlike) T.me_Machine_unlike T.cls_Machine (show _ ∉ fdt 0 by decide +kernel) rfl sc_Machine_unlike rfl rfl fun f cdv A outer s H E hr =>
    (ms_one (ms_ret (me_callB call_lenA ok_len (by rfl) T.z_len (by decide +kernel) (ma_cons (me_lc rfl sc_Machine_unlike.nd (MLc.mk (own := [("one", 3), ("other", 4)]) (mi_zip (by rfl) T.z_zip (ma_cons (me_var (pv 1)) (ma_cons (me_var (pv 2)) ma_nil))) (blkOk_by (N := ["self", "told", "beat", "one", "other"]) (sc := defScope (inClass (topS 16) 5)) (own := [("one", 3), ("other", 4)]) (by decide +kernel)) ⟨[3, 4], by decide, fun _ _ _ _ _ => (mg_tup rfl (mgs_cons (mg_name (i := 3) sc_Machine_unlike.nd rfl (by first | exact Or.inl rfl | exact Or.inr rfl)) (mgs_cons (mg_name (i := 4) sc_Machine_unlike.nd rfl (by first | exact Or.inl rfl | exact Or.inr rfl)) mgs_nil)))⟩ (fun _ _ _ _ _ _ => (pts_oneM takesB (MW.mt (mw_and (mt_cmp op_notN ok_notN (me_var (pv 4)) me_non (nomark _)) (mw_and1 (mt_cmp (op_neA hr.units) ok_ne (me_var (pv 3)) (me_var (pv 4)) (nomark _))))))) (fun _ _ _ _ _ => me_bl))) ma_nil))))
theorem w_lesser (T : Txt K mg A0 A1 A2 A3) : FnG P w K mg base (ctOf pu A0 A1 A2 A3) 1 "lesser" 2 m_lesser :=
  fn_g (b := b_lesser) T.fn_lesser sc_lesser rfl rfl fun f cdv A outer s H E hr =>
    (ms_cons (ms_if (MW.mt (mw_or (mt_cmp op_isN ok_isN (me_var (pv 0)) me_non (nomark _)) (mw_or1 (mt_cmp op_isN ok_isN (me_var (pv 1)) me_non (nomark _))))) (ms_one (ms_ret (me_if (mt_cmp op_isN ok_isN (me_var (pv 0)) me_non (nomark _)) (me_var (pv 1)) (me_var (pv 0))))) ms_nil)
    (ms_one (ms_ret (me_callB (call_minA rfl) ok_min (by rfl) T.z_min (by decide +kernel) (ma_cons (me_var (pv 0)) (ma_cons (me_var (pv 1)) ma_nil))))))
theorem w_Machine_bits_at (T : Txt K mg A0 A1 A2 A3) : MeG P w K mg base (ctOf pu A0 A1 A2 A3) 1 0 "bits_at" 3 m_Machine_bits_at :=
  me_g (b := b_Machine_bits_at) T.me_Machine_bits_at T.cls_Machine (show _ ∉ fdt 0 by decide +kernel) rfl sc_Machine_bits_at rfl rfl fun f cdv A outer s H E hr =>
    (ms_one (ms_ret (me_if (mt_cmp op_lt ok_lt (me_var (pv 1)) (me_op op_sub ok_sub (me_callB call_lenA ok_len (by rfl) T.z_len (by decide +kernel) (ma_cons (me_var (pv 2)) ma_nil)) (me_fld (cs := [0]) (i := 0) (me_var (pv 0)) T.fd_deep)) (nomark _)) (me_lst (ma_cons me_int (ma_cons me_int ma_nil))) (me_lst (ma_cons me_int ma_nil)))))
theorem t_tab_step (T : Txt K mg A0 A1 A2 A3) : ∀ C m, tab_step C = some m → MeG P w K mg base (ctOf pu A0 A1 A2 A3) 3 C "step" 3 m := fun C m h => by
  unfold tab_step at h
  split at h
  · rename_i e; subst e; cases h; exact (w_Machine_step T).mono (by decide)
  cases h
theorem t_tab_unlike (T : Txt K mg A0 A1 A2 A3) : ∀ C m, tab_unlike C = some m → MeG P w K mg base (ctOf pu A0 A1 A2 A3) 1 C "unlike" 3 m := fun C m h => by
  unfold tab_unlike at h
  split at h
  · rename_i e; subst e; cases h; exact (w_Machine_unlike T).mono (by decide)
  cases h
theorem t_tab_bits_at (T : Txt K mg A0 A1 A2 A3) : ∀ C m, tab_bits_at C = some m → MeG P w K mg base (ctOf pu A0 A1 A2 A3) 1 C "bits_at" 3 m := fun C m h => by
  unfold tab_bits_at at h
  split at h
  · rename_i e; subst e; cases h; exact (w_Machine_bits_at T).mono (by decide)
  cases h
theorem w_Machine_ways_on (T : Txt K mg A0 A1 A2 A3) : MeG P w K mg base (ctOf pu A0 A1 A2 A3) 4 0 "ways_on" 2 m_Machine_ways_on :=
  me_g (b := b_Machine_ways_on) T.me_Machine_ways_on T.cls_Machine (show _ ∉ fdt 0 by decide +kernel) rfl sc_Machine_ways_on rfl rfl fun f cdv A outer s H E hr =>
    (ms_cons (ms_set (i := 2) sc_Machine_ways_on.nd rfl (by first | exact Or.inl rfl | exact Or.inr rfl) (me_lst (ma_cons (me_op op_mulA ok_mul (me_lst (ma_cons me_int ma_nil)) (me_fld (cs := [0]) (i := 2) (me_var (pv 0)) T.fd_states)) ma_nil)))
    (ms_cons (ms_for rfl (mi_revR (by rfl) T.z_reversed (by rfl) T.z_range (me_callB call_lenA ok_len (by rfl) T.z_len (by decide +kernel) (ma_cons (me_var (pv 1)) ma_nil))) (mg_name (i := 3) sc_Machine_ways_on.nd rfl (by first | exact Or.inl rfl | exact Or.inr rfl)) (ms_cons (ms_own (i := 4) sc_Machine_ways_on.nd rfl (by first | exact Or.inl rfl | exact Or.inr rfl) (me_lst ma_nil))
    (ms_cons (ms_for rfl (mi_range1 (by rfl) T.z_range (ma_cons (me_fld (cs := [0]) (i := 2) (me_var (pv 0)) T.fd_states) ma_nil)) (mg_name (i := 5) sc_Machine_ways_on.nd rfl (by first | exact Or.inl rfl | exact Or.inr rfl)) (ms_cons (ms_set (i := 6) sc_Machine_ways_on.nd rfl (by first | exact Or.inl rfl | exact Or.inr rfl) me_non)
    (ms_cons (ms_for rfl (mi_seq (me_meth (tab := tab_bits_at) (me_var (pv 0)) (t_tab_bits_at T) (hr.mono (by decide)) (ma_cons (me_var (pv 3)) (ma_cons (me_var (pv 1)) ma_nil)))) (mg_name (i := 7) sc_Machine_ways_on.nd rfl (by first | exact Or.inl rfl | exact Or.inr rfl)) (ms_cons (ms_asg (me_meth (tab := tab_step) (me_var (pv 0)) (t_tab_step T) (hr.mono (by decide)) (ma_cons (me_var (pv 5)) (ma_cons (me_var (pv 7)) ma_nil))) (mg_tup rfl (mgs_cons (mg_name (i := 8) sc_Machine_ways_on.nd rfl (by first | exact Or.inl rfl | exact Or.inr rfl)) (mgs_cons (mg_name (i := 9) sc_Machine_ways_on.nd rfl (by first | exact Or.inl rfl | exact Or.inr rfl)) mgs_nil))))
    (ms_one (ms_set (i := 6) sc_Machine_ways_on.nd rfl (by first | exact Or.inl rfl | exact Or.inr rfl) (me_call (w_lesser T) (hr.mono (by decide)) (by rfl) (ma_cons (me_var (pv 6)) (ma_cons (me_op op_addA ok_add (me_ix (me_ix (me_var (pv 2)) me_int) (me_var (pv 8))) (me_meth (tab := tab_unlike) (me_var (pv 0)) (t_tab_unlike T) (hr.mono (by decide)) (ma_cons (me_var (pv 9)) (ma_cons (me_ix (me_var (pv 1)) (me_var (pv 3))) ma_nil)))) ma_nil)))))))
    (ms_one (ms_app (i := 4) (pv 4) (me_var (pv 6)) (fun h1 h2 => pe_bm PySem.F.plainAttrs_list PySem.F.slot_list_append PySem.F.type_list_append mt_append h1 h2))))))
    (ms_one (ms_dem (i := 4) (ms_set (i := 2) sc_Machine_ways_on.nd rfl (by first | exact Or.inl rfl | exact Or.inr rfl) (me_op op_addA ok_add (me_lst (ma_cons (me_var (pv 4)) ma_nil)) (me_var (pv 2)))))))))
    (ms_one (ms_retV (pv 2)))))
theorem t_tab_ways_on (T : Txt K mg A0 A1 A2 A3) : ∀ C m, tab_ways_on C = some m → MeG P w K mg base (ctOf pu A0 A1 A2 A3) 4 C "ways_on" 2 m := fun C m h => by
  unfold tab_ways_on at h
  split at h
  · rename_i e; subst e; cases h; exact (w_Machine_ways_on T).mono (by decide)
  cases h
theorem w_Machine_read_on (T : Txt K mg A0 A1 A2 A3) : MeG P w K mg base (ctOf pu A0 A1 A2 A3) 5 0 "read_on" 3 m_Machine_read_on :=
  me_g (b := b_Machine_read_on) T.me_Machine_read_on T.cls_Machine (show _ ∉ fdt 0 by decide +kernel) rfl sc_Machine_read_on rfl rfl fun f cdv A outer s H E hr =>
    (ms_cons (ms_set (i := 3) sc_Machine_read_on.nd rfl (by first | exact Or.inl rfl | exact Or.inr rfl) (me_meth (tab := tab_ways_on) (me_var (pv 0)) (t_tab_ways_on T) (hr.mono (by decide)) (ma_cons (me_var (pv 2)) ma_nil)))
    (ms_cons (ms_set (i := 4) sc_Machine_read_on.nd rfl (by first | exact Or.inl rfl | exact Or.inr rfl) (me_ix (me_ix (me_var (pv 3)) me_int) (me_var (pv 1))))
    (ms_cons (ms_own (i := 5) sc_Machine_read_on.nd rfl (by first | exact Or.inl rfl | exact Or.inr rfl) (me_lst ma_nil))
    (ms_cons (ms_for rfl (mi_range1 (by rfl) T.z_range (ma_cons (me_op op_sub ok_sub (me_callB call_lenA ok_len (by rfl) T.z_len (by decide +kernel) (ma_cons (me_var (pv 2)) ma_nil)) (me_fld (cs := [0]) (i := 0) (me_var (pv 0)) T.fd_deep)) ma_nil)) (mg_name (i := 6) sc_Machine_read_on.nd rfl (by first | exact Or.inl rfl | exact Or.inr rfl)) (ms_cons (ms_asg (me_meth (tab := tab_step) (me_var (pv 0)) (t_tab_step T) (hr.mono (by decide)) (ma_cons (me_var (pv 1)) (ma_cons me_int ma_nil))) (mg_tup rfl (mgs_cons (mg_name (i := 7) sc_Machine_read_on.nd rfl (by first | exact Or.inl rfl | exact Or.inr rfl)) (mgs_cons (mg_name (i := 8) sc_Machine_read_on.nd rfl (by first | exact Or.inl rfl | exact Or.inr rfl)) mgs_nil))))
    (ms_cons (ms_set (i := 9) sc_Machine_read_on.nd rfl (by first | exact Or.inl rfl | exact Or.inr rfl) (me_callTy call_int1 ok_intT (by rfl) T.z_int (by decide +kernel) (ma_cons (me_cmp op_gt ok_gt (me_op op_addA ok_add (me_ix (me_ix (me_var (pv 3)) (me_op op_addA ok_add (me_var (pv 6)) me_int)) (me_var (pv 7))) (me_meth (tab := tab_unlike) (me_var (pv 0)) (t_tab_unlike T) (hr.mono (by decide)) (ma_cons (me_var (pv 8)) (ma_cons (me_ix (me_var (pv 2)) (me_var (pv 6))) ma_nil)))) (me_ix (me_ix (me_var (pv 3)) (me_var (pv 6))) (me_var (pv 1))) (nomark _)) ma_nil)))
    (ms_cons (ms_app (i := 5) (pv 5) (me_var (pv 9)) (fun h1 h2 => pe_bm PySem.F.plainAttrs_list PySem.F.slot_list_append PySem.F.type_list_append mt_append h1 h2))
    (ms_one (ms_set (i := 1) sc_Machine_read_on.nd rfl (by first | exact Or.inl rfl | exact Or.inr rfl) (me_ix (me_meth (tab := tab_step) (me_var (pv 0)) (t_tab_step T) (hr.mono (by decide)) (ma_cons (me_var (pv 1)) (ma_cons (me_var (pv 9)) ma_nil))) me_int)))))))
    (ms_one (ms_dem (i := 5) (ms_ret (me_tup (ma_cons (me_var (pv 4)) (ma_cons (me_var (pv 5)) ma_nil))))))))))
theorem w_Machine_dull_steps (T : Txt K mg A0 A1 A2 A3) : MeG P w K mg base (ctOf pu A0 A1 A2 A3) 4 0 "dull_steps" 2 m_Machine_dull_steps :=
  me_g (b := b_Machine_dull_steps) T.me_Machine_dull_steps T.cls_Machine (show _ ∉ fdt 0 by decide +kernel) rfl sc_Machine_dull_steps rfl rfl fun f cdv A outer s H E hr =>
    (ms_cons (ms_own (i := 2) sc_Machine_dull_steps.nd rfl (by first | exact Or.inl rfl | exact Or.inr rfl) (me_lst ma_nil))
    (ms_cons (ms_for rfl (mi_seq (me_tup (ma_cons me_int (ma_cons me_int ma_nil)))) (mg_name (i := 3) sc_Machine_dull_steps.nd rfl (by first | exact Or.inl rfl | exact Or.inr rfl)) (ms_cons (ms_asg (me_meth (tab := tab_step) (me_var (pv 0)) (t_tab_step T) (hr.mono (by decide)) (ma_cons (me_var (pv 1)) (ma_cons (me_var (pv 3)) ma_nil))) (mg_tup rfl (mgs_cons (mg_name (i := 4) sc_Machine_dull_steps.nd rfl (by first | exact Or.inl rfl | exact Or.inr rfl)) (mgs_cons (mg_name (i := 5) sc_Machine_dull_steps.nd rfl (by first | exact Or.inl rfl | exact Or.inr rfl)) mgs_nil))))
    (ms_one (ms_if (MW.mt (mw_and (mt_cmp (op_eqA hr.units) ok_eq (me_callB (cr_sum rfl) ok_sum (by rfl) T.z_sum (by decide +kernel) (ma_cons (me_var (pv 5)) ma_nil)) me_int (nomark _)) (mw_and1 (mt_cmp op_gt ok_gt (me_op op_addA ok_add (me_var (pv 4)) (me_var (pv 1))) me_int (nomark _))))) (ms_one (ms_app (i := 2) (pv 2) (me_var (pv 4)) (fun h1 h2 => pe_bm PySem.F.plainAttrs_list PySem.F.slot_list_append PySem.F.type_list_append mt_append h1 h2))) ms_nil))))
    (ms_one (ms_retV (pv 2)))))
theorem t_tab_dull_steps (T : Txt K mg A0 A1 A2 A3) : ∀ C m, tab_dull_steps C = some m → MeG P w K mg base (ctOf pu A0 A1 A2 A3) 4 C "dull_steps" 2 m := fun C m h => by
  unfold tab_dull_steps at h
  split at h
  · rename_i e; subst e; cases h; exact (w_Machine_dull_steps T).mono (by decide)
  cases h
theorem w_Machine_ring_from (T : Txt K mg A0 A1 A2 A3) : MeG P w K mg base (ctOf pu A0 A1 A2 A3) 5 0 "ring_from" 2 m_Machine_ring_from :=
  me_g (b := b_Machine_ring_from) T.me_Machine_ring_from T.cls_Machine (show _ ∉ fdt 0 by decide +kernel) rfl sc_Machine_ring_from rfl rfl fun f cdv A outer s H E hr =>
    (ms_cons (ms_own (i := 2) sc_Machine_ring_from.nd rfl (by first | exact Or.inl rfl | exact Or.inr rfl) me_dict0)
    (ms_cons (ms_own (i := 3) sc_Machine_ring_from.nd rfl (by first | exact Or.inl rfl | exact Or.inr rfl) (me_meth (tab := tab_dull_steps) (me_var (pv 0)) (t_tab_dull_steps T) (hr.mono (by decide)) (ma_cons (me_var (pv 1)) ma_nil)))
    (ms_cons (ms_forO (i := 3) rfl (pv 3) (mg_name (i := 4) sc_Machine_ring_from.nd rfl (by first | exact Or.inl rfl | exact Or.inr rfl)) (by decide) (ms0_dsub (i := 2) hr.units (pv 2) (me_var (pv 4)) (me_lst (ma_cons (me_var (pv 1)) ma_nil))))
    (ms_cons (ms_set (i := 5) sc_Machine_ring_from.nd rfl (by first | exact Or.inl rfl | exact Or.inr rfl) me_int)
    (ms_cons (ms_while (mt_cmp op_lt ok_lt (me_var (pv 5)) (me_callB call_lenA ok_len (by rfl) T.z_len (by decide +kernel) (ma_cons (me_var (pv 3)) ma_nil)) (nomark _)) (ms_cons (ms_set (i := 6) sc_Machine_ring_from.nd rfl (by first | exact Or.inl rfl | exact Or.inr rfl) (me_ix (me_var (pv 3)) (me_var (pv 5))))
    (ms_cons (ms_if (mt_cmp (op_eqA hr.units) ok_eq (me_var (pv 6)) (me_var (pv 1)) (nomark _)) (ms_one (ms_ret (me_dix hr.units (me_var (pv 2)) (me_var (pv 6))))) ms_nil)
    (ms_cons (ms_for rfl (mi_seq (me_meth (tab := tab_dull_steps) (me_var (pv 0)) (t_tab_dull_steps T) (hr.mono (by decide)) (ma_cons (me_var (pv 6)) ma_nil))) (mg_name (i := 4) sc_Machine_ring_from.nd rfl (by first | exact Or.inl rfl | exact Or.inr rfl)) (ms_one (ms_if (mt_dni hr.units (me_var (pv 4)) (me_var (pv 2))) (ms_cons (ms_dsub (i := 2) hr.units (pv 2) (me_var (pv 4)) (me_op op_addA ok_add (me_dix hr.units (me_var (pv 2)) (me_var (pv 6))) (me_lst (ma_cons (me_var (pv 6)) ma_nil))))
    (ms_one (ms_app (i := 3) (pv 3) (me_var (pv 4)) (fun h1 h2 => pe_bm PySem.F.plainAttrs_list PySem.F.slot_list_append PySem.F.type_list_append mt_append h1 h2)))) ms_nil)))
    (ms_one (ms_inc (i := 5) sc_Machine_ring_from.nd rfl (by first | exact Or.inl rfl | exact Or.inr rfl) me_int))))))
    (ms_one (ms_ret me_non)))))))
theorem t_tab_ring_from (T : Txt K mg A0 A1 A2 A3) : ∀ C m, tab_ring_from C = some m → MeG P w K mg base (ctOf pu A0 A1 A2 A3) 5 C "ring_from" 2 m := fun C m h => by
  unfold tab_ring_from at h
  split at h
  · rename_i e; subst e; cases h; exact (w_Machine_ring_from T).mono (by decide)
  cases h
theorem w_Machine_ring (T : Txt K mg A0 A1 A2 A3) : MeG P w K mg base (ctOf pu A0 A1 A2 A3) 6 0 "ring" 1 m_Machine_ring :=
  me_g (b := b_Machine_ring) T.me_Machine_ring T.cls_Machine (show _ ∉ fdt 0 by decide +kernel) rfl sc_Machine_ring rfl rfl fun f cdv A outer s H E hr =>
    (ms_cons (ms_for rfl (mi_range1 (by rfl) T.z_range (ma_cons (me_fld (cs := [0]) (i := 2) (me_var (pv 0)) T.fd_states) ma_nil)) (mg_name (i := 1) sc_Machine_ring.nd rfl (by first | exact Or.inl rfl | exact Or.inr rfl)) (ms_cons (ms_set (i := 2) sc_Machine_ring.nd rfl (by first | exact Or.inl rfl | exact Or.inr rfl) (me_meth (tab := tab_ring_from) (me_var (pv 0)) (t_tab_ring_from T) (hr.mono (by decide)) (ma_cons (me_var (pv 1)) ma_nil)))
    (ms_one (ms_if (mt_cmp op_notN ok_notN (me_var (pv 2)) me_non (nomark _)) (ms_one (ms_retV (pv 2))) ms_nil))))
    (ms_one (ms_ret me_non)))
theorem t_tab_ring (T : Txt K mg A0 A1 A2 A3) : ∀ C m, tab_ring C = some m → MeG P w K mg base (ctOf pu A0 A1 A2 A3) 6 C "ring" 1 m := fun C m h => by
  unfold tab_ring at h
  split at h
  · rename_i e; subst e; cases h; exact (w_Machine_ring T).mono (by decide)
  cases h
theorem t_tab_read_on (T : Txt K mg A0 A1 A2 A3) : ∀ C m, tab_read_on C = some m → MeG P w K mg base (ctOf pu A0 A1 A2 A3) 5 C "read_on" 3 m := fun C m h => by
  unfold tab_read_on at h
  split at h
  · rename_i e; subst e; cases h; exact (w_Machine_read_on T).mono (by decide)
  cases h
theorem w_Machine_lightest (T : Txt K mg A0 A1 A2 A3) : MeG P w K mg base (ctOf pu A0 A1 A2 A3) 7 0 "lightest" 1 m_Machine_lightest :=
  me_g (b := b_Machine_lightest) T.me_Machine_lightest T.cls_Machine (show _ ∉ fdt 0 by decide +kernel) rfl sc_Machine_lightest rfl rfl fun f cdv A outer s H E hr =>
    (ms_cons (ms_if (mt_cmp op_notN ok_notN (me_meth0 (tab := tab_ring) (me_var (pv 0)) (t_tab_ring T) (hr.mono (by decide))) me_non (nomark _)) (ms_one (ms_ret me_non)) ms_nil)
    (ms_cons (ms_set (i := 1) sc_Machine_lightest.nd rfl (by first | exact Or.inl rfl | exact Or.inr rfl) me_non)
    (ms_cons (ms_for rfl (mi_range1 (by rfl) T.z_range (ma_cons (me_fld (cs := [0]) (i := 2) (me_var (pv 0)) T.fd_states) ma_nil)) (mg_name (i := 2) sc_Machine_lightest.nd rfl (by first | exact Or.inl rfl | exact Or.inr rfl)) (ms_cons (ms_asg (me_meth (tab := tab_read_on) (me_var (pv 0)) (t_tab_read_on T) (hr.mono (by decide)) (ma_cons me_int (ma_cons (me_op op_mulA ok_mul (me_lst (ma_cons (me_op op_mulA ok_mul (me_lst (ma_cons me_int ma_nil)) (me_callB call_lenA ok_len (by rfl) T.z_len (by decide +kernel) (ma_cons (me_fld (cs := [0]) (i := 1) (me_var (pv 0)) T.fd_picks) ma_nil))) ma_nil)) (me_op op_addA ok_add (me_var (pv 2)) (me_fld (cs := [0]) (i := 0) (me_var (pv 0)) T.fd_deep))) ma_nil))) (mg_tup rfl (mgs_cons (mg_name (i := 3) sc_Machine_lightest.nd rfl (by first | exact Or.inl rfl | exact Or.inr rfl)) (mgs_cons (mg_name (i := 4) sc_Machine_lightest.nd rfl (by first | exact Or.inl rfl | exact Or.inr rfl)) mgs_nil))))
    (ms_cons (ms_set (i := 3) sc_Machine_lightest.nd rfl (by first | exact Or.inl rfl | exact Or.inr rfl) (me_op op_addA ok_add (me_var (pv 3)) (me_callB (cr_sum rfl) ok_sum (by rfl) T.z_sum (by decide +kernel) (ma_cons (me_ix (me_meth (tab := tab_step) (me_var (pv 0)) (t_tab_step T) (hr.mono (by decide)) (ma_cons me_int (ma_cons me_int ma_nil))) me_int) ma_nil))))
    (ms_one (ms_if (MW.mt (mw_or (mt_cmp op_isN ok_isN (me_var (pv 1)) me_non (nomark _)) (mw_or1 (mt_cmp op_lt ok_lt (me_var (pv 3)) (me_ix (me_var (pv 1)) me_int) (nomark _))))) (ms_one (ms_set (i := 1) sc_Machine_lightest.nd rfl (by first | exact Or.inl rfl | exact Or.inr rfl) (me_tup (ma_cons (me_var (pv 3)) (ma_cons (me_op op_addA ok_add (me_lst (ma_cons me_int ma_nil)) (me_var (pv 4))) ma_nil))))) ms_nil)))))
    (ms_one (ms_retV (pv 1))))))
theorem w_is_whole (T : Txt K mg A0 A1 A2 A3) : FnG P w K mg base (ctOf pu A0 A1 A2 A3) 1 "is_whole" 1 m_is_whole :=
  fn_g (b := b_is_whole) T.fn_is_whole sc_is_whole rfl rfl fun f cdv A outer s H E hr =>
    (ms_one (ms_ret (me_and (me_callB call_isi (ok_isi (g := isiInt) isi_int) (by rfl) T.z_isinstance (by decide +kernel) (ma_cons (me_var (pv 0)) (ma_cons (me_ty (by rfl) T.z_int (by decide +kernel)) ma_nil))) (me_one (me_not (me_callB call_isi (ok_isi (g := (isiOne "bool")) isi_bool) (by rfl) T.z_isinstance (by decide +kernel) (ma_cons (me_var (pv 0)) (ma_cons (me_ty (by rfl) T.z_bool (by decide +kernel)) ma_nil))))))))
theorem w_is_among (T : Txt K mg A0 A1 A2 A3) : FnG P w K mg base (ctOf pu A0 A1 A2 A3) 2 "is_among" 3 m_is_among :=
  fn_g (b := b_is_among) T.fn_is_among sc_is_among rfl rfl fun f cdv A outer s H E hr =>
    (ms_one (ms_ret (me_and (me_call (w_is_whole T) (hr.mono (by decide)) (by rfl) (ma_cons (me_var (pv 0)) ma_nil)) (me_one (me_chain op_le ok_le op_le ok_le (me_var (pv 1)) (me_var (pv 0)) (me_var (pv 2)))))))
theorem k_Machine (T : Txt K mg A0 A1 A2 A3) : MkG P w K mg base (ctOf false A0 A1 A2 A3) 3 0 "Machine" 3 m_Machine___init__ :=
  mk_g (b := b_Machine___init__) T.mk_Machine rfl sc_Machine___init__ rfl rfl fun f cdv A outer s H E hr =>
    (ms_cons (ms_if (mt_not (mt_val (me_call (w_is_among T) (hr.mono (by decide)) (by rfl) (ma_cons (me_var (pv 1)) (ma_cons me_int (ma_cons (me_gint (by rfl) T.g_MOST_MEMORY) ma_nil)))))) (ms_one (ms_raise rfl T.ra_BadMachine (by rfl))) ms_nil)
    (ms_cons (ms_if (MW.mt (mw_or (mt_not (mt_val (me_callB call_isi (ok_isi (g := (isiOne "list")) isi_list) (by rfl) T.z_isinstance (by decide +kernel) (ma_cons (me_var (pv 2)) (ma_cons (me_ty (by rfl) T.z_list (by decide +kernel)) ma_nil))))) (mw_or1 (mt_not (mt_chain op_le ok_le op_le ok_le (me_gint (by rfl) T.g_LEAST_TAPS) (me_callB call_lenA ok_len (by rfl) T.z_len (by decide +kernel) (ma_cons (me_var (pv 2)) ma_nil)) (me_gint (by rfl) T.g_MOST_TAPS)))))) (ms_one (ms_raise rfl T.ra_BadMachine (by rfl))) ms_nil)
    (ms_cons (ms_if (mt_not (mt_val (me_callB (cr_all rfl) ok_all (by rfl) T.z_all (by decide +kernel) (ma_cons (me_lc rfl sc_Machine___init__.nd (MLc.mk (own := [("tap", 3)]) (mi_seq (me_var (pv 2))) (blkOk_by (N := ["self", "memory", "taps", "tap"]) (sc := defScope (inClass (topS 16) 0)) (own := [("tap", 3)]) (by decide +kernel)) ⟨[3], by decide, fun _ _ _ _ _ => (mg_name (i := 3) sc_Machine___init__.nd rfl (by first | exact Or.inl rfl | exact Or.inr rfl))⟩ (fun _ _ _ _ _ _ => pts_nilM) (fun _ _ _ _ _ => (me_call (w_is_among T) (hr.mono (by decide)) (by rfl) (ma_cons (me_var (pv 3)) (ma_cons me_int (ma_cons (me_op op_sub ok_sub (me_op op_shl ok_shl me_int (me_op op_addA ok_add (me_var (pv 1)) me_int)) me_int) ma_nil))))))) ma_nil)))) (ms_one (ms_raise rfl T.ra_BadMachine (by rfl))) ms_nil)
    (ms_cons (ms_at (cs := [0]) (i := 0) (me_var (pv 0)) (me_var (pv 1)) T.fa_deep)
    (ms_cons (ms_at (cs := [0]) (i := 1) (me_var (pv 0)) (me_frz (me_callTy call_list_of ok_list (by rfl) T.z_list (by decide +kernel) (ma_cons (me_var (pv 2)) ma_nil))) T.fa_picks)
    (ms_one (ms_at (cs := [0]) (i := 2) (me_var (pv 0)) (me_op op_shl ok_shl me_int (me_var (pv 1))) T.fa_states)))))))
theorem t_tab_lightest (T : Txt K mg A0 A1 A2 A3) : ∀ C m, tab_lightest C = some m → MeG P w K mg base (ctOf pu A0 A1 A2 A3) 7 C "lightest" 1 m := fun C m h => by
  unfold tab_lightest at h
  split at h
  · rename_i e; subst e; cases h; exact (w_Machine_lightest T).mono (by decide)
  cases h
theorem law_ok (T : Txt K mg A0 A1 A2 A3) {fa : Addr} (hfa : mg "law" = some (.ref fa)) (math : ∀ ns : List Int, ns.length ≤ 63 → ∃ S f, m_law [(.c, .frz (ns.map D.int))] [] = .ok (.bl true, f) S) :
    ∃ fd : FuncData, (∀ (s : Shared) (u : Value), BindsTo s fd ⟨[u], []⟩ [("script", u)]) ∧ ∀ base : Heap, K.In base → base.Ns mainGlobals mg → FnOk P w K mg base (L2.CX P w) 8 fa fd ["script"] (spLaw K) :=
  law_end (ct := (ctOf false A0 A1 A2 A3)) (m := b_law) T.fn_law hfa sc_law rfl (fun base f cdv A outer s H E hr =>
    (ms_cons (ms_for rfl (mi_range1 (by rfl) T.z_range (ma_cons me_int ma_nil)) (mg_name (i := 1) sc_law.nd rfl (by first | exact Or.inl rfl | exact Or.inr rfl)) (ms_cons (ms_asg (me_call (w__law_own T) (hr.mono (by decide)) (by rfl) (ma_cons (me_var (pv 0)) (ma_cons (me_op op_mulA ok_mul me_int (me_var (pv 1))) ma_nil))) (mg_tup rfl (mgs_cons (mg_name (i := 2) sc_law.nd rfl (by first | exact Or.inl rfl | exact Or.inr rfl)) (mgs_cons (mg_name (i := 3) sc_law.nd rfl (by first | exact Or.inl rfl | exact Or.inr rfl)) mgs_nil))))
    (ms_cons (ms_set (i := 4) sc_law.nd rfl (by first | exact Or.inl rfl | exact Or.inr rfl) (me_new (C := 0) (k_Machine T) (hr.mono (by decide)) (by rfl) (ma_cons (me_var (pv 2)) (ma_cons (me_var (pv 3)) ma_nil))))
    (mss_deep (i := 5) sc_law.nd rfl (by first | exact Or.inl rfl | exact Or.inr rfl) (med_meth0 (tab := tab_ring) (me_var (pv 4)) (t_tab_ring (pu := true) T) (hr.mono (by decide)))
    (mss_deep (i := 6) sc_law.nd rfl (by first | exact Or.inl rfl | exact Or.inr rfl) (med_meth0 (tab := tab_lightest) (me_var (pv 4)) (t_tab_lightest (pu := true) T) (hr.mono (by decide)))
    (ms_one (ms_if (mt_val (me_call (w__law_is_dull T) (hr.mono (by decide)) (by rfl) (ma_cons (me_var (pv 2)) (ma_cons (me_var (pv 3)) ma_nil)))) (ms_cons (ms_if (MW.mt (mw_or (mt_not (mt_val (me_callP (w__law_is_ring T) (hr.mono (by decide)) (by rfl) (ma_cons (me_var (pv 2)) (ma_cons (me_var (pv 3)) (ma_cons (me_varD (pv 5)) ma_nil)))))) (mw_or1 (mt_cmp op_notN ok_notN (me_varD (pv 6)) me_non (nomark _))))) (ms_one (ms_ret me_bl)) ms_nil)
    (ms_cons (ms_set (i := 7) sc_law.nd rfl (by first | exact Or.inl rfl | exact Or.inr rfl) (me_callTy call_list_of ok_listG (by rfl) T.z_list (by decide +kernel) (ma_cons (me_varD (pv 5)) ma_nil)))
    (ms_cons (ms_ap0 (i := 5) (pv 5) me_int (fun h1 h2 => pe_bm PySem.F.plainAttrs_list PySem.F.slot_list_append PySem.F.type_list_append mt_append h1 h2))
    (ms_one (ms_if (mt_cmp (op_neA hr.units) ok_ne (me_meth0 (tab := tab_ring) (me_var (pv 4)) (t_tab_ring T) (hr.mono (by decide))) (me_var (pv 7)) (nomark _)) (ms_one (ms_ret me_bl)) ms_nil))))) (ms_one (ms_if (mt_cmp op_notN ok_notN (me_varD (pv 5)) me_non (nomark _)) (ms_one (ms_ret me_bl)) (ms_cons (ms_set (i := 8) sc_law.nd rfl (by first | exact Or.inl rfl | exact Or.inr rfl) (me_call (w__law_lightest T) (hr.mono (by decide)) (by rfl) (ma_cons (me_var (pv 2)) (ma_cons (me_var (pv 3)) ma_nil))))
    (ms_cons (ms_if (MW.mt (mw_or (mt_not (mt_val (me_callB call_isi (ok_isi (g := (isiOne "tuple")) isi_tuple) (by rfl) T.z_isinstance (by decide +kernel) (ma_cons (me_varD (pv 6)) (ma_cons (me_ty (by rfl) T.z_tuple (by decide +kernel)) ma_nil))))) (mw_or (mt_cmp (op_neA hr.units) ok_ne (me_varD (pv 6)) (me_var (pv 8)) (nomark _)) (mw_or1 (mt_not (mt_val (me_call (w__law_whole T) (hr.mono (by decide)) (by rfl) (ma_cons (me_ixD (pv 6) me_int) ma_nil)))))))) (ms_one (ms_ret me_bl)) ms_nil)
    (ms_cons (ms_if (mt_not (mt_val (me_call (w__law_is T) (hr.mono (by decide)) (by rfl) (ma_cons (me_ixD (pv 6) me_int) (ma_cons (me_ix (me_var (pv 8)) me_int) ma_nil))))) (ms_one (ms_ret me_bl)) ms_nil)
    (ms_cons (ms_apD (i := 6) (pv 6) me_int me_int (fun h1 h2 => pe_bm PySem.F.plainAttrs_list PySem.F.slot_list_append PySem.F.type_list_append mt_append h1 h2))
    (ms_one (ms_if (mt_cmp (op_neA hr.units) ok_ne (me_meth0 (tab := tab_lightest) (me_var (pv 4)) (t_tab_lightest T) (hr.mono (by decide))) (me_var (pv 8)) (nomark _)) (ms_one (ms_ret me_bl)) ms_nil)))))))))))))))
    (ms_one (ms_ret me_bl)))) math
end
end Wlk

open PySem PySem.W PyProof.Rows
set_option maxRecDepth 100000 in
set_option maxHeartbeats 0 in
theorem PySem.Challenge.cw_codewright_k32_dull_machines_and_lightes_holds : PySem.Challenge.rw_codewright_k32_dull_machines_and_lightes.Holds := by
  w_on; o_law; k_head; (case hw => w_witness2)
  k_fill
  refine Mv.law_walk (k := 8) (l := PySem.Challenge.rw_codewright_k32_dull_machines_and_lightes) rfl rfl ⟨rfl, by decide, by decide⟩ (fun w h Y => PySem.W.kIn_of Y) ?F
  case F =>
    intro w mg fa h KX G hmg
    refine' Wlk.law_ok (Wlk.Txt.mk (K := _) (mg := mg) (A1 := 0) (A2 := 0) (Mv.FunO.mk' KX G ?a_fn__law_whole ?l_fn__law_whole ?c_fn__law_whole ?k_fn__law_whole fun _ _ _ _ _ _ us hl => match us, hl with | [_], _ => rfl) (Mv.FunO.mk' KX G ?a_fn__law_is ?l_fn__law_is ?c_fn__law_is ?k_fn__law_is fun _ _ _ _ _ _ us hl => match us, hl with | [_, _], _ => rfl) (Mv.FunO.mk' KX G ?a_fn__law_step ?l_fn__law_step ?c_fn__law_step ?k_fn__law_step fun _ _ _ _ _ _ us hl => match us, hl with | [_, _, _, _], _ => rfl) (Mv.FunO.mk' KX G ?a_fn__law_steps ?l_fn__law_steps ?c_fn__law_steps ?k_fn__law_steps fun _ _ _ _ _ _ us hl => match us, hl with | [_, _, _], _ => rfl) (Mv.FunO.mk' KX G ?a_fn__law_is_dull ?l_fn__law_is_dull ?c_fn__law_is_dull ?k_fn__law_is_dull fun _ _ _ _ _ _ us hl => match us, hl with | [_, _], _ => rfl) (Mv.FunO.mk' KX G ?a_fn__law_is_ring ?l_fn__law_is_ring ?c_fn__law_is_ring ?k_fn__law_is_ring fun _ _ _ _ _ _ us hl => match us, hl with | [_, _, _], _ => rfl) (Mv.FunO.mk' KX G ?a_fn__law_tail ?l_fn__law_tail ?c_fn__law_tail ?k_fn__law_tail fun _ _ _ _ _ _ us hl => match us, hl with | [_, _, _], _ => rfl) (Mv.FunO.mk' KX G ?a_fn__law_lightest ?l_fn__law_lightest ?c_fn__law_lightest ?k_fn__law_lightest fun _ _ _ _ _ _ us hl => match us, hl with | [_, _], _ => rfl) (Mv.FunO.mk' KX G ?a_fn__law_draw ?l_fn__law_draw ?c_fn__law_draw ?k_fn__law_draw fun _ _ _ _ _ _ us hl => match us, hl with | [_, _], _ => rfl) (Mv.FunO.mk' KX G ?a_fn__law_machine ?l_fn__law_machine ?c_fn__law_machine ?k_fn__law_machine fun _ _ _ _ _ _ us hl => match us, hl with | [_, _], _ => rfl) (Mv.FunO.mk' KX G ?a_fn__law_own ?l_fn__law_own ?c_fn__law_own ?k_fn__law_own fun _ _ _ _ _ _ us hl => match us, hl with | [_, _], _ => rfl) (Mv.FunO.mk' KX G ?a_fn_weight ?l_fn_weight ?c_fn_weight ?k_fn_weight fun _ _ _ _ _ _ us hl => match us, hl with | [_], _ => rfl) (Mv.FunO.mk' KX G ?a_fn_is_odd ?l_fn_is_odd ?c_fn_is_odd ?k_fn_is_odd fun _ _ _ _ _ _ us hl => match us, hl with | [_], _ => rfl) (Mv.FunO.mk' KX G ?a_fn_lesser ?l_fn_lesser ?c_fn_lesser ?k_fn_lesser fun _ _ _ _ _ _ us hl => match us, hl with | [_, _], _ => rfl) (Mv.FunO.mk' KX G ?a_fn_is_whole ?l_fn_is_whole ?c_fn_is_whole ?k_fn_is_whole fun _ _ _ _ _ _ us hl => match us, hl with | [_], _ => rfl) (Mv.FunO.mk' KX G ?a_fn_is_among ?l_fn_is_among ?c_fn_is_among ?k_fn_is_among fun _ _ _ _ _ _ us hl => match us, hl with | [_, _, _], _ => rfl) (Mv.FunO.mk' KX G ?a_fn_law ?l_fn_law ?c_fn_law ?k_fn_law fun _ _ _ _ _ _ us hl => match us, hl with | [_], _ => rfl) ⟨?p_cls_Machine, ?h_cls_Machine, ?o_cls_Machine, ?s_cls_Machine⟩ (Mv.MeO.mk' ?a_me_Machine_bits_at ?i_me_Machine_bits_at ?l_me_Machine_bits_at ?c_me_Machine_bits_at ?k_me_Machine_bits_at fun _ _ _ _ _ _ us hl => match us, hl with | [_, _, _], _ => rfl) (Mv.MeO.mk' ?a_me_Machine_dull_steps ?i_me_Machine_dull_steps ?l_me_Machine_dull_steps ?c_me_Machine_dull_steps ?k_me_Machine_dull_steps fun _ _ _ _ _ _ us hl => match us, hl with | [_, _], _ => rfl) (Mv.MeO.mk' ?a_me_Machine_lightest ?i_me_Machine_lightest ?l_me_Machine_lightest ?c_me_Machine_lightest ?k_me_Machine_lightest fun _ _ _ _ _ _ us hl => match us, hl with | [_], _ => rfl) (Mv.MeO.mk' ?a_me_Machine_read_on ?i_me_Machine_read_on ?l_me_Machine_read_on ?c_me_Machine_read_on ?k_me_Machine_read_on fun _ _ _ _ _ _ us hl => match us, hl with | [_, _, _], _ => rfl) (Mv.MeO.mk' ?a_me_Machine_ring ?i_me_Machine_ring ?l_me_Machine_ring ?c_me_Machine_ring ?k_me_Machine_ring fun _ _ _ _ _ _ us hl => match us, hl with | [_], _ => rfl) (Mv.MeO.mk' ?a_me_Machine_ring_from ?i_me_Machine_ring_from ?l_me_Machine_ring_from ?c_me_Machine_ring_from ?k_me_Machine_ring_from fun _ _ _ _ _ _ us hl => match us, hl with | [_, _], _ => rfl) (Mv.MeO.mk' ?a_me_Machine_step ?i_me_Machine_step ?l_me_Machine_step ?c_me_Machine_step ?k_me_Machine_step fun _ _ _ _ _ _ us hl => match us, hl with | [_, _, _], _ => rfl) (Mv.MeO.mk' ?a_me_Machine_unlike ?i_me_Machine_unlike ?l_me_Machine_unlike ?c_me_Machine_unlike ?k_me_Machine_unlike fun _ _ _ _ _ _ us hl => match us, hl with | [_, _, _], _ => rfl) (Mv.MeO.mk' ?a_me_Machine_ways_on ?i_me_Machine_ways_on ?l_me_Machine_ways_on ?c_me_Machine_ways_on ?k_me_Machine_ways_on fun _ _ _ _ _ _ us hl => match us, hl with | [_, _], _ => rfl) (Mv.MkO.mk' KX G ?A_mk_Machine ?m_mk_Machine ?K_mk_Machine ?a_mk_Machine ?i_mk_Machine ?l_mk_Machine ?c_mk_Machine ?k_mk_Machine fun _ _ _ _ _ _ us hl => match us, hl with | [_, _, _], _ => rfl) ?n_na_Machine_deep ?n_na_Machine_picks ?n_na_Machine_states (Mv.ex_int (PySem.W.mg_of KX G ?v_g_MOST_MEMORY)) (Mv.ex_int (PySem.W.mg_of KX G ?v_g_LEAST_TAPS)) (Mv.ex_int (PySem.W.mg_of KX G ?v_g_MOST_TAPS)) (PySem.W.mg_none_of KX G ?z_z_all) (PySem.W.mg_none_of KX G ?z_z_bool) (PySem.W.mg_none_of KX G ?z_z_int) (PySem.W.mg_none_of KX G ?z_z_isinstance) (PySem.W.mg_none_of KX G ?z_z_len) (PySem.W.mg_none_of KX G ?z_z_list) (PySem.W.mg_none_of KX G ?z_z_max) (PySem.W.mg_none_of KX G ?z_z_min) (PySem.W.mg_none_of KX G ?z_z_range) (PySem.W.mg_none_of KX G ?z_z_reversed) (PySem.W.mg_none_of KX G ?z_z_set) (PySem.W.mg_none_of KX G ?z_z_sorted) (PySem.W.mg_none_of KX G ?z_z_sum) (PySem.W.mg_none_of KX G ?z_z_tuple) (PySem.W.mg_none_of KX G ?z_z_zip) ⟨?e_ra_BadMachine, PySem.W.mg_of KX G ?g_ra_BadMachine, ?k_ra_BadMachine, ?s_ra_BadMachine, ?t_ra_BadMachine⟩) hmg Fin.math
    (case A_mk_Machine => k_is)
    (case g_ra_BadMachine => k_is)
    (case a_fn__law_whole => k_is)
    (case l_fn__law_whole => k_is)
    (case c_fn__law_whole => k_is)
    (case k_fn__law_whole => k_is)
    (case a_fn__law_is => k_is)
    (case l_fn__law_is => k_is)
    (case c_fn__law_is => k_is)
    (case k_fn__law_is => k_is)
    (case a_fn__law_step => k_is)
    (case l_fn__law_step => k_is)
    (case c_fn__law_step => k_is)
    (case k_fn__law_step => k_is)
    (case a_fn__law_steps => k_is)
    (case l_fn__law_steps => k_is)
    (case c_fn__law_steps => k_is)
    (case k_fn__law_steps => k_is)
    (case a_fn__law_is_dull => k_is)
    (case l_fn__law_is_dull => k_is)
    (case c_fn__law_is_dull => k_is)
    (case k_fn__law_is_dull => k_is)
    (case a_fn__law_is_ring => k_is)
    (case l_fn__law_is_ring => k_is)
    (case c_fn__law_is_ring => k_is)
    (case k_fn__law_is_ring => k_is)
    (case a_fn__law_tail => k_is)
    (case l_fn__law_tail => k_is)
    (case c_fn__law_tail => k_is)
    (case k_fn__law_tail => k_is)
    (case a_fn__law_lightest => k_is)
    (case l_fn__law_lightest => k_is)
    (case c_fn__law_lightest => k_is)
    (case k_fn__law_lightest => k_is)
    (case a_fn__law_draw => k_is)
    (case l_fn__law_draw => k_is)
    (case c_fn__law_draw => k_is)
    (case k_fn__law_draw => k_is)
    (case a_fn__law_machine => k_is)
    (case l_fn__law_machine => k_is)
    (case c_fn__law_machine => k_is)
    (case k_fn__law_machine => k_is)
    (case a_fn__law_own => k_is)
    (case l_fn__law_own => k_is)
    (case c_fn__law_own => k_is)
    (case k_fn__law_own => k_is)
    (case a_fn_weight => k_is)
    (case l_fn_weight => k_is)
    (case c_fn_weight => k_is)
    (case k_fn_weight => k_is)
    (case a_fn_is_odd => k_is)
    (case l_fn_is_odd => k_is)
    (case c_fn_is_odd => k_is)
    (case k_fn_is_odd => k_is)
    (case a_fn_lesser => k_is)
    (case l_fn_lesser => k_is)
    (case c_fn_lesser => k_is)
    (case k_fn_lesser => k_is)
    (case a_fn_is_whole => k_is)
    (case l_fn_is_whole => k_is)
    (case c_fn_is_whole => k_is)
    (case k_fn_is_whole => k_is)
    (case a_fn_is_among => k_is)
    (case l_fn_is_among => k_is)
    (case c_fn_is_among => k_is)
    (case k_fn_is_among => k_is)
    (case a_fn_law => k_is)
    (case l_fn_law => k_is)
    (case c_fn_law => k_is)
    (case k_fn_law => k_is)
    (case p_cls_Machine => k_is)
    (case h_cls_Machine => k_is)
    (case o_cls_Machine => k_is)
    (case s_cls_Machine => k_is)
    (case a_me_Machine_bits_at => k_is)
    (case i_me_Machine_bits_at => k_is)
    (case l_me_Machine_bits_at => k_is)
    (case c_me_Machine_bits_at => k_is)
    (case k_me_Machine_bits_at => k_is)
    (case a_me_Machine_dull_steps => k_is)
    (case i_me_Machine_dull_steps => k_is)
    (case l_me_Machine_dull_steps => k_is)
    (case c_me_Machine_dull_steps => k_is)
    (case k_me_Machine_dull_steps => k_is)
    (case a_me_Machine_lightest => k_is)
    (case i_me_Machine_lightest => k_is)
    (case l_me_Machine_lightest => k_is)
    (case c_me_Machine_lightest => k_is)
    (case k_me_Machine_lightest => k_is)
    (case a_me_Machine_read_on => k_is)
    (case i_me_Machine_read_on => k_is)
    (case l_me_Machine_read_on => k_is)
    (case c_me_Machine_read_on => k_is)
    (case k_me_Machine_read_on => k_is)
    (case a_me_Machine_ring => k_is)
    (case i_me_Machine_ring => k_is)
    (case l_me_Machine_ring => k_is)
    (case c_me_Machine_ring => k_is)
    (case k_me_Machine_ring => k_is)
    (case a_me_Machine_ring_from => k_is)
    (case i_me_Machine_ring_from => k_is)
    (case l_me_Machine_ring_from => k_is)
    (case c_me_Machine_ring_from => k_is)
    (case k_me_Machine_ring_from => k_is)
    (case a_me_Machine_step => k_is)
    (case i_me_Machine_step => k_is)
    (case l_me_Machine_step => k_is)
    (case c_me_Machine_step => k_is)
    (case k_me_Machine_step => k_is)
    (case a_me_Machine_unlike => k_is)
    (case i_me_Machine_unlike => k_is)
    (case l_me_Machine_unlike => k_is)
    (case c_me_Machine_unlike => k_is)
    (case k_me_Machine_unlike => k_is)
    (case a_me_Machine_ways_on => k_is)
    (case i_me_Machine_ways_on => k_is)
    (case l_me_Machine_ways_on => k_is)
    (case c_me_Machine_ways_on => k_is)
    (case k_me_Machine_ways_on => k_is)
    (case m_mk_Machine => k_is)
    (case K_mk_Machine => k_is)
    (case a_mk_Machine => k_is)
    (case i_mk_Machine => k_is)
    (case l_mk_Machine => k_is)
    (case c_mk_Machine => k_is)
    (case k_mk_Machine => k_is)
    (case n_na_Machine_deep => show PySem.W.findIn _ _ _ = _; k_is)
    (case n_na_Machine_picks => show PySem.W.findIn _ _ _ = _; k_is)
    (case n_na_Machine_states => show PySem.W.findIn _ _ _ = _; k_is)
    (case v_g_MOST_MEMORY => k_is)
    (case v_g_LEAST_TAPS => k_is)
    (case v_g_MOST_TAPS => k_is)
    (case z_z_all => k_is)
    (case z_z_bool => k_is)
    (case z_z_int => k_is)
    (case z_z_isinstance => k_is)
    (case z_z_len => k_is)
    (case z_z_list => k_is)
    (case z_z_max => k_is)
    (case z_z_min => k_is)
    (case z_z_range => k_is)
    (case z_z_reversed => k_is)
    (case z_z_set => k_is)
    (case z_z_sorted => k_is)
    (case z_z_sum => k_is)
    (case z_z_tuple => k_is)
    (case z_z_zip => k_is)
    (case e_ra_BadMachine => k_exc)
    (case k_ra_BadMachine => k_is)
    (case s_ra_BadMachine => k_is)
    (case t_ra_BadMachine => k_is)
