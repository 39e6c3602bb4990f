import PyProof.Rows.All
import Wide.All
import OpenK.AllK
import Wide.FinOn
import HandS.ForMost
import HandS.ForExc
import HandS.Walk
import HandS.Lambda
import HandS.EndTab
import HandS.CallSlots
import HandS.RevRange
import HandS.SortInts
import HandS.Wide
import HandS.Style
import HandS.IsInst
import HandS.ExcIs
import HandS.ExcOwn
import HandS.ExcValue
import HandS.TryOnly
import HandS.Conv
import HandS.Small
import HandS.DictComp
import HandS.NoneIn
import HandS.SortRule
import HandS.Iter
import PyProof.MinMaxWalk
import PyProof.WalkInts
import HandS.DeepEq
import HandS.Dict
import HandS.TupAny
import HandS.SetFor
import HandS.Strs
import KE.LtData
import HandS.Zip
import KE.SortData
import KE.BitLaws
import HandS.Text
import PySem.Challenge.RW_codewright_k01_forms_by_rows_of_bits
set_option Elab.async false
set_option linter.all false
set_option maxRecDepth 100000
set_option maxHeartbeats 4000000
set_option maxRecDepth 100000
/-! Mv: program values as plain data over the hand layer -/
namespace Mv
open PySem PySem.Spec PyProof.Rows L2

/-- plain data: what a value says, without addresses; ins n: the n-th instance of the store -/
inductive D where
  | non | bl (b : Bool) | int (i : Int) | str (z : Str)
  | lst (xs : List D) | tup (xs : List D) | dic (ks : List Key) (xs : List D) | frz (xs : List D)
  | ins (n : Nat) | cst (v : V)

/-- flags of a value: clean, new, on top lent, on top one's own, tainted -/
inductive Fl where
  | c | n | b | o | t
  deriving DecidableEq

inductive Slot where
  | no | ar (f : Fl) (d : D) | own (d : D) | deep (b : Nat) (d : D)

abbrev Env := List Slot
/-- the store: each instance's class number and fields -/
abbrev Store := List (Nat × List D)
/-- the classes: where each stands, its fields in order -/
structure CT where
  ad : Nat → Addr
  fd : Nat → List Str
  ex : Nat → Bool := fun _ => false
  tb : List (Addr × Str) := []
  pu : Bool := false
  pn : List (Addr × HO) := []

def ct0 : CT := { ad := fun _ => 0, fd := fun _ => [] }

inductive Rs (α : Type) where
  | ok (a : α) (S : Store) | er (c : Nat) (p : List D) (S : Store) | no
def Rs.bind {α β : Type} (r : Rs α) (k : α → Store → Rs β) : Rs β :=
  match r with
  | .ok a S => k a S
  | .er c p S => .er c p S
  | .no => .no

abbrev EM := Env → Store → Rs (D × Fl)
abbrev TM := Env → Store → Rs Bool
abbrev AM := Env → Store → Rs (List (Fl × D))

inductive SR where
  | nx (r : Env) (S : Store) | rt (d : D) (f : Fl) (S : Store) | bk (r : Env) (S : Store) | ct (r : Env) (S : Store)
  | er (c : Nat) (p : List D) (r : Env) (S : Store) | no
abbrev SM := Env → Store → SR

/-! ### what a value stands for -/
def ConL (K : PySem.W.Frag) (a : Addr) (xs : List V) : Prop :=
  ∃ (o : Obj) (its : Array Value) (n : Nat), K.lookup a = some o ∧ o.cls = .type "list" ∧ o.dict = none ∧ o.data = .seq its n ∧ its.size ≤ sizeLine ∧ Vals xs its.toList
def SqM (K : PySem.W.Frag) (M : Addr → Prop) (H : Hp) (a : Addr) (xs : List V) : Prop := (Rd H a (.lst xs) ∧ ¬ M a) ∨ ConL K a xs
theorem SqM.sq {K : PySem.W.Frag} {M : Addr → Prop} {H : Hp} {a : Addr} {xs : List V} (h : SqM K M H a xs) : SqL K H a xs := by
  rcases h with h | h
  · exact .inl h.1
  · exact .inr h

mutual
inductive Rep (K : PySem.W.Frag) (M : Addr → Prop) (io : List Addr) (H : Hp) : D → V → Prop
  | non : Rep K M io H .non .non
  | bl (b : Bool) : Rep K M io H (.bl b) (.bl b)
  | int (i : Int) : Rep K M io H (.int i) (.int i)
  | str (z : Str) : Rep K M io H (.str z) (.str z)
  | lst {a : Addr} {vs : List V} {xs : List D} : H a = some (.lst vs) → ¬ M a → Reps K M io H xs vs → Rep K M io H (.lst xs) (.ref a)
  | frz {a : Addr} {vs : List V} {xs : List D} : SqM K M H a vs → Reps K M io H xs vs → Rep K M io H (.frz xs) (.ref a)
  | tup {a : Addr} {vs : List V} {xs : List D} : SqT K H a vs → Reps K M io H xs vs → Rep K M io H (.tup xs) (.ref a)
  | dic {a : Addr} {kvs : List (Key × V)} {ks : List Key} {xs : List D} : H a = some (.dK kvs) → ¬ M a → kvs.map Prod.fst = ks → Reps K M io H xs (kvs.map Prod.snd) → Rep K M io H (.dic ks xs) (.ref a)
  | ins {n : Nat} {a : Addr} : io[n]? = some a → Rep K M io H (.ins n) (.ref a)
  | cst {v : V} : Rep K M io H (.cst v) v
inductive Reps (K : PySem.W.Frag) (M : Addr → Prop) (io : List Addr) (H : Hp) : List D → List V → Prop
  | nil : Reps K M io H [] []
  | cons {d : D} {ds : List D} {v : V} {vs : List V} : Rep K M io H d v → Reps K M io H ds vs → Reps K M io H (d :: ds) (v :: vs)
end

/-- no instance, no table -/
def NI (o : HO) : Prop := (∀ C dx fs, o ≠ .ins C dx fs) ∧ ∀ ps, o ≠ .tbl ps
theorem NI.lst {xs : List V} : NI (.lst xs) := ⟨fun _ _ _ h => by (cases h), fun _ h => by (cases h)⟩
theorem NI.tup {xs : List V} : NI (.tup xs) := ⟨fun _ _ _ h => by (cases h), fun _ h => by (cases h)⟩
theorem NI.dK {xs : List (Key × V)} : NI (.dK xs) := ⟨fun _ _ _ h => by (cases h), fun _ h => by (cases h)⟩
theorem NI.frz {o : Obj} {u : HO} : NI (.frz o u) := ⟨fun _ _ _ h => by (cases h), fun _ h => by (cases h)⟩
theorem NI.own {a : Addr} : NI (.own a) := ⟨fun _ _ _ h => by (cases h), fun _ h => by (cases h)⟩
theorem NI.ext {φ : Heap → Prop} : NI (.ext φ) := ⟨fun _ _ _ h => by (cases h), fun _ h => by (cases h)⟩
theorem NI.xd {fs : List (Str × V)} : NI (.xd fs) := ⟨fun _ _ _ h => by (cases h), fun _ h => by (cases h)⟩
/-- what never changes -/
def Im (o : HO) : Prop := (∃ xs, o = .tup xs) ∨ (∃ ob xs, o = .frz ob (.tup xs)) ∨ (∃ φ, o = .ext φ) ∨ ∃ fs, o = .xd fs
theorem not_im_lst {xs : List V} : ¬ Im (.lst xs) := fun h => by rcases h with ⟨_, h⟩ | ⟨_, _, h⟩ | ⟨_, h⟩ | ⟨_, h⟩ <;> cases h
theorem not_im_dK {xs : List (Key × V)} : ¬ Im (.dK xs) := fun h => by rcases h with ⟨_, h⟩ | ⟨_, _, h⟩ | ⟨_, h⟩ | ⟨_, h⟩ <;> cases h
/-- what is not own (or never changes) stays -/
def Kp (M : Addr → Prop) (H H' : Hp) : Prop := ∀ a o, H a = some o → NI o → (¬ M a ∨ Im o) → H' a = some o
section
variable {K : PySem.W.Frag} {M M' : Addr → Prop} {io io' : List Addr} {H H' : Hp} {a : Addr}
theorem SqM.mono {xs : List V} (k : Kp M H H') (m : ∀ a, (∃ o, H a = some o) → ¬ M a → ¬ M' a) (h : SqM K M H a xs) : SqM K M' H' a xs := by
  rcases h with ⟨h | ⟨o, h⟩, n⟩ | h
  · exact .inl ⟨.inl (k _ _ h NI.lst (.inl n)), m a ⟨_, h⟩ n⟩
  · exact .inl ⟨.inr ⟨o, k _ _ h NI.frz (.inl n)⟩, m a ⟨_, h⟩ n⟩
  · exact .inr h
theorem SqT.mono {xs : List V} (k : Kp M H H') (h : SqT K H a xs) : SqT K H' a xs := by
  rcases h with (h | ⟨o, h⟩) | h
  · exact .inl (.inl (k _ _ h NI.tup (.inr (.inl ⟨xs, rfl⟩))))
  · exact .inl (.inr ⟨o, k _ _ h NI.frz (.inr (.inr (.inl ⟨o, xs, rfl⟩)))⟩)
  · exact .inr h
theorem io_get {n : Nat} (p : ∃ l, io' = io ++ l) (h : io[n]? = some a) : io'[n]? = some a := by
  obtain ⟨l, rfl⟩ := p
  rw [List.getElem?_append_left (List.getElem?_eq_some_iff.mp h).1]
  exact h
mutual
theorem Rep.mono (k : Kp M H H') (m : ∀ a, (∃ o, H a = some o) → ¬ M a → ¬ M' a) (p : ∃ l, io' = io ++ l) : ∀ {d : D} {v : V}, Rep K M io H d v → Rep K M' io' H' d v
  | _, _, .non => .non
  | _, _, .bl b => .bl b
  | _, _, .int i => .int i
  | _, _, .str z => .str z
  | _, _, .lst h n r => .lst (k _ _ h NI.lst (.inl n)) (m _ ⟨_, h⟩ n) (Reps.mono k m p r)
  | _, _, .frz h r => .frz (h.mono k m) (Reps.mono k m p r)
  | _, _, .tup h r => .tup (SqT.mono k h) (Reps.mono k m p r)
  | _, _, .dic h n e r => .dic (k _ _ h NI.dK (.inl n)) (m _ ⟨_, h⟩ n) e (Reps.mono k m p r)
  | _, _, .ins h => .ins (io_get p h)
  | _, _, .cst => .cst
theorem Reps.mono (k : Kp M H H') (m : ∀ a, (∃ o, H a = some o) → ¬ M a → ¬ M' a) (p : ∃ l, io' = io ++ l) : ∀ {ds : List D} {vs : List V}, Reps K M io H ds vs → Reps K M' io' H' ds vs
  | _, _, .nil => .nil
  | _, _, .cons r t => .cons (Rep.mono k m p r) (Reps.mono k m p t)
end
theorem Kp.refl : Kp M H H := fun _ _ h _ _ => h
theorem io_refl : ∃ l, io = io ++ l := ⟨[], by simp⟩
theorem io_trans {i1 i2 i3 : List Addr} (p : ∃ l, i2 = i1 ++ l) (q : ∃ l, i3 = i2 ++ l) : ∃ l, i3 = i1 ++ l := by
  obtain ⟨l, rfl⟩ := p
  obtain ⟨l', rfl⟩ := q
  exact ⟨l ++ l', by rw [List.append_assoc]⟩
/-- fewer own ones -/
theorem Rep.anti (m : ∀ a, M' a → M a) {d : D} {v : V} (h : Rep K M io H d v) : Rep K M' io H d v := Rep.mono Kp.refl (fun a _ n z => n (m a z)) io_refl h
theorem Reps.anti (m : ∀ a, M' a → M a) {ds : List D} {vs : List V} (h : Reps K M io H ds vs) : Reps K M' io H ds vs := Reps.mono Kp.refl (fun a _ n z => n (m a z)) io_refl h
theorem Reps.len : ∀ {ds : List D} {vs : List V}, Reps K M io H ds vs → ds.length = vs.length
  | _, _, .nil => rfl
  | _, _, .cons _ t => by rw [List.length_cons, List.length_cons, Reps.len t]
theorem Reps.get : ∀ {ds : List D} {vs : List V} {i : Nat} {d : D}, Reps K M io H ds vs → ds[i]? = some d → ∃ v, vs[i]? = some v ∧ Rep K M io H d v
  | _, _, _, _, .nil, e => by simp at e
  | _, _, 0, _, .cons r _, e => by simp at e; subst e; exact ⟨_, rfl, r⟩
  | _, _, i + 1, d, .cons _ t, e => by
    obtain ⟨v, h1, h2⟩ := Reps.get (i := i) (d := d) t (by simpa using e)
    exact ⟨v, by simpa using h1, h2⟩
theorem Reps.getV : ∀ {ds : List D} {vs : List V} {i : Nat} {v : V}, Reps K M io H ds vs → vs[i]? = some v → ∃ d, ds[i]? = some d ∧ Rep K M io H d v
  | _, _, _, _, .nil, e => by simp at e
  | _, _, 0, _, .cons r _, e => by simp at e; subst e; exact ⟨_, rfl, r⟩
  | _, _, i + 1, v, .cons _ t, e => by
    obtain ⟨d, h1, h2⟩ := Reps.getV (i := i) (v := v) t (by simpa using e)
    exact ⟨d, by simpa using h1, h2⟩
theorem Reps.app : ∀ {ds es : List D} {vs ws : List V}, Reps K M io H ds vs → Reps K M io H es ws → Reps K M io H (ds ++ es) (vs ++ ws)
  | _, _, _, _, .nil, s => s
  | _, _, _, _, .cons r t, s => .cons r (Reps.app t s)
theorem Reps.set : ∀ {ds : List D} {vs : List V} {d : D} {v : V} (i : Nat), Reps K M io H ds vs → Rep K M io H d v → Reps K M io H (ds.set i d) (vs.set i v)
  | _, _, _, _, _, .nil, _ => .nil
  | _, _, _, _, 0, .cons _ t, q => .cons q t
  | _, _, _, _, i + 1, .cons r t, q => .cons r (Reps.set i t q)
theorem Reps.take : ∀ {ds : List D} {vs : List V} (i : Nat), Reps K M io H ds vs → Reps K M io H (ds.take i) (vs.take i)
  | _, _, 0, _ => .nil
  | _, _, _ + 1, .nil => .nil
  | _, _, i + 1, .cons r t => .cons r (Reps.take i t)
theorem Reps.drop : ∀ {ds : List D} {vs : List V} (i : Nat), Reps K M io H ds vs → Reps K M io H (ds.drop i) (vs.drop i)
  | _, _, 0, r => r
  | _, _, _ + 1, .nil => .nil
  | _, _, i + 1, .cons _ t => Reps.drop i t
theorem Reps.rev : ∀ {ds : List D} {vs : List V}, Reps K M io H ds vs → Reps K M io H ds.reverse vs.reverse
  | _, _, .nil => .nil
  | _, _, .cons r t => by
    rw [List.reverse_cons, List.reverse_cons]
    exact Reps.app (Reps.rev t) (.cons r .nil)
theorem Reps.ints : ∀ {is : List Int} {vs : List V}, Reps K M io H (is.map D.int) vs → vs = is.map V.int
  | [], _, .nil => rfl
  | i :: is, _, .cons r t => by
    cases r
    rw [Reps.ints t]
    rfl
theorem Reps.ofInts : ∀ (is : List Int), Reps K M io H (is.map D.int) (is.map V.int)
  | [] => .nil
  | i :: is => .cons (.int i) (Reps.ofInts is)
theorem Reps.strs : ∀ {is : List Str} {vs : List V}, Reps K M io H (is.map D.str) vs → vs = is.map V.str
  | [], _, .nil => rfl
  | i :: is, _, .cons r t => by
    cases r
    rw [Reps.strs t]
    rfl
theorem Reps.ofStrs : ∀ (is : List Str), Reps K M io H (is.map D.str) (is.map V.str)
  | [] => .nil
  | i :: is => .cons (.str i) (Reps.ofStrs is)
theorem Reps.bls : ∀ {is : List Bool} {vs : List V}, Reps K M io H (is.map D.bl) vs → vs = is.map V.bl
  | [], _, .nil => rfl
  | i :: is, _, .cons r t => by
    cases r
    rw [Reps.bls t]
    rfl
end

/-! ### the store -/
def FldOk (K : PySem.W.Frag) (M : Addr → Prop) (io : List Addr) (H : Hp) (ns : List Str) : List D → List (Str × V) → Prop :=
  fun fs gs => gs.map Prod.fst = ns.take fs.length ∧ Reps K M io H fs (gs.map Prod.snd)
/-- an exception kept as a value: its class, its dict -/
def ExV (cls : Value) (d : Option Addr) (a : Addr) : HO := .ext fun h => ∃ (oe : Obj) (vs : Array Value), h.get? a = some oe ∧ Zc cls d oe ∧ oe.data = .fields vs
def ErrOk (K : PySem.W.Frag) (ns : List Str) (io : List Addr) (H : Hp) (p : List D) (dx : Option Addr) : Prop :=
  (p = [] ∧ dx = none) ∨ (∃ (a : Addr) (gs : List (Str × V)), dx = some a ∧ p ≠ [] ∧ H a = some (.xd gs) ∧ FldOk K (fun _ => True) io H ns p gs)
theorem ErrOk.mono {K : PySem.W.Frag} {M : Addr → Prop} {io io' : List Addr} {H H' : Hp} {ns : List Str} {p : List D} {dx : Option Addr} (k : Kp M H H') (q : ∃ l, io' = io ++ l) (h : ErrOk K ns io H p dx) : ErrOk K ns io' H' p dx := by
  rcases h with h | ⟨a, gs, e, np, h1, h2, h3⟩
  · exact .inl h
  · exact .inr ⟨a, gs, e, np, k _ _ h1 NI.xd (.inr (.inr (.inr (.inr ⟨gs, rfl⟩)))), h2, h3.mono (fun a o h1 h2 h3 => k a o h1 h2 (h3.elim (fun z => absurd trivial z) .inr)) (fun _ _ n => absurd trivial n) q⟩
/-- what is pinned stands in the heap -/
def PinOk (L : List (Addr × HO)) (H : Hp) : Prop := ∀ p ∈ L, H p.1 = some p.2 ∧ ∃ φ, p.2 = .ext φ
structure StoOk (K : PySem.W.Frag) (ct : CT) (M : Addr → Prop) (io : List Addr) (S : Store) (H : Hp) : Prop where
  len : S.length = io.length
  at_ : ∀ (n C : Nat) (fs : List D), S[n]? = some (C, fs) → ct.ex C = false → ∃ a dx gs, io[n]? = some a ∧ H a = some (.ins (ct.ad C) dx gs) ∧ FldOk K M io H (ct.fd C) fs gs
  ax : ∀ (n C : Nat) (fs : List D), S[n]? = some (C, fs) → ct.ex C = true → ∃ a d, io[n]? = some a ∧ H a = some (ExV (.ref (ct.ad C)) d a) ∧ ErrOk K (ct.fd C) io H fs d
  nd : io.Nodup
  tb : LamX.Tabs ct.tb H
  pn : PinOk ct.pn H
/-- from one heap to a later one: only new things, but the instances of io changed -/
structure Stp (ct : CT) (io : List Addr) (H : Hp) (io' : List Addr) (H' : Hp) : Prop where
  k1 : ∀ a o, H a = some o → NI o → H' a = some o
  k2 : ∀ a o, H a = some o → a ∉ io → (∀ ps, o ≠ .tbl ps) → H' a = some o
  pre : ∃ l, io' = io ++ l
  new : ∀ a ∈ io', a ∉ io → H a = none
  dom : ∀ a o, H a = some o → ∃ o', H' a = some o'
  k3 : ct.pu = true → ∀ a o, H a = some o → H' a = some o
section
variable {K : PySem.W.Frag} {ct : CT} {M M' : Addr → Prop} {io io' i1 i2 i3 : List Addr} {H H' H1 H2 H3 : Hp} {a : Addr} {S : Store}
theorem Stp.refl : Stp ct io H io H := ⟨fun _ _ h _ => h, fun _ _ h _ _ => h, io_refl, fun a h n => absurd h n, fun _ o h => ⟨o, h⟩, fun _ _ _ h => h⟩
theorem Stp.trans (a : Stp ct i1 H1 i2 H2) (b : Stp ct i2 H2 i3 H3) : Stp ct i1 H1 i3 H3 where
  k1 := fun x o h n => b.k1 x o (a.k1 x o h n) n
  k2 := fun x o h n nt => b.k2 x o (a.k2 x o h n nt) (fun z => by
    have q := a.new x z n
    rw [h] at q
    cases q) nt
  pre := io_trans a.pre b.pre
  new := fun x h n => by
    by_cases z : x ∈ i2
    · exact a.new x z n
    · have q := b.new x h z
      cases e : H1 x with
      | none => rfl
      | some o =>
        obtain ⟨o', e'⟩ := a.dom x o e
        rw [e'] at q
        cases q
  dom := fun x o h => by
    obtain ⟨o', h'⟩ := a.dom x o h
    exact b.dom x o' h'
  k3 := fun p x o h => b.k3 p x o (a.k3 p x o h)
theorem Stp.kp (s : Stp ct io H io' H') : Kp M H H' := fun a o h n _ => s.k1 a o h n
theorem Stp.free (s : Stp ct io H io' H') (h : H' a = none) : H a = none := by
  cases e : H a with
  | none => rfl
  | some o =>
    obtain ⟨o', e'⟩ := s.dom a o e
    rw [e'] at h
    cases h
theorem Stp.upd (h : H a = none) {o : HO} : Stp ct io H io (upd H a o) where
  k1 := fun b u e _ => by rw [upd_ne (ne_of_none e h)]; exact e
  k2 := fun b u e _ _ => by rw [upd_ne (ne_of_none e h)]; exact e
  pre := io_refl
  new := fun b z n => absurd z n
  dom := fun b u e => ⟨u, by rw [upd_ne (ne_of_none e h)]; exact e⟩
  k3 := fun _ b u e => by rw [upd_ne (ne_of_none e h)]; exact e
theorem Rep.stp {d : D} {v : V} (s : Stp ct io H io' H') (h : Rep K M io H d v) : Rep K M io' H' d v := Rep.mono s.kp (fun _ _ n => n) s.pre h
theorem Reps.stp {d : List D} {v : List V} (s : Stp ct io H io' H') (h : Reps K M io H d v) : Reps K M io' H' d v := Reps.mono s.kp (fun _ _ n => n) s.pre h
/-- beside a place that was none -/
theorem Rep.off {d : D} {v : V} (ha : H a = none) (h : Rep K M io H d v) : Rep K (fun b => M b ∨ b = a) io H d v :=
  Rep.mono Kp.refl (fun b ⟨o, e⟩ n z => z.elim n fun q => by rw [q, ha] at e; cases e) io_refl h
theorem Reps.off {d : List D} {v : List V} (ha : H a = none) (h : Reps K M io H d v) : Reps K (fun b => M b ∨ b = a) io H d v :=
  Reps.mono Kp.refl (fun b ⟨o, e⟩ n z => z.elim n fun q => by rw [q, ha] at e; cases e) io_refl h
theorem tabs_mono {T : List (Addr × Str)} (h : LamX.Tabs T H) (k : Kp M H H') (tt : ∀ a ps, H a = some (.tbl ps) → H' a = some (.tbl ps)) : LamX.Tabs T H' := fun p hp => by
  obtain ⟨ps, h1, h2, h3⟩ := h p hp
  refine ⟨ps, tt _ _ h1, h2, fun pos cv hc => ?_⟩
  obtain ⟨c, e1, e2⟩ := h3 pos cv hc
  exact ⟨c, e1, k _ _ e2 NI.ext (.inr (.inr (.inr (.inl ⟨_, rfl⟩))))⟩
theorem pins_mono {L : List (Addr × HO)} (h : PinOk L H) (k : Kp M H H') : PinOk L H' := fun p hp => by
  obtain ⟨e, φ, q⟩ := h p hp
  exact ⟨k _ _ e (q ▸ NI.ext) (.inr (.inr (.inr (.inl ⟨φ, q⟩)))), φ, q⟩
theorem StoOk.mono (h : StoOk K ct M io S H) (k : Kp M H H') (m : ∀ a, (∃ o, H a = some o) → ¬ M a → ¬ M' a) (i : ∀ a C dx fs, a ∈ io → H a = some (.ins C dx fs) → H' a = some (.ins C dx fs)) (tt : ∀ a ps, H a = some (.tbl ps) → H' a = some (.tbl ps)) : StoOk K ct M' io S H' :=
  ⟨h.len, fun n C fs e x => by
    obtain ⟨a, dx, gs, h1, h2, h3, h4⟩ := h.at_ n C fs e x
    exact ⟨a, dx, gs, h1, i a _ _ _ (List.mem_of_getElem? h1) h2, h3, h4.mono k m io_refl⟩, fun n C fs e x => by
    obtain ⟨a, d, h1, h2, h3⟩ := h.ax n C fs e x
    exact ⟨a, d, h1, k _ _ h2 NI.ext (.inr (.inr (.inr (.inl ⟨_, rfl⟩)))), h3.mono k io_refl⟩, h.nd, tabs_mono h.tb k tt, pins_mono h.pn k⟩
/-- an instance's address -/
theorem StoOk.io_at (h : StoOk K ct M io S H) {n : Nat} (hn : n < S.length) : ∃ a o, io[n]? = some a ∧ H a = some o := by
  cases x : ct.ex (S[n]'hn).1 with
  | false =>
    obtain ⟨a, dx, gs, h1, h2, _⟩ := h.at_ n _ _ (List.getElem?_eq_getElem hn) x
    exact ⟨a, _, h1, h2⟩
  | true =>
    obtain ⟨a, d, h1, h2, _⟩ := h.ax n _ _ (List.getElem?_eq_getElem hn) x
    exact ⟨a, _, h1, h2⟩
theorem StoOk.anti (h : StoOk K ct M io S H) (m : ∀ a, M' a → M a) : StoOk K ct M' io S H := h.mono Kp.refl (fun a _ n z => n (m a z)) (fun _ _ _ _ _ e => e) fun _ _ e => e
theorem StoOk.off (h : StoOk K ct M io S H) (ha : H a = none) : StoOk K ct (fun b => M b ∨ b = a) io S H :=
  h.mono Kp.refl (fun b ⟨o, e⟩ n z => z.elim n fun q => by rw [q, ha] at e; cases e) (fun _ _ _ _ _ e => e) fun _ _ e => e
theorem StoOk.upd (h : StoOk K ct M io S H) (ha : H a = none) {o : HO} : StoOk K ct M io S (upd H a o) :=
  h.mono (fun b u e _ _ => by rw [upd_ne (ne_of_none e ha)]; exact e) (fun _ _ n => n) (fun b _ _ _ _ e => by rw [upd_ne (ne_of_none e ha)]; exact e) fun b _ e => by rw [upd_ne (ne_of_none e ha)]; exact e
end

/-! ### results -/
/-- a list or a dict that is one's own at a -/
def OwnAt (K : PySem.W.Frag) (M : Addr → Prop) (io : List Addr) (H : Hp) (d : D) (a : Addr) : Prop :=
  (∃ xs vs, d = .lst xs ∧ H a = some (.lst vs) ∧ Reps K M io H xs vs) ∨ (∃ ks xs kvs, d = .dic ks xs ∧ H a = some (.dK kvs) ∧ kvs.map Prod.fst = ks ∧ Reps K M io H xs (kvs.map Prod.snd))
def RepF (K : PySem.W.Frag) (M N : Addr → Prop) (io : List Addr) (H : Hp) (f : Fl) (d : D) (v : V) : Prop :=
  match f with
  | .c => Rep K M io H d v
  | .n => Rep K M io H d v
  | .b => Rep K M io H d v ∨ ∃ a, v = .ref a ∧ OwnAt K M io H d a ∧ ¬ N a
  | .o => Rep K M io H d v ∨ ∃ a, v = .ref a ∧ OwnAt K M io H d a
  | .t => Rep K (fun _ => False) io H d v
def ResOk (K : PySem.W.Frag) (ct : CT) (M N : Addr → Prop) (H : Hp) (io' : List Addr) (S' : Store) (H' : Hp) (f : Fl) (d : D) (v : V) : Prop :=
  match f with
  | .n => ∃ p, v = .ref p ∧ H p = none ∧ ¬ M p ∧ OwnAt K (fun b => M b ∨ b = p) io' H' d p ∧ StoOk K ct (fun b => M b ∨ b = p) io' S' H'
  | f => RepF K M N io' H' f d v ∧ StoOk K ct M io' S' H'
section
variable {K : PySem.W.Frag} {ct : CT} {M M' N N' : Addr → Prop} {io io' i1 i2 i3 : List Addr} {H H' H1 H2 H3 : Hp} {a : Addr} {S S' : Store} {f : Fl} {d : D} {v : V}
theorem OwnAt.mono (k : Kp M H H') (m : ∀ a, (∃ o, H a = some o) → ¬ M a → ¬ M' a) (p : ∃ l, io' = io ++ l) (ka : ∀ o, H a = some o → NI o → H' a = some o) (h : OwnAt K M io H d a) : OwnAt K M' io' H' d a := by
  rcases h with ⟨xs, vs, e, h1, h2⟩ | ⟨ks, xs, kvs, e, h1, h2, h3⟩
  · exact .inl ⟨xs, vs, e, ka _ h1 NI.lst, h2.mono k m p⟩
  · exact .inr ⟨ks, xs, kvs, e, ka _ h1 NI.dK, h2, h3.mono k m p⟩
theorem OwnAt.stp (s : Stp ct io H io' H') (h : OwnAt K M io H d a) : OwnAt K M io' H' d a := h.mono s.kp (fun _ _ n => n) s.pre fun o e n => s.k1 a o e n
theorem OwnAt.anti (m : ∀ a, M' a → M a) (h : OwnAt K M io H d a) : OwnAt K M' io H d a := h.mono Kp.refl (fun a _ n z => n (m a z)) io_refl fun _ e _ => e
theorem OwnAt.rep (n : ¬ M a) (h : OwnAt K M io H d a) : Rep K M io H d (.ref a) := by
  rcases h with ⟨xs, vs, rfl, h1, h2⟩ | ⟨ks, xs, kvs, rfl, h1, h2, h3⟩
  · exact .lst h1 n h2
  · exact .dic h1 n h2 h3
theorem OwnAt.there (h : OwnAt K M io H d a) : ∃ o, H a = some o ∧ NI o := by
  rcases h with ⟨xs, vs, rfl, h1, h2⟩ | ⟨ks, xs, kvs, rfl, h1, h2, h3⟩
  · exact ⟨_, h1, NI.lst⟩
  · exact ⟨_, h1, NI.dK⟩
theorem RepF.stp (s : Stp ct io H io' H') (h : RepF K M N io H f d v) : RepF K M N io' H' f d v := by
  cases f with
  | c => exact Rep.stp s h
  | n => exact Rep.stp s h
  | b =>
    rcases h with h | ⟨a, e, h, z⟩
    · exact .inl (Rep.stp s h)
    · exact .inr ⟨a, e, h.stp s, z⟩
  | o =>
    rcases h with h | ⟨a, e, h⟩
    · exact .inl (Rep.stp s h)
    · exact .inr ⟨a, e, h.stp s⟩
  | t => exact Rep.stp s h
theorem RepF.weak (h : RepF K M N io H f d v) : Rep K (fun _ => False) io H d v := by
  cases f with
  | c => exact Rep.anti (fun _ z => z.elim) h
  | n => exact Rep.anti (fun _ z => z.elim) h
  | b =>
    rcases h with h | ⟨a, rfl, h, _⟩
    · exact Rep.anti (fun _ z => z.elim) h
    · exact (h.anti (M' := fun _ => False) fun _ z => z.elim).rep fun z => z
  | o =>
    rcases h with h | ⟨a, rfl, h⟩
    · exact Rep.anti (fun _ z => z.elim) h
    · exact (h.anti (M' := fun _ => False) fun _ z => z.elim).rep fun z => z
  | t => exact h
theorem ResOk.repF (h : ResOk K ct M N H io' S' H' f d v) : RepF K M N io' H' f d v := by
  cases f with
  | n =>
    obtain ⟨p, rfl, _, n, h, _⟩ := h
    exact (h.anti fun _ z => .inl z).rep n
  | c => exact h.1
  | b => exact h.1
  | o => exact h.1
  | t => exact h.1
theorem ResOk.sto (h : ResOk K ct M N H io' S' H' f d v) : StoOk K ct M io' S' H' := by
  cases f with
  | n =>
    obtain ⟨p, rfl, _, n, _, h⟩ := h
    exact h.anti fun _ z => .inl z
  | c => exact h.2
  | b => exact h.2
  | o => exact h.2
  | t => exact h.2
theorem ResOk.back (h : ResOk K ct M N H1 io' S' H' f d v) (k : ∀ a, H1 a = none → H a = none) : ResOk K ct M N H io' S' H' f d v := by
  cases f with
  | n =>
    obtain ⟨p, e, z, r⟩ := h
    exact ⟨p, e, k p z, r⟩
  | c => exact h
  | b => exact h
  | o => exact h
  | t => exact h
theorem ResOk.anti (m : ∀ a, M' a → M a) (n : ∀ a, N' a → N a) (h : ResOk K ct M N H io' S' H' f d v) : ResOk K ct M' N' H io' S' H' f d v := by
  cases f with
  | n =>
    obtain ⟨p, e, z, n, h1, h2⟩ := h
    exact ⟨p, e, z, fun q => n (m p q), h1.anti fun _ q => q.elim (fun q => .inl (m _ q)) .inr, h2.anti fun _ q => q.elim (fun q => .inl (m _ q)) .inr⟩
  | c => exact ⟨Rep.anti m h.1, h.2.anti m⟩
  | b => exact ⟨h.1.elim (fun z => .inl (Rep.anti m z)) fun ⟨a, e, z, y⟩ => .inr ⟨a, e, z.anti m, fun q => y (n a q)⟩, h.2.anti m⟩
  | o => exact ⟨h.1.elim (fun z => .inl (Rep.anti m z)) fun ⟨a, e, z⟩ => .inr ⟨a, e, z.anti m⟩, h.2.anti m⟩
  | t => exact ⟨h.1, h.2.anti m⟩
theorem ResOk.mk (nf : f ≠ .n) (h : RepF K M N io' H' f d v) (s : StoOk K ct M io' S' H') : ResOk K ct M N H io' S' H' f d v := by
  cases f with
  | n => exact absurd rfl nf
  | c => exact ⟨h, s⟩
  | b => exact ⟨h, s⟩
  | o => exact ⟨h, s⟩
  | t => exact ⟨h, s⟩
/-- a call's result: what was lent may be one's own -/
def outf : Fl → Fl
  | .b => .o
  | f => f
theorem ResOk.outf (h : ResOk K ct M N H io' S' H' f d v) : ResOk K ct M N' H io' S' H' (outf f) d v := by
  cases f with
  | n => exact h
  | c => exact h
  | b => exact ⟨h.1.elim .inl fun ⟨a, e, z, _⟩ => .inr ⟨a, e, z⟩, h.2⟩
  | o => exact h
  | t => exact h
end
end Mv

set_option maxRecDepth 100000
namespace L2
open PySem PySem.Spec PyProof.Rows
theorem PE.imp {X : Cx} {e : Expr} {t t' : TE} (h : PE X e t) (q : ∀ s H Q, t' s H Q → t s H Q) : PE X e t' := ⟨fun pins s σ H Q I w => h.run pins s σ H Q I (q _ _ _ w)⟩
theorem PT.imp {X : Cx} {e : Expr} {t t' : TT} (h : PT X e t) (q : ∀ s H Q, t' s H Q → t s H Q) : PT X e t' := ⟨fun pins s σ H Q I w => h.run pins s σ H Q I (q _ _ _ w)⟩
theorem PW.imp {X : Cx} {e : Expr} {t t' : TT} (h : PW X e t) (q : ∀ s H Q, t' s H Q → t s H Q) : PW X e t' := ⟨fun wh pins s σ H Q I w => h.run wh pins s σ H Q I (q _ _ _ w)⟩
theorem PA.imp {X : Cx} {e : List Expr} {t t' : TA} (h : PA X e t) (q : ∀ s H Q, t' s H Q → t s H Q) : PA X e t' := ⟨fun pos pins s σ H Q I w => h.run pos pins s σ H Q I (q _ _ _ w)⟩
theorem PS.imp {X : Cx} {e : Stmt} {t t' : TS} (h : PS X e t) (q : ∀ D s H, t' D s H → t D s H) : PS X e t' := ⟨fun pins s σ H D I w => h.run pins s σ H D I (q _ _ _ w)⟩
theorem PSs.imp {X : Cx} {e : List Stmt} {t t' : TS} (h : PSs X e t) (q : ∀ D s H, t' D s H → t D s H) : PSs X e t' := ⟨fun pins s σ H D I w => h.run pins s σ H D I (q _ _ _ w)⟩
theorem PE.ex {X : Cx} {e : Expr} {ι : Sort _} {t : ι → TE} (h : ∀ i, PE X e (t i)) : PE X e (fun s H Q => ∃ i, t i s H Q) := ⟨fun pins s σ H Q I ⟨i, w⟩ => (h i).run pins s σ H Q I w⟩
theorem PS.ex {X : Cx} {e : Stmt} {ι : Sort _} {t : ι → TS} (h : ∀ i, PS X e (t i)) : PS X e (fun D s H => ∃ i, t i D s H) := ⟨fun pins s σ H D I ⟨i, w⟩ => (h i).run pins s σ H D I w⟩

end L2
namespace Mv
open PySem PySem.Spec PyProof.Rows L2
abbrev St := L2.St

/-! ### the frame's state -/
structure Gx where
  M0 : Addr → Prop
  H0 : Hp
  io0 : List Addr
  held : List (Fl × D × V)
  N0 : Addr → Prop
  F0 : Nat → Addr → Prop
def Mown (G : Gx) (r : Env) (s : St) (a : Addr) : Prop := G.N0 a ∨ ∃ (i : Nat) (d : D), r[i]? = some (.own d) ∧ s[i]? = some (some (V.ref a))
def Mall (G : Gx) (r : Env) (s : St) (a : Addr) : Prop := G.M0 a ∨ Mown G r s a
/-- what a slot that may not be written holds -/
def ArgF (K : PySem.W.Frag) (M N : Addr → Prop) (io : List Addr) (H : Hp) (f : Fl) (d : D) (v : V) : Prop :=
  match f with
  | .c => Rep K M io H d v
  | .n => Rep K M io H d v
  | .b => Rep K M io H d v ∨ ∃ a, v = .ref a ∧ OwnAt K M io H d a ∧ ¬ N a
  | .o => Rep K M io H d v ∨ ∃ a, v = .ref a ∧ OwnAt K M io H d a ∧ ¬ N a
  | .t => Rep K N io H d v
theorem ArgF.mono {K : PySem.W.Frag} {M M' N N' : Addr → Prop} {io io' : List Addr} {H H' : Hp} {f : Fl} {d : D} {v : V} (k : Kp M H H') (k0 : Kp N H H') (m : ∀ a, (∃ o, H a = some o) → ¬ M a → ¬ M' a) (n : ∀ a, (∃ o, H a = some o) → ¬ N a → ¬ N' a) (p : ∃ l, io' = io ++ l) (h : ArgF K M N io H f d v) : ArgF K M' N' io' H' f d v := by
  have go : (Rep K M io H d v ∨ ∃ a, v = .ref a ∧ OwnAt K M io H d a ∧ ¬ N a) → (Rep K M' io' H' d v ∨ ∃ a, v = .ref a ∧ OwnAt K M' io' H' d a ∧ ¬ N' a) := fun h => by
    rcases h with h | ⟨a, e, h, z⟩
    · exact .inl (Rep.mono k m p h)
    · obtain ⟨o, q, _⟩ := h.there
      exact .inr ⟨a, e, h.mono k m p fun o e i => k0 a o e i (.inl z), n a ⟨o, q⟩ z⟩
  cases f with
  | c => exact Rep.mono k m p h
  | n => exact Rep.mono k m p h
  | b => exact go h
  | o => exact go h
  | t => exact Rep.mono k0 n p h
/-- the flag with which a slot is read -/
def inf : Fl → Fl
  | .n => .c
  | .o => .b
  | f => f
theorem inf_n {f : Fl} : inf f ≠ .n := by cases f <;> simp [inf]
theorem ArgF.repF {K : PySem.W.Frag} {M N : Addr → Prop} {io : List Addr} {H : Hp} {f : Fl} {d : D} {v : V} (h : ArgF K M N io H f d v) : RepF K M N io H (inf f) d v := by
  cases f with
  | c => exact h
  | n => exact h
  | b => exact h
  | o => exact h
  | t => exact Rep.anti (fun _ z => z.elim) h
/-- what may be kept: clean values -/
def gnd : D → Bool
  | .non => true
  | .bl _ => true
  | .int _ => true
  | .str _ => true
  | .ins _ => true
  | .cst _ => true
  | _ => false
/-- an item of a container that is one's own to the ground: a plain value, or a list of plain values -/
def ElD (K : PySem.W.Frag) (io : List Addr) (H : Hp) (F : Addr → Prop) (p : Option Addr) (b : Nat) (x : D) (v : V) : Prop :=
  (gnd x = true ∧ Rep K (fun _ => False) io H x v) ∨ ∃ ys q ws, x = .lst ys ∧ v = .ref q ∧ F q ∧ some q ≠ p ∧ H q = some (.lst ws) ∧ ws.length ≤ ys.length + b ∧ (b = 0 → ys.all gnd = true ∧ Reps K (fun _ => False) io H ys ws)
def ConD (K : PySem.W.Frag) (io : List Addr) (H : Hp) (F : Addr → Prop) (b : Nat) (d : D) (v : V) : Prop :=
  ∃ p vs xs po, v = .ref p ∧ ((d = .tup xs ∧ SqT K H p vs ∧ po = none) ∨ (d = .lst xs ∧ H p = some (.lst vs) ∧ F p ∧ po = some p)) ∧ Paired (ElD K io H F po b) xs vs
theorem Rep.of_gnd {K : PySem.W.Frag} {M M' : Addr → Prop} {io : List Addr} {H : Hp} {d : D} {v : V} (g : gnd d = true) (h : Rep K M io H d v) : Rep K M' io H d v := by
  cases h with
  | non => exact .non
  | bl b => exact .bl b
  | int i => exact .int i
  | str z => exact .str z
  | ins e => exact .ins e
  | cst => exact .cst
  | lst _ _ _ => cases g
  | frz _ _ => cases g
  | tup _ _ => cases g
  | dic _ _ _ _ => cases g
theorem Rep.gnd_any {K : PySem.W.Frag} {M M' : Addr → Prop} {io io' : List Addr} {H H' : Hp} {d : D} {v : V} (g : gnd d = true) (p : ∃ l, io' = io ++ l) (h : Rep K M io H d v) : Rep K M' io' H' d v := by
  cases h with
  | non => exact .non
  | bl b => exact .bl b
  | int i => exact .int i
  | str z => exact .str z
  | ins e => exact .ins (io_get p e)
  | cst => exact .cst
  | lst _ _ _ => cases g
  | frz _ _ => cases g
  | tup _ _ => cases g
  | dic _ _ _ _ => cases g
theorem Reps.gnd_any {K : PySem.W.Frag} {M M' : Addr → Prop} {io io' : List Addr} {H H' : Hp} (p : ∃ l, io' = io ++ l) : ∀ {ds : List D} {vs : List V}, ds.all gnd = true → Reps K M io H ds vs → Reps K M' io' H' ds vs
  | _, _, _, .nil => .nil
  | _, _, g, .cons r t => by
    rw [List.all_cons, Bool.and_eq_true] at g
    exact .cons (Rep.gnd_any g.1 p r) (Reps.gnd_any p g.2 t)
theorem ElD.mono {K : PySem.W.Frag} {io io' : List Addr} {H H' : Hp} {F : Addr → Prop} {p : Option Addr} {b : Nat} {x : D} {v : V} (kF : ∀ a o, F a → H a = some o → NI o → H' a = some o) (pr : ∃ l, io' = io ++ l) (h : ElD K io H F p b x v) : ElD K io' H' F p b x v := by
  rcases h with ⟨g, h⟩ | ⟨ys, q, ws, e, e2, hq, ne, hH, hl, hb⟩
  · exact .inl ⟨g, Rep.gnd_any g pr h⟩
  · exact .inr ⟨ys, q, ws, e, e2, hq, ne, kF _ _ hq hH NI.lst, hl, fun z => ⟨(hb z).1, Reps.gnd_any pr (hb z).1 (hb z).2⟩⟩
theorem ConD.mono {K : PySem.W.Frag} {M : Addr → Prop} {io io' : List Addr} {H H' : Hp} {F : Addr → Prop} {b : Nat} {d : D} {v : V} (k : Kp M H H') (kF : ∀ a o, F a → H a = some o → NI o → H' a = some o) (pr : ∃ l, io' = io ++ l) (h : ConD K io H F b d v) : ConD K io' H' F b d v := by
  obtain ⟨p, vs, xs, po, e, h1, h2⟩ := h
  refine ⟨p, vs, xs, po, e, ?_, Paired.mapP h2 fun _ _ z => z.mono kF pr⟩
  rcases h1 with ⟨e1, h1, hn⟩ | ⟨e1, h1, hp, hn⟩
  · exact .inl ⟨e1, SqT.mono k h1, hn⟩
  · exact .inr ⟨e1, kF _ _ hp h1 NI.lst, hp, hn⟩
structure DpOk (K : PySem.W.Frag) (G : Gx) (r : Env) (io : List Addr) (s : St) (H : Hp) : Prop where
  sub : ∀ j a, G.F0 j a → G.N0 a
  one : ∀ i j a, G.F0 i a → G.F0 j a → i = j
  at_ : ∀ (i : Nat) (b : Nat) (d : D), r[i]? = some (Slot.deep b d) → ∃ v, s[i]? = some (some v) ∧ ConD K io H (G.F0 i) b d v
theorem DpOk.gen {K : PySem.W.Frag} {G G' : Gx} {r r' : Env} {io io' : List Addr} {s s' : St} {H H' : Hp} {M : Addr → Prop} (h : DpOk K G r io s H) (hG : G'.F0 = G.F0) (hN : ∀ a, G.N0 a → G'.N0 a)
    (hr : ∀ (i : Nat) (b : Nat) (d : D), r'[i]? = some (Slot.deep b d) → r[i]? = some (Slot.deep b d) ∧ s'[i]? = s[i]?) (k : Kp M H H') (kF : ∀ a o, G.N0 a → (∃ j, G.F0 j a) → H a = some o → NI o → H' a = some o) (pr : ∃ l, io' = io ++ l) : DpOk K G' r' io' s' H' := by
  refine ⟨fun j a z => hN a (h.sub j a (hG ▸ z)), fun i j a z z' => h.one i j a (hG ▸ z) (hG ▸ z'), fun i b d e => ?_⟩
  obtain ⟨e1, e2⟩ := hr i b d e
  obtain ⟨v, h1, h2⟩ := h.at_ i b d e1
  refine ⟨v, e2.trans h1, ?_⟩
  rw [hG]
  exact h2.mono k (fun a o z => kF a o (h.sub i a z) ⟨i, z⟩) pr
/-- the same heap, other slots -/
theorem DpOk.env {K : PySem.W.Frag} {G G' : Gx} {r r' : Env} {io : List Addr} {s s' : St} {H : Hp} (h : DpOk K G r io s H) (hG : G'.F0 = G.F0) (hN : ∀ a, G.N0 a → G'.N0 a)
    (hr : ∀ (i : Nat) (b : Nat) (d : D), r'[i]? = some (Slot.deep b d) → r[i]? = some (Slot.deep b d) ∧ s'[i]? = s[i]?) : DpOk K G' r' io s' H := h.gen (M := fun _ => False) hG hN hr Kp.refl (fun _ _ _ _ e _ => e) io_refl
structure Ok (K : PySem.W.Frag) (ct : CT) (G : Gx) (r : Env) (S : Store) (io : List Addr) (s : St) (H : Hp) : Prop where
  len : r.length = s.length
  arg : ∀ (i : Nat) (f : Fl) (d : D), r[i]? = some (.ar f d) → ∃ v, s[i]? = some (some v) ∧ ArgF K (Mall G r s) (Mown G r s) io H f d v
  own : ∀ (i : Nat) (d : D), r[i]? = some (.own d) → ∃ a, s[i]? = some (some (V.ref a)) ∧ OwnAt K (Mall G r s) io H d a ∧ ¬ G.M0 a ∧ ¬ G.N0 a ∧ G.H0 a = none
  inj : ∀ (i j : Nat) (d e : D) (a : Addr), r[i]? = some (.own d) → r[j]? = some (.own e) → s[i]? = some (some (V.ref a)) → s[j]? = some (some (V.ref a)) → i = j
  sto : StoOk K ct (Mall G r s) io S H
  stp : Stp ct G.io0 G.H0 io H
  m0 : ∀ a, G.M0 a → ∃ o, H a = some o ∧ NI o
  n0 : ∀ a, G.N0 a → ∃ o, (H a = some o ∧ NI o) ∧ ¬ G.M0 a ∧ G.H0 a = none ∧ ¬ Im o
  held : ∀ p ∈ G.held, ArgF K (Mall G r s) (Mown G r s) io H p.1 p.2.1 p.2.2
  dp : DpOk K G r io s H
section
variable {K : PySem.W.Frag} {ct : CT} {G : Gx} {r : Env} {S S' : Store} {io io' : List Addr} {s : St} {H H' : Hp}
theorem Ok.mdom (k : Ok K ct G r S io s H) : ∀ a, Mall G r s a → ∃ o, H a = some o ∧ NI o := fun a h => by
  rcases h with h | h | ⟨i, d, h1, h2⟩
  · exact k.m0 a h
  · obtain ⟨o, h, _⟩ := k.n0 a h
    exact ⟨o, h⟩
  · obtain ⟨a', e, q, _⟩ := k.own i d h1
    rw [h2] at e
    cases e
    exact q.there
theorem Ok.step (k : Ok K ct G r S io s H) (t : Stp ct io H io' H') (q : StoOk K ct (Mall G r s) io' S' H') : Ok K ct G r S' io' s H' where
  len := k.len
  arg := fun i f d e => by
    obtain ⟨v, h1, h2⟩ := k.arg i f d e
    exact ⟨v, h1, h2.mono t.kp t.kp (fun _ _ n => n) (fun _ _ n => n) t.pre⟩
  own := fun i d e => by
    obtain ⟨a, h1, h2, h3, h4⟩ := k.own i d e
    exact ⟨a, h1, h2.stp t, h3, h4⟩
  inj := k.inj
  sto := q
  stp := k.stp.trans t
  m0 := fun a h => by
    obtain ⟨o, h1, h2⟩ := k.m0 a h
    exact ⟨o, t.k1 a o h1 h2, h2⟩
  n0 := fun a h => by
    obtain ⟨o, ⟨h1, h2⟩, h3⟩ := k.n0 a h
    exact ⟨o, ⟨t.k1 a o h1 h2, h2⟩, h3⟩
  held := fun p hp => (k.held p hp).mono t.kp t.kp (fun _ _ n => n) (fun _ _ n => n) t.pre
  dp := k.dp.gen (M := fun _ => False) rfl (fun _ z => z) (fun _ _ _ e => ⟨e, rfl⟩) t.kp (fun a o _ _ e n => t.k1 a o e n) t.pre
end

/-! ### readings -/
def Res {α : Type} (K : PySem.W.Frag) (ct : CT) (W : WX) (M : Addr → Prop) (s : St) (io : List Addr) (H : Hp) (r : Rs α) (P : α → Store → List Addr → Hp → Prop) : Prop :=
  match r with
  | .ok a S' => ∀ io' H', Stp ct io H io' H' → StoOk K ct M io' S' H' → P a S' io' H'
  | .er c p S' => ∀ dx io' H', Stp ct io H io' H' → StoOk K ct M io' S' H' → ErrOk K (ct.fd c) io' H' p dx → W (.ref (ct.ad c)) dx s H'
  | .no => False
def tE (K : PySem.W.Frag) (ct : CT) (G : Gx) (W : WX) (m : EM) : TE := fun s H Q => ∃ r S io, Ok K ct G r S io s H ∧
  Res K ct W (Mall G r s) s io H (m r S) (fun x S' io' H' => ∀ v, ResOk K ct (Mall G r s) (Mown G r s) H io' S' H' x.2 x.1 v → Q v H')
def tT (K : PySem.W.Frag) (ct : CT) (G : Gx) (W : WX) (m : TM) : TT := fun s H Q => ∃ r S io, Ok K ct G r S io s H ∧
  Res K ct W (Mall G r s) s io H (m r S) (fun b S' io' H' => Q b H')
abbrev ArgsOk (K : PySem.W.Frag) (M N : Addr → Prop) (io : List Addr) (H : Hp) : List (Fl × D) → List V → Prop := Paired fun (p : Fl × D) v => RepF K M N io H p.1 p.2 v
def tA (K : PySem.W.Frag) (ct : CT) (G : Gx) (W : WX) (m : AM) : TA := fun s H Q => ∃ r S io, Ok K ct G r S io s H ∧
  Res K ct W (Mall G r s) s io H (m r S) (fun as S' io' H' => ∀ vs, ArgsOk K (Mall G r s) (Mown G r s) io' H' as vs → Q vs H')
structure ME (X : Cx) (ct : CT) (e : Expr) (m : EM) : Prop where
  run : ∀ (G : Gx) (W : WX), Takes X W → PE X e (tE X.K ct G W m)
structure MT (X : Cx) (ct : CT) (e : Expr) (m : TM) : Prop where
  run : ∀ (G : Gx) (W : WX), Takes X W → PT X e (tT X.K ct G W m)
structure MW (X : Cx) (ct : CT) (e : Expr) (m : TM) : Prop where
  run : ∀ (G : Gx) (W : WX), Takes X W → PW X e (tT X.K ct G W m)
structure MA (X : Cx) (ct : CT) (es : List Expr) (m : AM) : Prop where
  run : ∀ (G : Gx) (W : WX), Takes X W → PA X es (tA X.K ct G W m)

section
variable {K : PySem.W.Frag} {ct : CT} {G : Gx} {r : Env} {S S' : Store} {io io' io1 : List Addr} {s : St} {H H' H1 : Hp} {W : WX} {M N : Addr → Prop}
theorem Res.shift {α : Type} {x : Rs α} {P : α → Store → List Addr → Hp → Prop} (h : Res K ct W M s io H x P) (t : Stp ct io H io1 H1) : Res K ct W M s io1 H1 x P := by
  cases x with
  | ok a S' => exact fun io' H' t' q => h io' H' (t.trans t') q
  | er c p S' => exact fun dx io' H' t' => h dx io' H' (t.trans t')
  | no => exact h
/-- the first part of a bind -/
theorem Res.first {α β : Type} {x : Rs α} {k : α → Store → Rs β} {P : β → Store → List Addr → Hp → Prop} {P' : α → Store → List Addr → Hp → Prop} (h : Res K ct W M s io H (x.bind k) P)
    (n : ∀ a S1 io1 H1, x = .ok a S1 → Stp ct io H io1 H1 → StoOk K ct M io1 S1 H1 → Res K ct W M s io1 H1 (k a S1) P → P' a S1 io1 H1) : Res K ct W M s io H x P' := by
  cases x with
  | ok a S' => exact fun io' H' t q => n a S' io' H' rfl t q (Res.shift (x := k a S') h t)
  | er c p S' => exact h
  | no => exact h
theorem Res.imp {α : Type} {x : Rs α} {P P' : α → Store → List Addr → Hp → Prop} (h : Res K ct W M s io H x P) (n : ∀ a S1 io1 H1, Stp ct io H io1 H1 → StoOk K ct M io1 S1 H1 → P a S1 io1 H1 → P' a S1 io1 H1) : Res K ct W M s io H x P' := by
  cases x with
  | ok a S' => exact fun io' H' t q => n a S' io' H' t q (h io' H' t q)
  | er c p S' => exact h
  | no => exact h
theorem Res.here {α : Type} {a : α} {P : α → Store → List Addr → Hp → Prop} (h : Res K ct W M s io H (.ok a S) P) (q : StoOk K ct M io S H) : P a S io H := h io H Stp.refl q
theorem Res.go {α : Type} {a : α} {P : α → Store → List Addr → Hp → Prop} (h : Res K ct W M s io H (.ok a S) P) (t : Stp ct io H io' H') (q : StoOk K ct M io' S H') : P a S io' H' := h io' H' t q
theorem ResOk.sc {f : Fl} {d : D} {v : V} (nf : f ≠ .n) (h : Rep K M io H d v) (q : StoOk K ct M io S H) (hf : f ≠ .t := by decide) : ResOk K ct M N H1 io S H f d v := by
  refine ResOk.mk nf ?_ q
  cases f with
  | c => exact h
  | n => exact h
  | b => exact .inl h
  | o => exact .inl h
  | t => exact absurd rfl hf
end
def lift0 {α : Type} (x : Option α) (S : Store) : Rs α := match x with
  | some a => .ok a S
  | none => .no

/-! ### names and constants -/
section
variable {X : Cx} {ct : CT} {pos : Pos}
def eVar (i : Nat) : EM := fun r S => match r[i]? with
  | some (.ar f d) => .ok (d, inf f) S
  | some (.own d) => .ok (d, .o) S
  | _ => .no
def eC (d : D) : EM := fun _ S => .ok (d, .c) S
theorem me_var {i : Nat} {x : Str} (h : PE X (.Name x pos) (tVar i)) : ME X ct (.Name x pos) (eVar i) := ⟨fun G W _ => h.imp fun s H Q ⟨r, S, io, k, h⟩ => by
  unfold eVar at h
  split at h
  · rename_i f d e
    obtain ⟨v, h1, h2⟩ := k.arg i _ _ e
    exact ⟨v, h1, h.here k.sto v (ResOk.mk inf_n h2.repF k.sto)⟩
  · rename_i d e
    obtain ⟨a, h1, h2, _⟩ := k.own i _ e
    exact ⟨_, h1, h.here k.sto _ (ResOk.mk (by simp) (.inr ⟨a, rfl, h2⟩) k.sto)⟩
  · exact h.elim⟩
theorem me_const {e : Expr} {v : V} {d : D} (h : PE X e (tC v)) (q : ∀ K M io H, Rep K M io H d v) : ME X ct e (eC d) := ⟨fun G W _ => h.imp fun s H Q ⟨r, S, io, k, h⟩ => h.here k.sto v (ResOk.sc (f := .c) (by simp) (q ..) k.sto)⟩
theorem me_int {i j} : ME X ct (.Constant (.int i) j pos) (eC (.int i)) := me_const pe_int fun _ _ _ _ => .int i
theorem me_bl {b j} : ME X ct (.Constant (.bool b) j pos) (eC (.bl b)) := me_const pe_bl fun _ _ _ _ => .bl b
theorem me_non {j} : ME X ct (.Constant .none j pos) (eC .non) := me_const pe_non fun _ _ _ _ => .non
theorem me_str {x j} : ME X ct (.Constant (.str x) j pos) (eC (.str x)) := me_const pe_str fun _ _ _ _ => .str x
theorem me_gint {x : Str} {i : Int} (hg : Gl X x) (hm : ∃ t, X.mg x = some (.int i t)) (hd : (x == ("__debug__" : Str)) = false := by decide) : ME X ct (.Name x pos) (eC (.int i)) := by
  obtain ⟨t, hm⟩ := hm
  exact me_const (pe_glob (v := .int i) hg hm ⟨t, rfl⟩ hd) fun _ _ _ _ => .int i
theorem me_gstr {x : Str} {i : Str} (hg : Gl X x) (hm : ∃ t, X.mg x = some (.str i t)) (hd : (x == ("__debug__" : Str)) = false := by decide) : ME X ct (.Name x pos) (eC (.str i)) := by
  obtain ⟨t, hm⟩ := hm
  exact me_const (pe_glob (v := .str i) hg hm ⟨t, rfl⟩ hd) fun _ _ _ _ => .str i

/-! ### operators by values -/
def BinOk (K : PySem.W.Frag) (ct : CT) (rd : R2) (g : D × Fl → D × Fl → Option (D × Fl)) : Prop :=
  ∀ (M N : Addr → Prop) (io : List Addr) (S : Store) (H : Hp) (x y : V) (a b res : D × Fl) (Q : VK), RepF K M N io H a.2 a.1 x → RepF K M N io H b.2 b.1 y → StoOk K ct M io S H → (∀ a, M a → ∃ o, H a = some o ∧ NI o) → g a b = some res →
    (∀ v H', Stp ct io H io H' → ResOk K ct M N H io S H' res.2 res.1 v → Q v H') → rd x y H Q
def eBin (g : D × Fl → D × Fl → Option (D × Fl)) (ma mb : EM) : EM := fun r S => (ma r S).bind fun a S1 => (mb r S1).bind fun b S2 => lift0 (g a b) S2
theorem bin_go {ma mb : EM} {g : D × Fl → D × Fl → Option (D × Fl)} {rd : R2} (hg : BinOk X.K ct rd g) {G : Gx} {W : WX} {s : St} {H : Hp} {Q : VK}
    (h : tE X.K ct G W (eBin g ma mb) s H Q) : tOp rd (tE X.K ct G W ma) (tE X.K ct G W mb) s H Q := by
  obtain ⟨r, S, io, k, h⟩ := h
  refine ⟨r, S, io, k, Res.first h fun x S1 io1 H1 e1 t1 q1 h1 v1 o1 => ?_⟩
  have k1 := k.step t1 q1
  refine ⟨r, S1, io1, k1, Res.first h1 fun y S2 io2 H2 e2 t2 q2 h2 v2 o2 => ?_⟩
  have k2 := k1.step t2 q2
  unfold lift0 at h2
  split at h2
  · rename_i res e
    refine hg _ _ io2 S2 H2 v1 v2 x y res Q (o1.repF.stp t2) o2.repF q2 k2.mdom e fun v H' t' o' => ?_
    exact h2.go t' o'.sto v (o'.back fun a z => t1.free (t2.free z))
  · exact h2.elim
theorem me_op {op : Operator} {rd : R2} {a b : Expr} {ma mb : EM} {g : D × Fl → D × Fl → Option (D × Fl)} (ho : OpR X (binaryOp op) rd) (hg : BinOk X.K ct rd g) (ha : ME X ct a ma) (hb : ME X ct b mb) : ME X ct (.BinOp a op b pos) (eBin g ma mb) :=
  ⟨fun G W tk => (pe_op ho (ha.run G W tk) (hb.run G W tk)).imp fun s H Q h => bin_go hg h⟩
theorem me_cmp {op : CmpOp} {rd : R2} {a b : Expr} {ma mb : EM} {g : D × Fl → D × Fl → Option (D × Fl)} (ho : OpR X (compareOp op) rd) (hg : BinOk X.K ct rd g) (ha : ME X ct a ma) (hb : ME X ct b mb) (hm : behindInMarks op b = false) : ME X ct (.Compare a [op] [b] pos) (eBin g ma mb) :=
  ⟨fun G W tk => (pe_cmpR ho (ha.run G W tk) (hb.run G W tk) hm).imp fun s H Q h => bin_go hg h⟩
/-! ### tests -/
def tVal (m : EM) : TM := fun r S => (m r S).bind fun x S1 => match x.1 with
  | .bl b => .ok b S1
  | _ => .no
theorem bl_of {K : PySem.W.Frag} {M N : Addr → Prop} {io : List Addr} {H : Hp} {f : Fl} {b : Bool} {v : V} (h : RepF K M N io H f (.bl b) v) : v = .bl b := by
  have q := h.weak
  cases q
  rfl
theorem int_of {K : PySem.W.Frag} {M N : Addr → Prop} {io : List Addr} {H : Hp} {f : Fl} {b : Int} {v : V} (h : RepF K M N io H f (.int b) v) : v = .int b := by
  have q := h.weak
  cases q
  rfl
theorem str_of {K : PySem.W.Frag} {M N : Addr → Prop} {io : List Addr} {H : Hp} {f : Fl} {b : Str} {v : V} (h : RepF K M N io H f (.str b) v) : v = .str b := by
  have q := h.weak
  cases q
  rfl
theorem non_of {K : PySem.W.Frag} {M N : Addr → Prop} {io : List Addr} {H : Hp} {f : Fl} {v : V} (h : RepF K M N io H f .non v) : v = .non := by
  have q := h.weak
  cases q
  rfl
theorem lst_of {K : PySem.W.Frag} {M N : Addr → Prop} {io : List Addr} {H : Hp} {f : Fl} {xs : List D} {v : V} (h : RepF K M N io H f (.lst xs) v) : ∃ a vs, v = .ref a ∧ H a = some (.lst vs) ∧ Reps K (fun _ => False) io H xs vs := by
  have q := h.weak
  cases q with
  | lst h1 _ h2 => exact ⟨_, _, rfl, h1, h2⟩
theorem frz_of {K : PySem.W.Frag} {M N : Addr → Prop} {io : List Addr} {H : Hp} {f : Fl} {xs : List D} {v : V} (h : RepF K M N io H f (.frz xs) v) : ∃ a vs, v = .ref a ∧ SqL K H a vs ∧ Reps K (fun _ => False) io H xs vs := by
  have q := h.weak
  cases q with
  | frz h1 h2 => exact ⟨_, _, rfl, h1.sq, h2⟩
theorem tup_of {K : PySem.W.Frag} {M N : Addr → Prop} {io : List Addr} {H : Hp} {f : Fl} {xs : List D} {v : V} (h : RepF K M N io H f (.tup xs) v) : ∃ a vs, v = .ref a ∧ SqT K H a vs ∧ Reps K (fun _ => False) io H xs vs := by
  have q := h.weak
  cases q with
  | tup h1 h2 => exact ⟨_, _, rfl, h1, h2⟩
theorem mt_go {m : EM} {G : Gx} {W : WX} {s : St} {H : Hp} {Q : Bool → Hp → Prop} (h : tT X.K ct G W (tVal m) s H Q) : tB (tE X.K ct G W m) s H Q := by
  obtain ⟨r, S, io, k, h⟩ := h
  refine ⟨r, S, io, k, Res.first h fun x S1 io1 H1 e1 t1 q1 h1 v1 o1 => ?_⟩
  split at h1
  · rename_i b e
    have o2 := o1.repF
    rw [e] at o2
    exact ⟨b, bl_of o2, h1.here q1⟩
  · exact h1.elim
theorem mt_val {e : Expr} {m : EM} (h : ME X ct e m) (he : ∀ whole, isTrue e X.env whole = (do let v ← whole; standAt e.pos; holding [v] (truthy v)) := by intro _; rfl) : MT X ct e (tVal m) :=
  ⟨fun G W tk => (pt_val (h.run G W tk) he).imp fun s H Q h => mt_go h⟩
theorem mt_cmp {op : CmpOp} {rd : R2} {a b : Expr} {ma mb : EM} {g : D × Fl → D × Fl → Option (D × Fl)} (ho : OpR X (compareOp op) rd) (hg : BinOk X.K ct rd g) (ha : ME X ct a ma) (hb : ME X ct b mb) (hm : behindInMarks op b = false) : MT X ct (.Compare a [op] [b] pos) (tVal (eBin g ma mb)) :=
  ⟨fun G W tk => (pt_cmpR ho (ha.run G W tk) (hb.run G W tk) hm).imp fun s H Q h => by
    obtain ⟨r, S, io, k, h⟩ := h
    refine bin_go hg ⟨r, S, io, k, Res.first h fun x S1 io1 H1 e1 t1 q1 h1 v1 o1 => ?_⟩
    split at h1
    · rename_i b e
      have o2 := o1.repF
      rw [e] at o2
      exact ⟨b, bl_of o2, h1.here q1⟩
    · exact h1.elim⟩
def tAndM (ma mb : TM) : TM := fun r S => (ma r S).bind fun b S1 => if b then mb r S1 else .ok false S1
def tOrM (ma mb : TM) : TM := fun r S => (ma r S).bind fun b S1 => if b then .ok true S1 else mb r S1
def tNotM (ma : TM) : TM := fun r S => (ma r S).bind fun b S1 => .ok (!b) S1
theorem MW.mt {e : Expr} {m : TM} (h : MW X ct e m) : MT X ct e m := ⟨fun G W tk => (h.run G W tk).pt⟩
theorem mw_and1 {a : Expr} {m : TM} (h : MT X ct a m) : MW X ct (.BoolOp .And [a] pos) m := ⟨fun G W tk => pw_and1 (h.run G W tk)⟩
theorem mw_or1 {a : Expr} {m : TM} (h : MT X ct a m) : MW X ct (.BoolOp .Or [a] pos) m := ⟨fun G W tk => pw_or1 (h.run G W tk)⟩
theorem mw_and {a b : Expr} {rest : List Expr} {ma mb : TM} (ha : MT X ct a ma) (hb : MW X ct (.BoolOp .And (b :: rest) pos) mb) : MW X ct (.BoolOp .And (a :: b :: rest) pos) (tAndM ma mb) :=
  ⟨fun G W tk => (pw_and (ha.run G W tk) (hb.run G W tk)).imp fun s H Q ⟨r, S, io, k, h⟩ => ⟨r, S, io, k, Res.first h fun x S1 io1 H1 e1 t1 q1 h1 => by
    cases x with
    | true => exact ⟨r, S1, io1, k.step t1 q1, h1⟩
    | false => exact h1.here q1⟩⟩
theorem mw_or {a b : Expr} {rest : List Expr} {ma mb : TM} (ha : MT X ct a ma) (hb : MW X ct (.BoolOp .Or (b :: rest) pos) mb) : MW X ct (.BoolOp .Or (a :: b :: rest) pos) (tOrM ma mb) :=
  ⟨fun G W tk => (pw_or (ha.run G W tk) (hb.run G W tk)).imp fun s H Q ⟨r, S, io, k, h⟩ => ⟨r, S, io, k, Res.first h fun x S1 io1 H1 e1 t1 q1 h1 => by
    cases x with
    | true => exact h1.here q1
    | false => exact ⟨r, S1, io1, k.step t1 q1, h1⟩⟩⟩
theorem mt_not {a : Expr} {ma : TM} (ha : MT X ct a ma) : MT X ct (.UnaryOp .Not a pos) (tNotM ma) :=
  ⟨fun G W tk => (pt_not (ha.run G W tk)).imp fun s H Q ⟨r, S, io, k, h⟩ => ⟨r, S, io, k, Res.first h fun x S1 io1 H1 e1 t1 q1 h1 => h1.here q1⟩⟩
def eIf (mt : TM) (ma mb : EM) : EM := fun r S => (mt r S).bind fun b S1 => if b then ma r S1 else mb r S1
theorem me_if {c a b : Expr} {mt : TM} {ma mb : EM} (hc : MT X ct c mt) (ha : ME X ct a ma) (hb : ME X ct b mb) : ME X ct (.IfExp c a b pos) (eIf mt ma mb) :=
  ⟨fun G W tk => (pe_ifExp (hc.run G W tk) (ha.run G W tk) (hb.run G W tk)).imp fun s H Q ⟨r, S, io, k, h⟩ => ⟨r, S, io, k, Res.first h fun x S1 io1 H1 e1 t1 q1 h1 => by
    have k1 := k.step t1 q1
    cases x with
    | true => exact ⟨r, S1, io1, k1, Res.imp h1 fun y S2 io2 H2 t2 q2 h2 v o => h2 v (o.back fun a z => t1.free z)⟩
    | false => exact ⟨r, S1, io1, k1, Res.imp h1 fun y S2 io2 H2 t2 q2 h2 v o => h2 v (o.back fun a z => t1.free z)⟩⟩⟩
/-- and, or, not as values -/
def eAnd (ma mb : EM) : EM := fun r S => (ma r S).bind fun x S1 => match x.1 with
  | .bl true => (mb r S1).bind fun y S2 => .ok y S2
  | .bl false => .ok (.bl false, .c) S1
  | _ => .no
def eOr (ma mb : EM) : EM := fun r S => (ma r S).bind fun x S1 => match x.1 with
  | .bl false => (mb r S1).bind fun y S2 => .ok y S2
  | .bl true => .ok (.bl true, .c) S1
  | _ => .no
def eNot (ma : EM) : EM := fun r S => (ma r S).bind fun x S1 => match x.1 with
  | .bl b => .ok (.bl (!b), .c) S1
  | _ => .no
theorem me_one {op a} {m : EM} (h : ME X ct a m) : ME X ct (.BoolOp op [a] pos) m := ⟨fun G W tk => pe_one (h.run G W tk)⟩
theorem me_and {a b : Expr} {rest : List Expr} {ma mb : EM} (ha : ME X ct a ma) (hb : ME X ct (.BoolOp .And (b :: rest) pos) mb) : ME X ct (.BoolOp .And (a :: b :: rest) pos) (eAnd ma mb) :=
  ⟨fun G W tk => (pe_and (ha.run G W tk) (hb.run G W tk)).imp fun s H Q ⟨r, S, io, k, h⟩ => ⟨r, S, io, k, Res.first h fun x S1 io1 H1 e1 t1 q1 h1 v o => by
    have k1 := k.step t1 q1
    split at h1
    · rename_i e
      have o2 := o.repF
      rw [e] at o2
      exact ⟨true, bl_of o2, iteT ⟨r, S1, io1, k1, Res.first h1 fun y S2 io2 H2 _ t2 q2 h2 v o => h2.here q2 v (o.back fun a z => t1.free z)⟩⟩
    · rename_i e
      have o2 := o.repF
      rw [e] at o2
      exact ⟨false, bl_of o2, iteF (h1.here q1 _ (ResOk.sc (by simp) (.bl false) q1))⟩
    · exact h1.elim⟩⟩
theorem me_or {a b : Expr} {rest : List Expr} {ma mb : EM} (ha : ME X ct a ma) (hb : ME X ct (.BoolOp .Or (b :: rest) pos) mb) : ME X ct (.BoolOp .Or (a :: b :: rest) pos) (eOr ma mb) :=
  ⟨fun G W tk => (pe_or (ha.run G W tk) (hb.run G W tk)).imp fun s H Q ⟨r, S, io, k, h⟩ => ⟨r, S, io, k, Res.first h fun x S1 io1 H1 e1 t1 q1 h1 v o => by
    have k1 := k.step t1 q1
    split at h1
    · rename_i e
      have o2 := o.repF
      rw [e] at o2
      exact ⟨false, bl_of o2, iteF ⟨r, S1, io1, k1, Res.first h1 fun y S2 io2 H2 _ t2 q2 h2 v o => h2.here q2 v (o.back fun a z => t1.free z)⟩⟩
    · rename_i e
      have o2 := o.repF
      rw [e] at o2
      exact ⟨true, bl_of o2, iteT (h1.here q1 _ (ResOk.sc (by simp) (.bl true) q1))⟩
    · exact h1.elim⟩⟩
theorem me_not {a : Expr} {ma : EM} (ha : ME X ct a ma) : ME X ct (.UnaryOp .Not a pos) (eNot ma) :=
  ⟨fun G W tk => (pe_not (ha.run G W tk)).imp fun s H Q ⟨r, S, io, k, h⟩ => ⟨r, S, io, k, Res.first h fun x S1 io1 H1 e1 t1 q1 h1 v o => by
    split at h1
    · rename_i b e
      have o2 := o.repF
      rw [e] at o2
      exact ⟨b, bl_of o2, h1.here q1 _ (ResOk.sc (f := .c) (by simp) (.bl _) q1)⟩
    · exact h1.elim⟩⟩

/-! ### arguments -/
def aNil : AM := fun _ S => .ok [] S
def aCons (m : EM) (t : AM) : AM := fun r S => (m r S).bind fun x S1 => (t r S1).bind fun xs S2 => .ok ((x.2, x.1) :: xs) S2
theorem ma_nil : MA X ct [] aNil := ⟨fun G W tk => pa_nil.imp fun s H Q ⟨r, S, io, k, h⟩ => h.here k.sto [] .nil⟩
theorem ArgsOk.stp {K : PySem.W.Frag} {M N : Addr → Prop} {io io' : List Addr} {H H' : Hp} {as : List (Fl × D)} {vs : List V} (t : Stp ct io H io' H') (h : ArgsOk K M N io H as vs) : ArgsOk K M N io' H' as vs := Paired.mapP h fun _ _ q => q.stp t
theorem ma_cons {e : Expr} {es : List Expr} {m : EM} {t : AM} (ha : ME X ct e m) (hr : MA X ct es t) (hs : starEach (e :: es) X.env = (false, eval e X.env) :: starEach es X.env := by rfl) : MA X ct (e :: es) (aCons m t) :=
  ⟨fun G W tk => (pa_cons (ha.run G W tk) (hr.run G W tk) hs).imp fun s H Q ⟨r, S, io, k, h⟩ => ⟨r, S, io, k, Res.first h fun x S1 io1 H1 e1 t1 q1 h1 v o => by
    have k1 := k.step t1 q1
    refine ⟨r, S1, io1, k1, Res.first h1 fun xs S2 io2 H2 e2 t2 q2 h2 vs o2 => ?_⟩
    exact h2.here q2 (v :: vs) (.cons (o.repF.stp t2) o2)⟩⟩
def okst (f : Fl) (d : D) : Bool := f = .c || f = .n || gnd d
theorem RepF.clean {K : PySem.W.Frag} {M N : Addr → Prop} {io : List Addr} {H : Hp} {f : Fl} {d : D} {v : V} (g : okst f d = true) (h : RepF K M N io H f d v) : Rep K M io H d v := by
  unfold okst at g
  simp only [Bool.or_eq_true, decide_eq_true_eq] at g
  rcases g with (g | g) | g
  · subst g; exact h
  · subst g; exact h
  · exact Rep.of_gnd g h.weak
theorem ArgsOk.clean {K : PySem.W.Frag} {M N : Addr → Prop} {io : List Addr} {H : Hp} : ∀ {as : List (Fl × D)} {vs : List V}, (as.all fun x => okst x.1 x.2) = true → ArgsOk K M N io H as vs → Reps K M io H (as.map Prod.snd) vs
  | _, _, _, .nil => .nil
  | _, _, g, .cons r t => by
    rw [List.all_cons, Bool.and_eq_true] at g
    exact .cons (RepF.clean g.1 r) (ArgsOk.clean g.2 t)
theorem ArgsOk.weak {K : PySem.W.Frag} {M N : Addr → Prop} {io : List Addr} {H : Hp} : ∀ {as : List (Fl × D)} {vs : List V}, ArgsOk K M N io H as vs → Reps K (fun _ => False) io H (as.map Prod.snd) vs
  | _, _, .nil => .nil
  | _, _, .cons r t => .cons r.weak (ArgsOk.weak t)
/-- [a, b, ..] -/
def eLst (t : AM) : EM := fun r S => (t r S).bind fun as S1 => if as.length ≤ sizeLine then (if as.all fun x => okst x.1 x.2 then .ok (.lst (as.map Prod.snd), .n) S1 else .ok (.lst (as.map Prod.snd), .t) S1) else .no
def eTup (t : AM) : EM := fun r S => (t r S).bind fun as S1 => if as.length ≤ sizeLine then (if as.all fun x => okst x.1 x.2 then .ok (.tup (as.map Prod.snd), .c) S1 else .ok (.tup (as.map Prod.snd), .t) S1) else .no
theorem new_lst {K : PySem.W.Frag} {M N : Addr → Prop} {io : List Addr} {H H0 : Hp} {S : Store} {p : Addr} {xs : List D} {vs : List V} (hp : H p = none) (h0 : H0 p = none) (md : ∀ a, M a → ∃ o, H a = some o ∧ NI o) (q : StoOk K ct M io S H) (h : Reps K M io H xs vs) :
    ResOk K ct M N H0 io S (upd H p (.lst vs)) .n (.lst xs) (.ref p) :=
  ⟨p, rfl, h0, (fun z => by
    obtain ⟨o, e, _⟩ := md p z
    rw [hp] at e
    cases e), .inl ⟨xs, vs, rfl, upd_same, (h.off hp).stp (Stp.upd (ct := ct) hp)⟩, (q.off hp).upd hp⟩
theorem new_tup {K : PySem.W.Frag} {M N : Addr → Prop} {io : List Addr} {H H0 : Hp} {S : Store} {p : Addr} {xs : List D} {vs : List V} (hp : H p = none) (q : StoOk K ct M io S H) (h : Reps K M io H xs vs) :
    ResOk K ct M N H0 io S (upd H p (.tup vs)) .c (.tup xs) (.ref p) := ⟨.tup (.inl (.inl upd_same)) (h.stp (Stp.upd (ct := ct) hp)), q.upd hp⟩
theorem me_lst {es : List Expr} {t : AM} (ha : MA X ct es t) : ME X ct (.List es pos) (eLst t) :=
  ⟨fun G W tk => (pe_lst (ha.run G W tk)).imp fun s H Q ⟨r, S, io, k, h⟩ => ⟨r, S, io, k, Res.first h fun as S1 io1 H1 e1 t1 q1 h1 vs o => by
    have k1 := k.step t1 q1
    have hl : as.length = vs.length := Paired.length o
    split at h1
    · rename_i hz
      refine ⟨hl ▸ hz, fun p hp => ?_⟩
      split at h1
      · rename_i g
        exact h1.go (Stp.upd hp) (q1.upd hp) _ (new_lst hp (t1.free hp) k1.mdom q1 (ArgsOk.clean g o))
      · exact h1.go (Stp.upd hp) (q1.upd hp) _ ⟨.lst upd_same (fun z => z) ((ArgsOk.weak o).stp (Stp.upd (ct := ct) hp)), q1.upd hp⟩
    · exact h1.elim⟩⟩
theorem me_tup {es : List Expr} {t : AM} {x1} (ha : MA X ct es t) : ME X ct (.Tuple es x1 pos) (eTup t) :=
  ⟨fun G W tk => (pe_tup (ha.run G W tk)).imp fun s H Q ⟨r, S, io, k, h⟩ => ⟨r, S, io, k, Res.first h fun as S1 io1 H1 e1 t1 q1 h1 vs o => by
    have k1 := k.step t1 q1
    have hl : as.length = vs.length := Paired.length o
    split at h1
    · rename_i hz
      refine ⟨hl ▸ hz, fun p hp => ?_⟩
      split at h1
      · rename_i g
        exact h1.go (Stp.upd hp) (q1.upd hp) _ (new_tup hp q1 (ArgsOk.clean g o))
      · exact h1.go (Stp.upd hp) (q1.upd hp) _ ⟨.tup (.inl (.inl upd_same)) ((ArgsOk.weak o).stp (Stp.upd (ct := ct) hp)), q1.upd hp⟩
    · exact h1.elim⟩⟩
/-! ### built-in functions and types by values -/
def CalOk (K : PySem.W.Frag) (ct : CT) (rd : List V → Hp → VK → Prop) (g : List (Fl × D) → Option (D × Fl)) : Prop :=
  ∀ (M N : Addr → Prop) (io : List Addr) (S : Store) (H : Hp) (vs : List V) (as : List (Fl × D)) (res : D × Fl) (Q : VK), ArgsOk K M N io H as vs → StoOk K ct M io S H → (∀ a, M a → ∃ o, H a = some o ∧ NI o) → g as = some res →
    (∀ v H', Stp ct io H io H' → ResOk K ct M N H io S H' res.2 res.1 v → Q v H') → rd vs H Q
def eCal (g : List (Fl × D) → Option (D × Fl)) (t : AM) : EM := fun r S => (t r S).bind fun as S1 => lift0 (g as) S1
theorem cal_go {t : AM} {g : List (Fl × D) → Option (D × Fl)} {rd : List V → Hp → VK → Prop} (hg : CalOk X.K ct rd g) {G : Gx} {W : WX} {s : St} {H : Hp} {Q : VK} (h : tE X.K ct G W (eCal g t) s H Q) : tCB rd (tA X.K ct G W t) s H Q := by
  obtain ⟨r, S, io, k, h⟩ := h
  refine ⟨r, S, io, k, Res.first h fun as S1 io1 H1 e1 t1 q1 h1 vs o => ?_⟩
  have k1 := k.step t1 q1
  unfold lift0 at h1
  split at h1
  · rename_i res e
    refine hg _ _ io1 S1 H1 vs as res Q o q1 k1.mdom e fun v H' t' o' => ?_
    exact h1.go t' o'.sto v (o'.back fun a z => t1.free z)
  · exact h1.elim
theorem me_callB {x : Str} {id : String} {e : Expr} {es : List Expr} {p : Pos} {t : AM} {g : List (Fl × D) → Option (D × Fl)} {rd : List V → Hp → VK → Prop} (hc : CallR X (.builtin id) rd) (hg : CalOk X.K ct rd g) (hgl : Gl X x) (hm : X.mg x = none) (hv : bootBuiltins x = some (.builtin id)) (ha : MA X ct (e :: es) t)
    (hn : x ≠ "__name__" := by decide) (hdb : (x == ("__debug__" : Str)) = false := by decide) (he : starEach (e :: es) X.env = (false, eval e X.env) :: starEach es X.env := by rfl) (hpl : (backTo pos (starEach es X.env)).any (·.1) = false := by rfl) :
    ME X ct (.Call (.Name x p) (e :: es) [] pos) (eCal g t) := ⟨fun G W tk => (pe_callB hc hgl hm hv (ha.run G W tk) hn hdb he hpl).imp fun s H Q h => cal_go hg h⟩
theorem me_callTy {x : Str} {T : String} {e : Expr} {es : List Expr} {p : Pos} {t : AM} {g : List (Fl × D) → Option (D × Fl)} {rd : List V → Hp → VK → Prop} (hc : CallR X (.type T) rd) (hg : CalOk X.K ct rd g) (hgl : Gl X x) (hm : X.mg x = none) (hv : bootBuiltins x = some (.type T)) (ha : MA X ct (e :: es) t)
    (hn : x ≠ "__name__" := by decide) (hdb : (x == ("__debug__" : Str)) = false := by decide) (he : starEach (e :: es) X.env = (false, eval e X.env) :: starEach es X.env := by rfl) (hpl : (backTo pos (starEach es X.env)).any (·.1) = false := by rfl) :
    ME X ct (.Call (.Name x p) (e :: es) [] pos) (eCal g t) := ⟨fun G W tk => (pe_callTy hc hgl hm hv (ha.run G W tk) hn hdb he hpl).imp fun s H Q h => cal_go hg h⟩
end
end Mv

set_option maxRecDepth 100000
namespace Mv
open PySem PySem.Spec PyProof.Rows L2

/-! ### how the frame's state changes -/
theorem get_set {α : Type} {l : List α} {i j : Nat} {x y : α} (h : (l.set i x)[j]? = some y) : (i = j ∧ x = y ∧ i < l.length) ∨ (i ≠ j ∧ l[j]? = some y) := by
  by_cases hj : i = j
  · subst hj
    by_cases hl : i < l.length
    · rw [List.getElem?_set_self hl] at h
      exact .inl ⟨rfl, Option.some.inj h, hl⟩
    · rw [List.getElem?_eq_none (by simpa using hl)] at h
      cases h
  · rw [List.getElem?_set_ne hj] at h
    exact .inr ⟨hj, h⟩
theorem dp_set {r : Env} {s : St} {i : Nat} {x : Slot} {y : Option V} (hx : ∀ b d, x ≠ .deep b d) (j : Nat) (b : Nat) (d : D) (h : (r.set i x)[j]? = some (Slot.deep b d)) : r[j]? = some (Slot.deep b d) ∧ (s.set i y)[j]? = s[j]? := by
  rcases get_set h with ⟨_, q, _⟩ | ⟨hj, q⟩
  · exact absurd q (hx b d)
  · exact ⟨q, List.getElem?_set_ne hj⟩
theorem dp_set0 {r : Env} {s : St} {i : Nat} {x : Slot} (hx : ∀ b d, x ≠ .deep b d) (j : Nat) (b : Nat) (d : D) (h : (r.set i x)[j]? = some (Slot.deep b d)) : r[j]? = some (Slot.deep b d) ∧ s[j]? = s[j]? := by
  rcases get_set h with ⟨_, q, _⟩ | ⟨hj, q⟩
  · exact absurd q (hx b d)
  · exact ⟨q, rfl⟩
theorem lt_of_get {α : Type} {l : List α} {i : Nat} {x : α} (h : l[i]? = some x) : i < l.length := (List.getElem?_eq_some_iff.mp h).1
section
variable {K : PySem.W.Frag} {ct : CT} {G : Gx} {r : Env} {S S' S1 : Store} {io io' io1 : List Addr} {s : St} {H H' H1 : Hp} {i : Nat} {d d' : D} {v : V} {p : Addr} {x : Slot}
theorem mown_set (h : ∀ d, x ≠ Slot.own d) {y : Option V} {a : Addr} (m : Mown G (r.set i x) (s.set i y) a) : Mown G r s a := by
  rcases m with m | ⟨j, e, h1, h2⟩
  · exact .inl m
  rcases get_set h1 with ⟨_, h1, _⟩ | ⟨hj, h1⟩
  · exact absurd h1 (h e)
  · rw [List.getElem?_set_ne hj] at h2
    exact .inr ⟨j, e, h1, h2⟩
theorem mall_set (h : ∀ d, x ≠ Slot.own d) {y : Option V} {a : Addr} (m : Mall G (r.set i x) (s.set i y) a) : Mall G r s a := m.elim .inl fun z => .inr (mown_set h z)
/-- a value stored that is not one's own -/
theorem Ok.seta {f : Fl} (k : Ok K ct G r S io s H) (h : ArgF K (Mall G r s) (Mown G r s) io H f d v) : Ok K ct G (r.set i (.ar f d)) S io (s.set i (some v)) H := by
  have no : ∀ e, Slot.ar f d ≠ Slot.own e := fun e z => by cases z
  have m : ∀ a, Mall G (r.set i (.ar f d)) (s.set i (some v)) a → Mall G r s a := fun a => mall_set no
  have m' : ∀ a, Mown G (r.set i (.ar f d)) (s.set i (some v)) a → Mown G r s a := fun a => mown_set no
  have an : ∀ {g : Fl} {e : D} {w : V}, ArgF K (Mall G r s) (Mown G r s) io H g e w → ArgF K (Mall G (r.set i (.ar f d)) (s.set i (some v))) (Mown G (r.set i (.ar f d)) (s.set i (some v))) io H g e w :=
    fun {g e w} h => h.mono Kp.refl Kp.refl (fun a _ n z => n (m a z)) (fun a _ n z => n (m' a z)) io_refl
  refine ⟨by simp [k.len], fun j g e q => ?_, fun j e q => ?_, fun j j' e e' a q q' z z' => ?_, k.sto.anti m, k.stp, k.m0, k.n0, fun p hp => an (k.held p hp), k.dp.env rfl (fun _ z => z) (dp_set fun _ _ z => by cases z)⟩
  · rcases get_set q with ⟨rfl, q, hl⟩ | ⟨hj, q⟩
    · cases q
      exact ⟨v, List.getElem?_set_self (k.len ▸ hl), an h⟩
    · obtain ⟨w, h1, h2⟩ := k.arg j g e q
      exact ⟨w, by rw [List.getElem?_set_ne hj]; exact h1, an h2⟩
  · rcases get_set q with ⟨rfl, q, _⟩ | ⟨hj, q⟩
    · cases q
    · obtain ⟨a, h1, h2, h3, h4⟩ := k.own j e q
      exact ⟨a, by rw [List.getElem?_set_ne hj]; exact h1, h2.anti m, h3, h4⟩
  · rcases get_set q with ⟨_, q, _⟩ | ⟨hj, q⟩
    · cases q
    · rcases get_set q' with ⟨_, q', _⟩ | ⟨hj', q'⟩
      · cases q'
      · rw [List.getElem?_set_ne hj] at z
        rw [List.getElem?_set_ne hj'] at z'
        exact k.inj j j' e e' a q q' z z'
theorem Ok.setc (k : Ok K ct G r S io s H) (h : Rep K (Mall G r s) io H d v) : Ok K ct G (r.set i (.ar .c d)) S io (s.set i (some v)) H := k.seta (f := .c) h
/-- a new list or dict becomes the slot's own -/
theorem Ok.seto (k : Ok K ct G r S io s H) (t : Stp ct io H io1 H1) (hp : H p = none) (np : ¬ Mall G r s p) (h : OwnAt K (fun b => Mall G r s b ∨ b = p) io1 H1 d p) (q : StoOk K ct (fun b => Mall G r s b ∨ b = p) io1 S1 H1) :
    Ok K ct G (r.set i (.own d)) S1 io1 (s.set i (some (.ref p))) H1 := by
  have mo : ∀ a, Mown G (r.set i (.own d)) (s.set i (some (.ref p))) a → Mown G r s a ∨ a = p := fun a z => by
    rcases z with z | ⟨j, e, h1, h2⟩
    · exact .inl (.inl z)
    rcases get_set h1 with ⟨rfl, h1, hl⟩ | ⟨hj, h1⟩
    · rw [List.getElem?_set_self (k.len ▸ hl)] at h2
      cases h2
      exact .inr rfl
    · rw [List.getElem?_set_ne hj] at h2
      exact .inl (.inr ⟨j, e, h1, h2⟩)
  have m : ∀ a, Mall G (r.set i (.own d)) (s.set i (some (.ref p))) a → Mall G r s a ∨ a = p := fun a z => by
    rcases z with z | z
    · exact .inl (.inl z)
    · exact (mo a z).elim (fun z => .inl (.inr z)) .inr
  have mm : ∀ a, (∃ o, H a = some o) → ¬ Mall G r s a → ¬ Mall G (r.set i (.own d)) (s.set i (some (.ref p))) a := fun a ⟨o, e⟩ n z => (m a z).elim n fun z => by
    rw [z, hp] at e
    cases e
  have mm' : ∀ a, (∃ o, H a = some o) → ¬ Mown G r s a → ¬ Mown G (r.set i (.own d)) (s.set i (some (.ref p))) a := fun a ⟨o, e⟩ n z => (mo a z).elim n fun z => by
    rw [z, hp] at e
    cases e
  have hp0 : G.H0 p = none := k.stp.free hp
  refine ⟨by simp [k.len], fun j f e q => ?_, fun j e q => ?_, fun j j' e e' a q q' z z' => ?_, q.anti m, k.stp.trans t, fun a z => ?_, fun a z => ?_, fun y hy => (k.held y hy).mono t.kp t.kp mm mm' t.pre, k.dp.gen (M := fun _ => False) rfl (fun _ z => z) (dp_set fun _ _ z => by cases z) t.kp (fun a o _ _ e n => t.k1 a o e n) t.pre⟩
  · rcases get_set q with ⟨rfl, q, hl⟩ | ⟨hj, q⟩
    · cases q
    · obtain ⟨w, h1, h2⟩ := k.arg j f e q
      exact ⟨w, by rw [List.getElem?_set_ne hj]; exact h1, h2.mono t.kp t.kp mm mm' t.pre⟩
  · rcases get_set q with ⟨rfl, q, hl⟩ | ⟨hj, q⟩
    · cases q
      exact ⟨p, List.getElem?_set_self (k.len ▸ hl), h.anti m, fun z => np (.inl z), fun z => np (.inr (.inl z)), hp0⟩
    · obtain ⟨a, h1, h2, h3, h4⟩ := k.own j e q
      exact ⟨a, by rw [List.getElem?_set_ne hj]; exact h1, h2.mono t.kp mm t.pre fun o e n => t.k1 a o e n, h3, h4⟩
  · have old : ∀ {n : Nat} {u : D}, r[n]? = some (.own u) → s[n]? = some (some (V.ref a)) → a ≠ p := fun {n u} w1 w2 w => np (.inr (.inr ⟨n, u, w1, w ▸ w2⟩))
    rcases get_set q with ⟨rfl, q, hl⟩ | ⟨hj, q⟩
    · rw [List.getElem?_set_self (k.len ▸ hl)] at z
      cases z
      rcases get_set q' with ⟨e, _, _⟩ | ⟨hj', q'⟩
      · exact e
      · rw [List.getElem?_set_ne hj'] at z'
        exact absurd rfl (old q' z')
    · rw [List.getElem?_set_ne hj] at z
      rcases get_set q' with ⟨rfl, q', hl⟩ | ⟨hj', q'⟩
      · rw [List.getElem?_set_self (k.len ▸ hl)] at z'
        cases z'
        exact absurd rfl (old q z)
      · rw [List.getElem?_set_ne hj'] at z'
        exact k.inj j j' e e' a q q' z z'
  · obtain ⟨o, e, n⟩ := k.m0 a z
    exact ⟨o, t.k1 a o e n, n⟩
  · obtain ⟨o, ⟨e, n⟩, y⟩ := k.n0 a z
    exact ⟨o, ⟨t.k1 a o e n, n⟩, y⟩
/-- one's own is not written any more -/
theorem Ok.dem (k : Ok K ct G r S io s H) (e : r[i]? = some (.own d)) : Ok K ct G (r.set i (.ar .c d)) S io s H := by
  obtain ⟨a, h1, h2, h3, h4⟩ := k.own i d e
  have hs : s.set i (some (V.ref a)) = s := by
    obtain ⟨hl, h1⟩ := List.getElem?_eq_some_iff.mp h1
    rw [← h1]
    exact List.set_getElem_self hl
  have no : ∀ e, Slot.ar .c d ≠ Slot.own e := fun e z => by cases z
  have m' : ∀ b, Mown G (r.set i (.ar .c d)) s b → Mown G r s b ∧ b ≠ a := fun b z => by
    rcases z with z | ⟨j, u, z1, z2⟩
    · exact ⟨.inl z, fun y => h4.1 (y ▸ z)⟩
    rcases get_set z1 with ⟨_, z1, _⟩ | ⟨hj, z1⟩
    · cases z1
    · refine ⟨.inr ⟨j, u, z1, z2⟩, fun z => hj ?_⟩
      rw [z] at z2
      exact k.inj i j d u a e z1 h1 z2
  have m : ∀ b, Mall G (r.set i (.ar .c d)) s b → Mall G r s b := fun b z => z.elim .inl fun z => .inr (m' b z).1
  have na : ¬ Mall G (r.set i (.ar .c d)) s a := fun z => z.elim h3 fun z => (m' a z).2 rfl
  refine ⟨by simp [k.len], fun j f u q => ?_, fun j u q => ?_, fun j j' u u' b q q' z z' => ?_, k.sto.anti m, k.stp, k.m0, k.n0, fun p hp => (k.held p hp).mono Kp.refl Kp.refl (fun a _ n z => n (m a z)) (fun a _ n z => n (m' a z).1) io_refl, k.dp.env rfl (fun _ z => z) (dp_set0 fun _ _ z => by cases z)⟩
  · rcases get_set q with ⟨rfl, q, hl⟩ | ⟨hj, q⟩
    · cases q
      exact ⟨_, h1, (h2.anti m).rep na⟩
    · obtain ⟨w, y1, y2⟩ := k.arg j f u q
      exact ⟨w, y1, y2.mono Kp.refl Kp.refl (fun a _ n z => n (m a z)) (fun a _ n z => n (m' a z).1) io_refl⟩
  · rcases get_set q with ⟨rfl, q, _⟩ | ⟨hj, q⟩
    · cases q
    · obtain ⟨b, y1, y2, y3, y4⟩ := k.own j u q
      exact ⟨b, y1, y2.anti m, y3, y4⟩
  · rcases get_set q with ⟨_, q, _⟩ | ⟨hj, q⟩
    · cases q
    · rcases get_set q' with ⟨_, q', _⟩ | ⟨hj', q'⟩
      · cases q'
      · exact k.inj j j' u u' b q q' z z'
/-- one's own is written -/
theorem Ok.mut {a : Addr} {o : HO} (k : Ok K ct G r S io s H) (e : r[i]? = some (.own d)) (h1 : s[i]? = some (some (V.ref a))) (hn : OwnAt K (Mall G r s) io (upd H a o) d' a) : Ok K ct G (r.set i (.own d')) S io s (upd H a o) := by
  obtain ⟨a', h1', h2, h3, h4⟩ := k.own i d e
  rw [h1] at h1'
  cases h1'
  have hl := lt_of_get e
  have m1 : ∀ b, Mown G (r.set i (.own d')) s b ↔ Mown G r s b := fun b => by
    constructor
    · rintro (z | ⟨j, u, z1, z2⟩)
      · exact .inl z
      rcases get_set z1 with ⟨rfl, z1, _⟩ | ⟨hj, z1⟩
      · exact .inr ⟨i, d, e, z2⟩
      · exact .inr ⟨j, u, z1, z2⟩
    · rintro (z | ⟨j, u, z1, z2⟩)
      · exact .inl z
      by_cases hj : i = j
      · subst hj
        exact .inr ⟨i, d', List.getElem?_set_self hl, z2⟩
      · exact .inr ⟨j, u, by rw [List.getElem?_set_ne hj]; exact z1, z2⟩
  have em : Mown G (r.set i (.own d')) s = Mown G r s := funext fun b => propext (m1 b)
  have eM : Mall G (r.set i (.own d')) s = Mall G r s := by unfold Mall; rw [em]
  have ma : Mown G r s a := .inr ⟨i, d, e, h1⟩
  obtain ⟨oa, ha, na⟩ := h2.there
  have tupne : ∀ b u, H b = some u → Im u → b ≠ a := fun b u q z y => by
    subst y
    rcases h2 with ⟨xs, vs, _, w, _⟩ | ⟨ks, xs, kvs, _, w, _⟩
    · rw [w] at q
      cases q
      exact not_im_lst z
    · rw [w] at q
      cases q
      exact not_im_dK z
  have kp : ∀ N : Addr → Prop, N a → Kp N H (upd H a o) := fun N na b u q ni z => by
    rw [upd_ne]
    · exact q
    · rcases z with z | z
      · exact fun y => z (y ▸ na)
      · exact tupne b u q z
  have st : StoOk K ct (Mall G r s) io S (upd H a o) := k.sto.mono (kp _ (.inr ma)) (fun _ _ n => n) (fun b C dx fs _ q => by
    rw [upd_ne]
    · exact q
    · intro y
      rw [y, ha] at q
      cases q
      exact na.1 _ _ _ rfl) fun b ps q => by
    rw [upd_ne]
    · exact q
    · intro y
      rw [y, ha] at q
      cases q
      exact na.2 _ rfl
  have h0 : ∀ b u, G.H0 b = some u → b ≠ a := fun b u q y => by
    rw [y, h4.2] at q
    cases q
  rw [← eM] at hn st
  refine ⟨by simp [k.len], fun j f u q => ?_, fun j u q => ?_, fun j j' u u' b q q' z z' => ?_, st, ⟨fun b u q n => ?_, fun b u q n nt => ?_, k.stp.pre, k.stp.new, fun b u q => ?_, fun pu b u q => by rw [upd_ne (h0 b u q)]; exact k.stp.k3 pu b u q⟩, fun b z => ?_, fun b z => ?_, fun p hp => ?_, k.dp.gen (M := Mown G r s) rfl (fun _ z => z) (dp_set0 fun _ _ z => by cases z) (kp _ ma) (fun b o nb _ e _ => by rw [upd_ne (show b ≠ a from fun z => h4.1 (z ▸ nb))]; exact e) io_refl⟩
  · rcases get_set q with ⟨rfl, q, _⟩ | ⟨hj, q⟩
    · cases q
    · obtain ⟨w, y1, y2⟩ := k.arg j f u q
      refine ⟨w, y1, ?_⟩
      rw [eM, em]
      exact y2.mono (kp _ (.inr ma)) (kp _ ma) (fun _ _ n => n) (fun _ _ n => n) io_refl
  · rcases get_set q with ⟨rfl, q, _⟩ | ⟨hj, q⟩
    · cases q
      exact ⟨a, h1, hn, h3, h4⟩
    · obtain ⟨b, y1, y2, y3, y4⟩ := k.own j u q
      refine ⟨b, y1, ?_, y3, y4⟩
      rw [eM]
      refine y2.mono (kp _ (.inr ma)) (fun _ _ n => n) io_refl fun o' w _ => ?_
      rw [upd_ne]
      · exact w
      · exact fun z => hj (k.inj i j d u a e q h1 (z ▸ y1))
  · rcases get_set q with ⟨rfl, q, _⟩ | ⟨hj, q⟩
    · rcases get_set q' with ⟨rfl, q', _⟩ | ⟨hj', q'⟩
      · rfl
      · exact k.inj i j' d u' b e q' z z'
    · rcases get_set q' with ⟨rfl, q', _⟩ | ⟨hj', q'⟩
      · exact k.inj j i u d b q e z z'
      · exact k.inj j j' u u' b q q' z z'
  · rw [upd_ne (h0 b u q)]
    exact k.stp.k1 b u q n
  · rw [upd_ne (h0 b u q)]
    exact k.stp.k2 b u q n nt
  · rw [upd_ne (h0 b u q)]
    exact k.stp.dom b u q
  · obtain ⟨u, w, n⟩ := k.m0 b z
    refine ⟨u, ?_, n⟩
    rw [upd_ne]
    · exact w
    · exact fun y => h3 (y ▸ z)
  · obtain ⟨u, ⟨w, n⟩, y⟩ := k.n0 b z
    refine ⟨u, ⟨?_, n⟩, y⟩
    rw [upd_ne]
    · exact w
    · exact fun y => h4.1 (y ▸ z)
  · rw [eM, em]
    exact (k.held p hp).mono (kp _ (.inr ma)) (kp _ ma) (fun _ _ n => n) (fun _ _ n => n) io_refl
end

/-! ### statements -/
def SRes (K : PySem.W.Frag) (ct : CT) (G : Gx) (W : WX) (D : Ends) : SR → Prop
  | .nx r' S' => ∀ s' io' H', Ok K ct G r' S' io' s' H' → D.nx s' H'
  | .bk r' S' => ∀ s' io' H', Ok K ct G r' S' io' s' H' → D.bk s' H'
  | .ct r' S' => ∀ s' io' H', Ok K ct G r' S' io' s' H' → D.ct s' H'
  | .rt d f S' => ∀ v io' H', Stp ct G.io0 G.H0 io' H' → ResOk K ct G.M0 (fun _ => False) G.H0 io' S' H' f d v → D.rt v H'
  | .er c p r' S' => ∀ dx s' io' H', Ok K ct G r' S' io' s' H' → ErrOk K (ct.fd c) io' H' p dx → W (.ref (ct.ad c)) dx s' H'
  | .no => False
def tS (K : PySem.W.Frag) (ct : CT) (G : Gx) (W : WX) (m : SM) : TS := fun D s H => ∃ r S io, Ok K ct G r S io s H ∧ SRes K ct G W D (m r S)
structure MS (X : Cx) (ct : CT) (st : Stmt) (m : SM) : Prop where
  run : ∀ (G : Gx) (W : WX), Takes X W → PassesOwn (model X.prog X.w) X.A X.env X.xe → PS X st (tS X.K ct G W m)
structure MSs (X : Cx) (ct : CT) (st : List Stmt) (m : SM) : Prop where
  run : ∀ (G : Gx) (W : WX), Takes X W → PassesOwn (model X.prog X.w) X.A X.env X.xe → PSs X st (tS X.K ct G W m)
def SR.bind (x : SR) (k : Env → Store → SR) : SR := match x with
  | .nx r S => k r S
  | x => x
/-- an expression ahead of what a statement does -/
def Rs.sb {α : Type} (x : Rs α) (r : Env) (k : α → Store → SR) : SR := match x with
  | .ok a S => k a S
  | .er c p S => .er c p r S
  | .no => .no
section
variable {K : PySem.W.Frag} {ct : CT} {G : Gx} {r : Env} {S S' S1 : Store} {io io' io1 : List Addr} {s : St} {H H' H1 : Hp} {W : WX} {De : Ends}
theorem SRes.first {α : Type} {x : Rs α} {k : α → Store → SR} {P : α → Store → List Addr → Hp → Prop} (o : Ok K ct G r S io s H) (h : SRes K ct G W De (x.sb r k))
    (n : ∀ a S1 io1 H1, x = .ok a S1 → Stp ct io H io1 H1 → StoOk K ct (Mall G r s) io1 S1 H1 → Ok K ct G r S1 io1 s H1 → SRes K ct G W De (k a S1) → P a S1 io1 H1) : Res K ct W (Mall G r s) s io H x P := by
  cases x with
  | ok a S' => exact fun io' H' t q => n a S' io' H' rfl t q (o.step t q) h
  | er c p S' => exact fun dx io' H' t q e => h dx s io' H' (o.step t q) e
  | no => exact h
theorem ms_one {X : Cx} {st : Stmt} {m : SM} (h : MS X ct st m) : MSs X ct [st] m := ⟨fun G W tk po => pss_one (h.run G W tk po)⟩
def sNil : SM := fun r S => .nx r S
def sSeq (a b : SM) : SM := fun r S => (a r S).bind b
theorem ms_nil {X : Cx} : MSs X ct [] sNil := ⟨fun G W tk po => pss_nil.imp fun D s H ⟨r, S, io, k, h⟩ => h s io H k⟩
theorem ms_cons {X : Cx} {st : Stmt} {rest : List Stmt} {m t : SM} (ha : MS X ct st m) (hb : MSs X ct rest t) : MSs X ct (st :: rest) (sSeq m t) :=
  ⟨fun G W tk po => (pss_cons (ha.run G W tk po) (hb.run G W tk po)).imp fun D s H ⟨r, S, io, k, h⟩ => by
    refine ⟨r, S, io, k, ?_⟩
    unfold sSeq at h
    cases e : m r S with
    | nx r' S' =>
      rw [e] at h
      exact fun s' io' H' k' => ⟨r', S', io', k', h⟩
    | rt d f S' => rw [e] at h; exact h
    | bk r' S' => rw [e] at h; exact h
    | ct r' S' => rw [e] at h; exact h
    | er c p r' S' => rw [e] at h; exact h
    | no => rw [e] at h; exact h⟩
section
variable {X : Cx} {pos : Pos}
/-- an expression alone -/
def sExpr (m : EM) : SM := fun r S => (m r S).sb r fun _ S1 => .nx r S1
theorem ms_expr {e : Expr} {m : EM} (h : ME X ct e m) (hs : swapsWith e none pos.line X.env = pure false := by rfl) : MS X ct (.Expr e pos) (sExpr m) :=
  ⟨fun G W tk _ => (ps_expr (h.run G W tk) hs).imp fun D s H ⟨r, S, io, k, h⟩ => ⟨r, S, io, k, SRes.first k h fun a S1 io1 H1 _ t q k1 h1 v _ => h1 s io1 H1 k1⟩⟩
theorem ms_doc {x j pos'} : MS X ct (.Expr (.Constant (.str x) j pos) pos') sNil := ⟨fun G W _ _ => ps_doc.imp fun D s H ⟨r, S, io, k, h⟩ => h s io H k⟩
theorem ms_pass : MS X ct (.Pass pos) sNil := ⟨fun G W _ _ => ps_pass.imp fun D s H ⟨r, S, io, k, h⟩ => h s io H k⟩
def sBrk : SM := fun r S => .bk r S
def sCont : SM := fun r S => .ct r S
theorem ms_brk : MS X ct (.Break pos) sBrk := ⟨fun G W _ _ => ps_break.imp fun D s H ⟨r, S, io, k, h⟩ => h s io H k⟩
theorem ms_cont : MS X ct (.Continue pos) sCont := ⟨fun G W _ _ => ps_continue.imp fun D s H ⟨r, S, io, k, h⟩ => h s io H k⟩
def sNever : SM := fun _ _ => .no
theorem ms_never {st : Stmt} : MS X ct st sNever := ⟨fun G W _ _ => ps_never.imp fun D s H ⟨r, S, io, k, h⟩ => h⟩
theorem mss_never {st : List Stmt} : MSs X ct st sNever := ⟨fun G W _ _ => pss_never.imp fun D s H ⟨r, S, io, k, h⟩ => h⟩
/-- return -/
theorem ResOk.out {f : Fl} {d : D} {v : V} (k : Ok K ct G r S io s H) (h : ResOk K ct (Mall G r s) (Mown G r s) H io' S' H' f d v) : ResOk K ct G.M0 (fun _ => False) G.H0 io' S' H' f d v :=
  (h.anti (fun a z => .inl z) fun a z => z.elim).back fun a z => k.stp.free z
def sRet (m : EM) : SM := fun r S => (m r S).sb r fun x S1 => .rt x.1 x.2 S1
theorem ms_ret {e : Expr} {m : EM} (h : ME X ct e m) : MS X ct (.Return (some e) pos) (sRet m) :=
  ⟨fun G W tk _ => (ps_ret (h.run G W tk)).imp fun D s H ⟨r, S, io, k, h⟩ => ⟨r, S, io, k, SRes.first k h fun a S1 io1 H1 _ t q k1 h1 v o => h1 v io1 H1 (k.stp.trans t) (o.out k)⟩⟩
def sRetN : SM := fun r S => .rt .non .c S
theorem ms_retN : MS X ct (.Return none pos) sRetN := ⟨fun G W tk _ => ps_retN.imp fun D s H ⟨r, S, io, k, h⟩ => h .non io H k.stp (ResOk.sc (f := .c) (by simp) .non (k.sto.anti fun a z => .inl z))⟩
/-- return x, x one's own -/
def sRetV (i : Nat) : SM := fun r S => match r[i]? with
  | some (.own d) => .rt d .n S
  | some (.ar f d) => .rt d (inf f) S
  | _ => .no
theorem ms_retV {i : Nat} {x : Str} {p : Pos} (h : PE X (.Name x p) (tVar i)) : MS X ct (.Return (some (.Name x p)) pos) (sRetV i) :=
  ⟨fun G W tk _ => (ps_ret h).imp fun D s H ⟨r, S, io, k, h⟩ => by
    unfold sRetV at h
    split at h
    · rename_i d e
      obtain ⟨a, h1, h2, h3, h4⟩ := k.own i d e
      refine ⟨_, h1, h _ io H k.stp ⟨a, rfl, h4.2, h3, h2.anti fun b z => z.elim .inl fun z => .inr (.inr ⟨i, d, e, z ▸ h1⟩), k.sto.anti fun b z => z.elim .inl fun z => .inr (.inr ⟨i, d, e, z ▸ h1⟩)⟩⟩
    · rename_i f d e
      obtain ⟨v, h1, h2⟩ := k.arg i _ _ e
      exact ⟨v, h1, h v io H k.stp (ResOk.out k (ResOk.mk inf_n h2.repF k.sto))⟩
    · exact h.elim⟩
/-- x = e -/
def sSet (i : Nat) (m : EM) : SM := fun r S => (m r S).sb r fun x S1 => if okst x.2 x.1 then .nx (r.set i (.ar .c x.1)) S1 else if x.2 = .b then .nx (r.set i (.ar .b x.1)) S1 else .no
def isLD : D → Bool
  | .lst _ => true
  | .dic _ _ => true
  | _ => false
def sOwn (i : Nat) (m : EM) : SM := fun r S => (m r S).sb r fun x S1 => if x.2 = .n then .nx (r.set i (.own x.1)) S1 else .no
theorem set_go {i : Nat} {m : EM} {s : St} {H : Hp} (h : tS X.K ct G W (sSet i m) De s H) : tAsg (tE X.K ct G W m) (gName i) De s H := by
  obtain ⟨r, S, io, k, h⟩ := h
  refine ⟨r, S, io, k, SRes.first k h fun x S1 io1 H1 _ t q k1 h1 v o => ?_⟩
  split at h1
  · rename_i g
    exact h1 _ io1 H1 (k1.setc (o.repF.clean g))
  · split at h1
    · rename_i g
      have o := o.repF
      rw [g] at o
      exact h1 _ io1 H1 (k1.seta (f := .b) o)
    · exact h1.elim
theorem own_go {i : Nat} {m : EM} {s : St} {H : Hp} (h : tS X.K ct G W (sOwn i m) De s H) : tAsg (tE X.K ct G W m) (gName i) De s H := by
  obtain ⟨r, S, io, k, h⟩ := h
  refine ⟨r, S, io, k, SRes.first k h fun x S1 io1 H1 _ t q k1 h1 v o => ?_⟩
  split at h1
  · rename_i g
    rw [g] at o
    obtain ⟨p, rfl, hp, np, o1, o2⟩ := o
    exact h1 _ io1 H1 (k.seto t hp np o1 o2)
  · exact h1.elim
theorem ms_set {i : Nat} {x : Str} {e : Expr} {m : EM} {pos' : Pos} (hN : X.N.Nodup) (hi : X.N[i]? = some x) (hx : Loc X.env.scope x) (h : ME X ct e m) (hs : swapsWith e (some (.Name x pos')) pos.line X.env = pure false := by rfl) (hf : X.fn x = true ∨ X.env.scope.names.lookup x = some .local := by first | exact .inl rfl | exact .inr rfl | assumption) :
    MS X ct (.Assign [.Name x pos'] e pos) (sSet i m) := ⟨fun G W tk _ => (ps_set hN hi hx (h.run G W tk) hs hf).imp fun D s H h => set_go h⟩
theorem ms_own {i : Nat} {x : Str} {e : Expr} {m : EM} {pos' : Pos} (hN : X.N.Nodup) (hi : X.N[i]? = some x) (hx : Loc X.env.scope x) (h : ME X ct e m) (hs : swapsWith e (some (.Name x pos')) pos.line X.env = pure false := by rfl) (hf : X.fn x = true ∨ X.env.scope.names.lookup x = some .local := by first | exact .inl rfl | exact .inr rfl | assumption) :
    MS X ct (.Assign [.Name x pos'] e pos) (sOwn i m) := ⟨fun G W tk _ => (ps_set hN hi hx (h.run G W tk) hs hf).imp fun D s H h => own_go h⟩
/-- what is one's own is written no more -/
def sDem (i : Nat) (m : SM) : SM := fun r S => match r[i]? with
  | some (.own d) => m (r.set i (.ar .c d)) S
  | _ => m r S
theorem ms_dem {i : Nat} {st : Stmt} {m : SM} (h : MS X ct st m) : MS X ct st (sDem i m) :=
  ⟨fun G W tk po => (h.run G W tk po).imp fun D s H ⟨r, S, io, k, h⟩ => by
    unfold sDem at h
    split at h
    · rename_i d e
      exact ⟨_, S, io, k.dem e, h⟩
    · exact ⟨r, S, io, k, h⟩⟩
theorem mss_dem {i : Nat} {st : List Stmt} {m : SM} (h : MSs X ct st m) : MSs X ct st (sDem i m) :=
  ⟨fun G W tk po => (h.run G W tk po).imp fun D s H ⟨r, S, io, k, h⟩ => by
    unfold sDem at h
    split at h
    · rename_i d e
      exact ⟨_, S, io, k.dem e, h⟩
    · exact ⟨r, S, io, k, h⟩⟩
/-- if -/
def sIf (t : TM) (a b : SM) : SM := fun r S => (t r S).sb r fun c S1 => if c then a r S1 else b r S1
theorem ms_if {c : Expr} {a b : List Stmt} {t : TM} {ma mb : SM} (hc : MT X ct c t) (ha : MSs X ct a ma) (hb : MSs X ct b mb) : MS X ct (.If c a b pos) (sIf t ma mb) :=
  ⟨fun G W tk po => (ps_if (hc.run G W tk) (ha.run G W tk po) (hb.run G W tk po)).imp fun D s H ⟨r, S, io, k, h⟩ => ⟨r, S, io, k, SRes.first k h fun x S1 io1 H1 _ t q k1 h1 => by
    cases x with
    | true => exact iteT ⟨r, S1, io1, k1, h1⟩
    | false => exact iteF ⟨r, S1, io1, k1, h1⟩⟩⟩
/-! while -/
def loopN (t : TM) (b : SM) : Nat → SM
  | 0, _, _ => .no
  | n + 1, r, S => (t r S).sb r fun c S1 => if c then (match b r S1 with
      | .nx r' S' => loopN t b n r' S'
      | .ct r' S' => loopN t b n r' S'
      | .bk r' S' => .nx r' S'
      | x => x) else .nx r S1
open Classical in
noncomputable def sWhile (t : TM) (b : SM) : SM := fun r S => if h : ∃ n, loopN t b n r S ≠ .no then loopN t b h.choose r S else .no
theorem loopN_stop {t : TM} {b : SM} : ∀ (n : Nat) (r : Env) (S : Store) (x : SR), loopN t b n r S = x → x ≠ .no → ∀ m, loopN t b (n + m) r S = x
  | 0, r, S, x, h, hx, _ => absurd h.symm hx
  | n + 1, r, S, x, h, hx, m => by
    rw [show n + 1 + m = (n + m) + 1 by omega]
    unfold loopN at h ⊢
    cases e : t r S with
    | er c p S' => rw [e] at h; exact h
    | no => rw [e] at h; exact absurd h.symm hx
    | ok c S1 =>
      rw [e] at h
      cases c with
      | false => exact h
      | true =>
        simp only [Rs.sb, if_true] at h ⊢
        cases e2 : b r S1 with
        | nx r' S' => rw [e2] at h; exact loopN_stop n r' S' x h hx m
        | ct r' S' => rw [e2] at h; exact loopN_stop n r' S' x h hx m
        | bk r' S' => rw [e2] at h; exact h
        | rt d f S' => rw [e2] at h; exact h
        | er c p r' S' => rw [e2] at h; exact h
        | no => rw [e2] at h; exact h
theorem sWhile_of {t : TM} {b : SM} {n : Nat} {r : Env} {S : Store} {x : SR} (h : loopN t b n r S = x) (hx : x ≠ .no) : sWhile t b r S = x := by
  have q : ∃ n, loopN t b n r S ≠ .no := ⟨n, by rw [h]; exact hx⟩
  unfold sWhile
  rw [dif_pos q]
  have h1 := loopN_stop _ r S _ rfl q.choose_spec n
  have h2 := loopN_stop n r S x h hx q.choose
  rw [Nat.add_comm, h1] at h2
  exact h2
theorem ms_while {c : Expr} {body : List Stmt} {t : TM} {m : SM} (hc : MT X ct c t) (hb : MSs X ct body m) : MS X ct (.While c body [] pos) (sWhile t m) :=
  ⟨fun G W tk po => (ps_while po (hc.run G W tk) (hb.run G W tk po)).imp fun D s H ⟨r, S, io, k, h⟩ => by
    unfold sWhile at h
    split at h
    · rename_i q
      refine ⟨fun n s H => ∃ r S io, Ok X.K ct G r S io s H ∧ SRes X.K ct G W D (loopN t m n r S), ⟨_, r, S, io, k, h⟩, fun n s H ⟨r, S, io, k, h⟩ => ?_⟩
      cases n with
      | zero => exact h.elim
      | succ n =>
        unfold loopN at h
        refine ⟨r, S, io, k, SRes.first k h fun x S1 io1 H1 _ t1 q k1 h1 => ?_⟩
        cases x with
        | false => exact iteF (h1 s io1 H1 k1)
        | true =>
          refine iteT ⟨fun s' H' => ∃ r S io, Ok X.K ct G r S io s' H' ∧ SRes X.K ct G W D (loopN t m n r S), fun s' H' w => ⟨n, Nat.lt_succ_self n, w⟩, r, S1, io1, k1, ?_⟩
          have h1 : SRes X.K ct G W D (match m r S1 with
            | .nx r' S' => loopN t m n r' S'
            | .ct r' S' => loopN t m n r' S'
            | .bk r' S' => .nx r' S'
            | x => x) := h1
          cases e : m r S1 with
          | nx r' S' => rw [e] at h1; exact fun s' io' H' k' => ⟨r', S', io', k', h1⟩
          | ct r' S' => rw [e] at h1; exact fun s' io' H' k' => ⟨r', S', io', k', h1⟩
          | bk r' S' => rw [e] at h1; exact h1
          | rt d f S' => rw [e] at h1; exact h1
          | er c p r' S' => rw [e] at h1; exact h1
          | no => rw [e] at h1; exact h1
    · exact h.elim⟩
end
end
end Mv

set_option maxRecDepth 100000
namespace L2
open PySem PySem.Spec PyProof.Rows
theorem PI.or {X : Cx} {tg e : Expr} {t u : TI} (h1 : PI X tg e t) (h2 : PI X tg e u) : PI X tg e (fun s H R => t s H R ∨ u s H R) := ⟨fun pins s σ H R I w => w.elim (h1.run pins s σ H R I) (h2.run pins s σ H R I)⟩
theorem PI.imp {X : Cx} {tg e : Expr} {t t' : TI} (h : PI X tg e t) (q : ∀ s H R, t' s H R → t s H R) : PI X tg e t' := ⟨fun pins s σ H R I w => h.run pins s σ H R I (q _ _ _ w)⟩
theorem PG.imp {X : Cx} {e : Expr} {t t' : TG} (h : PG X e t) (q : ∀ v s H Q, t' v s H Q → t v s H Q) : PG X e t' := ⟨fun pins s σ H v u Q I r w => h.run pins s σ H v u Q I r (q _ _ _ _ w)⟩
theorem PGs.imp {X : Cx} {e : List Expr} {t t' : TGs} (h : PGs X e t) (q : ∀ v s H Q, t' v s H Q → t v s H Q) : PGs X e t' := ⟨fun pins s σ H v u Q I r w => h.run pins s σ H v u Q I r (q _ _ _ _ w)⟩
section
variable {X : Cx} {CX : CXT} {k : Nat} {f C : Addr} {fd : FuncData} {ps : List Str} {sp : Sp} {E : L2.St → XK} {x m : Str} {p pos apos : Pos} {e o : Expr} {es : List Expr} {ta : TE} {t : TA}
/-- f() with the wish at the slots -/
theorem pe_callZ (F : FnOk X.prog X.w X.K X.mg X.base CX k f fd ps sp) (hr : Room k X.A) (hg : Gl X x) (hm : X.mg x = some (.ref f)) (hk : PySem.W.keepIn X.K (.ref f) = true) (hb : Binds X.K fd ps []) (hx : ∀ σ, PassesAt CX X σ (E σ))
    (hdb : (x == ("__debug__" : Str)) = false := by decide) : PE X (.Call (.Name x p) [] [] pos) (tCallS sp E tNil) :=
  ⟨fun pins s σ H Q I h => wpAny_Call_Name_kw (ld_glob I hg hm (PySem.W.callWith_K0 I.kIn hk (run_fnS (us := []) F hr hb (hx σ) I .nil h)) hdb)⟩
def tMethZ (C : Addr) (m : Str) (sp : Sp) (E : L2.St → XK) (ta : TE) (t : TA) : TE := fun σ H Q => ta σ H fun x H1 => ∃ a dx fs, x = .ref a ∧ H1 a = some (.ins C dx fs) ∧ fs.lookup m = none ∧
  t σ H1 fun vs H2 => sp (x :: vs) H2 Q (E σ)
theorem pe_methZ {pl : Sem Bool} (he : PE X o ta) (c : Cls X.K C) (hm : Meth X.K C m f) (F : FnOk X.prog X.w X.K X.mg X.base CX k f fd ps sp) (hr : Room k X.A) (hb : Binds X.K fd ps []) (hx : ∀ σ, PassesAt CX X σ (E σ)) (ha : PA X (e :: es) t)
    (hst : starEach (e :: es) X.env = (false, eval e X.env) :: starEach es X.env := by rfl) (hpl : (backTo pos (starEach es X.env)).any (·.1) = false := by rfl)
    (ht : eval (.Call (.Attribute o m apos) (e :: es) [] pos) X.env = (do
      let ov ← eval o X.env
      standAt apos.atName
      let (f, first) ← holding [ov] (getMethod ov m pl)
      callWith pos f first (backTo pos (starEach (e :: es) X.env)) (backToKw pos (keywordEach [] X.env))) := by rfl) :
    PE X (.Call (.Attribute o m apos) (e :: es) [] pos) (tMethZ C m sp E ta t) :=
  ⟨fun pins s σ H Q I h => PySem.W.methodCall_KW (pl := pl) (thn (he.run pins s σ H _ I h) fun u s1 ⟨x, H1, I1, rx, a, dx, fs, ex, ea, l, q⟩ => by
    cases ex
    cases rx
    exact getmeth_ok I1 ea c hm l (PySem.W.callWith_K (first := [.ref a]) (h₀ := X.base) I.ok.mod.kin hm.kp (thn (ha.run pos pins s1 σ H1 _ I1 q) fun us s2 ⟨vs, H2, I2, r, q2⟩ =>
      ⟨I2.kIn, run_fnS (us := .ref a :: us) (vs := .ref a :: vs) F hr hb (hx σ) I2 (.cons rfl r) q2⟩) hst hpl)) ht⟩
theorem pe_methZ0 {pl : Sem Bool} (he : PE X o ta) (c : Cls X.K C) (hm : Meth X.K C m f) (F : FnOk X.prog X.w X.K X.mg X.base CX k f fd ps sp) (hr : Room k X.A) (hb : Binds X.K fd ps []) (hx : ∀ σ, PassesAt CX X σ (E σ))
    (ht : eval (.Call (.Attribute o m apos) [] [] pos) X.env = (do
      let ov ← eval o X.env
      standAt apos.atName
      let (f, first) ← holding [ov] (getMethod ov m pl)
      callWith pos f first (backTo pos (starEach [] X.env)) (backToKw pos (keywordEach [] X.env))) := by rfl) :
    PE X (.Call (.Attribute o m apos) [] [] pos) (tMethZ C m sp E ta tNil) :=
  ⟨fun pins s σ H Q I h => PySem.W.methodCall_KW (pl := pl) (thn (he.run pins s σ H _ I h) fun u s1 ⟨x, H1, I1, rx, a, dx, fs, ex, ea, l, q⟩ => by
    cases ex
    cases rx
    exact getmeth_ok I1 ea c hm l (PySem.W.callWith_K0 (first := [.ref a]) I1.kIn hm.kp (run_fnS (us := [.ref a]) (vs := [.ref a]) F hr hb (hx σ) I1 (.cons rfl .nil) q))) ht⟩
def tMakeZ (C : Addr) (sp : Sp) (E : L2.St → XK) (t : TA) : TE := fun σ H Q => t σ H fun vs H1 => ∀ x dx, H1 x = none → H1 dx = none → dx ≠ x →
  sp (.ref x :: vs) (upd (upd H1 dx (.own x)) x (.ins C dx [])) (fun v H2 => v = .non ∧ Q (.ref x) H2) (E σ)
theorem run_makeZ {pins : List (Addr × Obj)} {σ : L2.St} {H : Hp} {s : Shared} {Q : VK} {us : List Value} {vs : List V} (M : Mk X.K C f) (F : FnOk X.prog X.w X.K X.mg X.base CX k f fd ps sp) (hr : Room (k + 1) X.A) (hb : Binds X.K fd ps [])
    (hx : PassesAt CX X σ (E σ)) (I : Inv X pins σ H s) (r : Vals vs us)
    (h : ∀ x dx, H x = none → H dx = none → dx ≠ x → sp (.ref x :: vs) (upd (upd H dx (.own x)) x (.ins C dx [])) (fun v H2 => v = .non ∧ Q (.ref x) H2) (E σ)) :
    wpAny (model X.prog X.w) X.A (call (.ref C) us) (EP X pins σ Q) X.xe s := by
  have hq := h (s.heap.objs.size + 1) s.heap.objs.size (I.hok.fresh (Nat.le_succ _)) (I.hok.fresh (Nat.le_refl _)) (Nat.ne_of_lt (Nat.lt_succ_self _))
  have J := Inv.made (C := C) I
  have rr : Vals (V.ref (s.heap.objs.size + 1) :: vs) (Value.ref (s.heap.objs.size + 1) :: us) := .cons rfl r
  have hl : (Value.ref (s.heap.objs.size + 1) :: us).length = ps.length := by rw [← rr.length]; exact F.len _ _ _ _ hq
  have bb := hb _ (Value.ref (s.heap.objs.size + 1) :: us) J.kIn (by rw [List.append_nil]; exact hl)
  rw [List.append_nil] at bb
  refine wpAny_call (make_map (f := f) I.kIn M.makes M.init (beq_iff_eq.mp M.fn) (codeAny_mono (F.run _ X.stack _ _ ⟨Value.ref (s.heap.objs.size + 1) :: us, []⟩ (Value.ref (s.heap.objs.size + 1) :: us) _ _ (E σ) (hr.make C us [])
    (J.env0.make C us []) bb rr hq) fun z s' hz => ?_))
  cases z with
  | error e => exact hx pins _ _ e s' J hz
  | ok fl =>
    cases fl with
    | ret u =>
      obtain ⟨v, H', J', rv, ev, q3⟩ := J.after hz
      cases ev
      exact ⟨rv, ⟨V.ref (s.heap.objs.size + 1), H', J', rfl, q3⟩⟩
    | next => exact hz.elim
    | brk => exact hz.elim
    | cont => exact hz.elim
theorem pe_makeZ (M : Mk X.K C f) (F : FnOk X.prog X.w X.K X.mg X.base CX k f fd ps sp) (hr : Room (k + 1) X.A) (hg : Gl X x) (hm : X.mg x = some (.ref C)) (hb : Binds X.K fd ps []) (hx : ∀ σ, PassesAt CX X σ (E σ))
    (ha : PA X (e :: es) t) (hdb : (x == ("__debug__" : Str)) = false := by decide) (he : starEach (e :: es) X.env = (false, eval e X.env) :: starEach es X.env := by rfl) (hpl : (backTo pos (starEach es X.env)).any (·.1) = false := by rfl) :
    PE X (.Call (.Name x p) (e :: es) [] pos) (tMakeZ C sp E t) :=
  ⟨fun pins s σ H Q I h => wpAny_Call_Name_kw (ld_glob I hg hm (PySem.W.callWith_K (h₀ := X.base) I.ok.mod.kin M.kp (thn (ha.run pos pins s σ H _ I h) fun us s1 ⟨vs, H1, I1, r, q⟩ => ⟨I1.kIn, run_makeZ M F hr hb (hx σ) I1 r q⟩) he hpl) hdb)⟩
theorem pe_makeZ0 (M : Mk X.K C f) (F : FnOk X.prog X.w X.K X.mg X.base CX k f fd ps sp) (hr : Room (k + 1) X.A) (hg : Gl X x) (hm : X.mg x = some (.ref C)) (hb : Binds X.K fd ps []) (hx : ∀ σ, PassesAt CX X σ (E σ))
    (hdb : (x == ("__debug__" : Str)) = false := by decide) : PE X (.Call (.Name x p) [] [] pos) (tMakeZ C sp E tNil) :=
  ⟨fun pins s σ H Q I h => wpAny_Call_Name_kw (ld_glob I hg hm (PySem.W.callWith_K0 I.kIn M.kp (run_makeZ (us := []) M F hr hb (hx σ) I .nil h)) hdb)⟩
end
end L2
namespace Mv
open PySem PySem.Spec PyProof.Rows L2
/-! ### what a def promises -/
abbrev FM := List (Fl × D) → Store → Rs (D × Fl)
def spM (K : PySem.W.Frag) (ct : CT) (np : Nat) (m : FM) : Sp := fun vs H Q E => vs.length = np ∧ ∃ as S io M0, ArgsOk K M0 (fun _ => False) io H as vs ∧ StoOk K ct M0 io S H ∧ (∀ a, M0 a → ∃ o, H a = some o ∧ NI o) ∧
  match m as S with
  | .ok x S' => ∀ v io' H', Stp ct io H io' H' → ResOk K ct M0 (fun _ => False) H io' S' H' x.2 x.1 v → Q v H'
  | .er c p S' => ∀ dx io' H', Stp ct io H io' H' → StoOk K ct M0 io' S' H' → ErrOk K (ct.fd c) io' H' p dx → E (.ref (ct.ad c)) dx H'
  | .no => False
def startE (as : List (Fl × D)) (N : Nat) : Env := as.map (fun x => .ar x.1 x.2) ++ List.replicate (N - as.length) .no
def fnM (N : Nat) (b : SM) : FM := fun as S => match b (startE as N) S with
  | .rt d f S' => .ok (d, f) S'
  | .nx _ S' => .ok (.non, .c) S'
  | .er c p _ S' => .er c p S'
  | _ => .no
section
variable {P : Program} {w : World} {K : PySem.W.Frag} {mg : Str → Option Value} {base : Heap} {ct : CT}
theorem noMown {as : List (Fl × D)} {n : Nat} {s : St} {M0 : Addr → Prop} {H : Hp} {io : List Addr} {a : Addr} : ¬ Mown ⟨M0, H, io, [], fun _ => False, fun _ _ => False⟩ (startE as n) s a := fun z => by
  rcases z with z | ⟨i, d, h, _⟩
  · exact z
  · unfold startE at h
    have h := List.mem_of_getElem? h
    simp at h
theorem ok_start {N : Nat} {as : List (Fl × D)} {vs : List V} {S : Store} {io : List Addr} {M0 : Addr → Prop} {H : Hp} {ns : List Str} (hn : ns.length = N) (hl : vs.length ≤ N) (o : ArgsOk K M0 (fun _ => False) io H as vs) (q : StoOk K ct M0 io S H) (m : ∀ a, M0 a → ∃ o, H a = some o ∧ NI o) :
    Ok K ct ⟨M0, H, io, [], fun _ => False, fun _ _ => False⟩ (startE as N) S io (L2.start ns vs) H := by
  have e : as.length = vs.length := Paired.length o
  have ma : ∀ a, Mall ⟨M0, H, io, [], fun _ => False, fun _ _ => False⟩ (startE as N) (L2.start ns vs) a → M0 a := fun a z => z.elim id fun z => absurd z noMown
  refine ⟨?_, fun i f d h => ?_, fun i d h => ?_, fun i j d e a h => ?_, q.anti ma, Stp.refl, m, fun _ z => z.elim, (fun _ h => nomatch h), ⟨fun _ _ z => z.elim, fun _ _ _ z => z.elim, fun i b d h => by
    exfalso
    unfold startE at h
    have h := List.mem_of_getElem? h
    simp at h⟩⟩
  · unfold startE L2.start
    simp [hn, e]
  · unfold startE at h
    rcases Nat.lt_or_ge i as.length with hi | hi
    · rw [List.getElem?_append_left (by simpa using hi), List.getElem?_map] at h
      obtain ⟨p, hp, e2⟩ := Option.map_eq_some_iff.mp h
      cases e2
      obtain ⟨v, h1, h2⟩ := paired_get o hp
      refine ⟨v, ?_, ?_⟩
      · unfold L2.start
        rw [List.getElem?_append_left (by simp; omega), List.getElem?_map, h1]
        rfl
      · have an : ∀ {d v}, Rep K M0 io H d v → Rep K (Mall ⟨M0, H, io, [], fun _ => False, fun _ _ => False⟩ (startE as N) (L2.start ns vs)) io H d v := fun h => h.anti ma
        have go : (Rep K M0 io H p.2 v ∨ ∃ a, v = .ref a ∧ OwnAt K M0 io H p.2 a) → (Rep K (Mall ⟨M0, H, io, [], fun _ => False, fun _ _ => False⟩ (startE as N) (L2.start ns vs)) io H p.2 v ∨ ∃ a, v = .ref a ∧ OwnAt K (Mall ⟨M0, H, io, [], fun _ => False, fun _ _ => False⟩ (startE as N) (L2.start ns vs)) io H p.2 a ∧ ¬ Mown ⟨M0, H, io, [], fun _ => False, fun _ _ => False⟩ (startE as N) (L2.start ns vs) a) :=
          fun h => h.elim (fun h => .inl (an h)) fun ⟨a, e, h⟩ => .inr ⟨a, e, h.anti ma, noMown⟩
        cases hf : p.1 with
        | c => rw [hf] at h2; exact an h2
        | n => rw [hf] at h2; exact an h2
        | b => rw [hf] at h2; exact go (h2.elim .inl fun ⟨a, e, h, _⟩ => .inr ⟨a, e, h⟩)
        | o => rw [hf] at h2; exact go h2
        | t => rw [hf] at h2; exact Rep.anti (fun a z => noMown z) h2
    · rw [List.getElem?_append_right (by simpa using hi), List.getElem?_replicate] at h
      split at h <;> cases h
  · exfalso
    unfold startE at h
    have h := List.mem_of_getElem? h
    simp at h
  · unfold startE at h
    have h := List.mem_of_getElem? h
    simp at h
theorem fn_ok {x qual : Str} {st : Stmt} {f : Addr} {fd : FuncData} {N ps : List Str} {k : Nat} {b : SM} (F : Fun K x qual st f fd) (Sc : FnScope N ps (defScope st))
    (hbody : ∀ (cdv : Value) (A : Around) (outer : List PySem.Env) (s : Shared) (H : Hp) (E : XK), Room k (A.deeper (envOfC qual (defScope st) s.heap.objs.size f cdv)) →
      MSs (cxOf (L2.CX P w) P w K mg base N qual (defScope st) f cdv A outer s H E) ct (defBody st) b) : FnOk P w K mg base (L2.CX P w) (k + 1) f fd ps (spM K ct ps.length (fnM N.length b)) := by
  refine F.okX Sc (fun vs H Q E h => h.1) fun cdv A outer s H vs Q E hr h => ?_
  obtain ⟨hl, as, S, io, M0, o, q, m, h⟩ := h
  have hpl : ps.length ≤ N.length := by
    have z := congrArg List.length Sc.pre
    rw [List.length_take] at z
    omega
  refine ⟨_, (hbody cdv A outer s H E hr).run ⟨M0, H, io, [], fun _ => False, fun _ _ => False⟩ (fun cls d _ H => E cls d H) (takes_of rfl rfl rfl rfl) (passes_of rfl), startE as N.length, S, io, ok_start rfl (by omega) o q m, ?_⟩
  unfold fnM at h
  cases e : b (startE as N.length) S with
  | rt d f S' => rw [e] at h; exact h
  | nx r' S' =>
    rw [e] at h
    exact fun s' io' H' k' => h .non io' H' k'.stp (ResOk.sc (f := .c) (by simp) .non (k'.sto.anti fun a z => .inl z))
  | er c p r' S' =>
    rw [e] at h
    exact fun dx s' io' H' k' eo => h dx io' H' k'.stp (k'.sto.anti fun a z => .inl z) eo
  | bk r' S' => rw [e] at h; exact h.elim
  | ct r' S' => rw [e] at h; exact h.elim
  | no => rw [e] at h; exact h.elim
end
/-! ### calls -/
section
variable {X : Cx} {ct : CT} {pos : Pos}
theorem RepF.noN {K : PySem.W.Frag} {M N : Addr → Prop} {io : List Addr} {H : Hp} {f : Fl} {d : D} {v : V} (h : RepF K M N io H f d v) : RepF K M (fun _ => False) io H f d v := by
  cases f with
  | c => exact h
  | n => exact h
  | b => exact h.elim .inl fun ⟨a, e, z, _⟩ => .inr ⟨a, e, z, fun z => z⟩
  | o => exact h
  | t => exact h
def eFn (np : Nat) (m : FM) (t : AM) : EM := fun r S => (t r S).bind fun as S1 => if as.length = np then (m as S1).bind fun x S2 => .ok (x.1, outf x.2) S2 else .no
theorem sp_go {np : Nat} {m : FM} {G : Gx} {W : WX} {r : Env} {S : Store} {io : List Addr} {s : St} {H : Hp} {as : List (Fl × D)} {vs : List V} {P : D × Fl → Store → List Addr → Hp → Prop} {Q : VK} (k : Ok X.K ct G r S io s H)
    (o : ArgsOk X.K (Mall G r s) (Mown G r s) io H as vs) (h : Res X.K ct W (Mall G r s) s io H (if as.length = np then (m as S).bind fun x S2 => .ok (x.1, outf x.2) S2 else .no) P)
    (q : ∀ x S' v io' H', Stp ct io H io' H' → ResOk X.K ct (Mall G r s) (Mown G r s) H io' S' H' x.2 x.1 v → P x S' io' H' → Q v H') : spM X.K ct np m vs H Q (WE W s) := by
  split at h
  · rename_i hl
    refine ⟨by rw [← hl]; exact (Paired.length o).symm, as, S, io, Mall G r s, Paired.mapP o fun _ _ z => z.noN, k.sto, k.mdom, ?_⟩
    cases e : m as S with
    | ok x S' =>
      rw [e] at h
      exact fun v io' H' t z => q _ S' v io' H' t z.outf (h io' H' t z.sto)
    | er c p S' =>
      rw [e] at h
      exact h
    | no =>
      rw [e] at h
      exact h
  · exact h.elim
theorem fncall_go {np : Nat} {m : FM} {t : AM} {G : Gx} {W : WX} {s : St} {H : Hp} {Q : VK} (h : tE X.K ct G W (eFn np m t) s H Q) : tCallS (spM X.K ct np m) (WE W) (tA X.K ct G W t) s H Q := by
  obtain ⟨r, S, io, k, h⟩ := h
  refine ⟨r, S, io, k, Res.first h fun as S1 io1 H1 e1 t1 q1 h1 vs o => ?_⟩
  exact sp_go (k.step t1 q1) o h1 fun x S' v io' H' t' z p => p v (z.back fun a y => t1.free y)
/-- a def of the text: where it stands, what it promises -/
structure FnG (P : Program) (w : World) (K : PySem.W.Frag) (mg : Str → Option Value) (base : Heap) (ct : CT) (k : Nat) (x : Str) (np : Nat) (m : FM) : Prop where
  ex : ∃ (f : Addr) (fd : FuncData) (ps : List Str), FnOk P w K mg base (L2.CX P w) k f fd ps (spM K ct np m) ∧ mg x = some (.ref f) ∧ PySem.W.keepIn K (.ref f) = true ∧ Binds K fd ps []
abbrev FnT (X : Cx) (ct : CT) (k : Nat) (x : Str) (np : Nat) (m : FM) : Prop := FnG X.prog X.w X.K X.mg X.base ct k x np m
theorem me_call {x : Str} {p : Pos} {e : Expr} {es : List Expr} {k np : Nat} {m : FM} {t : AM} (F : FnT X ct k x np m) (hr : Room k X.A) (hg : Gl X x) (ha : MA X ct (e :: es) t)
    (hdb : (x == ("__debug__" : Str)) = false := by decide) (he : starEach (e :: es) X.env = (false, eval e X.env) :: starEach es X.env := by rfl) (hpl : (backTo pos (starEach es X.env)).any (·.1) = false := by rfl) :
    ME X ct (.Call (.Name x p) (e :: es) [] pos) (eFn np m t) := by
  obtain ⟨f, fd, ps, F, hm, hk, hb⟩ := F.ex
  exact ⟨fun G W tk => (pe_callS F hr hg hm hk hb (passAt tk) (ha.run G W tk) hdb he hpl).imp fun s H Q h => fncall_go h⟩
theorem me_call0 {x : Str} {p : Pos} {k np : Nat} {m : FM} (F : FnT X ct k x np m) (hr : Room k X.A) (hg : Gl X x) (hdb : (x == ("__debug__" : Str)) = false := by decide) : ME X ct (.Call (.Name x p) [] [] pos) (eFn np m aNil) := by
  obtain ⟨f, fd, ps, F, hm, hk, hb⟩ := F.ex
  refine ⟨fun G W tk => (pe_callZ F hr hg hm hk hb (passAt tk) hdb).imp fun s H Q h => ?_⟩
  obtain ⟨r, S, io, k, h⟩ := fncall_go h
  exact h.here k.sto [] .nil
/-- a method of the class number C -/
structure MeG (P : Program) (w : World) (K : PySem.W.Frag) (mg : Str → Option Value) (base : Heap) (ct : CT) (k C : Nat) (x : Str) (np : Nat) (m : FM) : Prop where
  ex : ∃ (f : Addr) (fd : FuncData) (ps : List Str), FnOk P w K mg base (L2.CX P w) k f fd ps (spM K ct np m) ∧ Cls K (ct.ad C) ∧ Meth K (ct.ad C) x f ∧ Binds K fd ps [] ∧ x ∉ ct.fd C ∧ ct.ex C = false
abbrev MeT (X : Cx) (ct : CT) (k C : Nat) (x : Str) (np : Nat) (m : FM) : Prop := MeG X.prog X.w X.K X.mg X.base ct k C x np m
theorem MeG.mono {P : Program} {w : World} {K : PySem.W.Frag} {mg : Str → Option Value} {base : Heap} {ct : CT} {j k C : Nat} {x : Str} {np : Nat} {m : FM} (h : MeG P w K mg base ct j C x np m) (l : j ≤ k) : MeG P w K mg base ct k C x np m := by
  obtain ⟨f, fd, ps, F, r⟩ := h.ex
  exact ⟨f, fd, ps, F.mono l, r⟩
def eMe (np : Nat) (tab : Nat → Option FM) (mo : EM) (t : AM) : EM := fun r S => match mo r S with
  | .ok (.ins n, _) S1 => match S1[n]? with
    | some (C, _) => match tab C with
      | some m => (t r S1).bind fun as S2 => if (as.length + 1) = np then (m ((.c, .ins n) :: as) S2).bind fun x S3 => .ok (x.1, outf x.2) S3 else .no
      | none => .no
    | none => .no
  | _ => .no
theorem lookup_none_of {n : Str} {gs : List (Str × V)} {ns : List Str} {k : Nat} (h : gs.map Prod.fst = ns.take k) (z : n ∉ ns) : gs.lookup n = none := by
  cases e : gs.lookup n with
  | none => rfl
  | some v =>
    have q : n ∈ gs.map Prod.fst := List.mem_map.mpr ⟨(n, v), PySem.mem_of_lookup e, rfl⟩
    rw [h] at q
    exact absurd (List.mem_of_mem_take q) z
theorem ins_of {K : PySem.W.Frag} {M N : Addr → Prop} {io : List Addr} {H : Hp} {f : Fl} {n : Nat} {v : V} (h : RepF K M N io H f (.ins n) v) : ∃ a, v = .ref a ∧ io[n]? = some a := by
  have q := h.weak
  cases q with
  | ins e => exact ⟨_, rfl, e⟩
theorem meth_go {np : Nat} {tab : Nat → Option FM} {mo : EM} {t : AM} {x : Str} {G : Gx} {W : WX} {s : St} {H : Hp} {Q : VK} (hx : ∀ C m, tab C = some m → x ∉ ct.fd C ∧ ct.ex C = false) (h : tE X.K ct G W (eMe np tab mo t) s H Q) :
    ∃ z : {z : Nat × FM // tab z.1 = some z.2}, tMethZ (ct.ad z.1.1) x (spM X.K ct np z.1.2) (WE W) (tE X.K ct G W mo) (tA X.K ct G W t) s H Q := by
  obtain ⟨r, S, io, k, h⟩ := h
  unfold eMe at h
  split at h
  · rename_i n fl S1 e
    split at h
    · rename_i C vs0 e2
      split at h
      · rename_i m e3
        refine ⟨⟨(C, m), e3⟩, r, S, io, k, ?_⟩
        rw [e]
        intro io1 H1 t1 q1 v o
        obtain ⟨a, ev, ea⟩ := ins_of o.repF
        obtain ⟨a', dx, gs, h1, h2, h3⟩ := q1.at_ n C vs0 e2 (hx C m e3).2
        rw [ea] at h1
        cases h1
        refine ⟨a, dx, gs, ev, h2, lookup_none_of h3.1 (hx C m e3).1, r, S1, io1, k.step t1 q1, Res.first (h.shift t1) fun as S2 io2 H2 e5 t2 q2 h5 vs o2 => ?_⟩
        have k2 := (k.step t1 q1).step t2 q2
        refine sp_go (as := (.c, .ins n) :: as) k2 (.cons (by rw [ev]; exact Rep.ins (io_get t2.pre ea)) o2) h5 fun x S' v io' H' t' z p => p v (z.back fun a y => t1.free (t2.free y))
      · exact h.elim
    · exact h.elim
  · exact h.elim
theorem me_meth {x : Str} {o e : Expr} {es : List Expr} {apos : Pos} {k np : Nat} {tab : Nat → Option FM} {mo : EM} {t : AM} {pl : Sem Bool} (ho : ME X ct o mo) (T : ∀ C m, tab C = some m → MeT X ct k C x np m) (hr : Room k X.A) (ha : MA X ct (e :: es) t)
    (hst : starEach (e :: es) X.env = (false, eval e X.env) :: starEach es X.env := by rfl) (hpl : (backTo pos (starEach es X.env)).any (·.1) = false := by rfl)
    (ht : eval (.Call (.Attribute o x apos) (e :: es) [] pos) X.env = (do
      let ov ← eval o X.env
      standAt apos.atName
      let (f, first) ← holding [ov] (getMethod ov x pl)
      callWith pos f first (backTo pos (starEach (e :: es) X.env)) (backToKw pos (keywordEach [] X.env))) := by rfl) :
    ME X ct (.Call (.Attribute o x apos) (e :: es) [] pos) (eMe np tab mo t) :=
  ⟨fun G W tk => (PE.ex fun z : {z : Nat × FM // tab z.1 = some z.2} => show PE X _ (tMethZ (ct.ad z.1.1) x (spM X.K ct np z.1.2) (WE W) (tE X.K ct G W mo) (tA X.K ct G W t)) by
    obtain ⟨f, fd, ps, F, c, hm, hb, _⟩ := (T z.1.1 z.1.2 z.2).ex
    exact pe_methZ (ho.run G W tk) c hm F hr hb (passAt tk) (ha.run G W tk) hst hpl ht).imp fun s H Q h => meth_go (fun C m e => by
      obtain ⟨_, _, _, _, _, _, _, z⟩ := (T C m e).ex
      exact z) h⟩
theorem me_meth0 {x : Str} {o : Expr} {apos : Pos} {k np : Nat} {tab : Nat → Option FM} {mo : EM} {pl : Sem Bool} (ho : ME X ct o mo) (T : ∀ C m, tab C = some m → MeT X ct k C x np m) (hr : Room k X.A)
    (ht : eval (.Call (.Attribute o x apos) [] [] pos) X.env = (do
      let ov ← eval o X.env
      standAt apos.atName
      let (f, first) ← holding [ov] (getMethod ov x pl)
      callWith pos f first (backTo pos (starEach [] X.env)) (backToKw pos (keywordEach [] X.env))) := by rfl) :
    ME X ct (.Call (.Attribute o x apos) [] [] pos) (eMe np tab mo aNil) :=
  ⟨fun G W tk => (PE.ex fun z : {z : Nat × FM // tab z.1 = some z.2} => show PE X _ (tMethZ (ct.ad z.1.1) x (spM X.K ct np z.1.2) (WE W) (tE X.K ct G W mo) tNil) by
    obtain ⟨f, fd, ps, F, c, hm, hb, _⟩ := (T z.1.1 z.1.2 z.2).ex
    exact pe_methZ0 (ho.run G W tk) c hm F hr hb (passAt tk) ht).imp fun s H Q h => by
      obtain ⟨z, r, S, io, k, h⟩ := meth_go (fun C m e => by
        obtain ⟨_, _, _, _, _, _, _, z⟩ := (T C m e).ex
        exact z) h
      refine ⟨z, r, S, io, k, Res.imp h fun x S1 io1 H1 t1 q1 h1 v o => ?_⟩
      obtain ⟨a, dx, gs, e1, e2, e3, r2, S2, io2, k2, h2⟩ := h1 v o
      exact ⟨a, dx, gs, e1, e2, e3, h2.here k2.sto [] .nil⟩⟩
/-- o.f -/
def eFld (cs : List Nat) (i : Nat) (mo : EM) : EM := fun r S => (mo r S).bind fun o S1 => match o.1 with
  | .ins n => match S1[n]? with
    | some (C, vs) => if cs.contains C then (match vs[i]? with
      | some d => .ok (d, .c) S1
      | none => .no) else .no
    | none => .no
  | _ => .no
structure FdT (K : PySem.W.Frag) (ct : CT) (f : Str) (i C : Nat) : Prop where
  cl : Cls K (ct.ad C)
  na : NoAttr K (ct.ad C) f
  ix : (ct.fd C)[i]? = some f
  nd : (ct.fd C).Nodup
  nx : ct.ex C = false := by rfl
theorem lookup_nodup {f : Str} {v : V} : ∀ {gs : List (Str × V)} {i : Nat}, (gs.map Prod.fst).Nodup → gs[i]? = some (f, v) → gs.lookup f = some v
  | [], _, _, h => by simp at h
  | (g, w) :: gs, 0, _, h => by
    simp at h
    rw [List.lookup_cons, h.1]
    simp [h.2]
  | (g, w) :: gs, i + 1, nd, h => by
    rw [List.map_cons, List.nodup_cons] at nd
    have h' : gs[i]? = some (f, v) := by simpa using h
    have ne : (f == g) = false := by
      refine beq_false_of_ne fun z => nd.1 ?_
      rw [← z]
      exact List.mem_map.mpr ⟨(f, v), List.mem_of_getElem? h', rfl⟩
    rw [List.lookup_cons, ne]
    exact lookup_nodup nd.2 h'
theorem FldOk.look {K : PySem.W.Frag} {M : Addr → Prop} {io : List Addr} {H : Hp} {ns : List Str} {fs : List D} {gs : List (Str × V)} {i : Nat} {f : Str} {d : D} (h : FldOk K M io H ns fs gs) (nd : ns.Nodup) (hi : ns[i]? = some f) (hd : fs[i]? = some d) :
    ∃ v, gs.lookup f = some v ∧ Rep K M io H d v := by
  obtain ⟨v, h1, h2⟩ := h.2.get hd
  rw [List.getElem?_map] at h1
  obtain ⟨p, hp, e⟩ := Option.map_eq_some_iff.mp h1
  refine ⟨v, lookup_nodup (i := i) ?_ ?_, h2⟩
  · rw [h.1]
    exact nd.sublist (List.take_sublist _ _)
  · have q : (gs.map Prod.fst)[i]? = some f := by
      rw [h.1, List.getElem?_take_of_lt (List.getElem?_eq_some_iff.mp hd).1]
      exact hi
    rw [List.getElem?_map, hp] at q
    have q := Option.some.inj q
    rw [hp, ← e, ← q]
theorem me_fld {o : Expr} {f : Str} {cs : List Nat} {i : Nat} {mo : EM} (ho : ME X ct o mo) (T : ∀ C ∈ cs, FdT X.K ct f i C) (hb : attributeBase o f X.env (eval o X.env) = eval o X.env := by rfl) : ME X ct (.Attribute o f pos) (eFld cs i mo) :=
  ⟨fun G W tk => (pe_fld (ho.run G W tk) hb).imp fun s H Q ⟨r, S, io, k, h⟩ => ⟨r, S, io, k, Res.first h fun o S1 io1 H1 e1 t1 q1 h1 v ov => by
    split at h1
    · rename_i n e
      have o2 := ov.repF
      rw [e] at o2
      obtain ⟨a, ev, ea⟩ := ins_of o2
      split at h1
      · rename_i C vs e2
        split at h1
        · rename_i hc
          obtain ⟨a', dx, gs, y1, y2, y3⟩ := q1.at_ n C vs e2 (T C (by simpa using hc)).nx
          rw [ea] at y1
          cases y1
          split at h1
          · rename_i d e3
            have T := T C (by simpa using hc)
            obtain ⟨w, z1, z2⟩ := y3.look T.nd T.ix e3
            exact ⟨a, _, dx, gs, w, ev, y2, T.cl, T.na, z1, h1.here q1 w (ResOk.mk (f := .c) (by simp) z2 q1)⟩
          · exact h1.elim
        · exact h1.elim
      · exact h1.elim
    · exact h1.elim⟩⟩
/-- C(..) -/
structure MkG (P : Program) (w : World) (K : PySem.W.Frag) (mg : Str → Option Value) (base : Heap) (ct : CT) (k C : Nat) (x : Str) (np : Nat) (m : FM) : Prop where
  ex : ∃ (f : Addr) (fd : FuncData) (ps : List Str), FnOk P w K mg base (L2.CX P w) k f fd ps (spM K ct np m) ∧ Mk K (ct.ad C) f ∧ mg x = some (.ref (ct.ad C)) ∧ Binds K fd ps [] ∧ ct.ex C = false
abbrev MkT (X : Cx) (ct : CT) (k C : Nat) (x : Str) (np : Nat) (m : FM) : Prop := MkG X.prog X.w X.K X.mg X.base ct k C x np m
def eNew (C np : Nat) (m : FM) (t : AM) : EM := fun r S => (t r S).bind fun as S1 => if as.length + 1 = np then (m ((.c, .ins S1.length) :: as) (S1 ++ [(C, [])])).bind fun x S2 => match x.1 with
  | .non => .ok (.ins S1.length, .c) S2
  | _ => .no else .no
theorem made_sto {K : PySem.W.Frag} {M : Addr → Prop} {io : List Addr} {S : Store} {H : Hp} {C : Nat} {x dx : Addr} (q : StoOk K ct M io S H) (ne0 : ct.ex C = false) (hx : H x = none) (hd : H dx = none) (ne : dx ≠ x) :
    Stp ct io H (io ++ [x]) (upd (upd H dx (.own x)) x (.ins (ct.ad C) dx [])) ∧ StoOk K ct M (io ++ [x]) (S ++ [(C, [])]) (upd (upd H dx (.own x)) x (.ins (ct.ad C) dx [])) := by
  have hx' : upd H dx (.own x) x = none := by rw [upd_ne (Ne.symm ne)]; exact hx
  have t0 : Stp ct io H io (upd (upd H dx (.own x)) x (.ins (ct.ad C) dx [])) := (Stp.upd hd).trans (Stp.upd hx')
  have nx : x ∉ io := fun z => by
    obtain ⟨i, hi, e⟩ := List.getElem_of_mem z
    have hS : i < S.length := by rw [q.len]; exact hi
    obtain ⟨b, o', h1, h2⟩ := q.io_at hS
    rw [List.getElem?_eq_getElem hi, e] at h1
    cases h1
    rw [hx] at h2
    cases h2
  have t : Stp ct io H (io ++ [x]) (upd (upd H dx (.own x)) x (.ins (ct.ad C) dx [])) := ⟨t0.k1, t0.k2, ⟨[x], rfl⟩, fun a h n => by
    rcases List.mem_append.mp h with h | h
    · exact absurd h n
    · rw [List.mem_singleton.mp h]
      exact hx, t0.dom, t0.k3⟩
  refine ⟨t, by simp [q.len], fun n C' fs e x' => ?_, fun n C' fs e x' => ?_, ?_, tabs_mono (M := fun _ => False) q.tb t.kp fun a ps e => by rw [upd_ne (ne_of_none e hx), upd_ne (ne_of_none e hd)]; exact e, pins_mono (M := fun _ => False) q.pn t.kp⟩
  · rcases Nat.lt_or_ge n S.length with hn | hn
    · rw [List.getElem?_append_left hn] at e
      obtain ⟨a, dx', gs, h1, h2, h3, h4⟩ := q.at_ n C' fs e x'
      refine ⟨a, dx', gs, by rw [List.getElem?_append_left (by rw [← q.len]; exact hn)]; exact h1, ?_, h3, h4.stp t⟩
      rw [upd_ne (ne_of_none h2 hx), upd_ne (ne_of_none h2 hd)]
      exact h2
    · rw [List.getElem?_append_right hn] at e
      have hn0 : n - S.length = 0 := by
        have := (List.getElem?_eq_some_iff.mp e).1
        simp at this
        omega
      rw [hn0] at e
      cases e
      refine ⟨x, dx, [], ?_, upd_same, rfl, .nil⟩
      rw [List.getElem?_append_right (by rw [← q.len]; exact hn), ← q.len, hn0]
      rfl
  · rcases Nat.lt_or_ge n S.length with hn | hn
    · rw [List.getElem?_append_left hn] at e
      obtain ⟨a, d, h1, h2, h3⟩ := q.ax n C' fs e x'
      refine ⟨a, d, by rw [List.getElem?_append_left (by rw [← q.len]; exact hn)]; exact h1, ?_, h3.mono (M := fun _ => False) t.kp t.pre⟩
      rw [upd_ne (ne_of_none h2 hx), upd_ne (ne_of_none h2 hd)]
      exact h2
    · rw [List.getElem?_append_right hn] at e
      have hn0 : n - S.length = 0 := by
        have := (List.getElem?_eq_some_iff.mp e).1
        simp at this
        omega
      rw [hn0] at e
      cases e
      rw [ne0] at x'
      cases x'
  · rw [List.nodup_append]
    refine ⟨q.nd, by simp, fun a ha b hb e => ?_⟩
    rw [List.mem_singleton.mp hb] at e
    exact nx (e ▸ ha)
theorem make_go {np C : Nat} {m : FM} {t : AM} {G : Gx} {W : WX} {s : St} {H : Hp} {Q : VK} (nx : ct.ex C = false) (h : tE X.K ct G W (eNew C np m t) s H Q) : tMakeZ (ct.ad C) (spM X.K ct np m) (WE W) (tA X.K ct G W t) s H Q := by
  obtain ⟨r, S, io, k, h⟩ := h
  refine ⟨r, S, io, k, Res.first h fun as S1 io1 H1 e1 t1 q1 h1 vs o x dx hx hd ne => ?_⟩
  have k1 := k.step t1 q1
  split at h1
  · rename_i hl
    obtain ⟨t2, q2⟩ := made_sto (C := C) q1 nx hx hd ne
    have k2 := k1.step t2 q2
    have hlen : vs.length = as.length := (Paired.length o).symm
    have ei : (io1 ++ [x])[S1.length]? = some x := by
      rw [List.getElem?_append_right (by rw [q1.len]; exact Nat.le_refl _), q1.len, Nat.sub_self]
      rfl
    refine ⟨by rw [List.length_cons, hlen]; exact hl, (.c, .ins S1.length) :: as, S1 ++ [(C, [])], io1 ++ [x], Mall G r s, .cons (Rep.ins ei) (Paired.mapP (o.stp t2) fun _ _ z => z.noN), q2, k2.mdom, ?_⟩
    have h1 := h1.shift t2
    cases e : m ((.c, .ins S1.length) :: as) (S1 ++ [(C, [])]) with
    | ok y S' =>
      rw [e] at h1
      have h1 : Res X.K ct W (Mall G r s) s (io1 ++ [x]) (upd (upd H1 dx (.own x)) x (.ins (ct.ad C) dx [])) (match y.1 with
        | .non => Rs.ok (D.ins S1.length, Fl.c) S'
        | _ => .no) _ := h1
      intro v io' H' t3 z
      split at h1
      · rename_i e4
        have o4 := z.repF
        rw [e4] at o4
        exact ⟨non_of o4, h1 io' H' t3 z.sto (.ref x) ⟨Rep.ins (io_get t3.pre ei), z.sto⟩⟩
      · exact h1.elim
    | er c p S' =>
      rw [e] at h1
      exact h1
    | no =>
      rw [e] at h1
      exact h1
  · exact h1.elim
theorem me_new {x : Str} {p : Pos} {e : Expr} {es : List Expr} {k C np : Nat} {m : FM} {t : AM} (F : MkT X ct k C x np m) (hr : Room (k + 1) X.A) (hg : Gl X x) (ha : MA X ct (e :: es) t)
    (hdb : (x == ("__debug__" : Str)) = false := by decide) (he : starEach (e :: es) X.env = (false, eval e X.env) :: starEach es X.env := by rfl) (hpl : (backTo pos (starEach es X.env)).any (·.1) = false := by rfl) :
    ME X ct (.Call (.Name x p) (e :: es) [] pos) (eNew C np m t) := by
  obtain ⟨f, fd, ps, F, M, hm, hb, nx⟩ := F.ex
  exact ⟨fun G W tk => (pe_makeZ M F hr hg hm hb (passAt tk) (ha.run G W tk) hdb he hpl).imp fun s H Q h => make_go nx h⟩
theorem me_new0 {x : Str} {p : Pos} {k C np : Nat} {m : FM} (F : MkT X ct k C x np m) (hr : Room (k + 1) X.A) (hg : Gl X x) (hdb : (x == ("__debug__" : Str)) = false := by decide) : ME X ct (.Call (.Name x p) [] [] pos) (eNew C np m aNil) := by
  obtain ⟨f, fd, ps, F, M, hm, hb, nx⟩ := F.ex
  refine ⟨fun G W tk => (pe_makeZ0 M F hr hg hm hb (passAt tk) hdb).imp fun s H Q h => ?_⟩
  obtain ⟨r, S, io, k, h⟩ := make_go nx h
  exact h.here k.sto [] .nil
end
/-! ### where the text's defs stand -/
section
variable {P : Program} {w : World} {K : PySem.W.Frag} {mg : Str → Option Value} {base : Heap} {ct : CT}
def FunO (K : PySem.W.Frag) (mg : Str → Option Value) (x : Str) (st : Stmt) (ps : List Str) : Prop := ∃ (f : Addr) (fd : FuncData), Fun K x x st f fd ∧ mg x = some (.ref f) ∧ ∀ us : List Value, us.length = ps.length → bindArgs fd ⟨us, []⟩ = pure (ps.zip us)
def MeO (K : PySem.W.Frag) (C : Addr) (x qual : Str) (st : Stmt) (ps : List Str) : Prop := ∃ (f : Addr) (fd : FuncData), Fun K x qual st f fd ∧ Meth K C x f ∧ Binds K fd ps []
def MkO (K : PySem.W.Frag) (mg : Str → Option Value) (C : Addr) (x qual : Str) (st : Stmt) (ps : List Str) : Prop := ∃ (f : Addr) (fd : FuncData), Fun K "__init__" qual st f fd ∧ Mk K C f ∧ mg x = some (.ref C) ∧ Binds K fd ps []
theorem FunO.mk' {x : Str} {st : Stmt} {ps : List Str} {f : Addr} {oc : Value} {od an : Option Addr} {osl : Array (Option Value)} {kV doc pm cdv ctv : Value} {h : Heap} (X : K.In h) (G : h.Ns mainGlobals mg) (a : PySem.W.nsIn K mainGlobals x = some (some (.ref f)))
    (l : K.lookup f = some ⟨oc, od, .func (PySem.W.fnOf x x (defArgs st) (defBody st) (defScope st) .none kV doc pm an cdv ctv), osl⟩) (c : PySem.W.codeIn K cdv x = true) (k : PySem.W.keepIn K (.ref f) = true)
    (hb : ∀ (kV doc pm : Value) (an : Option Addr) (cdv ct : Value) (us : List Value), us.length = ps.length → bindArgs (PySem.W.fnOf x x (defArgs st) (defBody st) (defScope st) .none kV doc pm an cdv ct) ⟨us, []⟩ = pure (ps.zip us)) : FunO K mg x st ps :=
  ⟨f, _, fun_mk l c k, PySem.W.mg_of X G a, hb kV doc pm an cdv ctv⟩
theorem MeO.mk' {C : Addr} {x qual : Str} {st : Stmt} {ps : List Str} {f : Addr} {oc : Value} {od an : Option Addr} {osl : Array (Option Value)} {kV doc pm cdv ctv : Value} (a : PySem.W.findIn K (.ref C) x = some (some (.ref f))) (i : PySem.W.isFn K (.ref f) = true)
    (l : K.lookup f = some ⟨oc, od, .func (PySem.W.fnOf x qual (defArgs st) (defBody st) (defScope st) .none kV doc pm an cdv ctv), osl⟩) (c : PySem.W.codeIn K cdv qual = true) (k : PySem.W.keepIn K (.ref f) = true)
    (hb : ∀ (kV doc pm : Value) (an : Option Addr) (cdv ct : Value) (us : List Value), us.length = ps.length → bindArgs (PySem.W.fnOf x qual (defArgs st) (defBody st) (defScope st) .none kV doc pm an cdv ct) ⟨us, []⟩ = pure (ps.zip us)) : MeO K C x qual st ps :=
  ⟨f, _, fun_mk l c k, ⟨a, i, k⟩, (fun_mk l c k).binds hb⟩
theorem MkO.mk' {C : Addr} {x qual : Str} {st : Stmt} {ps : List Str} {f : Addr} {oc : Value} {od an : Option Addr} {osl : Array (Option Value)} {kV doc pm cdv ctv : Value} {h : Heap} (X : K.In h) (G : h.Ns mainGlobals mg) (aC : PySem.W.nsIn K mainGlobals x = some (some (.ref C)))
    (mk : PySem.W.makesIn K C = true) (kc : PySem.W.keepIn K (.ref C) = true) (a : PySem.W.findIn K (.ref C) "__init__" = some (some (.ref f))) (i : PySem.W.isFn K (.ref f) = true)
    (l : K.lookup f = some ⟨oc, od, .func (PySem.W.fnOf "__init__" qual (defArgs st) (defBody st) (defScope st) .none kV doc pm an cdv ctv), osl⟩) (c : PySem.W.codeIn K cdv qual = true) (k : PySem.W.keepIn K (.ref f) = true)
    (hb : ∀ (kV doc pm : Value) (an : Option Addr) (cdv ct : Value) (us : List Value), us.length = ps.length → bindArgs (PySem.W.fnOf "__init__" qual (defArgs st) (defBody st) (defScope st) .none kV doc pm an cdv ct) ⟨us, []⟩ = pure (ps.zip us)) : MkO K mg C x qual st ps :=
  ⟨f, _, fun_mk l c k, ⟨mk, a, i, kc⟩, PySem.W.mg_of X G aC, (fun_mk l c k).binds hb⟩
theorem fn_g {x : Str} {st : Stmt} {N ps : List Str} {k n np : Nat} {b : SM} (F : FunO K mg x st ps) (Sc : FnScope N ps (defScope st))
    (hN : N.length = n) (hp : ps.length = np) (hbody : ∀ (f : Addr) (cdv : Value) (A : Around) (outer : List PySem.Env) (s : Shared) (H : Hp) (E : XK), Room k (A.deeper (envOfC x (defScope st) s.heap.objs.size f cdv)) →
      MSs (cxOf (L2.CX P w) P w K mg base N x (defScope st) f cdv A outer s H E) ct (defBody st) b) : FnG P w K mg base ct (k + 1) x np (fnM n b) := by
  subst hN hp
  obtain ⟨f, fd, F, hm, hb⟩ := F
  exact ⟨f, fd, ps, fn_ok F Sc (hbody f), hm, F.kp, .all hb⟩
theorem me_g {C : Nat} {x qual : Str} {st : Stmt} {N ps : List Str} {k n np : Nat} {b : SM} (F : MeO K (ct.ad C) x qual st ps) (c : Cls K (ct.ad C)) (hx : x ∉ ct.fd C) (nx : ct.ex C = false) (Sc : FnScope N ps (defScope st))
    (hN : N.length = n) (hp : ps.length = np) (hbody : ∀ (f : Addr) (cdv : Value) (A : Around) (outer : List PySem.Env) (s : Shared) (H : Hp) (E : XK), Room k (A.deeper (envOfC qual (defScope st) s.heap.objs.size f cdv)) →
      MSs (cxOf (L2.CX P w) P w K mg base N qual (defScope st) f cdv A outer s H E) ct (defBody st) b) : MeG P w K mg base ct (k + 1) C x np (fnM n b) := by
  subst hN hp
  obtain ⟨f, fd, F, hm, hb⟩ := F
  exact ⟨f, fd, ps, fn_ok F Sc (hbody f), c, hm, hb, hx, nx⟩
theorem mk_g {C : Nat} {x qual : Str} {st : Stmt} {N ps : List Str} {k n np : Nat} {b : SM} (F : MkO K mg (ct.ad C) x qual st ps) (nx : ct.ex C = false) (Sc : FnScope N ps (defScope st))
    (hN : N.length = n) (hp : ps.length = np) (hbody : ∀ (f : Addr) (cdv : Value) (A : Around) (outer : List PySem.Env) (s : Shared) (H : Hp) (E : XK), Room k (A.deeper (envOfC qual (defScope st) s.heap.objs.size f cdv)) →
      MSs (cxOf (L2.CX P w) P w K mg base N qual (defScope st) f cdv A outer s H E) ct (defBody st) b) : MkG P w K mg base ct (k + 1) C x np (fnM n b) := by
  subst hN hp
  obtain ⟨f, fd, F, hm, hg, hb⟩ := F
  exact ⟨f, fd, ps, fn_ok F Sc (hbody f), hm, hg, hb, nx⟩
/-- the law's own end -/
theorem law_sp {m : FM} {H : Hp} {a : Addr} {ns : List Int} (hS : SqL K H a (ns.map V.int)) (hT : LamX.Tabs ct.tb H) (hP : PinOk ct.pn H) (h : ∃ S f, m [(.c, .frz (ns.map D.int))] [] = .ok (.bl true, f) S) : spM K ct 1 m [.ref a] H (fun v _ => v = .bl true) (fun _ _ _ => False) := by
  obtain ⟨S, f, e⟩ := h
  refine ⟨rfl, [(.c, .frz (ns.map D.int))], [], [], fun _ => False, .cons (.frz ?_ (Reps.ofInts ns)) .nil, ⟨rfl, fun n C fs e => by simp at e, fun n C fs e => by simp at e, .nil, hT, hP⟩, fun a z => z.elim, ?_⟩
  · rcases hS with h | h
    · exact .inl ⟨h, fun z => z⟩
    · exact .inr h
  · rw [e]
    exact fun v io' H' t o => bl_of o.repF
def spLaw (K : PySem.W.Frag) : Sp := fun vs H Q _ => ∃ (a : Addr) (ns : List Int), vs = [.ref a] ∧ SqL K H a (ns.map V.int) ∧ ns.length ≤ 63 ∧ ∀ H', Q (.bl true) H'
theorem law_end {m : SM} {st : Stmt} {N : List Str} {k n : Nat} {fa : Addr} (F : FunO K mg "law" st ["script"]) (hfa : mg "law" = some (.ref fa)) (Sc : FnScope N ["script"] (defScope st)) (hN : N.length = n)
    (hbody : ∀ (base : Heap) (f : Addr) (cdv : Value) (A : Around) (outer : List PySem.Env) (s : Shared) (H : Hp) (E : XK), Room k (A.deeper (envOfC "law" (defScope st) s.heap.objs.size f cdv)) →
      MSs (cxOf (L2.CX P w) P w K mg base N "law" (defScope st) f cdv A outer s H E) ct (defBody st) m)
    (math : ∀ ns : List Int, ns.length ≤ 63 → ∃ S f, fnM n m [(.c, .frz (ns.map D.int))] [] = .ok (.bl true, f) S) (ht : ct.tb = [] := by rfl) (hq : ct.pn = [] := by rfl) :
    ∃ fd : FuncData, (∀ (s : Shared) (u : Value), BindsTo s fd ⟨[u], []⟩ [("script", u)]) ∧ ∀ base : Heap, K.In base → base.Ns mainGlobals mg → FnOk P w K mg base (L2.CX P w) (k + 1) fa fd ["script"] (spLaw K) := by
  subst hN
  obtain ⟨f, fd, F, hm, hb⟩ := F
  rw [hfa] at hm
  cases hm
  refine ⟨fd, fun s u => .of_eq (hb [u] rfl), fun base _ _ => (fn_ok (ct := ct) F Sc (hbody base fa)).imp fun vs H Q E h => ?_⟩
  obtain ⟨a, ns, rfl, hS, hl, q⟩ := h
  obtain ⟨S, f, e⟩ := math ns hl
  have z := law_sp (ct := ct) hS (by rw [ht]; exact fun p hp => nomatch hp) (by rw [hq]; exact fun p hp => nomatch hp) ⟨S, f, e⟩
  obtain ⟨h1, as, S0, io, M0, h2, h3, h4, h5⟩ := z
  refine ⟨h1, as, S0, io, M0, h2, h3, h4, ?_⟩
  cases e2 : fnM N.length m as S0 with
  | ok x S' =>
    rw [e2] at h5
    intro v io' H' t o
    have ev : v = .bl true := h5 v io' H' t o
    rw [ev]
    exact q H'
  | er c p S' =>
    rw [e2] at h5
    exact fun dx io' H' t1 t2 t3 => (h5 dx io' H' t1 t2 t3).elim
  | no =>
    rw [e2] at h5
    exact h5.elim
theorem law_walk {l : PySem.W.OpenLaw} {k : Nat} {q : Program} {loose : List Str} {XP : (Str → Option Value) → Heap → Prop} {YP : World → Heap → Prop} {d : DefRec} {K : Params → PySem.W.Frag} (hn : l.most = some 63) (hdf : d.params.defaults = []) (hr : Room k callerA)
    (hY : ∀ (w : World) (h : Heap), YP w h → (K w.params).In h)
    (F : ∀ (w : World) (mg : Str → Option Value) (fa : Addr) (h : Heap), (K w.params).In h → h.Ns mainGlobals mg → mg d.name = some (.ref fa) →
      ∃ fd : FuncData, (∀ (s : Shared) (u : Value), BindsTo s fd ⟨[u], []⟩ [("script", u)]) ∧ ∀ base : Heap, (K w.params).In base → base.Ns mainGlobals mg → FnOk l.prog w (K w.params) mg base (L2.CX l.prog w) k fa fd ["script"] (spLaw (K w.params))) :
    PySem.W.WalkO q loose XP YP l.row.toRowW d [] (fun f vs => PySem.call f vs) :=
  L2.walk_of (n := 63) (k := k) (x := "script") (CX := fun w => L2.CX l.prog w) (sp := fun w => spLaw (K w.params)) hn (by decide) hdf hr hY F (fun _ _ a ns hl _ hS => ⟨a, ns, rfl, hS, hl, fun _ => rfl⟩) fun w H s e s' h => by
    obtain ⟨_, _, _, _, _, _, _, _, _, _, _, _, z⟩ := h
    exact z
end
end Mv

set_option maxRecDepth 100000
namespace Mv
open PySem PySem.Spec PyProof.Rows L2
section
variable {X : Cx} {ct : CT} {pos : Pos}
/-! ### self.f = e -/
/-- the i-th field is written, or it is the next one -/
def putD (i : Nat) (d : D) (fs : List D) : List D := if i < fs.length then fs.set i d else fs ++ [d]
theorem putF_end {f : Str} {v : V} : ∀ {gs : List (Str × V)}, f ∉ gs.map Prod.fst → putF f v gs = gs ++ [(f, v)]
  | [], _ => rfl
  | (g, w) :: gs, h => by
    rw [List.map_cons, List.mem_cons, not_or] at h
    unfold putF
    first
      | rw [if_neg (fun z => h.1 z.symm), putF_end h.2]; rfl
      | rw [if_neg h.1, putF_end h.2]; rfl
      | (split
         · rename_i z; exact absurd (by first | exact z | exact z.symm | simpa using z | (have z := eq_of_beq z; first | exact z | exact z.symm)) h.1
         · rw [putF_end h.2]; rfl)
theorem putF_at {f : Str} {v : V} : ∀ {gs : List (Str × V)} {i : Nat}, (gs.map Prod.fst).Nodup → (gs.map Prod.fst)[i]? = some f → putF f v gs = gs.set i (f, v)
  | [], _, _, h => by simp at h
  | (g, w) :: gs, 0, _, h => by
    have h : g = f := by simpa using h
    subst h
    unfold putF
    simp
  | (g, w) :: gs, i + 1, nd, h => by
    rw [List.map_cons, List.nodup_cons] at nd
    have h' : (gs.map Prod.fst)[i]? = some f := by simpa using h
    have ne : g ≠ f := fun z => nd.1 (z ▸ List.mem_of_getElem? h')
    unfold putF
    rw [putF_at nd.2 h']
    first
      | rw [if_neg ne]; rfl
      | rw [if_neg ne.symm]; rfl
      | simp [ne, Ne.symm ne]
theorem FldOk.put {K : PySem.W.Frag} {M : Addr → Prop} {io : List Addr} {H : Hp} {ns : List Str} {fs : List D} {gs : List (Str × V)} {i : Nat} {f : Str} {d : D} {v : V} (h : FldOk K M io H ns fs gs) (nd : ns.Nodup) (hi : ns[i]? = some f) (hl : i ≤ fs.length) (r : Rep K M io H d v) :
    FldOk K M io H ns (putD i d fs) (putF f v gs) := by
  have hg : gs.length = fs.length := by
    have := h.2.len
    rw [List.length_map] at this
    exact this.symm
  have nd' : (gs.map Prod.fst).Nodup := by
    rw [h.1]
    exact nd.sublist (List.take_sublist _ _)
  unfold putD
  split
  · rename_i hlt
    have hk : (gs.map Prod.fst)[i]? = some f := by
      rw [h.1, List.getElem?_take_of_lt hlt]
      exact hi
    rw [putF_at nd' hk]
    refine ⟨?_, ?_⟩
    · rw [List.map_set, List.length_set, ← h.1]
      have hlt' : i < (gs.map Prod.fst).length := by simp; omega
      have : (gs.map Prod.fst)[i] = f := by
        rw [List.getElem?_eq_getElem hlt'] at hk
        exact Option.some.inj hk
      show (gs.map Prod.fst).set i f = _
      rw [← this]
      exact List.set_getElem_self hlt'
    · rw [List.map_set]
      exact h.2.set i r
  · rename_i hlt
    have e : i = fs.length := by omega
    have hni : f ∉ gs.map Prod.fst := fun z => by
      rw [h.1] at z
      obtain ⟨j, hj, ej⟩ := List.getElem_of_mem z
      rw [List.length_take] at hj
      rw [List.getElem_take] at ej
      have hin : i < ns.length := (List.getElem?_eq_some_iff.mp hi).1
      have : ns[i] = f := (List.getElem?_eq_some_iff.mp hi).2
      have q := (List.getElem_inj nd).mp (ej.trans this.symm)
      omega
    rw [putF_end hni]
    refine ⟨?_, ?_⟩
    · rw [List.map_append, h.1, List.length_append]
      show ns.take fs.length ++ [f] = ns.take (fs.length + 1)
      rw [List.take_add_one, ← e, hi]
      rfl
    · rw [List.map_append]
      exact h.2.app (.cons r .nil)
def sAt (cs : List Nat) (i : Nat) (mo m : EM) : SM := fun r S => (m r S).sb r fun x S1 => (mo r S1).sb r fun o S2 => match o.1 with
  | .ins n => match S2[n]? with
    | some (C, vs) => if cs.contains C && okst x.2 x.1 && decide (i ≤ vs.length) then .nx r (S2.set n (C, putD i x.1 vs)) else .no
    | none => .no
  | _ => .no
theorem ms_at {o e : Expr} {f : Str} {cs : List Nat} {i : Nat} {mo m : EM} {pos' : Pos} (ho : ME X ct o mo) (he : ME X ct e m) (T : ∀ C ∈ cs, FdT X.K ct f i C ∧ (ct.fd C).length < 900) (hpu : ct.pu = false := by rfl) (hs : swapsWith e (some (.Attribute o f pos')) pos.line X.env = pure false := by rfl) :
    MS X ct (.Assign [.Attribute o f pos'] e pos) (sAt cs i mo m) :=
  ⟨fun G W tk _ => (ps_fld (ho.run G W tk) (he.run G W tk) hs).imp fun D s H ⟨r, S, io, k, h⟩ => ⟨r, S, io, k, SRes.first k h fun x S1 io1 H1 _ t1 q1 k1 h1 v ov => ⟨r, S1, io1, k1, SRes.first k1 h1 fun o S2 io2 H2 _ t2 q2 k2 h2 w ow => by
    split at h2
    · rename_i n e
      have o2 := ow.repF
      rw [e] at o2
      obtain ⟨a, ev, ea⟩ := ins_of o2
      split at h2
      · rename_i C vs e2
        split at h2
        · rename_i hc
          simp only [Bool.and_eq_true, decide_eq_true_eq] at hc
          obtain ⟨⟨hc, hok⟩, hl⟩ := hc
          obtain ⟨T, hT⟩ := T C (by simpa using hc)
          obtain ⟨a', dx, gs, y1, y2, y3⟩ := q2.at_ n C vs e2 T.nx
          rw [ea] at y1
          cases y1
          have hgl : gs.length = vs.length := by
            have := y3.2.len
            rw [List.length_map] at this
            exact this.symm
          have hle : gs.length ≤ (ct.fd C).length := by
            have := congrArg List.length y3.1
            rw [List.length_map, List.length_take] at this
            omega
          refine ⟨a, _, dx, gs, ev, y2, T.cl, T.na, by omega, ?_⟩
          have rv : Rep X.K (Mall G r s) io2 H2 x.1 v := RepF.clean hok (ov.repF.stp t2)
          have ne : ∀ b u, H2 b = some u → NI u → b ≠ a := fun b u q n z => by
            rw [z, y2] at q
            cases q
            exact n.1 _ _ _ rfl
          have kp : Kp (Mall G r s) H2 (upd H2 a (.ins (ct.ad C) dx (putF f v gs))) := fun b u q n _ => by rw [upd_ne (ne b u q n)]; exact q
          have t : Stp ct io2 H2 io2 (upd H2 a (.ins (ct.ad C) dx (putF f v gs))) := by
            refine ⟨fun b u q n => by rw [upd_ne (ne b u q n)]; exact q, fun b u q n _ => ?_, io_refl, fun b z n => absurd z n, fun b u q => ?_, fun z => by rw [hpu] at z; cases z⟩
            · rw [upd_ne]
              · exact q
              · exact fun z => n (z ▸ List.mem_of_getElem? ea)
            · by_cases z : b = a
              · subst z
                exact ⟨_, upd_same⟩
              · exact ⟨u, by rw [upd_ne z]; exact q⟩
          have hn : n < S2.length := (List.getElem?_eq_some_iff.mp e2).1
          have q3 : StoOk X.K ct (Mall G r s) io2 (S2.set n (C, putD i x.1 vs)) (upd H2 a (.ins (ct.ad C) dx (putF f v gs))) := by
            have oth : ∀ {j : Nat} {b : Addr}, n ≠ j → io2[j]? = some b → b ≠ a := fun {j b} hj z1 z => by
              subst z
              have hj1 := (List.getElem?_eq_some_iff.mp z1)
              have hj2 := (List.getElem?_eq_some_iff.mp ea)
              exact hj ((List.getElem_inj q2.nd).mp (hj2.2.trans hj1.2.symm))
            refine ⟨by simp [q2.len], fun j C' fs e3 x3 => ?_, fun j C' fs e3 x3 => ?_, q2.nd, tabs_mono q2.tb kp fun b ps q => by rw [upd_ne (fun z => by rw [z, y2] at q; cases q)]; exact q, pins_mono q2.pn kp⟩
            rotate_left
            · rcases get_set e3 with ⟨rfl, e3, _⟩ | ⟨hj, e3⟩
              · cases e3
                rw [T.nx] at x3
                cases x3
              · obtain ⟨b, d, z1, z2, z3⟩ := q2.ax j C' fs e3 x3
                refine ⟨b, d, z1, ?_, z3.mono (M := fun _ => False) t.kp t.pre⟩
                rw [upd_ne (oth hj z1)]
                exact z2
            rcases get_set e3 with ⟨rfl, e3, _⟩ | ⟨hj, e3⟩
            · cases e3
              exact ⟨a, dx, _, ea, upd_same, (y3.put T.nd T.ix hl rv).1, Reps.stp t (y3.put T.nd T.ix hl rv).2⟩
            · obtain ⟨b, dx', gs', z1, z2, z3, z4⟩ := q2.at_ j C' fs e3 x3
              refine ⟨b, dx', gs', z1, ?_, z3, z4.stp t⟩
              rw [upd_ne]
              · exact z2
              · intro z
                subst z
                have hj1 := (List.getElem?_eq_some_iff.mp z1)
                have hj2 := (List.getElem?_eq_some_iff.mp ea)
                exact hj ((List.getElem_inj q2.nd).mp (hj2.2.trans hj1.2.symm))
          exact h2 s io2 _ (k2.step t q3)
        · exact h2.elim
      · exact h2.elim
    · exact h2.elim⟩⟩⟩
/-! ### targets -/
abbrev GM := D → Env → Option Env
/-- the slots outside ts are as they were -/
def Keep (ts : List Nat) (r r' : Env) (s s' : St) : Prop := s'.length = s.length ∧ ∀ j, j ∉ ts → r'[j]? = r[j]? ∧ s'[j]? = s[j]?
def tG (K : PySem.W.Frag) (ct : CT) (G : Gx) (ts : List Nat) (g : GM) : TG := fun v s H Q => ∃ r S io d, Ok K ct G r S io s H ∧ Rep K (Mall G r s) io H d v ∧ match g d r with
  | some r' => ∀ s', Keep ts r r' s s' → (∀ a, Mall G r' s' a → Mall G r s a) → Ok K ct G r' S io s' H → Q s' H
  | none => False
def tGs (K : PySem.W.Frag) (ct : CT) (G : Gx) (ts : List Nat) (g : List D → Env → Option Env) : TGs := fun vs s H Q => ∃ r S io ds, Ok K ct G r S io s H ∧ Reps K (Mall G r s) io H ds vs ∧ match g ds r with
  | some r' => ∀ s', Keep ts r r' s s' → (∀ a, Mall G r' s' a → Mall G r s a) → Ok K ct G r' S io s' H → Q s' H
  | none => False
structure MG (X : Cx) (ct : CT) (e : Expr) (ts : List Nat) (g : GM) : Prop where
  run : ∀ (G : Gx), PG X e (tG X.K ct G ts g)
structure MGs (X : Cx) (ct : CT) (e : List Expr) (ts : List Nat) (g : List D → Env → Option Env) : Prop where
  run : ∀ (G : Gx), PGs X e (tGs X.K ct G ts g)
def gN (i : Nat) : GM := fun d r => some (r.set i (.ar .c d))
def gsN : List D → Env → Option Env := fun ds r => match ds with
  | [] => some r
  | _ => none
def gsC (g : GM) (gs : List D → Env → Option Env) : List D → Env → Option Env := fun ds r => match ds with
  | d :: ds => (g d r).bind (gs ds)
  | _ => none
def gT (n : Nat) (gs : List D → Env → Option Env) : GM := fun d r => match d with
  | .tup ds => if ds.length = n then gs ds r else none
  | _ => none
theorem mg_name {i : Nat} {x : Str} (hN : X.N.Nodup) (hi : X.N[i]? = some x) (hx : Loc X.env.scope x) (hf : X.fn x = true ∨ X.env.scope.names.lookup x = some .local := by first | exact .inl rfl | exact .inr rfl | assumption) : MG X ct (.Name x pos) [i] (gN i) :=
  ⟨fun G => (pg_name hN hi hx hf).imp fun v s H Q ⟨r, S, io, d, k, rv, h⟩ => h _ ⟨by simp, fun j hj => by
    have hj : i ≠ j := fun z => hj (z ▸ List.mem_singleton.mpr rfl)
    exact ⟨List.getElem?_set_ne hj, List.getElem?_set_ne hj⟩⟩ (fun a => mall_set fun e z => by cases z) (k.setc rv)⟩
theorem mgs_nil : MGs X ct [] [] gsN := ⟨fun G => pgs_nil.imp fun vs s H Q ⟨r, S, io, ds, k, rv, h⟩ => by
  cases rv with
  | nil => exact ⟨rfl, h s ⟨rfl, fun _ _ => ⟨rfl, rfl⟩⟩ (fun _ z => z) k⟩
  | cons _ _ => exact h.elim⟩
theorem mgs_cons {e : Expr} {es : List Expr} {t ts : List Nat} {g : GM} {gs : List D → Env → Option Env} (h1 : MG X ct e t g) (h2 : MGs X ct es ts gs)
    (hs : (assignEach (e :: es) X.env).map (·.2) = assign e X.env :: (assignEach es X.env).map (·.2) := by rfl) : MGs X ct (e :: es) (t ++ ts) (gsC g gs) :=
  ⟨fun G => (pgs_cons (h1.run G) (h2.run G) hs).imp fun vs s H Q ⟨r, S, io, ds, k, rv, h⟩ => by
    cases rv with
    | nil => exact h.elim
    | @cons d ds v vs' r1 rr =>
      refine ⟨_, _, rfl, r, S, io, _, k, r1, ?_⟩
      have h : match (g d r).bind (gs ds) with
        | some r' => ∀ s', Keep (t ++ ts) r r' s s' → (∀ a, Mall G r' s' a → Mall G r s a) → Ok X.K ct G r' S io s' H → Q s' H
        | none => False := h
      cases e1 : g d r with
      | none => rw [e1] at h; exact h
      | some r1 =>
        rw [e1] at h
        intro s1 l1 m1 k1
        refine ⟨r1, S, io, ds, k1, rr.anti m1, ?_⟩
        have h : match gs ds r1 with
          | some r' => ∀ s', Keep (t ++ ts) r r' s s' → (∀ a, Mall G r' s' a → Mall G r s a) → Ok X.K ct G r' S io s' H → Q s' H
          | none => False := h
        cases e2 : gs ds r1 with
        | none => rw [e2] at h; exact h
        | some r2 =>
          rw [e2] at h
          exact fun s2 l2 m2 k2 => h s2 ⟨l2.1.trans l1.1, fun j hj => by
            rw [List.mem_append, not_or] at hj
            exact ⟨(l2.2 j hj.2).1.trans (l1.2 j hj.1).1, (l2.2 j hj.2).2.trans (l1.2 j hj.1).2⟩⟩ (fun a z => m1 a (m2 a z)) k2⟩
theorem mg_tup {es : List Expr} {k n : Nat} {ts : List Nat} {gs : List D → Env → Option Env} (hc : X.calm = true) (h : MGs X ct es ts gs) (hn : (assignEach es X.env).length = n := by rfl) (hst : (assignEach es X.env).findIdx? (·.1) = none := by rfl) : MG X ct (.Tuple es k pos) ts (gT n gs) :=
  ⟨fun G => (pg_tup hc (h.run G) hn hst).imp fun v s H Q ⟨r, S, io, d, k, rv, h⟩ => by
    cases rv with
    | tup h1 h2 =>
      unfold gT at h
      simp only at h
      split at h
      · rename_i r' e
        split at e
        · rename_i hl
          refine ⟨_, _, rfl, h1, by rw [← h2.len]; exact hl, r, S, io, _, k, h2, ?_⟩
          rw [e]
          exact h
        · cases e
      · exact h.elim
    | _ => exact h.elim⟩
/-- target = e -/
def sAsg (g : GM) (m : EM) : SM := fun r S => (m r S).sb r fun x S1 => if okst x.2 x.1 then (match g x.1 r with
  | some r' => .nx r' S1
  | none => .no) else .no
theorem ms_asg {tg e : Expr} {m : EM} {ts : List Nat} {g : GM} (he : ME X ct e m) (hg : MG X ct tg ts g) (hs : swapsWithSole [tg] e pos.line X.env = pure false := by rfl) (hw : swappedStores [tg] e X.env = pure none := by rfl)
    (h1 : (assignEach [tg] X.env).map (·.2) = [assign tg X.env] := by rfl) : MS X ct (.Assign [tg] e pos) (sAsg g m) :=
  ⟨fun G W tk _ => (ps_asg (he.run G W tk) (hg.run G) hs hw h1).imp fun D s H ⟨r, S, io, k, h⟩ => ⟨r, S, io, k, SRes.first k h fun x S1 io1 H1 _ t1 q1 k1 h1 v ov => by
    split at h1
    · rename_i g0
      refine ⟨r, S1, io1, x.1, k1, RepF.clean g0 ov.repF, ?_⟩
      split at h1
      · exact fun s' _ _ k' => h1 s' io1 H1 k'
      · exact h1.elim
    · exact h1.elim⟩⟩
/-- a, b = x, y -/
def sPar (i j : Nat) (ma mb : EM) : SM := fun r S => (ma r S).sb r fun x S1 => (mb r S1).sb r fun y S2 => if okst x.2 x.1 && okst y.2 y.1 then .nx ((r.set i (.ar .c x.1)).set j (.ar .c y.1)) S2 else .no
theorem ms_par {i j : Nat} {x y : Str} {a b : Expr} {ma mb : EM} {px py pt : Pos} {kt k2 pt2} (hc : X.calm = true) (hN : X.N.Nodup) (hi : X.N[i]? = some x) (hj : X.N[j]? = some y) (hij : i ≠ j)
    (hx : X.env.scope.names.lookup x = some .local) (hy : X.env.scope.names.lookup y = some .local) (ha : ME X ct a ma) (hb : ME X ct b mb)
    (hs1 : starEach [b] X.env = (false, eval b X.env) :: starEach [] X.env) (hs2 : starEach [a, b] X.env = (false, eval a X.env) :: starEach [b] X.env)
    (hw : swappedStores [.Tuple [.Name x px, .Name y py] kt pt] (.Tuple [a, b] k2 pt2) X.env = pure (some [x, y]))
    (hs : swapsWithSole [.Tuple [.Name x px, .Name y py] kt pt] (.Tuple [a, b] k2 pt2) pos.line X.env = pure false := by rfl) :
    MS X ct (.Assign [.Tuple [.Name x px, .Name y py] kt pt] (.Tuple [a, b] k2 pt2) pos) (sPar i j ma mb) :=
  ⟨fun G W tk _ => (ps_par hc hN hi hj hij hx hy (pa_cons (ha.run G W tk) (pa_cons (hb.run G W tk) pa_nil hs1) hs2) hw hs).imp fun D s H ⟨r, S, io, k, h⟩ =>
    ⟨r, S, io, k, SRes.first k h fun x S1 io1 H1 _ t1 q1 k1 h1 v ov => ⟨r, S1, io1, k1, SRes.first k1 h1 fun y S2 io2 H2 _ t2 q2 k2 h2 u ou => by
      refine ⟨v, u, rfl, ?_⟩
      split at h2
      · rename_i g
        rw [Bool.and_eq_true] at g
        have k3 := k2.setc (i := i) (RepF.clean g.1 (ov.repF.stp t2))
        have k4 := k3.setc (i := j) ((RepF.clean g.2 ou.repF).anti fun a z => mall_set (fun e z => by cases z) z)
        exact h2 _ io2 H2 k4
      · exact h2.elim⟩⟩⟩
end
end Mv

set_option maxRecDepth 100000
namespace L2
open PySem PySem.Spec PyProof.Rows
theorem PG.ex {X : Cx} {e : Expr} {ι : Sort _} {t : ι → TG} (h : ∀ i, PG X e (t i)) : PG X e (fun v s H Q => ∃ i, t i v s H Q) := ⟨fun pins s σ H v u Q I r ⟨i, w⟩ => (h i).run pins s σ H v u Q I r w⟩
theorem PSs.ex {X : Cx} {e : List Stmt} {ι : Sort _} {t : ι → TS} (h : ∀ i, PSs X e (t i)) : PSs X e (fun D s H => ∃ i, t i D s H) := ⟨fun pins s σ H D I ⟨i, w⟩ => (h i).run pins s σ H D I w⟩
theorem PTs.ex {X : Cx} {e : List Expr} {ι : Sort _} {t : ι → TT} (h : ∀ i, PTs X e (t i)) : PTs X e (fun s H Q => ∃ i, t i s H Q) := ⟨fun pins s σ H Q I ⟨i, w⟩ => (h i).run pins s σ H Q I w⟩
end L2
namespace Mv
open PySem PySem.Spec PyProof.Rows L2
section
variable {X : Cx} {ct : CT} {pos : Pos} {tg : Expr}
/-! ### what is walked -/
/-- J goes through ds as long as what is held stands -/
def WalkD (K : PySem.W.Frag) (J : It) (held : List (Fl × D × V)) (ds : List D) : Prop := ∀ (M N : Addr → Prop) (io : List Addr) (H : Hp), (∀ p ∈ held, ArgF K M N io H p.1 p.2.1 p.2.2) →
  (∀ i, i < ds.length → J.go i H) ∧ J.stop ds.length H ∧ ∀ i x H', i < ds.length → J.yld i H x H' → ∃ d, ds[i]? = some d ∧ (H' = H ∨ ∃ T o, H T = none ∧ H' = upd H T o) ∧ Rep K M io H' d x
def tI (K : PySem.W.Frag) (ct : CT) (G : Gx) (W : WX) (m : Env → Store → Rs (List D)) : TI := fun s H R => ∃ r S io, Ok K ct G r S io s H ∧
  Res K ct W (Mall G r s) s io H (m r S) (fun ds S' io' H' => ∀ J held, WalkD K J held ds → (∀ p ∈ held, ArgF K (Mall G r s) (Mown G r s) io' H' p.1 p.2.1 p.2.2) → R J H')
structure MI (X : Cx) (ct : CT) (tg iter : Expr) (m : Env → Store → Rs (List D)) : Prop where
  run : ∀ (G : Gx) (W : WX), Takes X W → PI X tg iter (tI X.K ct G W m)
/-- flags under which a list may be walked -/
def okI : Fl → Bool
  | .c => true
  | .n => true
  | .b => true
  | _ => false
theorem okI_argF {K : PySem.W.Frag} {M N : Addr → Prop} {io : List Addr} {H : Hp} {f : Fl} {d : D} {v : V} (g : okI f = true) (h : RepF K M N io H f d v) : ArgF K M N io H f d v := by
  cases f with
  | c => exact h
  | n => exact h
  | b => exact h
  | o => cases g
  | t => cases g
theorem argF_top {K : PySem.W.Frag} {M N : Addr → Prop} {io : List Addr} {H : Hp} {f : Fl} {xs : List D} {v : V} (g : okI f = true) (h : ArgF K M N io H f (.lst xs) v) : ∃ a vs, v = .ref a ∧ H a = some (.lst vs) ∧ Reps K M io H xs vs := by
  have go : Rep K M io H (.lst xs) v → ∃ a vs, v = .ref a ∧ H a = some (.lst vs) ∧ Reps K M io H xs vs := fun h => by
    cases h with
    | lst h1 _ h2 => exact ⟨_, _, rfl, h1, h2⟩
  cases f with
  | c => exact go h
  | n => exact go h
  | b =>
    rcases h with h | ⟨a, e, h, _⟩
    · exact go h
    · rcases h with ⟨xs', vs, e', h1, h2⟩ | ⟨ks, xs', kvs, e', _⟩
      · cases e'
        exact ⟨a, vs, e, h1, h2⟩
      · cases e'
  | o => cases g
  | t => cases g
theorem argF_frz {K : PySem.W.Frag} {M N : Addr → Prop} {io : List Addr} {H : Hp} {f : Fl} {xs : List D} {v : V} (g : okI f = true) (h : ArgF K M N io H f (.frz xs) v) : ∃ a vs, v = .ref a ∧ SqL K H a vs ∧ Reps K M io H xs vs := by
  have go : Rep K M io H (.frz xs) v → ∃ a vs, v = .ref a ∧ SqL K H a vs ∧ Reps K M io H xs vs := fun h => by
    cases h with
    | frz h1 h2 => exact ⟨_, _, rfl, h1.sq, h2⟩
  cases f with
  | c => exact go h
  | n => exact go h
  | b =>
    rcases h with h | ⟨a, e, h, _⟩
    · exact go h
    · rcases h with ⟨xs', vs, e', _⟩ | ⟨ks, xs', kvs, e', _⟩ <;> cases e'
  | o => cases g
  | t => cases g
theorem argF_tup {K : PySem.W.Frag} {M N : Addr → Prop} {io : List Addr} {H : Hp} {f : Fl} {xs : List D} {v : V} (g : okI f = true) (h : ArgF K M N io H f (.tup xs) v) : ∃ a vs, v = .ref a ∧ SqT K H a vs ∧ Reps K M io H xs vs := by
  have go : Rep K M io H (.tup xs) v → ∃ a vs, v = .ref a ∧ SqT K H a vs ∧ Reps K M io H xs vs := fun h => by
    cases h with
    | tup h1 h2 => exact ⟨_, _, rfl, h1, h2⟩
  cases f with
  | c => exact go h
  | n => exact go h
  | b =>
    rcases h with h | ⟨a, e, h, _⟩
    · exact go h
    · rcases h with ⟨xs', vs, e', _⟩ | ⟨ks, xs', kvs, e', _⟩ <;> cases e'
  | o => cases g
  | t => cases g
/-- the items of a list, whether it may be written or not -/
def seqOf : D → Option (List D)
  | .lst xs => some xs
  | .frz xs => some xs
  | _ => none
theorem argF_seq {K : PySem.W.Frag} {M N : Addr → Prop} {io : List Addr} {H : Hp} {f : Fl} {d : D} {xs : List D} {v : V} (g : okI f = true) (e : seqOf d = some xs) (h : ArgF K M N io H f d v) : ∃ a vs, v = .ref a ∧ SqL K H a vs ∧ Reps K M io H xs vs := by
  cases d with
  | lst ys =>
    cases e
    obtain ⟨a, vs, e1, h1, h2⟩ := argF_top g h
    exact ⟨a, vs, e1, SqL.of h1, h2⟩
  | frz ys =>
    cases e
    exact argF_frz g h
  | _ => cases e
theorem walk_lst {K : PySem.W.Frag} {a : Addr} {f : Fl} {d : D} {xs : List D} (g : okI f = true) (e : seqOf d = some xs) : WalkD K (Itl K a) [(f, d, .ref a)] xs := fun M N io H hh => by
  obtain ⟨a', vs, ev, h1, h2⟩ := argF_seq g e (hh _ List.mem_cons_self)
  cases ev
  have hl := h2.len
  refine ⟨fun i hi => ?_, ⟨vs, h1, by omega⟩, fun i x H' hi y => ?_⟩
  · obtain ⟨v, q, _⟩ := h2.get (List.getElem?_eq_getElem hi)
    exact ⟨vs, v, h1, q⟩
  · obtain ⟨e2, y⟩ := y
    subst e2
    obtain ⟨d, q, r⟩ := h2.getV (y vs h1)
    exact ⟨d, q, .inl rfl, r⟩
theorem walk_tupD {K : PySem.W.Frag} {a : Addr} {f : Fl} {xs : List D} (g : okI f = true) : WalkD K (Itt K a) [(f, .tup xs, .ref a)] xs := fun M N io H hh => by
  obtain ⟨a', vs, ev, h1, h2⟩ := argF_tup g (hh _ List.mem_cons_self)
  cases ev
  have hl := h2.len
  refine ⟨fun i hi => ?_, ⟨vs, h1, by omega⟩, fun i x H' hi y => ?_⟩
  · obtain ⟨v, q, _⟩ := h2.get (List.getElem?_eq_getElem hi)
    exact ⟨vs, v, h1, q⟩
  · obtain ⟨e2, y⟩ := y
    subst e2
    obtain ⟨d, q, r⟩ := h2.getV (y vs h1)
    exact ⟨d, q, .inl rfl, r⟩
theorem walk_revD {K : PySem.W.Frag} {a : Addr} {f : Fl} {d : D} {xs : List D} (g : okI f = true) (e : seqOf d = some xs) : WalkD K (Itv K a xs.length) [(f, d, .ref a)] xs.reverse := fun M N io H hh => by
  obtain ⟨a', vs, ev, h1, h2⟩ := argF_seq g e (hh _ List.mem_cons_self)
  cases ev
  have hl := h2.len
  rw [List.length_reverse]
  refine ⟨fun i hi => ?_, Nat.le_refl _, fun i x H' hi y => ?_⟩
  · obtain ⟨v, q, _⟩ := h2.get (i := xs.length - 1 - i) (List.getElem?_eq_getElem (by omega))
    exact ⟨hi, vs, v, h1, q⟩
  · obtain ⟨e2, y⟩ := y
    subst e2
    obtain ⟨d, q, r⟩ := h2.getV (y vs h1)
    exact ⟨d, by rw [List.getElem?_reverse hi]; exact q, .inl rfl, r⟩
def enumD (xs : List D) : List D := List.zipWith (fun (i : Nat) d => D.tup [.int i, d]) (List.range xs.length) xs
theorem enumD_get {xs : List D} {i : Nat} {d : D} (h : xs[i]? = some d) : (enumD xs)[i]? = some (.tup [.int i, d]) := by
  unfold enumD
  obtain ⟨hl, h⟩ := List.getElem?_eq_some_iff.mp h
  rw [List.getElem?_zipWith, List.getElem?_range hl, List.getElem?_eq_getElem hl, h]
theorem enumD_length (xs : List D) : (enumD xs).length = xs.length := by
  unfold enumD
  rw [List.length_zipWith, List.length_range, Nat.min_self]
theorem walk_enumD {K : PySem.W.Frag} {a : Addr} {f : Fl} {d : D} {xs : List D} (g : okI f = true) (e : seqOf d = some xs) : WalkD K (Ite K a) [(f, d, .ref a)] (enumD xs) := fun M N io H hh => by
  obtain ⟨a', vs, ev, h1, h2⟩ := argF_seq g e (hh _ List.mem_cons_self)
  cases ev
  have hl := h2.len
  rw [enumD_length]
  refine ⟨fun i hi => ?_, ⟨vs, h1, by omega⟩, fun i x H' hi y => ?_⟩
  · obtain ⟨v, q, _⟩ := h2.get (List.getElem?_eq_getElem hi)
    exact ⟨vs, v, h1, q⟩
  · obtain ⟨T, x, rfl, nT, rfl, y⟩ := y
    obtain ⟨d, q, r⟩ := h2.getV (y vs h1)
    exact ⟨_, enumD_get q, .inr ⟨T, _, nT, rfl⟩, .tup (.inl (.inl upd_same)) (.cons (.int _) (.cons (r.stp (Stp.upd (ct := ct0) nT)) .nil))⟩
def zipD (xs ys : List D) : List D := xs.zipWith (fun a b => .tup [a, b]) ys
theorem walk_zipD {K : PySem.W.Frag} {a b : Addr} {f f' : Fl} {d d' : D} {xs ys : List D} (g : okI f = true) (e : seqOf d = some xs) (g' : okI f' = true) (e' : seqOf d' = some ys) : WalkD K (Itz K a b) [(f, d, .ref a), (f', d', .ref b)] (zipD xs ys) := fun M N io H hh => by
  obtain ⟨a', vs, ev, h1, h2⟩ := argF_seq g e (hh _ List.mem_cons_self)
  cases ev
  obtain ⟨b', ws, ew, h3, h4⟩ := argF_seq g' e' (hh _ (List.mem_cons_of_mem _ List.mem_cons_self))
  cases ew
  have hl := h2.len
  have hl' := h4.len
  have hz : (zipD xs ys).length = min xs.length ys.length := by unfold zipD; rw [List.length_zipWith]
  rw [hz]
  refine ⟨fun i hi => ?_, ⟨vs, ws, h1, h3, by omega⟩, fun i x H' hi y => ?_⟩
  · obtain ⟨v, q, _⟩ := h2.get (List.getElem?_eq_getElem (show i < xs.length by omega))
    obtain ⟨w, q', _⟩ := h4.get (List.getElem?_eq_getElem (show i < ys.length by omega))
    exact ⟨vs, ws, v, w, h1, h3, q, q'⟩
  · obtain ⟨T, x, z, rfl, nT, rfl, y, y'⟩ := y
    obtain ⟨d, q, r⟩ := h2.getV (y vs h1)
    obtain ⟨d', q', r'⟩ := h4.getV (y' ws h3)
    refine ⟨.tup [d, d'], ?_, .inr ⟨T, _, nT, rfl⟩, .tup (.inl (.inl upd_same)) (.cons (r.stp (Stp.upd (ct := ct0) nT)) (.cons (r'.stp (Stp.upd (ct := ct0) nT)) .nil))⟩
    unfold zipD
    rw [List.getElem?_zipWith, q, q']
def rangeD (lo c : Int) (n : Nat) : List D := (List.range n).map fun i => .int (lo + (i : Nat) * c)
theorem rangeD_get {lo c : Int} {n i : Nat} (h : i < n) : (rangeD lo c n)[i]? = some (.int (lo + (i : Nat) * c)) := by
  unfold rangeD
  rw [List.getElem?_map, List.getElem?_range h]
  rfl
theorem rangeD_length (lo c : Int) (n : Nat) : (rangeD lo c n).length = n := by
  unfold rangeD
  rw [List.length_map, List.length_range]
theorem walk_rangeD {K : PySem.W.Frag} {lo : Int} {n : Nat} : WalkD K (Itr lo n) [] (rangeD lo 1 n) := fun M N io H hh => by
  rw [rangeD_length]
  refine ⟨fun i hi => hi, Nat.le_refl _, fun i x H' hi y => ?_⟩
  obtain ⟨e, rfl⟩ := y
  subst e
  exact ⟨_, rangeD_get hi, .inl rfl, by rw [Int.mul_one]; exact .int _⟩
theorem walk_rangeCD {K : PySem.W.Frag} {lo c : Int} {n : Nat} : WalkD K (Itc lo c n) [] (rangeD lo c n) := fun M N io H hh => by
  rw [rangeD_length]
  refine ⟨fun i hi => hi, Nat.le_refl _, fun i x H' hi y => ?_⟩
  obtain ⟨e, rfl⟩ := y
  subst e
  exact ⟨_, rangeD_get hi, .inl rfl, .int _⟩
def strD (z : Str) : List D := z.cps.toList.map fun c => .str ⟨#[c]⟩
theorem walk_strD {K : PySem.W.Frag} {z : Str} : WalkD K (Its z) [] (strD z) := fun M N io H hh => by
  have hl : (strD z).length = z.cps.size := by unfold strD; simp
  rw [hl]
  refine ⟨fun i hi => hi, Nat.le_refl _, fun i x H' hi y => ?_⟩
  obtain ⟨e, c, hc, rfl⟩ := y
  subst e
  refine ⟨_, ?_, .inl rfl, .str _⟩
  unfold strD
  rw [List.getElem?_map, Array.getElem?_toList, hc]
  rfl
/-- for x in e -/
def iSeq (m : EM) : Env → Store → Rs (List D) := fun r S => (m r S).bind fun x S1 => if okI x.2 then (match x.1 with
  | .lst ds => .ok ds S1
  | .frz ds => .ok ds S1
  | .tup ds => .ok ds S1
  | .str z => .ok (strD z) S1
  | _ => .no) else .no
theorem mi_seq {e : Expr} {m : EM} (he : ME X ct e m) : MI X ct tg e (iSeq m) := by
  refine ⟨fun G W tk => (PI.or (pi_list (he.run G W tk)) (PI.or (pi_tup (he.run G W tk)) (pi_str (he.run G W tk)))).imp fun s H R h => ?_⟩
  obtain ⟨r, S, io, k, h⟩ := h
  have fr : ∀ {Q : VK}, (∀ x S1 io1 H1 v, Stp ct io H io1 H1 → StoOk X.K ct (Mall G r s) io1 S1 H1 → ResOk X.K ct (Mall G r s) (Mown G r s) H io1 S1 H1 x.2 x.1 v → m r S = .ok x S1 → Q v H1) → Res X.K ct W (Mall G r s) s io H (m r S) (fun x S' io' H' => ∀ v, ResOk X.K ct (Mall G r s) (Mown G r s) H io' S' H' x.2 x.1 v → Q v H') := fun {Q} q => by
    refine Res.first h fun x S1 io1 H1 e1 t1 q1 h1 v ov => ?_
    exact q x S1 io1 H1 v t1 q1 ov e1
  cases e0 : m r S with
  | no => unfold iSeq at h; rw [e0] at h; exact h.elim
  | er c p S' =>
    refine .inl ⟨r, S, io, k, fr fun x S1 io1 H1 v _ _ _ e1 => ?_⟩
    rw [e0] at e1
    cases e1
  | ok x S1 =>
    unfold iSeq at h
    rw [e0] at h
    have h : Res X.K ct W (Mall G r s) s io H (if okI x.2 then (match x.1 with
      | .lst ds => Rs.ok ds S1
      | .frz ds => .ok ds S1
      | .tup ds => .ok ds S1
      | .str z => .ok (strD z) S1
      | _ => .no) else .no) _ := h
    split at h
    · rename_i g
      split at h
      · rename_i ds e
        refine .inl ⟨r, S, io, k, ?_⟩
        rw [e0]
        intro io1 H1 t1 q1 v ov
        have o2 := okI_argF g ov.repF
        rw [e] at o2
        obtain ⟨a, vs, ev, h1, h2⟩ := argF_top g o2
        refine ⟨a, ev, ⟨vs, SqL.of h1⟩, h.go t1 q1 _ _ (walk_lst (d := .lst ds) g rfl) fun p hp => ?_⟩
        rw [List.mem_singleton.mp hp, ← ev]
        exact o2
      · rename_i ds e
        refine .inl ⟨r, S, io, k, ?_⟩
        rw [e0]
        intro io1 H1 t1 q1 v ov
        have o2 := okI_argF g ov.repF
        rw [e] at o2
        obtain ⟨a, vs, ev, h1, h2⟩ := argF_frz g o2
        refine ⟨a, ev, ⟨vs, h1⟩, h.go t1 q1 _ _ (walk_lst (d := .frz ds) g rfl) fun p hp => ?_⟩
        rw [List.mem_singleton.mp hp, ← ev]
        exact o2
      · rename_i ds e
        refine .inr (.inl ⟨r, S, io, k, ?_⟩)
        rw [e0]
        intro io1 H1 t1 q1 v ov
        have o2 := okI_argF g ov.repF
        rw [e] at o2
        obtain ⟨a, vs, ev, h1, h2⟩ := argF_tup g o2
        refine ⟨a, ev, ⟨vs, h1⟩, h.go t1 q1 _ _ (walk_tupD g) fun p hp => ?_⟩
        rw [List.mem_singleton.mp hp, ← ev]
        exact o2
      · rename_i z e
        refine .inr (.inr ⟨r, S, io, k, ?_⟩)
        rw [e0]
        intro io1 H1 t1 q1 v ov
        have o2 := ov.repF
        rw [e] at o2
        exact ⟨z, str_of o2, h.go t1 q1 _ [] walk_strD fun p hp => nomatch hp⟩
      · exact h.elim
    · exact h.elim
def iArgs (g : List (Fl × D) → Option (List D)) (t : AM) : Env → Store → Rs (List D) := fun r S => (t r S).bind fun as S1 => lift0 (g as) S1
theorem iargs_go {t : AM} {g : List (Fl × D) → Option (List D)} {G : Gx} {W : WX} {s : St} {H : Hp} {R : It → Hp → Prop} {Q : List V → Hp → Prop} (h : tI X.K ct G W (iArgs g t) s H R)
    (q : ∀ M N io H1 as vs ds, ArgsOk X.K M N io H1 as vs → g as = some ds → (∀ J held, WalkD X.K J held ds → (∀ p ∈ held, ArgF X.K M N io H1 p.1 p.2.1 p.2.2) → R J H1) → Q vs H1) : tA X.K ct G W t s H Q := by
  obtain ⟨r, S, io, k, h⟩ := h
  refine ⟨r, S, io, k, Res.first h fun as S1 io1 H1 e1 t1 q1 h1 vs o => ?_⟩
  unfold lift0 at h1
  split at h1
  · rename_i ds e
    exact q _ _ io1 H1 as vs ds o e fun J held w a => h1.here q1 J held w a
  · exact h1.elim
def inR (i : Int) : Bool := decide (-(2 ^ 62) ≤ i) && decide (i < 2 ^ 62)
def gRng1 : List (Fl × D) → Option (List D) := fun as => match as with
  | [(_, .int j)] => if inR j then some (rangeD 0 1 j.toNat) else none
  | _ => none
def gRng2 : List (Fl × D) → Option (List D) := fun as => match as with
  | [(_, .int i), (_, .int j)] => if inR i && inR j then some (rangeD i 1 (j - i).toNat) else none
  | _ => none
def gRngM : List (Fl × D) → Option (List D) := fun as => match as with
  | [(_, .int i), (_, .int j), (_, .int c)] => if inR i && inR j && decide (c = -1) then some (rangeD i (-1) (i - j).toNat) else none
  | _ => none
theorem inR_of {i : Int} (h : inR i = true) : -(2 ^ 62) ≤ i ∧ i < 2 ^ 62 := by
  unfold inR at h
  simp only [Bool.and_eq_true, decide_eq_true_eq] at h
  exact h
theorem args1 {K : PySem.W.Frag} {M N : Addr → Prop} {io : List Addr} {H : Hp} {p : Fl × D} {vs : List V} (h : ArgsOk K M N io H [p] vs) : ∃ v, vs = [v] ∧ RepF K M N io H p.1 p.2 v := by
  cases h with
  | cons r t => cases t; exact ⟨_, rfl, r⟩
theorem args2 {K : PySem.W.Frag} {M N : Addr → Prop} {io : List Addr} {H : Hp} {p q : Fl × D} {vs : List V} (h : ArgsOk K M N io H [p, q] vs) : ∃ v w, vs = [v, w] ∧ RepF K M N io H p.1 p.2 v ∧ RepF K M N io H q.1 q.2 w := by
  cases h with
  | cons r t =>
    obtain ⟨w, rfl, h⟩ := args1 t
    exact ⟨_, w, rfl, r, h⟩
theorem args3 {K : PySem.W.Frag} {M N : Addr → Prop} {io : List Addr} {H : Hp} {p q u : Fl × D} {vs : List V} (h : ArgsOk K M N io H [p, q, u] vs) : ∃ v w z, vs = [v, w, z] ∧ RepF K M N io H p.1 p.2 v ∧ RepF K M N io H q.1 q.2 w ∧ RepF K M N io H u.1 u.2 z := by
  cases h with
  | cons r t =>
    obtain ⟨w, z, rfl, h⟩ := args2 t
    exact ⟨_, w, z, rfl, r, h⟩
theorem mi_range1 {a : Expr} {t : AM} {p : Pos} (hg : Gl X "range") (hm : X.mg "range" = none) (ha : MA X ct [a] t) (hs : starEach [a] X.env = [(false, eval a X.env)] := by rfl) : MI X ct tg (.Call (.Name "range" p) [a] [] pos) (iArgs gRng1 t) :=
  ⟨fun G W tk => (pi_range1 hg hm (ha.run G W tk) hs).imp fun s H R h => iargs_go h fun M N io H1 as vs ds o e w => by
    unfold gRng1 at e
    split at e
    · rename_i f j
      split at e
      · rename_i g
        cases e
        obtain ⟨v, rfl, r⟩ := args1 o
        exact ⟨j, by rw [int_of r], (inR_of g).1, (inR_of g).2, w _ [] walk_rangeD fun p hp => nomatch hp⟩
      · cases e
    · cases e⟩
theorem mi_range2 {a b : Expr} {t : AM} {p : Pos} (hg : Gl X "range") (hm : X.mg "range" = none) (ha : MA X ct [a, b] t) (hs : starEach [a, b] X.env = [(false, eval a X.env), (false, eval b X.env)] := by rfl) (hs2 : starEach [b] X.env = [(false, eval b X.env)] := by rfl) :
    MI X ct tg (.Call (.Name "range" p) [a, b] [] pos) (iArgs gRng2 t) :=
  ⟨fun G W tk => (pi_range2 hg hm (ha.run G W tk) hs hs2).imp fun s H R h => iargs_go h fun M N io H1 as vs ds o e w => by
    unfold gRng2 at e
    split at e
    · rename_i f i f' j
      split at e
      · rename_i g
        rw [Bool.and_eq_true] at g
        cases e
        obtain ⟨v, u, rfl, r, r'⟩ := args2 o
        exact ⟨i, j, by rw [int_of r, int_of r'], ⟨(inR_of g.1).1, (inR_of g.1).2, (inR_of g.2).1, (inR_of g.2).2⟩, w _ [] walk_rangeD fun p hp => nomatch hp⟩
      · cases e
    · cases e⟩
theorem mi_rangeM {a b c : Expr} {t : AM} {p : Pos} (hg : Gl X "range") (hm : X.mg "range" = none) (ha : MA X ct [a, b, c] t) (hs : starEach [a, b, c] X.env = (false, eval a X.env) :: starEach [b, c] X.env := by rfl) (hpl : (backTo pos (starEach [b, c] X.env)).any (·.1) = false := by rfl) :
    MI X ct tg (.Call (.Name "range" p) [a, b, c] [] pos) (iArgs gRngM t) :=
  ⟨fun G W tk => (pi_range3 hg hm (ha.run G W tk) hs hpl).imp fun s H R h => iargs_go h fun M N io H1 as vs ds o e w => by
    unfold gRngM at e
    split at e
    · rename_i f i f' j f2 c
      split at e
      · rename_i g
        rw [Bool.and_eq_true, Bool.and_eq_true, decide_eq_true_eq] at g
        obtain ⟨⟨g1, g2⟩, rfl⟩ := g
        cases e
        obtain ⟨v, u, z, rfl, r, r', r2⟩ := args3 o
        exact ⟨i, j, -1, _, by rw [int_of r, int_of r', int_of r2], RgC.neg (inR_of g1).1 (inR_of g1).2 (inR_of g2).1 (inR_of g2).2, w _ [] walk_rangeCD fun p hp => nomatch hp⟩
      · cases e
    · cases e⟩
def gSeq1 (h : List D → List D) : List (Fl × D) → Option (List D) := fun as => match as with
  | [(f, d)] => if okI f then (seqOf d).map h else none
  | _ => none
theorem gSeq1_of {h : List D → List D} {as : List (Fl × D)} {ds : List D} (e : gSeq1 h as = some ds) : ∃ f d xs, as = [(f, d)] ∧ okI f = true ∧ seqOf d = some xs ∧ ds = h xs := by
  unfold gSeq1 at e
  split at e
  · rename_i f d
    split at e
    · rename_i g
      obtain ⟨xs, e1, e2⟩ := Option.map_eq_some_iff.mp e
      exact ⟨f, d, xs, rfl, g, e1, e2.symm⟩
    · cases e
  · cases e
theorem mi_rev {a : Expr} {t : AM} {p : Pos} (hg : Gl X "reversed") (hm : X.mg "reversed" = none) (ha : MA X ct [a] t) (hs : starEach [a] X.env = [(false, eval a X.env)] := by rfl) : MI X ct tg (.Call (.Name "reversed" p) [a] [] pos) (iArgs (gSeq1 List.reverse) t) :=
  ⟨fun G W tk => (pi_reversed hg hm (ha.run G W tk) hs).imp fun s H R h => iargs_go h fun M N io H1 as vs ds o e w => by
    obtain ⟨f, d, xs, rfl, g, e1, rfl⟩ := gSeq1_of e
    obtain ⟨v, rfl, r⟩ := args1 o
    have o2 := okI_argF g r
    obtain ⟨a, vs, ev, h1, h2⟩ := argF_seq g e1 o2
    refine ⟨a, vs, by rw [ev], h1, ?_⟩
    rw [← h2.len]
    refine w _ _ (walk_revD g e1) fun p hp => ?_
    rw [List.mem_singleton.mp hp, ← ev]
    exact o2⟩
theorem mi_enum {a : Expr} {t : AM} {p tpos : Pos} {elts : List Expr} {kk : Nat} (hg : Gl X "enumerate") (hm : X.mg "enumerate" = none) (ha : MA X ct [a] t) (hs : starEach [a] X.env = [(false, eval a X.env)] := by rfl) : MI X ct (.Tuple elts kk tpos) (.Call (.Name "enumerate" p) [a] [] pos) (iArgs (gSeq1 enumD) t) :=
  ⟨fun G W tk => (pi_enum hg hm (ha.run G W tk) hs).imp fun s H R h => iargs_go h fun M N io H1 as vs ds o e w => by
    obtain ⟨f, d, xs, rfl, g, e1, rfl⟩ := gSeq1_of e
    obtain ⟨v, rfl, r⟩ := args1 o
    have o2 := okI_argF g r
    obtain ⟨a, vs, ev, h1, h2⟩ := argF_seq g e1 o2
    refine ⟨a, vs, by rw [ev], h1, w _ _ (walk_enumD g e1) fun p hp => ?_⟩
    rw [List.mem_singleton.mp hp, ← ev]
    exact o2⟩
def gZip : List (Fl × D) → Option (List D) := fun as => match as with
  | [(f, d), (f', d')] => if okI f && okI f' then (match seqOf d, seqOf d' with
    | some xs, some ys => some (zipD xs ys)
    | _, _ => none) else none
  | _ => none
theorem mi_zip {a b : Expr} {t : AM} {p tpos : Pos} {elts : List Expr} {kk : Nat} (hg : Gl X "zip") (hm : X.mg "zip" = none) (ha : MA X ct [a, b] t)
    (hs : starEach [a, b] X.env = (false, eval a X.env) :: starEach [b] X.env := by rfl) (hpl : (backTo pos (starEach [b] X.env)).any (·.1) = false := by rfl) : MI X ct (.Tuple elts kk tpos) (.Call (.Name "zip" p) [a, b] [] pos) (iArgs gZip t) :=
  ⟨fun G W tk => (pi_zip hg hm (ha.run G W tk) hs hpl).imp fun s H R h => iargs_go h fun M N io H1 as vs ds o e w => by
    unfold gZip at e
    split at e
    · rename_i f d f' d'
      split at e
      · rename_i g
        rw [Bool.and_eq_true] at g
        split at e
        · rename_i xs ys e1 e2
          cases e
          obtain ⟨v, u, rfl, r, r'⟩ := args2 o
          have o1 := okI_argF g.1 r
          have o2 := okI_argF g.2 r'
          obtain ⟨a, vs, ev, h1, h2⟩ := argF_seq g.1 e1 o1
          obtain ⟨b, ws, ew, h3, h4⟩ := argF_seq g.2 e2 o2
          refine ⟨a, b, vs, ws, by rw [ev, ew], h1, h3, w _ _ (walk_zipD g.1 e1 g.2 e2) fun p hp => ?_⟩
          rcases List.mem_cons.mp hp with z | hp
          · rw [z, ← ev]
            exact o1
          · rw [List.mem_singleton.mp hp, ← ew]
            exact o2
        · cases e
      · cases e
    · cases e⟩
/-! ### for -/
def forL (g : GM) (b : SM) : List D → Env → Store → SR
  | [], r, S => .nx r S
  | d :: ds, r, S => match g d r with
    | none => .no
    | some r1 => match b r1 S with
      | .nx r' S' => forL g b ds r' S'
      | .ct r' S' => forL g b ds r' S'
      | .bk r' S' => .nx r' S'
      | x => x
def sFor (mi : Env → Store → Rs (List D)) (g : GM) (b : SM) : SM := fun r S => (mi r S).sb r fun ds S1 => forL g b ds r S1
theorem Ok.hold {K : PySem.W.Frag} {G : Gx} {r : Env} {S : Store} {io : List Addr} {s : St} {H : Hp} (k : Ok K ct G r S io s H) {h : List (Fl × D × V)} (q : ∀ p ∈ h, ArgF K (Mall G r s) (Mown G r s) io H p.1 p.2.1 p.2.2) : Ok K ct { G with held := h ++ G.held } r S io s H :=
  ⟨k.len, k.arg, k.own, k.inj, k.sto, k.stp, k.m0, k.n0, fun p hp => (List.mem_append.mp hp).elim (q p) (k.held p), k.dp.env rfl (fun _ z => z) fun _ _ _ e => ⟨e, rfl⟩⟩
theorem Ok.drop {K : PySem.W.Frag} {G : Gx} {r : Env} {S : Store} {io : List Addr} {s : St} {H : Hp} {h : List (Fl × D × V)} (k : Ok K ct { G with held := h ++ G.held } r S io s H) : Ok K ct G r S io s H :=
  ⟨k.len, k.arg, k.own, k.inj, k.sto, k.stp, k.m0, k.n0, fun p hp => k.held p (List.mem_append_right _ hp), k.dp.env rfl (fun _ z => z) fun _ _ _ e => ⟨e, rfl⟩⟩
theorem ms_for {iter : Expr} {body : List Stmt} {mi : Env → Store → Rs (List D)} {ts : List Nat} {g : GM} {b : SM} (hc : X.calm = true) (hi : MI X ct tg iter mi) (hg : MG X ct tg ts g) (hb : MSs X ct body b)
    (hs : ∀ x, foldedSetIterable iter X.env x = pure x := by intro _; rfl) : MS X ct (.For tg iter body [] pos) (sFor mi g b) := by
  refine ⟨fun G W tk po => (ps_for po hc (hi.run G W tk) (PG.ex fun held : List (Fl × D × V) => hg.run { G with held := held ++ G.held }) (PSs.ex fun held : List (Fl × D × V) => hb.run { G with held := held ++ G.held } W tk po) hs).imp fun De s H h => ?_⟩
  obtain ⟨r, S, io, k, h⟩ := h
  refine ⟨r, S, io, k, SRes.first k h fun ds S1 io1 H1 e1 t1 q1 k1 h1 J held wd ha => ?_⟩
  refine ⟨fun i m s H => m = ds.length - i ∧ i ≤ ds.length ∧ ∃ r S io, Ok X.K ct { G with held := held ++ G.held } r S io s H ∧ SRes X.K ct G W De (forL g b (ds.drop i) r S), ⟨_, rfl, Nat.zero_le _, r, S1, io1, k1.hold ha, h1⟩, fun i m s H ⟨hm, hi, r, S, io, k, h⟩ => ?_⟩
  obtain ⟨w1, w2, w3⟩ := wd _ _ io H fun p hp => k.held p (List.mem_append_left _ hp)
  by_cases hlt : i < ds.length
  · refine .inr ⟨w1 i hlt, fun s' H' => ∃ r S io, Ok X.K ct { G with held := held ++ G.held } r S io s' H' ∧ SRes X.K ct G W De (forL g b (ds.drop (i + 1)) r S), fun s' H' n => ⟨ds.length - (i + 1), by omega, rfl, hlt, n⟩, fun x H' y => ?_⟩
    obtain ⟨d, hd, hH, rv⟩ := w3 i x H' hlt y
    have ed : ds.drop i = d :: ds.drop (i + 1) := by
      rw [List.drop_eq_getElem_cons hlt]
      rw [List.getElem?_eq_getElem hlt] at hd
      cases hd
      rfl
    rw [ed] at h
    have k' : Ok X.K ct { G with held := held ++ G.held } r S io s H' := by
      rcases hH with rfl | ⟨T, o, nT, rfl⟩
      · exact k
      · exact k.step (Stp.upd nT) (k.sto.upd nT)
    refine ⟨held, r, S, io, d, k', rv.anti (M := Mall { G with held := held ++ G.held } r s) fun _ z => z, ?_⟩
    unfold forL at h
    cases e2 : g d r with
    | none => rw [e2] at h; exact h
    | some r1 =>
      rw [e2] at h
      intro s2 _ _ k2
      refine ⟨held, r1, S, io, k2, ?_⟩
      have h : SRes X.K ct G W De (match b r1 S with
        | .nx r' S' => forL g b (ds.drop (i + 1)) r' S'
        | .ct r' S' => forL g b (ds.drop (i + 1)) r' S'
        | .bk r' S' => .nx r' S'
        | x => x) := h
      cases e3 : b r1 S with
      | nx r' S' => rw [e3] at h; exact fun s' io' H' k' => ⟨r', S', io', k', h⟩
      | ct r' S' => rw [e3] at h; exact fun s' io' H' k' => ⟨r', S', io', k', h⟩
      | bk r' S' => rw [e3] at h; exact fun s' io' H' k' => h s' io' H' k'.drop
      | rt d f S' => rw [e3] at h; exact h
      | er c p r' S' => rw [e3] at h; exact fun dx s' io' H' k' e => h dx s' io' H' k'.drop e
      | no => rw [e3] at h; exact h
  · have ei : i = ds.length := by omega
    subst ei
    refine .inl ⟨w2, ?_⟩
    rw [List.drop_length] at h
    exact h s io H k.drop
/-! ### comprehensions -/
def wipeE (r : Env) : List Nat → Env
  | [] => r
  | v :: vs => (wipeE r vs).set v .no
def freeE (r : Env) (vs : List Nat) : Bool := vs.all fun i => match r[i]? with
  | some (.own _) => false
  | _ => true
theorem wipeE_len (r : Env) : ∀ vs : List Nat, (wipeE r vs).length = r.length
  | [] => rfl
  | v :: vs => by unfold wipeE; rw [List.length_set, wipeE_len r vs]
theorem wipeE_at {r : Env} {i : Nat} {x : Slot} : ∀ {vs : List Nat}, (wipeE r vs)[i]? = some x → x ≠ .no → r[i]? = some x ∧ i ∉ vs
  | [], h, _ => ⟨h, by simp⟩
  | v :: vs, h, hx => by
    unfold wipeE at h
    rcases get_set h with ⟨_, h, _⟩ | ⟨hj, h⟩
    · exact absurd h.symm hx
    · obtain ⟨h1, h2⟩ := wipeE_at h hx
      exact ⟨h1, by simp only [List.mem_cons, not_or]; exact ⟨fun z => hj z.symm, h2⟩⟩
theorem wipeE_out {r : Env} {i : Nat} : ∀ {vs : List Nat}, i ∉ vs → (wipeE r vs)[i]? = r[i]?
  | [], _ => rfl
  | v :: vs, h => by
    simp only [List.mem_cons, not_or] at h
    unfold wipeE
    rw [List.getElem?_set_ne (fun z => h.1 z.symm), wipeE_out h.2]
theorem wipe_out' {s : St} {i : Nat} : ∀ {vs : List Nat}, i ∉ vs → (wipe s vs)[i]? = s[i]?
  | [], _ => rfl
  | v :: vs, h => by
    simp only [List.mem_cons, not_or] at h
    unfold wipe
    rw [List.getElem?_set_ne (fun z => h.1 z.symm), wipe_out' h.2]
theorem wipe_in {s : St} {i : Nat} : ∀ {vs : List Nat}, i ∈ vs → i < s.length → (wipe s vs)[i]? = some none
  | v :: vs, h, hl => by
    unfold wipe
    by_cases e : v = i
    · subst e
      rw [List.getElem?_set_self (by rw [wipe_length]; exact hl)]
    · rw [List.getElem?_set_ne e]
      rcases List.mem_cons.mp h with z | z
      · exact absurd z.symm e
      · exact wipe_in z hl
theorem wipe_eq {s s' : St} {vs : List Nat} (hl : s'.length = s.length) (h : ∀ j, j ∉ vs → s'[j]? = s[j]?) : wipe s' vs = wipe s vs := by
  refine List.ext_getElem? fun j => ?_
  by_cases hj : j ∈ vs
  · rcases Nat.lt_or_ge j s.length with hlt | hge
    · rw [wipe_in hj hlt, wipe_in hj (hl ▸ hlt)]
    · rw [List.getElem?_eq_none (by rw [wipe_length]; omega), List.getElem?_eq_none (by rw [wipe_length]; omega)]
  · rw [wipe_out' hj, wipe_out' hj, h j hj]
section
variable {K : PySem.W.Frag} {G : Gx} {r : Env} {S : Store} {io : List Addr} {s : St} {H : Hp} {vs : List Nat}
theorem mown_wipe (g : freeE r vs = true) : Mown G (wipeE r vs) (wipe s vs) = Mown G r s := by
  funext a
  refine propext ⟨fun z => ?_, fun z => ?_⟩
  · rcases z with z | ⟨i, d, h1, h2⟩
    · exact .inl z
    · obtain ⟨h1, h3⟩ := wipeE_at h1 (by simp)
      rw [wipe_out' h3] at h2
      exact .inr ⟨i, d, h1, h2⟩
  · rcases z with z | ⟨i, d, h1, h2⟩
    · exact .inl z
    · have hi : i ∉ vs := fun z => by
        have q := List.all_eq_true.mp g i z
        rw [h1] at q
        cases q
      exact .inr ⟨i, d, by rw [wipeE_out hi]; exact h1, by rw [wipe_out' hi]; exact h2⟩
theorem mall_wipe (g : freeE r vs = true) : Mall G (wipeE r vs) (wipe s vs) = Mall G r s := by
  unfold Mall
  rw [mown_wipe g]
theorem Ok.wipe (k : Ok K ct G r S io s H) (g : freeE r vs = true) : Ok K ct G (wipeE r vs) S io (wipe s vs) H := by
  refine ⟨by rw [wipeE_len, wipe_length]; exact k.len, fun i f d h => ?_, fun i d h => ?_, fun i j d e a h1 h2 h3 h4 => ?_, by rw [mall_wipe g]; exact k.sto, k.stp, k.m0, k.n0, by rw [mall_wipe g, mown_wipe g]; exact k.held, k.dp.env rfl (fun _ z => z) fun i b d e => by
    obtain ⟨e, hi⟩ := wipeE_at e (by simp)
    exact ⟨e, wipe_out' hi⟩⟩
  · obtain ⟨h, hi⟩ := wipeE_at h (by simp)
    rw [mall_wipe g, mown_wipe g, wipe_out' hi]
    exact k.arg i f d h
  · obtain ⟨h, hi⟩ := wipeE_at h (by simp)
    rw [mall_wipe g, wipe_out' hi]
    exact k.own i d h
  · obtain ⟨h1, hi⟩ := wipeE_at h1 (by simp)
    obtain ⟨h2, hj⟩ := wipeE_at h2 (by simp)
    rw [wipe_out' hi] at h3
    rw [wipe_out' hj] at h4
    exact k.inj i j d e a h1 h2 h3 h4
/-- the new list, hidden from the slots -/
def Gx.hide (G : Gx) (D : Addr) : Gx := { G with N0 := fun a => G.N0 a ∨ a = D }
theorem mown_hide {D a : Addr} : Mown (G.hide D) r s a ↔ Mown G r s a ∨ a = D := by
  constructor
  · rintro ((z | z) | z)
    · exact .inl (.inl z)
    · exact .inr z
    · exact .inl (.inr z)
  · rintro ((z | z) | z)
    · exact .inl (.inl z)
    · exact .inr z
    · exact .inl (.inr z)
theorem mall_hide {D a : Addr} : Mall (G.hide D) r s a ↔ Mall G r s a ∨ a = D := by
  unfold Mall
  rw [mown_hide]
  constructor
  · rintro (z | z | z)
    · exact .inl (.inl z)
    · exact .inl (.inr z)
    · exact .inr z
  · rintro ((z | z) | z)
    · exact .inl z
    · exact .inr (.inl z)
    · exact .inr (.inr z)
theorem Ok.hide {D : Addr} (k : Ok K ct G r S io s H) (hD : H D = none) : Ok K ct (G.hide D) r S io s (upd H D (.lst [])) := by
  have st : Stp ct io H io (upd H D (.lst [])) := Stp.upd hD
  have ne : ∀ a, (∃ o, H a = some o) → a ≠ D := fun a ⟨o, e⟩ z => by
    rw [z, hD] at e
    cases e
  have m : ∀ a, (∃ o, H a = some o) → ¬ Mall G r s a → ¬ Mall (G.hide D) r s a := fun a e n z => (mall_hide.mp z).elim n (ne a e)
  have m' : ∀ a, (∃ o, H a = some o) → ¬ Mown G r s a → ¬ Mown (G.hide D) r s a := fun a e n z => (mown_hide.mp z).elim n (ne a e)
  refine ⟨k.len, fun i f d h => ?_, fun i d h => ?_, k.inj, k.sto.mono st.kp m (fun b _ _ _ _ e => by rw [upd_ne (ne b ⟨_, e⟩)]; exact e) (fun b _ e => by rw [upd_ne (ne b ⟨_, e⟩)]; exact e), k.stp.trans st, fun a h => ?_, fun a h => ?_, fun p hp => (k.held p hp).mono st.kp st.kp m m' st.pre, k.dp.gen (M := fun _ => False) rfl (fun _ z => .inl z) (fun _ _ _ e => ⟨e, rfl⟩) st.kp (fun a o _ _ e n => st.k1 a o e n) st.pre⟩
  · obtain ⟨v, h1, h2⟩ := k.arg i f d h
    exact ⟨v, h1, h2.mono st.kp st.kp m m' st.pre⟩
  · obtain ⟨a, h1, h2, h3, h4, h5⟩ := k.own i d h
    obtain ⟨o, e, _⟩ := h2.there
    exact ⟨a, h1, h2.mono st.kp m st.pre fun o e n => st.k1 a o e n, h3, fun z => z.elim h4 (ne a ⟨o, e⟩), h5⟩
  · obtain ⟨o, e, n⟩ := k.m0 a h
    exact ⟨o, st.k1 a o e n, n⟩
  · rcases h with h | rfl
    · obtain ⟨o, ⟨e, n⟩, y⟩ := k.n0 a h
      exact ⟨o, ⟨st.k1 a o e n, n⟩, y⟩
    · refine ⟨.lst [], ⟨upd_same, NI.lst⟩, fun z => ?_, k.stp.free hD, not_im_lst⟩
      obtain ⟨o, e, _⟩ := k.m0 a z
      rw [hD] at e
      cases e
theorem Ok.mutN {D : Addr} {vs ws : List V} (k : Ok K ct G r S io s H) (hN : G.N0 D) (hF : ∀ j, ¬ G.F0 j D) (hD : H D = some (.lst vs)) : Ok K ct G r S io s (upd H D (.lst ws)) := by
  have ma : Mown G r s D := .inl hN
  have mb : Mall G r s D := .inr ma
  have kp : ∀ M : Addr → Prop, M D → Kp M H (upd H D (.lst ws)) := fun M hm b u q ni z => by
    rw [upd_ne]
    · exact q
    · rintro rfl
      rcases z with z | z
      · exact z hm
      · rw [hD] at q
        cases q
        exact not_im_lst z
  obtain ⟨o, ⟨_, _⟩, nm, n0, _⟩ := k.n0 D hN
  have h0 : ∀ b u, G.H0 b = some u → b ≠ D := fun b u q y => by
    rw [y, n0] at q
    cases q
  refine ⟨k.len, fun i f d h => ?_, fun i d h => ?_, k.inj, k.sto.mono (kp _ mb) (fun _ _ n => n) (fun b _ _ _ _ e => ?_) (fun b _ e => ?_), ⟨fun b u q n => ?_, fun b u q n nt => ?_, k.stp.pre, k.stp.new, fun b u q => ?_, fun pu b u q => by rw [upd_ne (h0 b u q)]; exact k.stp.k3 pu b u q⟩, fun a h => ?_, fun a h => ?_, fun p hp => (k.held p hp).mono (kp _ mb) (kp _ ma) (fun _ _ n => n) (fun _ _ n => n) io_refl, k.dp.gen (M := Mown G r s) rfl (fun _ z => z) (fun _ _ _ e => ⟨e, rfl⟩) (kp _ ma) (fun b o _ hb e _ => by
    rw [upd_ne]
    · exact e
    · rintro rfl
      obtain ⟨j, hb⟩ := hb
      exact hF j hb) io_refl⟩
  · obtain ⟨v, h1, h2⟩ := k.arg i f d h
    exact ⟨v, h1, h2.mono (kp _ mb) (kp _ ma) (fun _ _ n => n) (fun _ _ n => n) io_refl⟩
  · obtain ⟨a, h1, h2, h3, h4, h5⟩ := k.own i d h
    refine ⟨a, h1, h2.mono (kp _ mb) (fun _ _ n => n) io_refl fun o e _ => ?_, h3, h4, h5⟩
    rw [upd_ne]
    · exact e
    · exact fun z => h4 (z ▸ hN)
  · rw [upd_ne]
    · exact e
    · intro z
      rw [z, hD] at e
      cases e
  · rw [upd_ne]
    · exact e
    · intro z
      rw [z, hD] at e
      cases e
  · rw [upd_ne (h0 b u q)]
    exact k.stp.k1 b u q n
  · rw [upd_ne (h0 b u q)]
    exact k.stp.k2 b u q n nt
  · rw [upd_ne (h0 b u q)]
    exact k.stp.dom b u q
  · obtain ⟨o, e, n⟩ := k.m0 a h
    refine ⟨o, ?_, n⟩
    rw [upd_ne]
    · exact e
    · exact fun z => nm (z ▸ h)
  · by_cases z : a = D
    · subst z
      exact ⟨.lst ws, ⟨upd_same, NI.lst⟩, nm, n0, not_im_lst⟩
    · obtain ⟨o, ⟨e, n⟩, y⟩ := k.n0 a h
      exact ⟨o, ⟨by rw [upd_ne z]; exact e, n⟩, y⟩
end
def compL (g : GM) (tt : TM) (te : EM) (r : Env) : List D → Store → Rs (List D)
  | [], S => .ok [] S
  | d :: ds, S => match g d r with
    | none => .no
    | some r1 => match tt r1 S with
      | .ok true S1 => match te r1 S1 with
        | .ok x S2 => if okst x.2 x.1 then (match compL g tt te r ds S2 with
          | .ok xs S3 => .ok (x.1 :: xs) S3
          | _ => .no) else .no
        | _ => .no
      | .ok false S1 => compL g tt te r ds S1
      | _ => .no
def eLc (mi : Env → Store → Rs (List D)) (vs : List Nat) (g : GM) (tt : TM) (te : EM) : EM := fun r S => if freeE r vs then (mi r S).bind fun ds S1 => if ds.length ≤ sizeLine then (match compL g tt te (wipeE r vs) ds S1 with
  | .ok xs S2 => .ok (.lst xs, .n) S2
  | _ => .no) else .no else .no
abbrev W0 : WX := fun _ _ _ _ => False
theorem lc_go {mi : Env → Store → Rs (List D)} {vs ts : List Nat} {g : GM} {tt : TM} {te : EM} (hts : ∀ j ∈ ts, j ∈ vs) {G : Gx} {W : WX} {s : St} {H : Hp} {Q : VK} (h : tE X.K ct G W (eLc mi vs g tt te) s H Q) :
    tLc (tI X.K ct G W mi) (fun v s H Q => ∃ G' : Gx, tG X.K ct G' ts g v s H Q) (fun s H Q => ∃ G' : Gx, tT X.K ct G' W0 tt s H Q) (fun s H Q => ∃ G' : Gx, tE X.K ct G' W0 te s H Q) vs s H Q := by
  obtain ⟨r, S, io, k, h⟩ := h
  unfold eLc at h
  split at h
  case isFalse => exact h.elim
  rename_i fr
  refine ⟨r, S, io, k, Res.first h fun ds S1 io1 H1 e1 t1 q1 h1 J held wd ha D hD => ?_⟩
  have k1 := k.step t1 q1
  split at h1
  case isFalse => exact h1.elim
  rename_i hz
  have kh : Ok X.K ct ({ G with held := held ++ G.held }) r S1 io1 s H1 := k1.hold ha
  have kd : Ok X.K ct (({ G with held := held ++ G.held } : Gx).hide D) (wipeE r vs) S1 io1 (wipe s vs) (upd H1 D (.lst [])) := (kh.hide hD).wipe fr
  generalize hG' : ({ G with held := held ++ G.held } : Gx).hide D = G' at kd
  have hN : G'.N0 D := by rw [← hG']; exact .inr rfl
  have hF : ∀ j, ¬ G'.F0 j D := by
    rw [← hG']
    intro j z
    obtain ⟨o, ⟨e, _⟩, _⟩ := k1.n0 D (k1.dp.sub j D z)
    rw [hD] at e
    cases e
  have eM : ∀ a, Mall G' (wipeE r vs) (wipe s vs) a ↔ Mall G r s a ∨ a = D := fun a => by
    rw [mall_wipe fr, ← hG', mall_hide]
    exact Iff.rfl
  split at h1
  case h_2 => exact h1.elim
  rename_i total Sf ec
  refine ⟨fun i m H => m = ds.length - i ∧ i ≤ ds.length ∧ ∃ S io acc us, Ok X.K ct G' (wipeE r vs) S io (wipe s vs) H ∧ Stp ct io1 H1 io H ∧ H D = some (.lst us) ∧ Reps X.K (Mall G' (wipeE r vs) (wipe s vs)) io H acc us ∧ acc.length ≤ i ∧
      ∃ rest, compL g tt te (wipeE r vs) (ds.drop i) S = .ok rest Sf ∧ acc ++ rest = total,
    ⟨_, rfl, Nat.zero_le _, S1, io1, [], [], kd, Stp.upd hD, upd_same, .nil, Nat.le_refl _, total, ec, rfl⟩, fun i m H ⟨hm, hi, S, io, acc, us, k, st, hus, ra, hal, rest, er, et⟩ => ?_⟩
  obtain ⟨w1, w2, w3⟩ := wd _ _ io H fun p hp => k.held p (by rw [← hG']; exact List.mem_append_left _ hp)
  by_cases hlt : i < ds.length
  · refine .inr ⟨w1 i hlt, fun H' => i + 1 ≤ ds.length ∧ ∃ S io acc us, Ok X.K ct G' (wipeE r vs) S io (wipe s vs) H' ∧ Stp ct io1 H1 io H' ∧ H' D = some (.lst us) ∧ Reps X.K (Mall G' (wipeE r vs) (wipe s vs)) io H' acc us ∧ acc.length ≤ i + 1 ∧
      ∃ rest, compL g tt te (wipeE r vs) (ds.drop (i + 1)) S = .ok rest Sf ∧ acc ++ rest = total, fun H' n => ⟨ds.length - (i + 1), by omega, rfl, n⟩, fun x H' y => ?_⟩
    obtain ⟨d, hd, hH, rv⟩ := w3 i x H' hlt y
    have ed : ds.drop i = d :: ds.drop (i + 1) := by
      rw [List.drop_eq_getElem_cons hlt]
      rw [List.getElem?_eq_getElem hlt] at hd
      cases hd
      rfl
    rw [ed] at er
    have ts' : Stp ct io H io H' := by
      rcases hH with rfl | ⟨T, o, nT, rfl⟩
      · exact Stp.refl
      · exact Stp.upd nT
    have k' : Ok X.K ct G' (wipeE r vs) S io (wipe s vs) H' := by
      rcases hH with rfl | ⟨T, o, nT, rfl⟩
      · exact k
      · exact k.step (Stp.upd nT) (k.sto.upd nT)
    have hus' : H' D = some (.lst us) := ts'.k1 D _ hus NI.lst
    unfold compL at er
    refine ⟨G', wipeE r vs, S, io, d, k', rv, ?_⟩
    cases e2 : g d (wipeE r vs) with
    | none => rw [e2] at er; cases er
    | some r1 =>
      rw [e2] at er
      have er : (match tt r1 S with
        | .ok true S1 => match te r1 S1 with
          | .ok x S2 => if okst x.2 x.1 then (match compL g tt te (wipeE r vs) (ds.drop (i + 1)) S2 with
            | .ok xs S3 => Rs.ok (x.1 :: xs) S3
            | _ => .no) else .no
          | _ => .no
        | .ok false S1 => compL g tt te (wipeE r vs) (ds.drop (i + 1)) S1
        | _ => .no) = .ok rest Sf := er
      intro s2 kp m2 k2
      -- own ones are the same in the turn
      have mo : ∀ a, Mall G' (wipeE r vs) (wipe s vs) a → Mall G' r1 s2 a := fun a z => by
        rcases z with z | z | ⟨j, u, z1, z2⟩
        · exact .inl z
        · exact .inr (.inl z)
        · obtain ⟨_, hj⟩ := wipeE_at z1 (by simp)
          have hj' : j ∉ ts := fun z => hj (hts j z)
          exact .inr (.inr ⟨j, u, by rw [(kp.2 j hj').1]; exact z1, by rw [(kp.2 j hj').2]; exact z2⟩)
      have eMM : Mall G' r1 s2 = Mall G' (wipeE r vs) (wipe s vs) := funext fun a => propext ⟨m2 a, mo a⟩
      refine ⟨?_, ?_⟩
      · have hl : s2.length = (wipe s vs).length := kp.1
        rw [wipe_eq (s := wipe s vs) hl fun j hj => (kp.2 j fun z => hj (hts j z)).2]
        exact wipe_eq (wipe_length s vs) fun j hj => wipe_out' hj
      · cases e3 : tt r1 S with
        | no => rw [e3] at er; cases er
        | er c p S' => rw [e3] at er; cases er
        | ok bb S2 =>
          rw [e3] at er
          refine ⟨G', r1, S, io, k2, ?_⟩
          rw [e3]
          intro io3 H3 t3 q3
          have q3' : StoOk X.K ct (Mall G' (wipeE r vs) (wipe s vs)) io3 S2 H3 := by rw [← eMM]; exact q3
          have k3 := k'.step t3 q3'
          have k3' := k2.step t3 q3
          cases bb with
          | false =>
            refine iteF ⟨hlt, S2, io3, acc, us, k3, (st.trans ts').trans t3, t3.k1 D _ hus' NI.lst, (ra.stp ts').stp t3, by omega, rest, er, et⟩
          | true =>
            refine iteT ?_
            have er : (match te r1 S2 with
              | .ok x S2 => if okst x.2 x.1 then (match compL g tt te (wipeE r vs) (ds.drop (i + 1)) S2 with
                | .ok xs S3 => Rs.ok (x.1 :: xs) S3
                | _ => .no) else .no
              | _ => .no) = .ok rest Sf := er
            cases e4 : te r1 S2 with
            | no => rw [e4] at er; cases er
            | er c p S' => rw [e4] at er; cases er
            | ok xv S3 =>
              rw [e4] at er
              refine ⟨G', r1, S2, io3, k3', ?_⟩
              rw [e4]
              intro io4 H4 t4 q4 v ov
              have er : (if okst xv.2 xv.1 then (match compL g tt te (wipeE r vs) (ds.drop (i + 1)) S3 with
                | .ok xs S3 => Rs.ok (xv.1 :: xs) S3
                | _ => .no) else .no) = .ok rest Sf := er
              split at er
              case isFalse => cases er
              rename_i go
              split at er
              case h_2 => cases er
              rename_i xs S4 e5
              cases er
              have q4' : StoOk X.K ct (Mall G' (wipeE r vs) (wipe s vs)) io4 S3 H4 := by rw [← eMM]; exact q4
              have k4 := k3.step t4 q4'
              have hus4 := t4.k1 D _ (t3.k1 D _ hus' NI.lst) NI.lst
              have rv4 : Rep X.K (Mall G' (wipeE r vs) (wipe s vs)) io4 H4 xv.1 v := by
                rw [← eMM]
                exact RepF.clean go ov.repF
              have ra4 := ((ra.stp ts').stp t3).stp t4
              have hll := ra4.len
              refine ⟨us, hus4, by omega, hlt, S3, io4, acc ++ [xv.1], us ++ [v], k4.mutN hN hF hus4, ?_, upd_same, ?_, by rw [List.length_append]; simp; omega, xs, e5, by rw [List.append_assoc]; exact et⟩
              · have z := ((st.trans ts').trans t3).trans t4
                have nd : ∀ b u, H1 b = some u → b ≠ D := fun b u q y => by
                  rw [y, hD] at q
                  cases q
                exact ⟨fun b u q n => by rw [upd_ne (nd b u q)]; exact z.k1 b u q n, fun b u q n nt => by rw [upd_ne (nd b u q)]; exact z.k2 b u q n nt, z.pre, z.new, fun b u q => by rw [upd_ne (nd b u q)]; exact z.dom b u q, fun pu b u q => by rw [upd_ne (nd b u q)]; exact z.k3 pu b u q⟩
              · have kpm : Kp (Mall G' (wipeE r vs) (wipe s vs)) H4 (upd H4 D (.lst (us ++ [v]))) := fun b u q ni z => by
                  rw [upd_ne]
                  · exact q
                  · rintro rfl
                    rcases z with z | z
                    · exact z (.inr (.inl hN))
                    · rw [hus4] at q
                      cases q
                      exact not_im_lst z
                exact (ra4.mono kpm (fun _ _ n => n) io_refl).app (.cons (rv4.mono kpm (fun _ _ n => n) io_refl) .nil)
  · have ei : i = ds.length := by omega
    subst ei
    refine .inl ⟨w2, ?_⟩
    rw [List.drop_length] at er
    unfold compL at er
    cases er
    rw [List.append_nil] at et
    subst et
    have q : StoOk X.K ct (fun b => Mall G r s b ∨ b = D) io Sf H := by
      have z := k.sto
      exact z.anti fun a w => (eM a).mpr w
    refine h1 io H st (q.anti fun a z => .inl z) (.ref D) ⟨D, rfl, t1.free hD, fun z => ?_, .inl ⟨acc, us, rfl, hus, ra.anti fun a w => (eM a).mpr w⟩, q⟩
    obtain ⟨o, e, _⟩ := k1.mdom D z
    rw [hD] at e
    cases e
/-- a comprehension's clause in every block -/
structure MLc (X : Cx) (ct : CT) (elt tgt iter : Expr) (ifs : List Expr) (scope : Scope) (own : List (Str × Nat)) (mi : Env → Store → Rs (List D)) (g : GM) (tt : TM) (te : EM) : Prop where
  hi : MI X ct tgt iter mi
  ok : BlkOk X.N X.env.scope scope own
  hg : ∃ ts : List Nat, (∀ j ∈ ts, j ∈ own.map (·.2)) ∧ ∀ (s : Shared) (H : Hp) (C : Addr) (cl : List (Str × Addr)) (fp : List Addr), MG (X.blk s H scope (compEnvC scope cl C X.env) fp) ct tgt ts g
  ht : ∀ (s : Shared) (H : Hp) (C : Addr) (cl : List (Str × Addr)) (fp : List Addr), ∀ G, PTs (X.blk s H scope (compEnvC scope cl C X.env) fp) ifs (tT X.K ct G W0 tt)
  he : ∀ (s : Shared) (H : Hp) (C : Addr) (cl : List (Str × Addr)) (fp : List Addr), ME (X.blk s H scope (compEnvC scope cl C X.env) fp) ct elt te
theorem takesB {s : Shared} {H : Hp} {scope : Scope} {cenv : PySem.Env} {fp : List Addr} : Takes (X.blk s H scope cenv fp) W0 := fun _ _ x => by
  obtain ⟨_, _, _, _, _, _, _, _, _, _, _, _, _, _, _, _, z⟩ := x
  exact z
theorem me_lc {elt tgt iter : Expr} {ifs : List Expr} {scope : Scope} {own : List (Str × Nat)} {mi : Env → Store → Rs (List D)} {g : GM} {tt : TM} {te : EM} (hc : X.calm = true) (hN : X.N.Nodup) (h : MLc X ct elt tgt iter ifs scope own mi g tt te)
    (hs : ∀ x, foldedSetIterable iter X.env x = pure x := by intro _; rfl) : ME X ct (.ListComp elt [⟨tgt, iter, ifs, 0⟩] scope pos) (eLc mi (own.map (·.2)) g tt te) := by
  obtain ⟨ts, h1, h2⟩ := h.hg
  exact ⟨fun G W tk => (pe_lc hc hN (h.hi.run G W tk) h.ok (fun s H C cl fp => PG.ex fun G' => (h2 s H C cl fp).run G') (fun s H C cl fp => PTs.ex fun G' => h.ht s H C cl fp G') (fun s H C cl fp => PE.ex fun G' => (h.he s H C cl fp).run G' W0 takesB) hs).imp fun s H Q q => lc_go h1 q⟩
def tYesM : TM := fun _ S => .ok true S
theorem pts_nilM {X : Cx} {G : Gx} {W : WX} : PTs X [] (tT X.K ct G W tYesM) := ⟨fun pins s σ H Q I ⟨r, S, io, k, h⟩ => pts_nil.run pins s σ H Q I (h.here k.sto)⟩
theorem pts_oneM {X : Cx} {G : Gx} {W : WX} {c : Expr} {tt : TM} (tk : Takes X W) (h : MT X ct c tt) : PTs X [c] (tT X.K ct G W tt) := pts_one (h.run G W tk)
theorem setLc_core {i : Nat} {y : Str} {py : Pos} {elt tgt iter : Expr} {ifs : List Expr} {scope : Scope} {own : List (Str × Nat)} {spos : Pos} {mi : Env → Store → Rs (List D)} {g : GM} {tt : TM} {te : EM} (hc : X.calm = true) (hN : X.N.Nodup) (hy : X.N[i]? = some y) (hyl : X.env.scope.names.lookup y = some .local)
    (hsw : swapsWith (.ListComp elt [⟨tgt, iter, ifs, 0⟩] scope pos) (some (.Name y py)) spos.line X.env = pure true) (h : MLc X ct elt tgt iter ifs scope own mi g tt te) (hs : ∀ x, foldedSetIterable iter X.env x = pure x) {sm : SM}
    (q : ∀ (G : Gx) (W : WX) (De : Ends) (s : St) (H : Hp), tS X.K ct G W sm De s H → tAsg (tE X.K ct G W (eLc mi (own.map (·.2)) g tt te)) (gName i) De s H) :
    MS X ct (.Assign [.Name y py] (.ListComp elt [⟨tgt, iter, ifs, 0⟩] scope pos) spos) sm := by
  obtain ⟨ts, h1, h2⟩ := h.hg
  exact ⟨fun G W tk _ => (ps_setLc hc hN hy hyl hsw (h.hi.run G W tk) h.ok (fun s H C cl fp => PG.ex fun G' => (h2 s H C cl fp).run G') (fun s H C cl fp => PTs.ex fun G' => h.ht s H C cl fp G') (fun s H C cl fp => PE.ex fun G' => (h.he s H C cl fp).run G' W0 takesB) hs).imp fun De s H w => lc_go h1 (q G W De s H w)⟩
theorem ms_setLc {i : Nat} {y : Str} {py : Pos} {elt tgt iter : Expr} {ifs : List Expr} {scope : Scope} {own : List (Str × Nat)} {spos : Pos} {mi : Env → Store → Rs (List D)} {g : GM} {tt : TM} {te : EM} (hc : X.calm = true) (hN : X.N.Nodup) (hy : X.N[i]? = some y) (hyl : X.env.scope.names.lookup y = some .local)
    (hsw : swapsWith (.ListComp elt [⟨tgt, iter, ifs, 0⟩] scope pos) (some (.Name y py)) spos.line X.env = pure true) (h : MLc X ct elt tgt iter ifs scope own mi g tt te) (hs : ∀ x, foldedSetIterable iter X.env x = pure x := by intro _; rfl) :
    MS X ct (.Assign [.Name y py] (.ListComp elt [⟨tgt, iter, ifs, 0⟩] scope pos) spos) (sSet i (eLc mi (own.map (·.2)) g tt te)) := setLc_core hc hN hy hyl hsw h hs fun G W De s H w => set_go w
theorem ms_ownLc {i : Nat} {y : Str} {py : Pos} {elt tgt iter : Expr} {ifs : List Expr} {scope : Scope} {own : List (Str × Nat)} {spos : Pos} {mi : Env → Store → Rs (List D)} {g : GM} {tt : TM} {te : EM} (hc : X.calm = true) (hN : X.N.Nodup) (hy : X.N[i]? = some y) (hyl : X.env.scope.names.lookup y = some .local)
    (hsw : swapsWith (.ListComp elt [⟨tgt, iter, ifs, 0⟩] scope pos) (some (.Name y py)) spos.line X.env = pure true) (h : MLc X ct elt tgt iter ifs scope own mi g tt te) (hs : ∀ x, foldedSetIterable iter X.env x = pure x := by intro _; rfl) :
    MS X ct (.Assign [.Name y py] (.ListComp elt [⟨tgt, iter, ifs, 0⟩] scope pos) spos) (sOwn i (eLc mi (own.map (·.2)) g tt te)) := setLc_core hc hN hy hyl hsw h hs fun G W De s H w => own_go w
end
end Mv

set_option maxRecDepth 100000
namespace Mv
open PySem PySem.Spec PyProof.Rows L2
section
variable {K : PySem.W.Frag} {ct : CT} {M N : Addr → Prop} {io : List Addr} {S : Store} {H : Hp}
theorem ResOk.c {Hs : Hp} {d : D} {v : V} (h : Rep K M io H d v) (q : StoOk K ct M io S H) : ResOk K ct M N Hs io S H .c d v := ⟨h, q⟩
/-- a list of any flag but the tainted -/
theorem nt_lst {f : Fl} {xs : List D} {v : V} (g : f ≠ .t) (h : RepF K M N io H f (.lst xs) v) : ∃ a vs, v = .ref a ∧ H a = some (.lst vs) ∧ Reps K M io H xs vs := by
  have go : Rep K M io H (.lst xs) v → ∃ a vs, v = .ref a ∧ H a = some (.lst vs) ∧ Reps K M io H xs vs := fun h => by
    cases h with
    | lst h1 _ h2 => exact ⟨_, _, rfl, h1, h2⟩
  have go2 : ∀ {a}, OwnAt K M io H (.lst xs) a → ∃ vs, H a = some (.lst vs) ∧ Reps K M io H xs vs := fun h => by
    rcases h with ⟨xs', vs, e', h1, h2⟩ | ⟨ks, xs', kvs, e', _⟩
    · cases e'
      exact ⟨vs, h1, h2⟩
    · cases e'
  cases f with
  | c => exact go h
  | n => exact go h
  | b => exact h.elim go fun ⟨a, e, h, _⟩ => let ⟨vs, z⟩ := go2 h; ⟨a, vs, e, z⟩
  | o => exact h.elim go fun ⟨a, e, h⟩ => let ⟨vs, z⟩ := go2 h; ⟨a, vs, e, z⟩
  | t => exact absurd rfl g
theorem nt_frz {f : Fl} {xs : List D} {v : V} (g : f ≠ .t) (h : RepF K M N io H f (.frz xs) v) : ∃ a vs, v = .ref a ∧ SqL K H a vs ∧ Reps K M io H xs vs := by
  have go : Rep K M io H (.frz xs) v → ∃ a vs, v = .ref a ∧ SqL K H a vs ∧ Reps K M io H xs vs := fun h => by
    cases h with
    | frz h1 h2 => exact ⟨_, _, rfl, h1.sq, h2⟩
  have go2 : ∀ {a}, OwnAt K M io H (.frz xs) a → False := fun h => by
    rcases h with ⟨xs', vs, e', h1, h2⟩ | ⟨ks, xs', kvs, e', _⟩ <;> cases e'
  cases f with
  | c => exact go h
  | n => exact go h
  | b => exact h.elim go fun ⟨a, e, h, _⟩ => (go2 h).elim
  | o => exact h.elim go fun ⟨a, e, h⟩ => (go2 h).elim
  | t => exact absurd rfl g
theorem nt_tup {f : Fl} {xs : List D} {v : V} (g : f ≠ .t) (h : RepF K M N io H f (.tup xs) v) : ∃ a vs, v = .ref a ∧ SqT K H a vs ∧ Reps K M io H xs vs := by
  have go : Rep K M io H (.tup xs) v → ∃ a vs, v = .ref a ∧ SqT K H a vs ∧ Reps K M io H xs vs := fun h => by
    cases h with
    | tup h1 h2 => exact ⟨_, _, rfl, h1, h2⟩
  have go2 : ∀ {a}, OwnAt K M io H (.tup xs) a → False := fun h => by
    rcases h with ⟨xs', vs, e', h1, h2⟩ | ⟨ks, xs', kvs, e', _⟩ <;> cases e'
  cases f with
  | c => exact go h
  | n => exact go h
  | b => exact h.elim go fun ⟨a, e, h, _⟩ => (go2 h).elim
  | o => exact h.elim go fun ⟨a, e, h⟩ => (go2 h).elim
  | t => exact absurd rfl g
theorem nt_seq {f : Fl} {d : D} {xs : List D} {v : V} (g : f ≠ .t) (e : seqOf d = some xs) (h : RepF K M N io H f d v) : ∃ a vs, v = .ref a ∧ SqL K H a vs ∧ Reps K M io H xs vs := by
  cases d with
  | lst ys =>
    cases e
    obtain ⟨a, vs, e1, h1, h2⟩ := nt_lst g h
    exact ⟨a, vs, e1, SqL.of h1, h2⟩
  | frz ys =>
    cases e
    exact nt_frz g h
  | _ => cases e
theorem wk_seq {f : Fl} {d : D} {xs : List D} {v : V} (e : seqOf d = some xs) (h : RepF K M N io H f d v) : ∃ a vs, v = .ref a ∧ SqL K H a vs ∧ Reps K (fun _ => False) io H xs vs := by
  cases d with
  | lst ys =>
    cases e
    obtain ⟨a, vs, e1, h1, h2⟩ := lst_of h
    exact ⟨a, vs, e1, SqL.of h1, h2⟩
  | frz ys =>
    cases e
    exact frz_of h
  | _ => cases e

/-! ### two ints -/
def gInt (c : Int → Int → Bool) (g : Int → Int → D) : D × Fl → D × Fl → Option (D × Fl) := fun a b => match a.1, b.1 with
  | .int i, .int j => if c i j then some (g i j, .c) else none
  | _, _ => none
theorem bin_int {C : Int → Int → Prop} {h : Int → Int → V} {c : Int → Int → Bool} {g : Int → Int → D} (hc : ∀ i j, c i j = true → C i j) (hr : ∀ i j K M io H, Rep K M io H (g i j) (h i j)) : BinOk K ct (rI C h) (gInt c g) := by
  rintro M N io S H x y ⟨a, fa⟩ ⟨b, fb⟩ res Q ra rb q md e w
  unfold gInt at e
  dsimp only at e ra rb
  split at e
  · rename_i i j
    split at e
    · rename_i hcc
      cases e
      exact ⟨i, j, int_of ra, int_of rb, hc i j hcc, w _ _ Stp.refl (ResOk.c (hr ..) q)⟩
    · cases e
  · cases e
theorem bin_int0 {h : Int → Int → V} {g : Int → Int → D} (hr : ∀ i j K M io H, Rep K M io H (g i j) (h i j)) : BinOk K ct (rI0 h) (gInt (fun _ _ => true) g) := by
  rintro M N io S H x y ⟨a, fa⟩ ⟨b, fb⟩ res Q ra rb q md e w
  unfold gInt at e
  dsimp only at e ra rb
  split at e
  · rename_i i j
    rw [if_pos rfl] at e
    cases e
    exact ⟨i, j, int_of ra, int_of rb, w _ _ Stp.refl (ResOk.c (hr ..) q)⟩
  · cases e
abbrev gSub := gInt (fun _ _ => true) fun i j => .int (i - j)
abbrev gMod := gInt (fun _ j => decide (0 < j)) fun i j => .int (i % j)
abbrev gPow := gInt (fun i j => decide (0 ≤ j) && decide (j ≤ 1000000) && decide (i.natAbs < 2 ^ 64)) fun i j => .int (i ^ j.toNat)
abbrev gShl := gInt (fun i j => decide (0 ≤ j) && decide (j ≤ 1000000) && decide (i.natAbs < 2 ^ 64)) fun i j => .int (i * 2 ^ j.toNat)
abbrev gShr := gInt (fun _ j => decide (0 ≤ j)) fun i j => .int (i / 2 ^ j.toNat)
abbrev gAnd := gInt (fun _ _ => true) fun i j => .int (Builtin.bitAnd i j)
abbrev gOr := gInt (fun _ _ => true) fun i j => .int (Builtin.bitOr i j)
abbrev gXor := gInt (fun _ _ => true) fun i j => .int (Builtin.bitXor i j)
abbrev gLt := gInt (fun _ _ => true) fun i j => .bl (decide (i < j))
abbrev gLe := gInt (fun _ _ => true) fun i j => .bl (decide (i ≤ j))
abbrev gGt := gInt (fun _ _ => true) fun i j => .bl (decide (j < i))
abbrev gGe := gInt (fun _ _ => true) fun i j => .bl (decide (j ≤ i))
abbrev gDiv := gInt (fun _ j => decide (0 < j) && decide (j.natAbs.log2 < 9000)) fun i j => .int (i / j)
theorem ok_sub : BinOk K ct (rI0 fun i j => .int (i - j)) gSub := bin_int0 fun _ _ _ _ _ _ => .int _
theorem ok_mod : BinOk K ct (rI (fun _ j => 0 < j) fun i j => .int (i % j)) gMod := bin_int (fun _ _ h => of_decide_eq_true h) fun _ _ _ _ _ _ => .int _
theorem cpow_of {i j : Int} (h : (decide (0 ≤ j) && decide (j ≤ 1000000) && decide (i.natAbs < 2 ^ 64)) = true) : CPow i j := by
  simp only [Bool.and_eq_true, decide_eq_true_eq] at h
  exact ⟨h.1.1, h.1.2, h.2⟩
theorem ok_pow : BinOk K ct (rI CPow fun i j => .int (i ^ j.toNat)) gPow := bin_int (fun _ _ h => cpow_of h) fun _ _ _ _ _ _ => .int _
theorem ok_shl : BinOk K ct (rI CPow fun i j => .int (i * 2 ^ j.toNat)) gShl := bin_int (fun _ _ h => cpow_of h) fun _ _ _ _ _ _ => .int _
theorem ok_shr : BinOk K ct (rI (fun _ j => 0 ≤ j) fun i j => .int (i / 2 ^ j.toNat)) gShr := bin_int (fun _ _ h => of_decide_eq_true h) fun _ _ _ _ _ _ => .int _
theorem ok_and : BinOk K ct (rI0 fun i j => .int (Builtin.bitAnd i j)) gAnd := bin_int0 fun _ _ _ _ _ _ => .int _
theorem ok_or : BinOk K ct (rI0 fun i j => .int (Builtin.bitOr i j)) gOr := bin_int0 fun _ _ _ _ _ _ => .int _
theorem ok_xor : BinOk K ct (rI0 fun i j => .int (Builtin.bitXor i j)) gXor := bin_int0 fun _ _ _ _ _ _ => .int _
theorem ok_lt : BinOk K ct (rI0 fun i j => .bl (decide (i < j))) gLt := bin_int0 fun _ _ _ _ _ _ => .bl _
theorem ok_le : BinOk K ct (rI0 fun i j => .bl (decide (i ≤ j))) gLe := bin_int0 fun _ _ _ _ _ _ => .bl _
theorem ok_gt : BinOk K ct (rI0 fun i j => .bl (decide (j < i))) gGt := bin_int0 fun _ _ _ _ _ _ => .bl _
theorem ok_ge : BinOk K ct (rI0 fun i j => .bl (decide (j ≤ i))) gGe := bin_int0 fun _ _ _ _ _ _ => .bl _
theorem ok_div : BinOk K ct (rI CDivW fun i j => .int (i / j)) gDiv := bin_int (fun _ _ h => by
  rw [Bool.and_eq_true, decide_eq_true_eq, decide_eq_true_eq] at h
  exact h) fun _ _ _ _ _ _ => .int _
/-! ### + and * of several kinds -/
def gAdd : D × Fl → D × Fl → Option (D × Fl) := fun a b => match a.1, b.1 with
  | .int i, .int j => some (.int (i + j), .c)
  | .str i, .str j => if i.length + j.length ≤ sizeLine then some (.str (i ++ j), .c) else none
  | .lst xs, .lst ys => if a.2 ≠ .t ∧ b.2 ≠ .t ∧ xs.length + ys.length ≤ sizeLine then some (.lst (xs ++ ys), .n) else none
  | _, _ => none
def rAddA (K : PySem.W.Frag) : R2 := fun x y H Q => (rI0 (fun i j => .int (i + j)) x y H Q) ∨ (∃ i j, x = .str i ∧ y = .str j ∧ i.length + j.length ≤ sizeLine ∧ Q (.str (i ++ j)) H) ∨ rCat x y H Q
theorem op_addA {X : Cx} : OpR X (binaryOp .Add) (rAddA X.K) := OpR.or op_add (OpR.or op_add_str op_cat)
theorem ok_add : BinOk K ct (rAddA K) gAdd := by
  rintro M N io S H x y ⟨a, fa⟩ ⟨b, fb⟩ res Q ra rb q md e w
  unfold gAdd at e
  dsimp only at e ra rb
  split at e
  · rename_i i j
    cases e
    exact .inl ⟨i, j, int_of ra, int_of rb, w _ _ Stp.refl (ResOk.c (.int _) q)⟩
  · rename_i i j
    split at e
    · rename_i hz
      cases e
      exact .inr (.inl ⟨i, j, str_of ra, str_of rb, hz, w _ _ Stp.refl (ResOk.c (.str _) q)⟩)
    · cases e
  · rename_i xs ys
    split at e
    · rename_i hz
      cases e
      obtain ⟨p, vs, rfl, h1, h2⟩ := nt_lst hz.1 ra
      obtain ⟨p', ws, rfl, h3, h4⟩ := nt_lst hz.2.1 rb
      refine .inr (.inr ⟨p, p', vs, ws, rfl, rfl, h1, h3, by rw [← h2.len, ← h4.len]; exact hz.2.2, fun l hl => w _ _ (Stp.upd hl) (new_lst hl hl md q (h2.app h4))⟩)
    · cases e
  · cases e
def mulOk (i j : Int) : Bool := decide (-(2 ^ 64) < i ∧ i < 2 ^ 64) || decide (-(2 ^ 64) < j ∧ j < 2 ^ 64) || decide (i.natAbs.log2 + j.natAbs.log2 < 1000000)
def gMul : D × Fl → D × Fl → Option (D × Fl) := fun a b => match a.1, b.1 with
  | .int i, .int j => if mulOk i j then some (.int (i * j), .c) else none
  | .lst xs, .int k => if a.2 ≠ .t ∧ -(2 ^ 63) ≤ k ∧ k < 2 ^ 63 ∧ xs.length * k.toNat ≤ sizeLine then some (.lst (List.replicate k.toNat xs).flatten, .n) else none
  | _, _ => none
def rMulA (K : PySem.W.Frag) : R2 := fun x y H Q => (rI CMul (fun i j => .int (i * j)) x y H Q) ∨ (rI CMulW (fun i j => .int (i * j)) x y H Q) ∨ rRep x y H Q
theorem op_mulA {X : Cx} : OpR X (binaryOp .Mult) (rMulA X.K) := OpR.or op_mul (OpR.or op_mulW op_rep)
theorem Reps.rep {xs : List D} {vs : List V} (h : Reps K M io H xs vs) : ∀ k : Nat, Reps K M io H (List.replicate k xs).flatten (List.replicate k vs).flatten
  | 0 => .nil
  | k + 1 => by
    rw [List.replicate_succ, List.replicate_succ, List.flatten_cons, List.flatten_cons]
    exact h.app (Reps.rep h k)
theorem ok_mul : BinOk K ct (rMulA K) gMul := by
  rintro M N io S H x y ⟨a, fa⟩ ⟨b, fb⟩ res Q ra rb q md e w
  unfold gMul at e
  dsimp only at e ra rb
  split at e
  · rename_i i j
    split at e
    · rename_i hc
      cases e
      have w := w _ _ Stp.refl (ResOk.c (.int (i * j)) q)
      unfold mulOk at hc
      simp only [Bool.or_eq_true, decide_eq_true_eq] at hc
      rcases hc with hc | hc
      · exact .inl ⟨i, j, int_of ra, int_of rb, hc, w⟩
      · exact .inr (.inl ⟨i, j, int_of ra, int_of rb, hc, w⟩)
    · cases e
  · rename_i xs k
    split at e
    · rename_i hz
      cases e
      obtain ⟨p, vs, rfl, h1, h2⟩ := nt_lst hz.1 ra
      exact .inr (.inr ⟨p, k, vs, rfl, int_of rb, h1, hz.2.1, hz.2.2.1, by rw [← h2.len]; exact hz.2.2.2, fun l hl => w _ _ (Stp.upd hl) (new_lst hl hl md q (h2.rep _))⟩)
    · cases e
  · cases e
/-! ### == of data -/
mutual
def toPy : D → Option PyData
  | .non => some .none
  | .bl b => some (.bool b)
  | .int i => some (.int i)
  | .str z => some (.str z)
  | .lst xs => (toPys xs).map .list
  | .frz xs => (toPys xs).map .list
  | .tup xs => (toPys xs).map .tuple
  | _ => none
def toPys : List D → Option (List PyData)
  | [] => some []
  | d :: ds => match toPy d, toPys ds with
    | some p, some ps => some (p :: ps)
    | _, _ => none
end
mutual
theorem Rep.dp : ∀ {d : D} {v : V} {p : PyData}, Rep K M io H d v → toPy d = some p → Dp K H v p
  | _, _, _, .non, e => by cases e; exact .non
  | _, _, _, .bl b, e => by cases e; exact .bl b
  | _, _, _, .int i, e => by cases e; exact .int i
  | _, _, _, .str z, e => by cases e; exact .str z
  | _, _, _, .lst h _ r, e => by
    unfold toPy at e
    obtain ⟨ps, e1, rfl⟩ := Option.map_eq_some_iff.mp e
    exact .lst (SqL.of h) (Reps.dp r e1)
  | _, _, _, .frz h r, e => by
    unfold toPy at e
    obtain ⟨ps, e1, rfl⟩ := Option.map_eq_some_iff.mp e
    exact .lst h.sq (Reps.dp r e1)
  | _, _, _, .tup h r, e => by
    unfold toPy at e
    obtain ⟨ps, e1, rfl⟩ := Option.map_eq_some_iff.mp e
    exact .tup h (Reps.dp r e1)
  | _, _, _, .dic _ _ _ _, e => by cases e
  | _, _, _, .ins _, e => by cases e
  | _, _, _, .cst, e => by cases e
theorem Reps.dp : ∀ {ds : List D} {vs : List V} {ps : List PyData}, Reps K M io H ds vs → toPys ds = some ps → DpAll K H vs ps
  | _, _, _, .nil, e => by cases e; exact .nil
  | _, _, _, .cons r t, e => by
    unfold toPys at e
    split at e
    · rename_i e1 e2
      cases e
      exact .cons (Rep.dp r e1) (Reps.dp t e2)
    · cases e
end
/-- the answer of ==, where it is told -/
def eqO : D → D → Option Bool
  | .int i, .int j => some (decide (i = j))
  | .str i, .str j => some (decide (i = j))
  | .bl i, .bl j => some (decide (i = j))
  | d, e => match toPy d, toPy e with
    | some p, some q => if SeqAt.shaped p && SeqAt.shaped q then some (PyData.eqv p q) else none
    | _, _ => none
def gEq (neg : Bool) : D × Fl → D × Fl → Option (D × Fl) := fun a b => (eqO a.1 b.1).map fun k => (.bl (if neg then !k else k), .c)
def rEqA (K : PySem.W.Frag) : R2 := fun x y H Q => rEq x y H Q ∨ rEqD K x y H Q
def rNeA (K : PySem.W.Frag) : R2 := fun x y H Q => rNe x y H Q ∨ rNeD K x y H Q
theorem op_eqA {X : Cx} (hu : X.A.units + 64 < cLine) : OpR X (compareOp .Eq) (rEqA X.K) := OpR.or op_eq (op_eqD hu)
theorem op_neA {X : Cx} (hu : X.A.units + 64 < cLine) : OpR X (compareOp .NotEq) (rNeA X.K) := OpR.or op_ne (op_neD hu)
theorem eqO_cases {d e : D} {k : Bool} (h : eqO d e = some k) : (∃ i j, d = .int i ∧ e = .int j ∧ k = decide (i = j)) ∨ (∃ i j, d = .str i ∧ e = .str j ∧ k = decide (i = j)) ∨ (∃ i j, d = .bl i ∧ e = .bl j ∧ k = decide (i = j)) ∨
    ∃ p q, toPy d = some p ∧ toPy e = some q ∧ SeqAt.shaped p = true ∧ SeqAt.shaped q = true ∧ k = PyData.eqv p q := by
  unfold eqO at h
  split at h
  · cases h; exact .inl ⟨_, _, rfl, rfl, rfl⟩
  · cases h; exact .inr (.inl ⟨_, _, rfl, rfl, rfl⟩)
  · cases h; exact .inr (.inr (.inl ⟨_, _, rfl, rfl, rfl⟩))
  · split at h
    · rename_i p q e1 e2
      split at h
      · rename_i g
        rw [Bool.and_eq_true] at g
        cases h
        exact .inr (.inr (.inr ⟨p, q, e1, e2, g.1, g.2, rfl⟩))
      · cases h
    · cases h
theorem ok_eq : BinOk K ct (rEqA K) (gEq false) := by
  rintro M N io S H x y ⟨a, fa⟩ ⟨b, fb⟩ res Q ra rb q md e w
  unfold gEq at e
  obtain ⟨k, e1, rfl⟩ := Option.map_eq_some_iff.mp e
  dsimp only at e1 ra rb w
  have w := w _ _ Stp.refl (ResOk.c (.bl _) q)
  rcases eqO_cases e1 with ⟨i, j, rfl, rfl, rfl⟩ | ⟨i, j, rfl, rfl, rfl⟩ | ⟨i, j, rfl, rfl, rfl⟩ | ⟨p, p', h1, h2, h3, h4, rfl⟩
  · rw [int_of ra, int_of rb]
    refine .inl ⟨rfl, ?_⟩
    rw [dec_int, ← Bool.beq_eq_decide_eq] at *
    exact w
  · rw [str_of ra, str_of rb]
    refine .inl ⟨rfl, ?_⟩
    rw [dec_str, ← Bool.beq_eq_decide_eq] at *
    exact w
  · rw [bl_of ra, bl_of rb]
    refine .inl ⟨rfl, ?_⟩
    rw [dec_bl, ← Bool.beq_eq_decide_eq] at *
    exact w
  · exact .inr ⟨p, p', ra.weak.dp h1, rb.weak.dp h2, h3, h4, w⟩
theorem ok_ne : BinOk K ct (rNeA K) (gEq true) := by
  rintro M N io S H x y ⟨a, fa⟩ ⟨b, fb⟩ res Q ra rb q md e w
  unfold gEq at e
  obtain ⟨k, e1, rfl⟩ := Option.map_eq_some_iff.mp e
  dsimp only at e1 ra rb w
  have w := w _ _ Stp.refl (ResOk.c (.bl _) q)
  rcases eqO_cases e1 with ⟨i, j, rfl, rfl, rfl⟩ | ⟨i, j, rfl, rfl, rfl⟩ | ⟨i, j, rfl, rfl, rfl⟩ | ⟨p, p', h1, h2, h3, h4, rfl⟩
  · rw [int_of ra, int_of rb]
    refine .inl ⟨rfl, ?_⟩
    rw [dec_int, ← Bool.beq_eq_decide_eq] at *
    exact w
  · rw [str_of ra, str_of rb]
    refine .inl ⟨rfl, ?_⟩
    rw [dec_str, ← Bool.beq_eq_decide_eq] at *
    exact w
  · rw [bl_of ra, bl_of rb]
    refine .inl ⟨rfl, ?_⟩
    rw [dec_bl, ← Bool.beq_eq_decide_eq] at *
    exact w
  · exact .inr ⟨p, p', ra.weak.dp h1, rb.weak.dp h2, h3, h4, w⟩
/-! ### is None -/
def isNon : D → Bool
  | .non => true
  | .cst v => decide (v = .non)
  | _ => false
def gIsN (neg : Bool) : D × Fl → D × Fl → Option (D × Fl) := fun a b => match b.1 with
  | .non => some (.bl (if neg then !isNon a.1 else isNon a.1), .c)
  | _ => none
theorem isn_of {f : Fl} {d : D} {v : V} (h : RepF K M N io H f d v) : decide (v = .non) = isNon d := by
  have q := h.weak
  cases q <;> rfl
theorem ok_isN : BinOk K ct (fun x y H Q => y = .non ∧ Q (.bl (decide (x = .non))) H) (gIsN false) := by
  rintro M N io S H x y ⟨a, fa⟩ ⟨b, fb⟩ res Q ra rb q md e w
  unfold gIsN at e
  dsimp only at e ra rb
  split at e
  · cases e
    refine ⟨non_of rb, ?_⟩
    rw [isn_of ra]
    exact w _ _ Stp.refl (ResOk.c (.bl _) q)
  · cases e
theorem ok_notN : BinOk K ct (fun x y H Q => y = .non ∧ Q (.bl (!decide (x = .non))) H) (gIsN true) := by
  rintro M N io S H x y ⟨a, fa⟩ ⟨b, fb⟩ res Q ra rb q md e w
  unfold gIsN at e
  dsimp only at e ra rb
  split at e
  · cases e
    refine ⟨non_of rb, ?_⟩
    rw [isn_of ra]
    exact w _ _ Stp.refl (ResOk.c (.bl _) q)
  · cases e
/-! ### in -/
def toV : D → V
  | .bl b => .bl b
  | .int i => .int i
  | .str z => .str z
  | _ => .non
def flatD : D → Bool
  | .non => true
  | .bl _ => true
  | .int _ => true
  | .str _ => true
  | _ => false
theorem flat_of {d : D} {v : V} (g : flatD d = true) (h : Rep K M io H d v) : v = toV d ∧ flatV v = true := by
  cases h with
  | non => exact ⟨rfl, rfl⟩
  | bl b => exact ⟨rfl, rfl⟩
  | int b => exact ⟨rfl, rfl⟩
  | str b => exact ⟨rfl, rfl⟩
  | _ => cases g
theorem flats_of : ∀ {ds : List D} {vs : List V}, ds.all flatD = true → Reps K M io H ds vs → vs = ds.map toV ∧ vs.all flatV = true
  | _, _, _, .nil => ⟨rfl, rfl⟩
  | _, _, g, .cons r t => by
    rw [List.all_cons, Bool.and_eq_true] at g
    obtain ⟨e1, f1⟩ := flat_of g.1 r
    obtain ⟨e2, f2⟩ := flats_of g.2 t
    rw [List.map_cons, List.all_cons, ← e1, ← e2, f1, f2]
    exact ⟨rfl, rfl⟩
def inD (d : D) (ds : List D) : Bool := inV (toV d) (ds.map toV)
def gIn (neg : Bool) : D × Fl → D × Fl → Option (D × Fl) := fun a b => match b.1 with
  | .lst xs => if flatD a.1 && xs.all flatD then some (.bl (if neg then !inD a.1 xs else inD a.1 xs), .c) else none
  | .frz xs => if flatD a.1 && xs.all flatD then some (.bl (if neg then !inD a.1 xs else inD a.1 xs), .c) else none
  | .tup xs => if flatD a.1 && xs.all flatD then some (.bl (if neg then !inD a.1 xs else inD a.1 xs), .c) else none
  | .str z => match a.1 with
    | .str i => some (.bl (if neg then !(!(Builtin.Str.occurrences z i 0 z.length 1).isEmpty) else !(Builtin.Str.occurrences z i 0 z.length 1).isEmpty), .c)
    | _ => none
  | _ => none
def rInA (K : PySem.W.Frag) : R2 := fun x y H Q => rIn K false x y H Q ∨ (∃ i j, x = .str i ∧ y = .str j ∧ Q (.bl (!(Builtin.Str.occurrences j i 0 j.length 1).isEmpty)) H)
def rNotInA (K : PySem.W.Frag) : R2 := fun x y H Q => rIn K true x y H Q ∨ (∃ i j, x = .str i ∧ y = .str j ∧ Q (.bl (!(!(Builtin.Str.occurrences j i 0 j.length 1).isEmpty))) H)
theorem op_inA {X : Cx} : OpR X (compareOp .In) (rInA X.K) := OpR.or op_in_seq op_in_str
theorem op_notInA {X : Cx} : OpR X (compareOp .NotIn) (rNotInA X.K) := OpR.or op_notIn_seq op_notin_str
theorem in_seq {neg : Bool} {x y : V} {d : D} {f : Fl} {xs : List D} {Q : VK} (ra : RepF K M N io H f d x) (g : (flatD d && xs.all flatD) = true) (h : ∃ p vs, y = .ref p ∧ (SqL K H p vs ∨ SqT K H p vs) ∧ Reps K (fun _ => False) io H xs vs)
    (w : Q (.bl (if neg then !inD d xs else inD d xs)) H) : rIn K neg x y H Q := by
  rw [Bool.and_eq_true] at g
  obtain ⟨p, vs, rfl, hs, r⟩ := h
  obtain ⟨e1, f1⟩ := flat_of g.1 ra.weak
  obtain ⟨e2, f2⟩ := flats_of g.2 r
  refine ⟨p, vs, rfl, hs, f1, f2, ?_⟩
  rw [e1, e2]
  exact w
theorem ok_inN : ∀ neg : Bool, BinOk K ct (fun x y H Q => rIn K neg x y H Q ∨ (∃ i j, x = .str i ∧ y = .str j ∧ Q (.bl (if neg then !(!(Builtin.Str.occurrences j i 0 j.length 1).isEmpty) else !(Builtin.Str.occurrences j i 0 j.length 1).isEmpty)) H)) (gIn neg) := by
  rintro neg M N io S H x y ⟨a, fa⟩ ⟨b, fb⟩ res Q ra rb q md e w
  unfold gIn at e
  dsimp only at e ra rb
  split at e
  · rename_i xs
    split at e
    · rename_i g
      cases e
      obtain ⟨p, vs, e1, h1, h2⟩ := lst_of rb
      exact .inl (in_seq ra g ⟨p, vs, e1, .inl (SqL.of h1), h2⟩ (w _ _ Stp.refl (ResOk.c (.bl _) q)))
    · cases e
  · rename_i xs
    split at e
    · rename_i g
      cases e
      obtain ⟨p, vs, e1, h1, h2⟩ := frz_of rb
      exact .inl (in_seq ra g ⟨p, vs, e1, .inl h1, h2⟩ (w _ _ Stp.refl (ResOk.c (.bl _) q)))
    · cases e
  · rename_i xs
    split at e
    · rename_i g
      cases e
      obtain ⟨p, vs, e1, h1, h2⟩ := tup_of rb
      exact .inl (in_seq ra g ⟨p, vs, e1, .inr h1, h2⟩ (w _ _ Stp.refl (ResOk.c (.bl _) q)))
    · cases e
  · rename_i z
    split at e
    · rename_i i
      cases e
      exact .inr ⟨i, z, str_of ra, str_of rb, w _ _ Stp.refl (ResOk.c (.bl _) q)⟩
    · cases e
  · cases e
theorem ok_in : BinOk K ct (rInA K) (gIn false) := ok_inN false
theorem ok_notIn : BinOk K ct (rNotInA K) (gIn true) := ok_inN true
/-! ### a[i] -/
def gIx : D × Fl → D × Fl → Option (D × Fl) := fun a b => match a.1, b.1 with
  | .lst xs, .int i => (atI xs i).map fun d => (d, if a.2 = .t then .t else .c)
  | .frz xs, .int i => (atI xs i).map fun d => (d, if a.2 = .t then .t else .c)
  | .tup xs, .int i => (atI xs i).map fun d => (d, if a.2 = .t then .t else .c)
  | .str z, .int i => if z.length ≤ sizeLine then (atI z.cps.toList i).map fun c => (.str ⟨#[c]⟩, .c) else none
  | _, _ => none
theorem atI_rep {xs : List D} {vs : List V} {i : Int} {d : D} (h : Reps K M io H xs vs) (e : atI xs i = some d) : ∃ v, atI vs i = some v ∧ Rep K M io H d v := by
  unfold atI at e ⊢
  rw [← h.len]
  cases e1 : ixN xs.length i with
  | none => rw [e1] at e; cases e
  | some j =>
    rw [e1] at e
    exact h.get (i := j) e
theorem ResOk.ct' {Hs : Hp} {f : Fl} {d : D} {v : V} (h : f ≠ .t → Rep K M io H d v) (h' : Rep K (fun _ => False) io H d v) (q : StoOk K ct M io S H) : ResOk K ct M N Hs io S H (if f = .t then .t else .c) d v := by
  split
  · exact ⟨h', q⟩
  · rename_i g
    exact ⟨h g, q⟩
theorem ok_ix : BinOk K ct (rIx K) gIx := by
  rintro M N io S H x y ⟨a, fa⟩ ⟨b, fb⟩ res Q ra rb q md e w
  unfold gIx at e
  dsimp only at e ra rb
  have fin : ∀ {p : Addr} {xs : List D} {vs : List V} {i : Int} {d : D}, x = .ref p → (SqL K H p vs ∨ SqT K H p vs) → b = .int i → (fa ≠ .t → Reps K M io H xs vs) → Reps K (fun _ => False) io H xs vs → atI xs i = some d → res = (d, if fa = .t then Fl.t else Fl.c) → rIx K x y H Q := fun {p xs vs i d} e1 hs eb h2 h3 ea er => by
    obtain ⟨v, z1, z2⟩ := atI_rep h3 ea
    subst er eb
    have z3 : fa ≠ .t → Rep K M io H d v := fun g => by
      obtain ⟨v', y1, y2⟩ := atI_rep (h2 g) ea
      rw [z1] at y1
      cases y1
      exact y2
    have w := w _ _ Stp.refl (ResOk.ct' (f := fa) z3 z2 q)
    rcases hs with hs | hs
    · exact .inl ⟨p, vs, i, v, e1, int_of rb, hs, z1, w⟩
    · exact .inr (.inl ⟨p, vs, i, v, e1, int_of rb, hs, z1, w⟩)
  split at e
  · rename_i xs i
    obtain ⟨d, ea, er⟩ := Option.map_eq_some_iff.mp e
    obtain ⟨p, vs, e1, h1, h3⟩ := lst_of ra
    refine fin e1 (.inl (SqL.of h1)) rfl (fun g => ?_) h3 ea er.symm
    obtain ⟨p', vs', e1', h1', h2⟩ := nt_lst g ra
    rw [e1] at e1'
    cases e1'
    rw [h1] at h1'
    cases h1'
    exact h2
  · rename_i xs i
    obtain ⟨d, ea, er⟩ := Option.map_eq_some_iff.mp e
    by_cases g : fa = .t
    · obtain ⟨p, vs, e1, h1, h3⟩ := frz_of ra
      exact fin e1 (.inl h1) rfl (fun g' => absurd g g') h3 ea er.symm
    · obtain ⟨p, vs, e1, h1, h2⟩ := nt_frz g ra
      exact fin e1 (.inl h1) rfl (fun _ => h2) (h2.anti fun _ z => z.elim) ea er.symm
  · rename_i xs i
    obtain ⟨d, ea, er⟩ := Option.map_eq_some_iff.mp e
    by_cases g : fa = .t
    · obtain ⟨p, vs, e1, h1, h3⟩ := tup_of ra
      exact fin e1 (.inr h1) rfl (fun g' => absurd g g') h3 ea er.symm
    · obtain ⟨p, vs, e1, h1, h2⟩ := nt_tup g ra
      exact fin e1 (.inr h1) rfl (fun _ => h2) (h2.anti fun _ z => z.elim) ea er.symm
  · rename_i z i
    split at e
    · rename_i hz
      obtain ⟨c, ec, rfl⟩ := Option.map_eq_some_iff.mp e
      exact .inr (.inr ⟨z, i, c, str_of ra, int_of rb, hz, ec, w _ _ Stp.refl (ResOk.c (.str _) q)⟩)
    · cases e
  · cases e
end
section
variable {X : Cx} {ct : CT} {pos : Pos}
theorem me_ix {a b : Expr} {ma mb : EM} (ha : ME X ct a ma) (hb : ME X ct b mb) (hs : PlainIx b := by exact fun _ _ => rfl) : ME X ct (.Subscript a b pos) (eBin gIx ma mb) :=
  ⟨fun G W tk => (pe_ix ix_seq (ha.run G W tk) (hb.run G W tk) hs).imp fun s H Q h => bin_go ok_ix h⟩
end
end Mv

set_option maxRecDepth 100000
namespace Mv
open PySem PySem.Spec PyProof.Rows L2
section
variable {X : Cx} {ct : CT} {pos : Pos}
/-! ### chains, unary -/
def eChain (g g' : D × Fl → D × Fl → Option (D × Fl)) (ma mb mc : EM) : EM := fun r S => (ma r S).bind fun a S1 => (mb r S1).bind fun b S2 => match g a b with
  | some (.bl true, _) => (mc r S2).bind fun c S3 => lift0 (g' b c) S3
  | some (.bl false, _) => .ok (.bl false, .c) S2
  | _ => .no
theorem chain_go {rd rd' : R2} {g g' : D × Fl → D × Fl → Option (D × Fl)} {ma mb mc : EM} (hg : BinOk X.K ct rd g) (hg' : BinOk X.K ct rd' g') {G : Gx} {W : WX} {s : St} {H : Hp} {Q : VK} (h : tE X.K ct G W (eChain g g' ma mb mc) s H Q) :
    tChain rd rd' (tE X.K ct G W ma) (tE X.K ct G W mb) (tE X.K ct G W mc) s H Q := by
  obtain ⟨r, S, io, k, h⟩ := h
  refine ⟨r, S, io, k, Res.first h fun x S1 io1 H1 e1 t1 q1 h1 v1 o1 => ?_⟩
  have k1 := k.step t1 q1
  refine ⟨r, S1, io1, k1, Res.first h1 fun y S2 io2 H2 e2 t2 q2 h2 v2 o2 => ?_⟩
  have k2 := k1.step t2 q2
  have go : ∀ b f, g x y = some (.bl b, f) → (∀ H', Stp ct io2 H2 io2 H' → StoOk X.K ct (Mall G r s) io2 S2 H' → (if b = true then (tE X.K ct G W mc s H' fun w H5 => rd' v2 w H5 Q) else Q (.bl false) H')) → rd v1 v2 H2 fun z H3 => ∃ k, z = .bl k ∧
      if k = true then (tE X.K ct G W mc s H3 fun w H5 => rd' v2 w H5 Q) else Q (.bl false) H3 := fun b f e w => by
    refine hg _ _ io2 S2 H2 v1 v2 x y (.bl b, f) _ (o1.repF.stp t2) o2.repF q2 k2.mdom e fun v H' t o => ?_
    exact ⟨b, bl_of o.repF, w H' t o.sto⟩
  split at h2
  · rename_i f e
    exact go true f e fun H' t q => iteT ⟨r, S2, io2, k2.step t q, Res.first (h2.shift t) fun z S3 io3 H3 e3 t3 q3 h3 v3 o3 => by
      unfold lift0 at h3
      split at h3
      · rename_i res e4
        have k3 := (k2.step t q).step t3 q3
        refine hg' _ _ io3 S3 H3 v2 v3 y z res Q ((o2.repF.stp t).stp t3) o3.repF q3 k3.mdom e4 fun v H' t' o' => ?_
        exact h3.go t' o'.sto v (o'.back fun a z => t1.free (t2.free (t.free (t3.free z))))
      · exact h3.elim⟩
  · rename_i f e
    exact go false f e fun H' t q => iteF (h2.go t q _ (ResOk.c (.bl _) q))
  · exact h2.elim
theorem me_chain {op op' : CmpOp} {rd rd' : R2} {a b c : Expr} {g g' : D × Fl → D × Fl → Option (D × Fl)} {ma mb mc : EM} (ho : OpR X (compareOp op) rd) (hg : BinOk X.K ct rd g) (ho' : OpR X (compareOp op') rd') (hg' : BinOk X.K ct rd' g') (ha : ME X ct a ma) (hb : ME X ct b mb) (hc : ME X ct c mc)
    (hm : lastMarks [op, op'] [b, c] = false := by with_unfolding_all rfl) : ME X ct (.Compare a [op, op'] [b, c] pos) (eChain g g' ma mb mc) :=
  ⟨fun G W tk => (pe_chain ho ho' (ha.run G W tk) (hb.run G W tk) (hc.run G W tk) hm).imp fun s H Q h => chain_go hg hg' h⟩
theorem mt_chain {op op' : CmpOp} {rd rd' : R2} {a b c : Expr} {g g' : D × Fl → D × Fl → Option (D × Fl)} {ma mb mc : EM} (ho : OpR X (compareOp op) rd) (hg : BinOk X.K ct rd g) (ho' : OpR X (compareOp op') rd') (hg' : BinOk X.K ct rd' g') (ha : ME X ct a ma) (hb : ME X ct b mb) (hc : ME X ct c mc)
    (hm : lastMarks [op, op'] [b, c] = false := by with_unfolding_all rfl) : MT X ct (.Compare a [op, op'] [b, c] pos) (tVal (eChain g g' ma mb mc)) :=
  ⟨fun G W tk => (pt_chain ho ho' (ha.run G W tk) (hb.run G W tk) (hc.run G W tk) hm).imp fun s H Q ⟨r, S, io, k, h⟩ => chain_go hg hg' ⟨r, S, io, k, Res.first h fun x S1 io1 H1 e1 t1 q1 h1 v1 o1 => by
    split at h1
    · rename_i b e
      have o2 := o1.repF
      rw [e] at o2
      exact ⟨b, bl_of o2, h1.here q1⟩
    · exact h1.elim⟩⟩
def eUn (g : D → Option D) (m : EM) : EM := fun r S => (m r S).bind fun x S1 => lift0 ((g x.1).map fun d => (d, .c)) S1
def gNeg : D → Option D := fun d => match d with
  | .int i => some (.int (-i))
  | _ => none
theorem me_neg {a : Expr} {m : EM} (ha : ME X ct a m) : ME X ct (.UnaryOp .USub a pos) (eUn gNeg m) :=
  ⟨fun G W tk => (pe_un un_neg (ha.run G W tk)).imp fun s H Q ⟨r, S, io, k, h⟩ => ⟨r, S, io, k, Res.first h fun x S1 io1 H1 e1 t1 q1 h1 v o => by
    unfold lift0 at h1
    split at h1
    · rename_i res e
      obtain ⟨d, e2, rfl⟩ := Option.map_eq_some_iff.mp e
      unfold gNeg at e2
      split at e2
      · rename_i i e3
        cases e2
        have o2 := o.repF
        rw [e3] at o2
        exact ⟨i, int_of o2, h1.here q1 _ (ResOk.c (.int _) q1)⟩
      · cases e2
    · exact h1.elim⟩⟩
/-! ### slices -/
abbrev OM := Env → Store → Rs (Option Int)
structure MO (X : Cx) (ct : CT) (e : Option Expr) (m : OM) : Prop where
  run : ∀ (G : Gx) (W : WX), Takes X W → PO X e (fun s H Q => ∃ r S io, Ok X.K ct G r S io s H ∧ Res X.K ct W (Mall G r s) s io H (m r S) (fun o S' io' H' => Q o H'))
def oNo : OM := fun _ S => .ok none S
def oSo (m : EM) : OM := fun r S => (m r S).bind fun x S1 => match x.1 with
  | .int i => .ok (some i) S1
  | _ => .no
theorem PO.imp {X : Cx} {e : Option Expr} {t t' : TO} (h : PO X e t) (q : ∀ s H Q, t' s H Q → t s H Q) : PO X e t' := by
  first
    | exact ⟨fun pins s σ H Q I w => h.run pins s σ H Q I (q _ _ _ w)⟩
    | exact fun pins s σ H Q I w => h pins s σ H Q I (q _ _ _ w)
theorem mo_no : MO X ct none oNo := ⟨fun G W tk => PO.imp po_none fun s H Q ⟨r, S, io, k, h⟩ => h.here k.sto⟩
theorem mo_so {e : Expr} {m : EM} (h : ME X ct e m) : MO X ct (some e) (oSo m) := ⟨fun G W tk => PO.imp (po_some (h.run G W tk)) fun s H Q ⟨r, S, io, k, h⟩ => ⟨r, S, io, k, Res.first h fun x S1 io1 H1 e1 t1 q1 h1 v o => by
  split at h1
  · rename_i i e
    have o2 := o.repF
    rw [e] at o2
    exact ⟨i, int_of o2, h1.here q1⟩
  · exact h1.elim⟩⟩
def cutD (xs : List D) (lo hi : Option Int) : List D := (xs.drop (HT.sIx xs.length 0 lo)).take (HT.sIx xs.length xs.length hi - HT.sIx xs.length 0 lo)
def gSl (a : D × Fl) (lo hi : Option Int) : Option (D × Fl) := match a.1 with
  | .lst xs => some (.lst (cutD xs lo hi), if a.2 = .t then .t else .n)
  | .frz xs => some (.lst (cutD xs lo hi), if a.2 = .t then .t else .n)
  | .str z => if z.length ≤ sizeLine then some (.str (cutS z lo hi), .c) else none
  | _ => none
def eSl (ma : EM) (lo hi : OM) : EM := fun r S => (ma r S).bind fun a S1 => (lo r S1).bind fun l S2 => (hi r S2).bind fun u S3 => lift0 (gSl a l u) S3
theorem sl_seq : SlR X (fun x lo hi H Q => rSlL X.K x lo hi H Q ∨ rSlS x lo hi H Q) := SlR.or sl_list sl_str
theorem new_lstT {K : PySem.W.Frag} {M N : Addr → Prop} {io : List Addr} {H H0 : Hp} {S : Store} {p : Addr} {f : Fl} {xs : List D} {vs : List V} (hp : H p = none) (h0 : H0 p = none) (md : ∀ a, M a → ∃ o, H a = some o ∧ NI o) (q : StoOk K ct M io S H)
    (h : f ≠ .t → Reps K M io H xs vs) (h' : Reps K (fun _ => False) io H xs vs) : ResOk K ct M N H0 io S (upd H p (.lst vs)) (if f = .t then .t else .n) (.lst xs) (.ref p) := by
  split
  · exact ⟨.lst upd_same (fun z => z) (h'.stp (Stp.upd (ct := ct) hp)), q.upd hp⟩
  · rename_i g
    exact new_lst hp h0 md q (h g)
theorem seq_both {K : PySem.W.Frag} {M N : Addr → Prop} {io : List Addr} {H : Hp} {f : Fl} {d : D} {xs : List D} {v : V} (e : seqOf d = some xs) (h : RepF K M N io H f d v) : ∃ a vs, v = .ref a ∧ SqL K H a vs ∧ (f ≠ .t → Reps K M io H xs vs) ∧ Reps K (fun _ => False) io H xs vs := by
  by_cases g : f = .t
  · obtain ⟨a, vs, e1, h1, h2⟩ := wk_seq e h
    exact ⟨a, vs, e1, h1, fun g' => absurd g g', h2⟩
  · obtain ⟨a, vs, e1, h1, h2⟩ := nt_seq g e h
    exact ⟨a, vs, e1, h1, fun _ => h2, h2.anti fun _ z => z.elim⟩
theorem Reps.cut {K : PySem.W.Frag} {M : Addr → Prop} {io : List Addr} {H : Hp} {xs : List D} {vs : List V} (h : Reps K M io H xs vs) (lo hi : Option Int) : Reps K M io H (cutD xs lo hi) (cutV vs lo hi) := by
  unfold cutD cutV
  rw [← h.len]
  exact (h.drop _).take _
theorem me_sl {e : Expr} {lo hi : Option Expr} {p2 : Pos} {m : EM} {ml mh : OM} (he : ME X ct e m) (hl : MO X ct lo ml) (hh : MO X ct hi mh) : ME X ct (.Subscript e (.Slice lo hi none p2) pos) (eSl m ml mh) :=
  ⟨fun G W tk => (pe_slice sl_seq (he.run G W tk) (hl.run G W tk) (hh.run G W tk)).imp fun s H Q ⟨r, S, io, k, h⟩ => ⟨r, S, io, k, Res.first h fun x S1 io1 H1 e1 t1 q1 h1 v o => ⟨r, S1, io1, k.step t1 q1, Res.first h1 fun l S2 io2 H2 e2 t2 q2 h2 =>
    ⟨r, S2, io2, (k.step t1 q1).step t2 q2, Res.first h2 fun u S3 io3 H3 e3 t3 q3 h3 => by
      have k3 := ((k.step t1 q1).step t2 q2).step t3 q3
      have o3 := (o.repF.stp t2).stp t3
      unfold lift0 at h3
      split at h3
      · rename_i res e
        have fin : ∀ {xs : List D}, seqOf x.1 = some xs → res = (.lst (cutD xs l u), if x.2 = .t then .t else .n) → rSlL X.K v l u H3 Q := fun {xs} es er => by
          subst er
          obtain ⟨a, vs, ev, h4, h5, h6⟩ := seq_both es o3
          exact ⟨a, vs, ev, h4, fun p hp => h3.go (Stp.upd hp) (q3.upd hp) _ (new_lstT hp (t1.free (t2.free (t3.free hp))) k3.mdom q3 (fun g => (h5 g).cut l u) (h6.cut l u))⟩
        obtain ⟨d, f⟩ := x
        unfold gSl at e
        dsimp only at e o3 fin
        split at e
        · cases e
          exact .inl (fin rfl rfl)
        · cases e
          exact .inl (fin rfl rfl)
        · rename_i z
          split at e
          · rename_i hz
            cases e
            exact .inr ⟨z, str_of o3, hz, h3.here q3 _ (ResOk.c (.str _) q3)⟩
          · cases e
        · cases e
      · exact h3.elim⟩⟩⟩⟩
/-- xs[::-1] -/
def eRevL (m : EM) : EM := fun r S => (m r S).bind fun x S1 => match seqOf x.1 with
  | some xs => .ok (.lst xs.reverse, if x.2 = .t then .t else .n) S1
  | none => .no
theorem me_revL {e : Expr} {k : Nat} {p1 p2 p3 : Pos} {m : EM} (he : ME X ct e m) : ME X ct (.Subscript e (.Slice none none (some (.UnaryOp .USub (.Constant (.int 1) k p1) p2)) p3) pos) (eRevL m) :=
  ⟨fun G W tk => (pe_revL (he.run G W tk)).imp fun s H Q ⟨r, S, io, k, h⟩ => ⟨r, S, io, k, Res.first h fun x S1 io1 H1 e1 t1 q1 h1 v o => by
    have k1 := k.step t1 q1
    split at h1
    · rename_i xs e
      obtain ⟨a, vs, ev, h4, h5, h6⟩ := seq_both e o.repF
      exact ⟨a, vs, ev, h4, fun p hp => h1.go (Stp.upd hp) (q1.upd hp) _ (new_lstT hp (t1.free hp) k1.mdom q1 (fun g => (h5 g).rev) h6.rev)⟩
    · exact h1.elim⟩⟩
end
/-! ### built-in functions -/
section
variable {K : PySem.W.Frag} {ct : CT}
def gLen : List (Fl × D) → Option (D × Fl) := fun as => match as with
  | [(_, .lst xs)] => some (.int xs.length, .c)
  | [(_, .frz xs)] => some (.int xs.length, .c)
  | [(_, .tup xs)] => some (.int xs.length, .c)
  | [(_, .str z)] => if z.length ≤ sizeLine then some (.int z.length, .c) else none
  | _ => none
def rLen (K : PySem.W.Frag) : List V → Hp → VK → Prop := fun xs H Q => (∃ p ys, xs = [.ref p] ∧ (SqL K H p ys ∨ SqT K H p ys) ∧ Q (.int ys.length) H) ∨ (∃ z, xs = [.str z] ∧ z.length ≤ sizeLine ∧ Q (.int z.length) H)
theorem call_lenA {X : Cx} : CallR X (.builtin "len") (rLen X.K) := CallR.or call_len_seq call_len_str
theorem ok_len : CalOk K ct (rLen K) gLen := by
  intro M N io S H vs as res Q o q md e w
  unfold gLen at e
  split at e
  · rename_i f xs
    cases e
    obtain ⟨v, rfl, r⟩ := args1 o
    obtain ⟨a, us, rfl, h1, h2⟩ := lst_of r
    have w := w _ _ Stp.refl (ResOk.c (.int xs.length) q)
    rw [h2.len] at w
    exact .inl ⟨a, us, rfl, .inl (SqL.of h1), w⟩
  · rename_i f xs
    cases e
    obtain ⟨v, rfl, r⟩ := args1 o
    obtain ⟨a, us, rfl, h1, h2⟩ := frz_of r
    have w := w _ _ Stp.refl (ResOk.c (.int xs.length) q)
    rw [h2.len] at w
    exact .inl ⟨a, us, rfl, .inl h1, w⟩
  · rename_i f xs
    cases e
    obtain ⟨v, rfl, r⟩ := args1 o
    obtain ⟨a, us, rfl, h1, h2⟩ := tup_of r
    have w := w _ _ Stp.refl (ResOk.c (.int xs.length) q)
    rw [h2.len] at w
    exact .inl ⟨a, us, rfl, .inr h1, w⟩
  · rename_i f z
    split at e
    · rename_i hz
      cases e
      obtain ⟨v, rfl, r⟩ := args1 o
      exact .inr ⟨z, by rw [str_of r], hz, w _ _ Stp.refl (ResOk.c (.int _) q)⟩
    · cases e
  · cases e
def gList : List (Fl × D) → Option (D × Fl) := fun as => match as with
  | [(f, .lst xs)] => some (.lst xs, if f = .t then .t else .n)
  | [(f, .frz xs)] => some (.lst xs, if f = .t then .t else .n)
  | [(f, .tup xs)] => if f = .t then none else some (.lst xs, .n)
  | _ => none
theorem ok_list : CalOk K ct (fun xs H Q => ∃ p ys, xs = [.ref p] ∧ (SqL K H p ys ∨ SqT K H p ys) ∧ ∀ l, H l = none → Q (.ref l) (upd H l (.lst ys))) gList := by
  intro M N io S H vs as res Q o q md e w
  unfold gList at e
  split at e
  · rename_i f xs
    cases e
    obtain ⟨v, rfl, r⟩ := args1 o
    obtain ⟨a, us, rfl, h1, h2, h3⟩ := seq_both (d := .lst xs) rfl r
    exact ⟨a, us, rfl, .inl h1, fun l hl => w _ _ (Stp.upd hl) (new_lstT hl hl md q h2 h3)⟩
  · rename_i f xs
    cases e
    obtain ⟨v, rfl, r⟩ := args1 o
    obtain ⟨a, us, rfl, h1, h2, h3⟩ := seq_both (d := .frz xs) rfl r
    exact ⟨a, us, rfl, .inl h1, fun l hl => w _ _ (Stp.upd hl) (new_lstT hl hl md q h2 h3)⟩
  · rename_i f xs
    split at e
    · cases e
    · rename_i g
      cases e
      obtain ⟨v, rfl, r⟩ := args1 o
      obtain ⟨a, us, rfl, h1, h2⟩ := nt_tup g r
      exact ⟨a, us, rfl, .inr h1, fun l hl => w _ _ (Stp.upd hl) (new_lst hl hl md q h2)⟩
  · cases e
/-- a list of ints, of truths -/
def intsOf : List D → Option (List Int)
  | [] => some []
  | .int i :: ds => (intsOf ds).map (i :: ·)
  | _ => none
theorem intsOf_eq : ∀ {ds : List D} {is : List Int}, intsOf ds = some is → ds = is.map D.int
  | [], is, e => by cases e; rfl
  | .int i :: ds, is, e => by
    unfold intsOf at e
    obtain ⟨js, e1, rfl⟩ := Option.map_eq_some_iff.mp e
    rw [intsOf_eq e1]
    rfl
  | .non :: _, _, e => by cases e
  | .bl _ :: _, _, e => by cases e
  | .str _ :: _, _, e => by cases e
  | .lst _ :: _, _, e => by cases e
  | .tup _ :: _, _, e => by cases e
  | .dic _ _ :: _, _, e => by cases e
  | .frz _ :: _, _, e => by cases e
  | .ins _ :: _, _, e => by cases e
  | .cst _ :: _, _, e => by cases e
@[simp] theorem intsOf_map : ∀ is : List Int, intsOf (is.map D.int) = some is
  | [] => rfl
  | i :: is => by
    rw [List.map_cons]
    unfold intsOf
    rw [intsOf_map is]
    rfl
def blsOf : List D → Option (List Bool)
  | [] => some []
  | .bl i :: ds => (blsOf ds).map (i :: ·)
  | _ => none
theorem blsOf_eq : ∀ {ds : List D} {is : List Bool}, blsOf ds = some is → ds = is.map D.bl
  | [], is, e => by cases e; rfl
  | .bl i :: ds, is, e => by
    unfold blsOf at e
    obtain ⟨js, e1, rfl⟩ := Option.map_eq_some_iff.mp e
    rw [blsOf_eq e1]
    rfl
  | .non :: _, _, e => by cases e
  | .int _ :: _, _, e => by cases e
  | .str _ :: _, _, e => by cases e
  | .lst _ :: _, _, e => by cases e
  | .tup _ :: _, _, e => by cases e
  | .dic _ _ :: _, _, e => by cases e
  | .frz _ :: _, _, e => by cases e
  | .ins _ :: _, _, e => by cases e
  | .cst _ :: _, _, e => by cases e
@[simp] theorem blsOf_map : ∀ is : List Bool, blsOf (is.map D.bl) = some is
  | [] => rfl
  | i :: is => by
    rw [List.map_cons]
    unfold blsOf
    rw [blsOf_map is]
    rfl
theorem args_ints {M N : Addr → Prop} {io : List Addr} {H : Hp} {f : Fl} {d : D} {xs : List D} {is : List Int} {vs : List V} (o : ArgsOk K M N io H [(f, d)] vs) (e : seqOf d = some xs) (e2 : intsOf xs = some is) : ∃ a, vs = [.ref a] ∧ SqL K H a (is.map V.int) := by
  obtain ⟨v, rfl, r⟩ := args1 o
  obtain ⟨a, us, e3, h1, h2⟩ := wk_seq e r
  rw [intsOf_eq e2] at h2
  rw [h2.ints] at h1
  exact ⟨a, by rw [e3], h1⟩
theorem args_bls {M N : Addr → Prop} {io : List Addr} {H : Hp} {f : Fl} {d : D} {xs : List D} {is : List Bool} {vs : List V} (o : ArgsOk K M N io H [(f, d)] vs) (e : seqOf d = some xs) (e2 : blsOf xs = some is) : ∃ a, vs = [.ref a] ∧ SqL K H a (is.map V.bl) := by
  obtain ⟨v, rfl, r⟩ := args1 o
  obtain ⟨a, us, e3, h1, h2⟩ := wk_seq e r
  rw [blsOf_eq e2] at h2
  rw [h2.bls] at h1
  exact ⟨a, by rw [e3], h1⟩
def gInts (g : List Int → Option D) : List (Fl × D) → Option (D × Fl) := fun as => match as with
  | [(_, d)] => match seqOf d with
    | some xs => match intsOf xs with
      | some is => (g is).map fun d => (d, .c)
      | none => none
    | none => none
  | _ => none
theorem gInts_of {g : List Int → Option D} {as : List (Fl × D)} {res : D × Fl} (e : gInts g as = some res) : ∃ f d xs is r, as = [(f, d)] ∧ seqOf d = some xs ∧ intsOf xs = some is ∧ g is = some r ∧ res = (r, .c) := by
  unfold gInts at e
  split at e
  · rename_i f d
    split at e
    · rename_i xs e1
      split at e
      · rename_i is e2
        obtain ⟨r, e3, e4⟩ := Option.map_eq_some_iff.mp e
        exact ⟨f, d, xs, is, r, rfl, e1, e2, e3, e4.symm⟩
      · cases e
    · cases e
  · cases e
abbrev gSum := gInts fun is => some (.int is.sum)
theorem ok_sum : CalOk K ct (rSum K) gSum := by
  intro M N io S H vs as res Q o q md e w
  obtain ⟨f, d, xs, is, r, rfl, e1, e2, e3, rfl⟩ := gInts_of e
  cases e3
  obtain ⟨a, rfl, h⟩ := args_ints o e1 e2
  exact ⟨a, is, rfl, h, w _ _ Stp.refl (ResOk.c (.int _) q)⟩
/-- the greatest, the least of some ints -/
def maxL : List Int → Option Int
  | [] => none
  | i :: is => some (is.foldl max i)
def minL : List Int → Option Int
  | [] => none
  | i :: is => some (is.foldl min i)
theorem foldl_max : ∀ (is : List Int) (i : Int), (i ≤ is.foldl max i ∧ ∀ j ∈ is, j ≤ is.foldl max i) ∧ (is.foldl max i = i ∨ is.foldl max i ∈ is)
  | [], i => ⟨⟨Int.le_refl _, fun _ h => nomatch h⟩, .inl rfl⟩
  | k :: is, i => by
    obtain ⟨⟨h1, h2⟩, h3⟩ := foldl_max is (max i k)
    rw [List.foldl_cons]
    refine ⟨⟨by omega, fun j hj => ?_⟩, ?_⟩
    · rcases List.mem_cons.mp hj with rfl | hj
      · omega
      · exact h2 j hj
    · rcases h3 with h3 | h3
      · rw [h3]
        rcases Int.le_total i k with h | h
        · right; rw [Int.max_eq_right h]; exact List.mem_cons_self
        · left; exact Int.max_eq_left h
      · exact .inr (List.mem_cons_of_mem _ h3)
theorem foldl_min : ∀ (is : List Int) (i : Int), (is.foldl min i ≤ i ∧ ∀ j ∈ is, is.foldl min i ≤ j) ∧ (is.foldl min i = i ∨ is.foldl min i ∈ is)
  | [], i => ⟨⟨Int.le_refl _, fun _ h => nomatch h⟩, .inl rfl⟩
  | k :: is, i => by
    obtain ⟨⟨h1, h2⟩, h3⟩ := foldl_min is (min i k)
    rw [List.foldl_cons]
    refine ⟨⟨by omega, fun j hj => ?_⟩, ?_⟩
    · rcases List.mem_cons.mp hj with rfl | hj
      · omega
      · exact h2 j hj
    · rcases h3 with h3 | h3
      · rw [h3]
        rcases Int.le_total i k with h | h
        · left; exact Int.min_eq_left h
        · right; rw [Int.min_eq_right h]; exact List.mem_cons_self
      · exact .inr (List.mem_cons_of_mem _ h3)
theorem maxL_of {is : List Int} {m : Int} (h : m ∈ is) (u : ∀ y ∈ is, y ≤ m) : maxL is = some m := by
  cases is with
  | nil => cases h
  | cons i is =>
    obtain ⟨⟨h1, h2⟩, h3⟩ := foldl_max is i
    have : is.foldl max i = m := by
      have a : m ≤ is.foldl max i := by
        rcases List.mem_cons.mp h with rfl | h
        · exact h1
        · exact h2 m h
      have b : is.foldl max i ≤ m := by
        rcases h3 with h3 | h3
        · rw [h3]; exact u i List.mem_cons_self
        · exact u _ (List.mem_cons_of_mem _ h3)
      omega
    show some (is.foldl max i) = some m
    rw [this]
theorem minL_of {is : List Int} {m : Int} (h : m ∈ is) (u : ∀ y ∈ is, m ≤ y) : minL is = some m := by
  cases is with
  | nil => cases h
  | cons i is =>
    obtain ⟨⟨h1, h2⟩, h3⟩ := foldl_min is i
    have : is.foldl min i = m := by
      have a : is.foldl min i ≤ m := by
        rcases List.mem_cons.mp h with rfl | h
        · exact h1
        · exact h2 m h
      have b : m ≤ is.foldl min i := by
        rcases h3 with h3 | h3
        · rw [h3]; exact u i List.mem_cons_self
        · exact u _ (List.mem_cons_of_mem _ h3)
      omega
    show some (is.foldl min i) = some m
    rw [this]
def gMax : List (Fl × D) → Option (D × Fl) := fun as => match as with
  | [(_, .int i), (_, .int j)] => some (.int (max i j), .c)
  | as => gInts (fun is => (maxL is).map .int) as
def gMin : List (Fl × D) → Option (D × Fl) := fun as => match as with
  | [(_, .int i), (_, .int j)] => some (.int (min i j), .c)
  | as => gInts (fun is => (minL is).map .int) as
def rMaxA (K : PySem.W.Frag) : List V → Hp → VK → Prop := fun xs H Q => (∃ i j, xs = [.int i, .int j] ∧ Q (.int (if j > i then j else i)) H) ∨ rMax K xs H Q
def rMinA (K : PySem.W.Frag) : List V → Hp → VK → Prop := fun xs H Q => (∃ i j, xs = [.int i, .int j] ∧ Q (.int (if j < i then j else i)) H) ∨ rMin K xs H Q
theorem call_maxA {X : Cx} (hc : X.calm = true) : CallR X (.builtin "max") (rMaxA X.K) := CallR.or (call_max2 hc) (cr_max hc)
theorem call_minA {X : Cx} (hc : X.calm = true) : CallR X (.builtin "min") (rMinA X.K) := CallR.or (call_min2 hc) (cr_min hc)
theorem ok_max : CalOk K ct (rMaxA K) gMax := by
  intro M N io S H vs as res Q o q md e w
  unfold gMax at e
  split at e
  · rename_i f i f' j
    cases e
    obtain ⟨v, u, rfl, r, r'⟩ := args2 o
    refine .inl ⟨i, j, by rw [int_of r, int_of r'], ?_⟩
    have w := w _ _ Stp.refl (ResOk.c (.int (max i j)) q)
    have e : (if j > i then j else i) = max i j := by split <;> omega
    rw [e]
    exact w
  · obtain ⟨f, d, xs, is, r, rfl, e1, e2, e3, rfl⟩ := gInts_of e
    obtain ⟨m, em, rfl⟩ := Option.map_eq_some_iff.mp e3
    obtain ⟨a, rfl, h⟩ := args_ints o e1 e2
    refine .inr ⟨a, is, rfl, h, ?_, fun m' hm hu => ?_⟩
    · cases is with
      | nil => cases em
      | cons _ _ => simp
    · rw [maxL_of hm hu] at em
      cases em
      exact w _ _ Stp.refl (ResOk.c (.int _) q)
theorem ok_min : CalOk K ct (rMinA K) gMin := by
  intro M N io S H vs as res Q o q md e w
  unfold gMin at e
  split at e
  · rename_i f i f' j
    cases e
    obtain ⟨v, u, rfl, r, r'⟩ := args2 o
    refine .inl ⟨i, j, by rw [int_of r, int_of r'], ?_⟩
    have w := w _ _ Stp.refl (ResOk.c (.int (min i j)) q)
    have e : (if j < i then j else i) = min i j := by split <;> omega
    rw [e]
    exact w
  · obtain ⟨f, d, xs, is, r, rfl, e1, e2, e3, rfl⟩ := gInts_of e
    obtain ⟨m, em, rfl⟩ := Option.map_eq_some_iff.mp e3
    obtain ⟨a, rfl, h⟩ := args_ints o e1 e2
    refine .inr ⟨a, is, rfl, h, ?_, fun m' hm hu => ?_⟩
    · cases is with
      | nil => cases em
      | cons _ _ => simp
    · rw [minL_of hm hu] at em
      cases em
      exact w _ _ Stp.refl (ResOk.c (.int _) q)
def gBls (g : List Bool → Bool) : List (Fl × D) → Option (D × Fl) := fun as => match as with
  | [(_, d)] => match seqOf d with
    | some xs => match blsOf xs with
      | some is => some (.bl (g is), .c)
      | none => none
    | none => none
  | _ => none
theorem gBls_of {g : List Bool → Bool} {as : List (Fl × D)} {res : D × Fl} (e : gBls g as = some res) : ∃ f d xs is, as = [(f, d)] ∧ seqOf d = some xs ∧ blsOf xs = some is ∧ res = (.bl (g is), .c) := by
  unfold gBls at e
  split at e
  · rename_i f d
    split at e
    · rename_i xs e1
      split at e
      · rename_i is e2
        cases e
        exact ⟨f, d, xs, is, rfl, e1, e2, rfl⟩
      · cases e
    · cases e
  · cases e
abbrev gAll := gBls fun is => is.all id
abbrev gAny := gBls fun is => is.any id
theorem ok_all : CalOk K ct (rAll K) gAll := by
  intro M N io S H vs as res Q o q md e w
  obtain ⟨f, d, xs, is, rfl, e1, e2, rfl⟩ := gBls_of e
  obtain ⟨a, rfl, h⟩ := args_bls o e1 e2
  exact ⟨a, is, rfl, h, w _ _ Stp.refl (ResOk.c (.bl _) q)⟩
theorem ok_any : CalOk K ct (rAny K) gAny := by
  intro M N io S H vs as res Q o q md e w
  obtain ⟨f, d, xs, is, rfl, e1, e2, rfl⟩ := gBls_of e
  obtain ⟨a, rfl, h⟩ := args_bls o e1 e2
  exact ⟨a, is, rfl, h, w _ _ Stp.refl (ResOk.c (.bl _) q)⟩
def gIntT : List (Fl × D) → Option (D × Fl) := fun as => match as with
  | [(_, .int i)] => some (.int i, .c)
  | [(_, .bl b)] => some (.int (if b then 1 else 0), .c)
  | _ => none
theorem ok_intT : CalOk K ct (fun xs H Q => (∃ i, xs = [.int i] ∧ Q (.int i) H) ∨ ∃ k, xs = [.bl k] ∧ Q (.int (if k then 1 else 0)) H) gIntT := by
  intro M N io S H vs as res Q o q md e w
  unfold gIntT at e
  split at e
  · cases e
    obtain ⟨v, rfl, r⟩ := args1 o
    exact .inl ⟨_, by rw [int_of r], w _ _ Stp.refl (ResOk.c (.int _) q)⟩
  · cases e
    obtain ⟨v, rfl, r⟩ := args1 o
    exact .inr ⟨_, by rw [bl_of r], w _ _ Stp.refl (ResOk.c (.int _) q)⟩
  · cases e
def gAbs : List (Fl × D) → Option (D × Fl) := fun as => match as with
  | [(_, .int i)] => some (.int (if i < 0 then -i else i), .c)
  | _ => none
theorem ok_abs : CalOk K ct (fun xs H Q => ∃ i, xs = [.int i] ∧ Q (.int (if i < 0 then -i else i)) H) gAbs := by
  intro M N io S H vs as res Q o q md e w
  unfold gAbs at e
  split at e
  · cases e
    obtain ⟨v, rfl, r⟩ := args1 o
    exact ⟨_, by rw [int_of r], w _ _ Stp.refl (ResOk.c (.int _) q)⟩
  · cases e
/-- sorted of ints -/
def insI (i : Int) : List Int → List Int
  | [] => [i]
  | j :: js => if i ≤ j then i :: j :: js else j :: insI i js
def sortI : List Int → List Int
  | [] => []
  | i :: is => insI i (sortI is)
theorem insI_perm (i : Int) : ∀ is, (insI i is).Perm (i :: is)
  | [] => .refl _
  | j :: js => by
    unfold insI
    split
    · exact .refl _
    · exact ((insI_perm i js).cons j).trans (.swap i j js)
theorem sortI_perm : ∀ is, (sortI is).Perm is
  | [] => .refl _
  | i :: is => (insI_perm i _).trans ((sortI_perm is).cons i)
theorem insI_sorted (i : Int) : ∀ is, is.Pairwise (· ≤ ·) → (insI i is).Pairwise (· ≤ ·)
  | [], _ => by simp [insI]
  | j :: js, h => by
    unfold insI
    rw [List.pairwise_cons] at h
    split
    · rename_i hij
      rw [List.pairwise_cons, List.pairwise_cons]
      refine ⟨fun k hk => ?_, h⟩
      rcases List.mem_cons.mp hk with rfl | hk
      · exact hij
      · exact Int.le_trans hij (h.1 k hk)
    · rename_i hij
      rw [List.pairwise_cons]
      refine ⟨fun k hk => ?_, insI_sorted i js h.2⟩
      rcases List.mem_cons.mp ((insI_perm i js).mem_iff.mp hk) with rfl | hk
      · omega
      · exact h.1 k hk
theorem sortI_sorted : ∀ is, (sortI is).Pairwise (· ≤ ·)
  | [] => .nil
  | i :: is => insI_sorted i _ (sortI_sorted is)
theorem sorted_one {a b : List Int} (p : a.Perm b) (ha : a.Pairwise (· ≤ ·)) (hb : b.Pairwise (· ≤ ·)) : a = b := by
  induction a generalizing b with
  | nil => exact p.nil_eq
  | cons x xs ih =>
    cases b with
    | nil => exact absurd p.symm (List.not_perm_nil_cons x xs)
    | cons y ys =>
      rw [List.pairwise_cons] at ha hb
      have e : x = y := by
        have h1 : x ≤ y := by
          rcases List.mem_cons.mp (p.mem_iff.mpr List.mem_cons_self) with h | h
          · omega
          · exact ha.1 y h
        have h2 : y ≤ x := by
          rcases List.mem_cons.mp (p.mem_iff.mp List.mem_cons_self) with h | h
          · omega
          · exact hb.1 x h
        omega
      subst e
      rw [ih (List.Perm.cons_inv p) ha.2 hb.2]
def gSorted : List (Fl × D) → Option (D × Fl) := fun as => match as with
  | [(_, d)] => match seqOf d with
    | some xs => match intsOf xs with
      | some is => some (.lst ((sortI is).map .int), .n)
      | none => none
    | none => none
  | _ => none
theorem ok_sorted : CalOk K ct (rSortedI K) gSorted := by
  intro M N io S H vs as res Q o q md e w
  unfold gSorted at e
  split at e
  · rename_i f d
    split at e
    · rename_i xs e1
      split at e
      · rename_i is e2
        cases e
        obtain ⟨a, rfl, h⟩ := args_ints o e1 e2
        refine ⟨a, is, rfl, h, fun ns' p hp hs hn => ?_⟩
        have e3 : ns' = sortI is := sorted_one (hp.trans (sortI_perm is).symm) hs (sortI_sorted is)
        subst e3
        exact w _ _ (Stp.upd hn) (new_lst hn hn md q (Reps.ofInts _))
      · cases e
    · cases e
  · cases e
/-! ### isinstance of built-in types -/
def tyD : D → Option String
  | .non => some "NoneType"
  | .bl _ => some "bool"
  | .int _ => some "int"
  | .str _ => some "str"
  | .lst _ => some "list"
  | .frz _ => some "list"
  | .tup _ => some "tuple"
  | .dic _ _ => some "dict"
  | _ => none
theorem tyD_of {M : Addr → Prop} {io : List Addr} {H : Hp} {d : D} {v : V} {n : String} (h : Rep K M io H d v) (e : tyD d = some n) : TyX K H v (.type n) := by
  cases h with
  | non => cases e; exact .base .non
  | bl b => cases e; exact .base (.bl b)
  | int i => cases e; exact .base (.int i)
  | str z => cases e; exact .base (.str z)
  | lst h1 _ _ => cases e; exact .base (.lst h1)
  | frz h1 _ =>
    cases e
    rcases h1 with ⟨h1 | ⟨o, h1⟩, _⟩ | ⟨o, its, n, h1, h2, _⟩
    · exact .base (.lst h1)
    · exact .base (.frz h1)
    · exact .kList h1 h2
  | tup h1 _ =>
    cases e
    rcases h1 with (h1 | ⟨o, h1⟩) | ⟨o, its, n, h1, h2, _⟩
    · exact .base (.tup h1)
    · exact .fTuple h1
    · exact .kTuple h1 h2
  | dic h1 _ _ _ => cases e; exact .base (.dK h1)
  | ins _ => cases e
  | cst => cases e
/-- isinstance(x, T) -/
def gIsi (T : String) (g : String → Option Bool) : List (Fl × D) → Option (D × Fl) := fun as => match as with
  | [(_, d), (_, .cst (.ty n))] => if n = T then (match tyD d with
    | some t => (g t).map fun b => (.bl b, .c)
    | none => none) else none
  | _ => none
theorem ok_isi {T : String} {g : String → Option Bool} (hg : ∀ t b, g t = some b → kitB t T = some b) : CalOk K ct (rIsi K) (gIsi T g) := by
  intro M N io S H vs as res Q o q md e w
  unfold gIsi at e
  split at e
  · rename_i f d f' n
    split at e
    · rename_i en
      subst en
      split at e
      · rename_i t et
        obtain ⟨b, e1, rfl⟩ := Option.map_eq_some_iff.mp e
        obtain ⟨v, u, rfl, r, r'⟩ := args2 o
        have r' := r'.weak
        cases r'
        exact ⟨v, _, .type t, .type n, b, rfl, .ty n, tyD_of r.weak et, kit_ty (hg t b e1), w _ _ Stp.refl (ResOk.c (.bl _) q)⟩
      · cases e
    · cases e
  · cases e
def isiInt : String → Option Bool
  | "NoneType" => some false
  | "bool" => some true
  | "int" => some true
  | "str" => some false
  | "list" => some false
  | "tuple" => some false
  | "dict" => some false
  | _ => none
def isiOne (T : String) : String → Option Bool := fun t =>
  if t = "NoneType" ∨ t = "bool" ∨ t = "int" ∨ t = "str" ∨ t = "list" ∨ t = "tuple" ∨ t = "dict" then some (decide (t = T)) else none
theorem isi_int : ∀ t b, isiInt t = some b → kitB t "int" = some b := by
  intro t b h
  unfold isiInt at h
  split at h <;> first | cases h; decide +kernel | cases h
theorem isi_bool : ∀ t b, isiOne "bool" t = some b → kitB t "bool" = some b := by
  intro t b h
  unfold isiOne at h
  split at h
  · rename_i z
    rcases z with rfl | rfl | rfl | rfl | rfl | rfl | rfl <;> (cases h; decide +kernel)
  · cases h
theorem isi_list : ∀ t b, isiOne "list" t = some b → kitB t "list" = some b := by
  intro t b h
  unfold isiOne at h
  split at h
  · rename_i z
    rcases z with rfl | rfl | rfl | rfl | rfl | rfl | rfl <;> (cases h; decide +kernel)
  · cases h
theorem isi_tuple : ∀ t b, isiOne "tuple" t = some b → kitB t "tuple" = some b := by
  intro t b h
  unfold isiOne at h
  split at h
  · rename_i z
    rcases z with rfl | rfl | rfl | rfl | rfl | rfl | rfl <;> (cases h; decide +kernel)
  · cases h
theorem isi_str : ∀ t b, isiOne "str" t = some b → kitB t "str" = some b := by
  intro t b h
  unfold isiOne at h
  split at h
  · rename_i z
    rcases z with rfl | rfl | rfl | rfl | rfl | rfl | rfl <;> (cases h; decide +kernel)
  · cases h
theorem isi_dict : ∀ t b, isiOne "dict" t = some b → kitB t "dict" = some b := by
  intro t b h
  unfold isiOne at h
  split at h
  · rename_i z
    rcases z with rfl | rfl | rfl | rfl | rfl | rfl | rfl <;> (cases h; decide +kernel)
  · cases h
end
section
variable {X : Cx} {ct : CT} {pos : Pos}
/-- a built-in class's name as a value -/
theorem me_ty {x : Str} {n : String} (hg : Gl X x) (hm : X.mg x = none) (hv : bootBuiltins x = some (.type n)) (hn : x ≠ "__name__" := by decide) (hd : (x == ("__debug__" : Str)) = false := by decide) : ME X ct (.Name x pos) (eC (.cst (.ty n))) :=
  me_const (pe_bltn (v := .ty n) hg hm hv rfl hn hd) fun _ _ _ _ => .cst
/-! ### what writes one's own lists -/
theorem own_lst {K : PySem.W.Frag} {M : Addr → Prop} {io : List Addr} {H : Hp} {xs : List D} {a : Addr} (h : OwnAt K M io H (.lst xs) a) : ∃ vs, H a = some (.lst vs) ∧ Reps K M io H xs vs := by
  rcases h with ⟨xs', vs, e', h1, h2⟩ | ⟨ks, xs', kvs, e', _⟩
  · cases e'
    exact ⟨vs, h1, h2⟩
  · cases e'
theorem own_new {K : PySem.W.Frag} {M : Addr → Prop} {io : List Addr} {H : Hp} {xs ys : List D} {a : Addr} {vs ws : List V} (ma : M a) (h : H a = some (.lst vs)) (r : Reps K M io H ys ws) : OwnAt K M io (upd H a (.lst ws)) (.lst ys) a :=
  .inl ⟨ys, ws, rfl, upd_same, r.mono (fun b u q ni z => by
    rw [upd_ne]
    · exact q
    · rintro rfl
      rcases z with z | z
      · exact z ma
      · rw [h] at q
        cases q
        exact not_im_lst z) (fun _ _ n => n) io_refl⟩
/-- xs.append(e) -/
def sApp (i : Nat) (m : EM) : SM := fun r S => match r[i]? with
  | some (.own (.lst xs)) => (m r S).sb r fun x S1 => if okst x.2 x.1 && decide (xs.length < sizeLine) then .nx (r.set i (.own (.lst (xs ++ [x.1])))) S1 else .no
  | _ => .no
theorem ms_app {i : Nat} {x : Str} {p apos cpos : Pos} {e : Expr} {m : EM} (hx : PE X (.Name x p) (tVar i)) (he : ME X ct e m)
    (hb : ∀ {to : TE} {t : TA}, PE X (.Name x p) to → PA X [e] t → PE X (.Call (.Attribute (.Name x p) "append" apos) [e] [] cpos) (tBM X.K "list" rAppend to t))
    (hs1 : starEach [e] X.env = (false, eval e X.env) :: starEach [] X.env := by rfl) (hs : swapsWith (.Call (.Attribute (.Name x p) "append" apos) [e] [] cpos) none pos.line X.env = pure false := by rfl) : MS X ct (.Expr (.Call (.Attribute (.Name x p) "append" apos) [e] [] cpos) pos) (sApp i m) :=
  ⟨fun G W tk _ => (ps_expr (hb hx (pa_cons (he.run G W tk) pa_nil hs1)) hs).imp fun D s H ⟨r, S, io, k, h⟩ => by
    unfold sApp at h
    split at h
    · rename_i xs e
      obtain ⟨a, h1, h2, h3, h4⟩ := k.own i _ e
      obtain ⟨vs, h5, h6⟩ := own_lst h2
      refine ⟨.ref a, h1, .inl ⟨rfl, _, .inl (.inl h5)⟩, r, S, io, k, SRes.first k h fun x S1 io1 H1 _ t1 q1 k1 h1' v ov => ?_⟩
      split at h1'
      · rename_i g
        rw [Bool.and_eq_true, decide_eq_true_eq] at g
        have h5' := t1.k1 a _ h5 NI.lst
        have h6' := h6.stp t1
        refine ⟨a, vs, v, rfl, rfl, h5', by rw [← h6.len]; exact g.2, h1' s io1 _ (k1.mut e h1 (own_new (xs := xs) (.inr (.inr ⟨i, _, e, h1⟩)) h5' (h6'.app (.cons (RepF.clean g.1 ov.repF) .nil))))⟩
      · exact h1'.elim
    · exact h.elim⟩
/-- xs.extend(e) -/
def sExt (i : Nat) (m : EM) : SM := fun r S => match r[i]? with
  | some (.own (.lst xs)) => (m r S).sb r fun x S1 => match x.1 with
    | .lst ys => if x.2 ≠ .t ∧ xs.length + ys.length ≤ sizeLine then .nx (r.set i (.own (.lst (xs ++ ys)))) S1 else .no
    | _ => .no
  | _ => .no
theorem ms_ext {i : Nat} {x : Str} {p apos cpos : Pos} {e : Expr} {m : EM} (hx : PE X (.Name x p) (tVar i)) (he : ME X ct e m)
    (hb : ∀ {to : TE} {t : TA}, PE X (.Name x p) to → PA X [e] t → PE X (.Call (.Attribute (.Name x p) "extend" apos) [e] [] cpos) (tBM X.K "list" rExtend to t))
    (hs1 : starEach [e] X.env = (false, eval e X.env) :: starEach [] X.env := by rfl) (hs : swapsWith (.Call (.Attribute (.Name x p) "extend" apos) [e] [] cpos) none pos.line X.env = pure false := by rfl) : MS X ct (.Expr (.Call (.Attribute (.Name x p) "extend" apos) [e] [] cpos) pos) (sExt i m) :=
  ⟨fun G W tk _ => (ps_expr (hb hx (pa_cons (he.run G W tk) pa_nil hs1)) hs).imp fun D s H ⟨r, S, io, k, h⟩ => by
    unfold sExt at h
    split at h
    · rename_i xs e
      obtain ⟨a, h1, h2, h3, h4⟩ := k.own i _ e
      obtain ⟨vs, h5, h6⟩ := own_lst h2
      refine ⟨.ref a, h1, .inl ⟨rfl, _, .inl (.inl h5)⟩, r, S, io, k, SRes.first k h fun x S1 io1 H1 _ t1 q1 k1 h1' v ov => ?_⟩
      split at h1'
      · rename_i ys ey
        split at h1'
        · rename_i g
          have h5' := t1.k1 a _ h5 NI.lst
          have h6' := h6.stp t1
          have o2 := ov.repF
          rw [ey] at o2
          obtain ⟨b, ws, rfl, h7, h8⟩ := nt_lst g.1 o2
          refine ⟨a, b, vs, ws, rfl, rfl, h5', h7, by rw [← h6.len, ← h8.len]; exact g.2, h1' s io1 _ (k1.mut e h1 (own_new (xs := xs) (.inr (.inr ⟨i, _, e, h1⟩)) h5' (h6'.app h8)))⟩
        · exact h1'.elim
      · exact h1'.elim
    · exact h.elim⟩
/-- xs.clear() -/
def sClr (i : Nat) : SM := fun r S => match r[i]? with
  | some (.own (.lst xs)) => .nx (r.set i (.own (.lst []))) S
  | _ => .no
theorem ms_clr {i : Nat} {x : Str} {p apos cpos : Pos} (hx : PE X (.Name x p) (tVar i))
    (hb : ∀ {to : TE}, PE X (.Name x p) to → PE X (.Call (.Attribute (.Name x p) "clear" apos) [] [] cpos) (tBM0 X.K "list" rClear to))
    (hs : swapsWith (.Call (.Attribute (.Name x p) "clear" apos) [] [] cpos) none pos.line X.env = pure false := by rfl) : MS X ct (.Expr (.Call (.Attribute (.Name x p) "clear" apos) [] [] cpos) pos) (sClr i) :=
  ⟨fun G W tk _ => (ps_expr (hb hx) hs).imp fun D s H ⟨r, S, io, k, h⟩ => by
    unfold sClr at h
    split at h
    · rename_i xs e
      obtain ⟨a, h1, h2, h3, h4⟩ := k.own i _ e
      obtain ⟨vs, h5, h6⟩ := own_lst h2
      exact ⟨.ref a, h1, .inl ⟨rfl, _, .inl (.inl h5)⟩, a, vs, rfl, rfl, h5, h s io _ (k.mut e h1 (own_new (xs := xs) (.inr (.inr ⟨i, _, e, h1⟩)) h5 .nil))⟩
    · exact h.elim⟩
/-- xs.pop() whose value is dropped -/
def sPop (i : Nat) : SM := fun r S => match r[i]? with
  | some (.own (.lst xs)) => if xs = [] then .no else .nx (r.set i (.own (.lst xs.dropLast))) S
  | _ => .no
/-- xs[i] = e -/
def sSub (i : Nat) (mi m : EM) : SM := fun r S => (m r S).sb r fun x S1 => match r[i]? with
  | some (.own (.lst xs)) => (mi r S1).sb r fun j S2 => match j.1 with
    | .int k => match ixN xs.length k with
      | some n => if okst x.2 x.1 then .nx (r.set i (.own (.lst (xs.set n x.1)))) S2 else .no
      | none => .no
    | _ => .no
  | _ => .no
theorem ms_sub {i : Nat} {y : Str} {p spos : Pos} {e ei : Expr} {m mi : EM} (hx : PE X (.Name y p) (tVar i)) (hi : ME X ct ei mi) (he : ME X ct e m)
    (ha : ∀ v, assign (.Subscript (.Name y p) ei spos) X.env v = (do
      let ov ← holding [v] (eval (.Name y p) X.env)
      let iv ← holding [v, ov] (eval ei X.env)
      standAt spos
      holding [v, ov, iv] (setItem ov iv v)
      release [v, ov, iv] []) := by intro _; rfl)
    (hs : swapsWithSole [.Subscript (.Name y p) ei spos] e pos.line X.env = pure false := by rfl) (hw : swappedStores [.Subscript (.Name y p) ei spos] e X.env = pure none := by rfl)
    (h1 : (assignEach [.Subscript (.Name y p) ei spos] X.env).map (·.2) = [assign (.Subscript (.Name y p) ei spos) X.env] := by rfl) : MS X ct (.Assign [.Subscript (.Name y p) ei spos] e pos) (sSub i mi m) :=
  ⟨fun G W tk _ => (ps_asg (he.run G W tk) (pg_sub hx (hi.run G W tk) set_list ha) hs hw h1).imp fun D s H ⟨r, S, io, k, h⟩ => ⟨r, S, io, k, SRes.first k h fun x S1 io1 H1 _ t1 q1 k1 h1' v ov => by
    split at h1'
    · rename_i xs e
      obtain ⟨a, h1, h2, h3, h4⟩ := k1.own i _ e
      obtain ⟨vs, h5, h6⟩ := own_lst h2
      refine ⟨.ref a, h1, r, S1, io1, k1, SRes.first k1 h1' fun j S2 io2 H2 _ t2 q2 k2 h2' u ou => ?_⟩
      split at h2'
      · rename_i kk ej
        split at h2'
        · rename_i n en
          split at h2'
          · rename_i g
            have h5' := t2.k1 a _ h5 NI.lst
            have h6' := h6.stp t2
            have o2 := ou.repF
            rw [ej] at o2
            refine ⟨a, vs, kk, n, rfl, int_of o2, h5', by rw [← h6.len]; exact en, h2' s io2 _ (k2.mut e h1 (own_new (xs := xs) (.inr (.inr ⟨i, _, e, h1⟩)) h5' (h6'.set n (RepF.clean g (ov.repF.stp t2)))))⟩
          · exact h2'.elim
        · exact h2'.elim
      · exact h2'.elim
    · exact h1'.elim⟩⟩
/-- x += e, ints -/
def sInc (i : Nat) (m : EM) : SM := fun r S => match r[i]? with
  | some (.ar _ (.int a)) => (m r S).sb r fun x S1 => match x.1 with
    | .int b => .nx (r.set i (.ar .c (.int (a + b)))) S1
    | _ => .no
  | _ => .no
theorem ms_inc {i : Nat} {x : Str} {e : Expr} {m : EM} {pos' : Pos} (hN : X.N.Nodup) (hi : X.N[i]? = some x) (hx : Loc X.env.scope x) (he : ME X ct e m) (hf : X.fn x = true ∨ X.env.scope.names.lookup x = some .local := by first | exact .inl rfl | exact .inr rfl | assumption) :
    MS X ct (.AugAssign (.Name x pos') .Add e pos) (sInc i m) :=
  ⟨fun G W tk _ => (ps_aug hN hi hx (he.run G W tk) ip_add hf).imp fun D s H ⟨r, S, io, k, h⟩ => by
    unfold sInc at h
    split at h
    · rename_i f a e
      obtain ⟨v, h1, h2⟩ := k.arg i _ _ e
      have ev := int_of h2.repF
      refine ⟨v, h1, r, S, io, k, SRes.first k h fun x S1 io1 H1 _ t1 q1 k1 h1' u ou => ?_⟩
      split at h1'
      · rename_i b eb
        have o2 := ou.repF
        rw [eb] at o2
        exact ⟨a, b, ev, int_of o2, h1' _ io1 H1 (k1.setc (.int _))⟩
      · exact h1'.elim
    · exact h.elim⟩
end
end Mv

set_option maxRecDepth 100000
set_option maxHeartbeats 2000000
namespace L2
open PySem PySem.Spec PyProof.Rows
section
variable {X : Cx} {pins : List (Addr × Obj)} {σ : St} {H : Hp} {s : Shared}
/-- a thing that stands in the heap is tracked from now on -/
theorem Inv.track {a : Addr} {o : HO} (I : Inv X pins σ H s) (n0 : X.s_0.heap.get? a = none) (nL : a ≠ X.env.locals) (nC : ∀ x c, X.env.cells.lookup x = some c → c ≠ a) (nP : ∀ p ∈ X.pn ++ pins, p.1 ≠ a) (na : H a = none)
    (new : ObjOk X.prog X.w (upd H a o) s.heap a o) : Inv X pins σ (upd H a o) s where
  ok := I.ok
  os := I.os
  bare := I.bare
  base := {
    keep := I.base.keep
    slot := I.base.slot
    free := fun b u e n x => by
      rw [upd_ne (fun z => by rw [z, n0] at e; cases e)]
      exact I.base.free b u e n x
    there := I.base.there
    tups := fun b xs e => by
      have q := I.base.tups b xs e
      rw [upd_ne (ne_of_none q na)]
      exact q
    frzs := fun b u xs e => by
      have q := I.base.frzs b u xs e
      rw [upd_ne (ne_of_none q na)]
      exact q
    tbls := fun b ps e => by
      obtain ⟨m, q⟩ := I.base.tbls b ps e
      exact ⟨m, by rw [upd_ne (ne_of_none q na)]; exact q⟩ }
  loc := I.loc
  cell := I.cell
  free := by
    rw [upd_ne (Ne.symm nL)]
    exact I.free
  freeC := fun x c e => by
    rw [upd_ne (nC x c e)]
    exact I.freeC x c e
  pin := fun p hp => by
    obtain ⟨h1, h2, h3⟩ := I.pin p hp
    exact ⟨h1, by rw [upd_ne (nP p hp)]; exact h2, h3⟩
  hok := I.hok.laidN (fun _ _ z => z) na new
  len := I.len
end
/-- what 'except x as n: y = n' wishes of an exception of the body: slot i is n's, slot j y's -/
def wKeep (K : PySem.W.Frag) (c : Value) (i j : Nat) (Wout : WX) (D : Ends) : WX := fun cls d σ H =>
  ∃ b, PySem.W.exmOne K cls c = some b ∧ (b = true → ∀ a, H a = none → D.nx (((σ.set i (some (.ref a))).set j (some (.ref a))).set i none) (upd H a (Mv.ExV cls d a))) ∧ (b = false → Wout cls d σ H)
section
variable {X : Cx} {x n y : Str} {c : Value} {i j : Nat} {body : List Stmt} {np pos pos' p1 p2 p3 : Pos} {tb : WX → TS} {Wout : WX}
theorem ps_try_keep (hs : X.stack = X.env :: X.outer) (hf : X.env.frame = some X.env.locals) (hxx : X.ex = []) (hN : X.N.Nodup) (hi : X.N[i]? = some n) (hj : X.N[j]? = some y) (hln : X.env.kindOf n = some .local) (hly : X.env.kindOf y = some .local) (hc : Names X x c) (tk : Takes X Wout)
    (hv : ∀ (a : Addr) (pn : List (Addr × Obj)), PE (X.suite a pn) (.Name n p2) (tVar i)) (hy : ∀ (a : Addr) (pn : List (Addr × Obj)) (t : TE), PE (X.suite a pn) (.Name n p2) t → PS (X.suite a pn) (.Assign [.Name y p1] (.Name n p2) p3) (tAsg t (gName j)))
    (hb : ∀ (W : WX) (pn : List (Addr × Obj)) (xe : Value → Shared → Prop), Takes (X.tr pn xe) W → PassesOwn (model X.prog X.w) X.A X.env xe → PSs (X.tr pn xe) body (tb W)) :
    PS X (.Try body [.ExceptHandler (some (.Name x np)) (some n) [.Assign [.Name y p1] (.Name n p2) p3] pos'] [] [] pos) (fun D σ H => tb (wKeep X.K c i j Wout D) D σ H) := by
  refine ⟨fun pins s0 σ0 H0 D I0 h0 => ?_⟩
  have okX := I0.ok
  have frX : X.A.frames = some (X.env :: X.outer) := okX.frames.trans (by rw [hs])
  have lcn : Loc X.env.scope n := .inl hln
  refine wpAny_Try_except ?_
  refine wpAny_mono ((hb (wKeep X.K c i j Wout D) (X.pn ++ pins) (fun e s₁ => wpAny (model X.prog X.w) X.A (noteFrame e X.env) (fun _ s₂ => wpAny (model X.prog X.w) X.A (setFlight e none) (fun _ s₃ =>
    wpAny (model X.prog X.w) X.A (handleBy e X.env [.ExceptHandler (some (.Name x np)) (some n) [.Assign [.Name y p1] (.Name n p2) p3] pos']) (SP X pins D) X.xe s₃) X.xe s₂) X.xe s₁) (fun u sT xx => ?_) PassesOwn.looking).run [] s0 σ0 H0 D (I0.toTry _) h0) (fun f s1 hsp => ?_) (fun e s1 he => he)
  · obtain ⟨a, B, sI, pinsT, σT, HT, cls, d, rfl, JT, nb, up, sky, na, os, ag, b, hb1, hyes, hno⟩ := xx
    have J : Inv X pins σT HT sI := JT.ofTry okX
    rw [hs] at sky
    show wpAny (model X.prog X.w) X.A (noteFrame (.ref a) X.env) _ _ _
    refine Sky.land Zc.steady frX hf sky fun g3 fly3 up3 => ?_
    have K3 : Inv X pins σT HT { sT with heap := g3 } := J.landed nb fly3.1 (up.trans up3) os ag
    obtain ⟨ob3, vs3, at3, zc3, dt3⟩ := fly3.there
    have noFr : a ∉ frs (X.env :: X.outer) := fun hm => by
      obtain ⟨_, o', e', hnf⟩ := fly3.2.2.1.mem hm
      rw [at3] at e'
      cases e'
      exact hnf _ dt3
    have noL : a ≠ X.env.locals := fun z => noFr (List.mem_filterMap.mpr ⟨X.env, List.mem_cons_self, hf.trans (by rw [z])⟩)
    have noF : a ∉ X.fs := fun hm => by
      obtain ⟨e, he, q⟩ := List.mem_filterMap.mp hm
      exact noFr (List.mem_filterMap.mpr ⟨e, List.mem_cons_of_mem _ he, q⟩)
    have noI : sI.heap.get? a = none := by
      cases e : sI.heap.get? a with
      | none => rfl
      | some o =>
        have q := nb a o e (by rw [hs]; exact noFr)
        have q2 : B.get? a = none := fly3.2.1
        rw [q2] at q
        cases q
    have no0 : X.s_0.heap.get? a = none := by
      cases e : X.s_0.heap.get? a with
      | none => rfl
      | some o =>
        obtain ⟨o', e'⟩ := J.base.there a o e (by rw [hxx]; exact List.not_mem_nil)
        rw [noI] at e'
        cases e'
    have pinsA : ∀ p ∈ X.pn ++ pins, p.1 ≠ a := fun p hp z => by
      have q := (J.pin p hp).1
      rw [z, noI] at q
      cases q
    have T3 := K3.suite at3 dt3 na noL noF
    refine wpAny_handleBy_cons (codeAny_handlers_test ?_) (by intro q; cases q)
    have ty3 : PySem.W.Looks (model X.prog X.w) g3 (typeOf (.ref a)) cls := fun A Q E s k q => wpAny_typeOf_ref (k _ _ at3) (by rw [zc3.1]; exact q)
    have one3 := PySem.W.exm_one (M := model X.prog X.w) (K3.kIn) ty3 hb1
    have cls3 : ∀ {Q : Value → Shared → Prop} {E : Value → Shared → Prop}, Q c { sT with heap := g3 } → wpAny (model X.prog X.w) (X.A.mark (some (.ref a))) (eval (.Name x np) X.env) Q E { sT with heap := g3 } := fun {Q E} q => by
      obtain ⟨hg, hdbg, hm | ⟨hm, hv, hnn⟩⟩ := hc
      · exact ld_glob (X := X.suite a ((a, ob3) :: (X.pn ++ pins))) T3 hg hm q hdbg
      · exact ld_blt (X := X.suite a ((a, ob3) :: (X.pn ++ pins))) T3 hg hm hv q hnn hdbg
    refine cls3 (one3.here ?_)
    cases b with
    | true =>
      refine codeAny_handlers_suite_as ?_
      refine HandSPX.lands_againZ fly3 fun g4 fly4 up4 => ?_
      have K4 : Inv X pins σT HT { sT with heap := g4 } := J.landed nb fly4.1 ((up.trans up3).trans up4) os ag
      obtain ⟨ob4, vs4, at4, zc4, dt4⟩ := fly4.there
      have T4 := K4.suite at4 dt4 na noL noF
      refine store_ok (X := X.suite a ((a, ob4) :: (X.pn ++ pins))) (v := .ref a) T4 hN hi lcn rfl (fun s5 T5 => ?_) (.inr hln)
      have go := (pss_one (hy a ((a, ob4) :: (X.pn ++ pins)) _ (hv a ((a, ob4) :: (X.pn ++ pins))))).run [] s5 _ HT { nx := fun σ6 H6 => σ6 = (σT.set i (some (.ref a))).set j (some (.ref a)) ∧ H6 = HT, rt := fun _ _ => False, bk := fun _ _ => False, ct := fun _ _ => False } T5
        ⟨.ref a, List.getElem?_set_self (by rw [K4.len]; exact (List.getElem?_eq_some_iff.mp hi).1), rfl, rfl⟩
      refine wpAny_mono go (fun f s6 hsp => ?_) (fun _ _ z => False.elim z)
      cases f with
      | next =>
        obtain ⟨σ6, H6, T6, rfl, rfl⟩ := hsp
        refine gone_ok (X := X.suite a ((a, ob4) :: (X.pn ++ pins))) T6 hN hi hln fun s7 T7 => ?_
        obtain ⟨at7, _⟩ := T7.pin (a, ob4) (List.mem_append_left _ List.mem_cons_self)
        have K7 : Inv X pins (((σT.set i (some (.ref a))).set j (some (.ref a))).set i none) H6 s7 := T7.unsuite okX
        refine ⟨_, _, K7.track (o := Mv.ExV cls d a) no0 noL (fun y' c' e z => ?_) pinsA na ⟨⟨ob4, vs4, at7, zc4, dt4⟩, ⟨ob4, at7⟩, fun _ _ ⟨o, v, q, r⟩ k => ⟨o, v, k o q, r⟩⟩, hyes rfl a na⟩
        obtain ⟨v, o, ho, hd⟩ := K7.cell y' c' e
        rw [z, at7] at ho
        cases ho
        rw [dt4] at hd
        cases hd
      | brk => obtain ⟨_, _, _, q⟩ := hsp; exact q.elim
      | cont => obtain ⟨_, _, _, q⟩ := hsp; exact q.elim
      | ret u => obtain ⟨_, _, _, _, _, q⟩ := hsp; exact q.elim
    | false =>
      show wpAny _ X.A (handleBy (.ref a) X.env []) _ _ _
      refine wpAny_handleBy_nil ?_
      obtain ⟨f1, f2, f3, oe, vs, T, oT, ts', he, hz, hd, h1, hr⟩ := id fly3
      unfold PySem.passOn
      refine wpAny_bind (wpAny_field he hd h1 ?_)
      rw [if_neg (show ¬ ((Value.ref T == Value.none) = true) from by simp)]
      have on : wpAny (model X.prog X.w) X.A (setFlight (.ref a) X.env.frame) (fun _ s4 => wpAny (model X.prog X.w) X.A (throw (.ref a) : Sem Flow) (SP X pins D) X.xe s4) X.xe { sT with heap := g3 } := by
        rw [hf]
        refine HandSPX.setFlight_upZ fly3 fun g4 held4 up4 => wpAny_throw (tk _ _ ?_)
        exact ⟨a, B, sI, pins, σT, HT, cls, d, rfl, J, nb, (up.trans up3).trans up4, .inr (.inr (by rw [hs]; exact held4)), na, os, ag, hno rfl⟩
      first
        | exact wpAny_bind (wpAny_pure (wpAny_bind on))
        | exact wpAny_bind on
  · cases f with
    | next => obtain ⟨σ1, H1, J1, q⟩ := hsp; exact wpAny_execs_nil ⟨σ1, H1, J1.ofTry okX, q⟩
    | brk => obtain ⟨σ1, H1, J1, q⟩ := hsp; exact ⟨σ1, H1, J1.ofTry okX, q⟩
    | cont => obtain ⟨σ1, H1, J1, q⟩ := hsp; exact ⟨σ1, H1, J1.ofTry okX, q⟩
    | ret u => obtain ⟨v, σ1, H1, J1, r, q⟩ := hsp; exact ⟨v, σ1, H1, J1.ofTry okX, r, q⟩
end
end L2

set_option maxRecDepth 100000
set_option maxHeartbeats 2000000
namespace L2
open PySem PySem.Spec PyProof.Rows
/-- isinstance asked of an exception without a dict, or of any other thing -/
def KindZ (K : PySem.W.Frag) (H : Hp) (x : V) (t : Value) : Prop := TyX K H x t ∨ ∃ (a D : Addr), x = .ref a ∧ t = .ref D ∧ H a = some (Mv.ExV (.ref D) none a) ∧ ExcC K D
def rIsZ (K : PySem.W.Frag) : List V → Hp → VK → Prop := fun xs H Q => ∃ (x c : V) (t u : Value) (b : Bool), xs = [x, c] ∧ ClsV c u ∧ KindZ K H x t ∧ PySem.W.kitOne K t u = some b ∧ Q (.bl b) H
def rIsZT (K : PySem.W.Frag) : List V → Hp → VK → Prop := fun xs H Q => ∃ (x : V) (tp : Addr) (cs : List V) (t : Value) (us : List Value) (b : Bool), xs = [x, .ref tp] ∧ H tp = some (.tup cs) ∧ Paired ClsV cs us ∧ KindZ K H x t ∧ PySem.W.kitAny K t us = some b ∧ Q (.bl b) H
section
variable {X : Cx} {pins : List (Addr × Obj)} {σ : St} {H : Hp} {s : Shared}
theorem kitZ {x : V} {u t : Value} (I : Inv X pins σ H s) (rx : RelV x u) (k : KindZ X.K H x t) : ∃ P : Heap → Prop, PySem.W.KitX X.K u t P ∧ P s.heap ∧ u ≠ .builtin "__main__.__loader__#opaque" := by
  rcases k with k | ⟨a, D, rfl, rfl, ea, C⟩
  · exact kit_of I rx k
  · cases rx
    obtain ⟨⟨oe, vs, h1, h2, h3⟩, _⟩ := (show ObjOk X.prog X.w H s.heap a (Mv.ExV (.ref D) none a) from I.hok a _ ea)
    refine ⟨_, PySem.W.handS_kitx_exc (ox := oe) C.hg C.hk C.hs C.hd C.ha C.hn C.ht C.hm, ?_, fun z => nomatch z⟩
    obtain ⟨oc, od, dt, sl⟩ := oe
    obtain ⟨z1, z2⟩ := h2
    dsimp only at z1 z2 h3
    subst z1 z2 h3
    exact ⟨h1, rfl, rfl, trivial⟩
theorem call_isZ : CallR X (.builtin "isinstance") (rIsZ X.K) := by
  intro pins s σ H xs us Q I r h
  obtain ⟨x, c, t, u, b, rfl, k, ty, e, q⟩ := h
  obtain ⟨u1, u2, rfl, r1, r2⟩ := vals2 r
  have e2 := k.eq r2
  subst e2
  obtain ⟨P, Z, p, hx⟩ := kitZ I r1 ty
  exact PySem.W.kia_one Z I.kIn p e hx fun tk => ⟨.bl b, H, I.tok tk, rfl, q⟩
theorem call_isZT : CallR X (.builtin "isinstance") (rIsZT X.K) := by
  intro pins s σ H xs us Q I r h
  obtain ⟨x, tp, cs, t, ws, b, rfl, hT, k, ty, e, q⟩ := h
  obtain ⟨u1, u2, rfl, r1, r2⟩ := vals2 r
  cases (show u2 = Value.ref tp from r2)
  obtain ⟨P, Z, p, hx⟩ := kitZ I r1 ty
  obtain ⟨_, its, rv, o, h1, h2, n, h3⟩ := (show ObjOk X.prog X.w H s.heap tp (.tup cs) from I.hok tp _ hT)
  have e3 := ClsV.all k rv
  subst e3
  obtain ⟨oc, od, dt, sl⟩ := o
  simp only at h2 h3
  subst h2 h3
  exact PySem.W.kia_tup Z I.kIn p h1 e hx fun tk => ⟨.bl b, H, I.tok tk, rfl, q⟩
theorem pcs_nil : PA X [] (fun _ H Q => Q [] H) := pa_nil
theorem pcs_cons {e : Expr} {es : List Expr} {v : V} {vs : List V} (he : PE X e (tC v)) (hr : PA X es (fun _ H Q => Q vs H)) (hs : starEach (e :: es) X.env = (false, eval e X.env) :: starEach es X.env := by rfl) : PA X (e :: es) (fun _ H Q => Q (v :: vs) H) := pa_cons he hr hs
end
end L2
namespace Mv
open PySem PySem.Spec PyProof.Rows L2
/-! ### raise -/
/-- an exception class called as n: its number c -/
structure RaC (K : PySem.W.Frag) (mg : Str → Option Value) (A : Addr) (n : Str) : Prop where
  ex : PySem.W.excIn K A [.type "ValueError", .type "Exception", .type "BaseException", .type "object"] "ValueError.__new__" = true
  gl : mg n = some (.ref A)
  kp : PySem.W.keepIn K (.ref A) = true
  sb : PySem.W.subIn K (.ref A) (.type "BaseException") = some true
  ty : PySem.W.typeIn K (.ref A) = some (.type "type")
section
variable {X : Cx} {ct : CT} {pos : Pos}
/-- raise C('..') -/
def sRaise (c : Nat) : SM := fun r S => .er c [] r S
theorem ms_raise {n : Str} {c : Nat} {m : Str} {j : Nat} {p p2 pos' : Pos} (hc : X.calm = true) (R : RaC X.K X.mg (ct.ad c) n) (hg : Gl X n) (hd : (n == ("__debug__" : Str)) = false := by decide) :
    MS X ct (.Raise (some (.Call (.Name n p) [.Constant (.str m) j p2] [] pos')) none pos) (sRaise c) :=
  ⟨fun G W tk _ => (ps_raise hc tk (pmk_own PySem.F.excBase_ValueError R.ex R.gl R.kp (raises_own R.sb R.ty) hg hd)).imp fun D s H ⟨r, S, io, k, h⟩ => h none s io H k (.inl ⟨rfl, rfl⟩)⟩
end
/-! ### an exception in the store -/
section
variable {K : PySem.W.Frag} {ct : CT} {G : Gx} {r : Env} {S S' S1 : Store} {io io' io1 : List Addr} {s : St} {H H' H1 : Hp} {M : Addr → Prop}
theorem kept_sto {c : Nat} {p : List D} {d : Option Addr} {a : Addr} (q : StoOk K ct M io S H) (ex : ct.ex c = true) (ha : H a = none) (e : ErrOk K (ct.fd c) io H p d) :
    Stp ct io H (io ++ [a]) (upd H a (ExV (.ref (ct.ad c)) d a)) ∧ StoOk K ct M (io ++ [a]) (S ++ [(c, p)]) (upd H a (ExV (.ref (ct.ad c)) d a)) := by
  have t0 : Stp ct io H io (upd H a (ExV (.ref (ct.ad c)) d a)) := Stp.upd ha
  have nx : a ∉ io := fun z => by
    obtain ⟨i, hi, e⟩ := List.getElem_of_mem z
    obtain ⟨b, o', h1, h2⟩ := q.io_at (n := i) (by rw [q.len]; exact hi)
    rw [List.getElem?_eq_getElem hi, e] at h1
    cases h1
    rw [ha] at h2
    cases h2
  have t : Stp ct io H (io ++ [a]) (upd H a (ExV (.ref (ct.ad c)) d a)) := ⟨t0.k1, t0.k2, ⟨[a], rfl⟩, fun b h n => by
    rcases List.mem_append.mp h with h | h
    · exact absurd h n
    · rw [List.mem_singleton.mp h]
      exact ha, t0.dom, t0.k3⟩
  refine ⟨t, by simp [q.len], fun n C' fs e' x' => ?_, fun n C' fs e' x' => ?_, ?_, tabs_mono (M := fun _ => False) q.tb t.kp fun b ps e' => by rw [upd_ne (ne_of_none e' ha)]; exact e', pins_mono (M := fun _ => False) q.pn t.kp⟩
  · rcases Nat.lt_or_ge n S.length with hn | hn
    · rw [List.getElem?_append_left hn] at e'
      obtain ⟨b, dx', gs, h1, h2, h3, h4⟩ := q.at_ n C' fs e' x'
      exact ⟨b, dx', gs, by rw [List.getElem?_append_left (by rw [← q.len]; exact hn)]; exact h1, by rw [upd_ne (ne_of_none h2 ha)]; exact h2, h3, h4.stp t⟩
    · rw [List.getElem?_append_right hn] at e'
      have hn0 : n - S.length = 0 := by
        have := (List.getElem?_eq_some_iff.mp e').1
        simp at this
        omega
      rw [hn0] at e'
      cases e'
      rw [ex] at x'
      cases x'
  · rcases Nat.lt_or_ge n S.length with hn | hn
    · rw [List.getElem?_append_left hn] at e'
      obtain ⟨b, d', h1, h2, h3⟩ := q.ax n C' fs e' x'
      exact ⟨b, d', by rw [List.getElem?_append_left (by rw [← q.len]; exact hn)]; exact h1, by rw [upd_ne (ne_of_none h2 ha)]; exact h2, h3.mono (M := fun _ => False) t.kp t.pre⟩
    · rw [List.getElem?_append_right hn] at e'
      have hn0 : n - S.length = 0 := by
        have := (List.getElem?_eq_some_iff.mp e').1
        simp at this
        omega
      rw [hn0] at e'
      cases e'
      refine ⟨a, d, ?_, upd_same, e.mono (M := fun _ => False) t.kp t.pre⟩
      rw [List.getElem?_append_right (by rw [← q.len]; exact hn), ← q.len, hn0]
      rfl
  · rw [List.nodup_append]
    refine ⟨q.nd, by simp, fun b hb a' ha' e => ?_⟩
    rw [List.mem_singleton.mp ha'] at e
    exact nx (e ▸ hb)
/-- a slot of which nothing is known -/
theorem Ok.blank {i : Nat} {v : Option V} (k : Ok K ct G r S io s H) (e : r[i]? = some .no) : Ok K ct G r S io (s.set i v) H := by
  have ne : ∀ {j : Nat} {x : Slot}, r[j]? = some x → x ≠ .no → i ≠ j := fun {j x} q n z => by
    subst z
    rw [e] at q
    exact n (Option.some.inj q).symm
  have em : Mown G r (s.set i v) = Mown G r s := by
    funext a
    refine propext ⟨fun z => ?_, fun z => ?_⟩
    · rcases z with z | ⟨j, d, h1, h2⟩
      · exact .inl z
      · rw [List.getElem?_set_ne (ne h1 (by simp))] at h2
        exact .inr ⟨j, d, h1, h2⟩
    · rcases z with z | ⟨j, d, h1, h2⟩
      · exact .inl z
      · exact .inr ⟨j, d, h1, by rw [List.getElem?_set_ne (ne h1 (by simp))]; exact h2⟩
  have eM : Mall G r (s.set i v) = Mall G r s := by unfold Mall; rw [em]
  refine ⟨by simp [k.len], fun j f d q => ?_, fun j d q => ?_, fun j j' d d' a q q' z z' => ?_, by rw [eM]; exact k.sto, k.stp, k.m0, k.n0, by rw [eM, em]; exact k.held, k.dp.env rfl (fun _ z => z) fun j b d q => ⟨q, List.getElem?_set_ne (ne q (by simp))⟩⟩
  · obtain ⟨w, h1, h2⟩ := k.arg j f d q
    exact ⟨w, by rw [List.getElem?_set_ne (ne q (by simp))]; exact h1, by rw [eM, em]; exact h2⟩
  · obtain ⟨w, h1, h2⟩ := k.own j d q
    exact ⟨w, by rw [List.getElem?_set_ne (ne q (by simp))]; exact h1, by rw [eM]; exact h2⟩
  · rw [List.getElem?_set_ne (ne q (by simp))] at z
    rw [List.getElem?_set_ne (ne q' (by simp))] at z'
    exact k.inj j j' d d' a q q' z z'
end
/-! ### try -/
/-- what the except clause's class says of each class number -/
def TabX (K : PySem.W.Frag) (ct : CT) (c : Value) (l : List (Nat × Bool)) : Prop := ∀ p ∈ l, PySem.W.exmOne K (.ref (ct.ad p.1)) c = some p.2 ∧ ct.ex p.1 = true
theorem mem_of_lk {α : Type} {n : Nat} {b : α} : ∀ {l : List (Nat × α)}, l.lookup n = some b → (n, b) ∈ l
  | [], h => by simp at h
  | (m, c) :: l, h => by
    rw [List.lookup_cons] at h
    split at h
    · rename_i e
      rw [beq_iff_eq.mp e]
      cases h
      exact List.mem_cons_self
    · exact List.mem_cons_of_mem _ (mem_of_lk h)
section
variable {X : Cx} {ct : CT} {pos : Pos}
/-- try: b, except C as n: y = n (n's slot i, y's j) -/
def sTry (l : List (Nat × Bool)) (i j : Nat) (b : SM) : SM := fun r S => match b r S with
  | .er c p r' S' => match l.lookup c with
    | some true => match r'[i]? with
      | some .no => .nx (r'.set j (.ar .c (.ins S'.length))) (S' ++ [(c, p)])
      | _ => .no
    | some false => .er c p r' S'
    | none => .no
  | x => x
theorem try_go {K : PySem.W.Frag} {c : Value} {l : List (Nat × Bool)} {i j : Nat} {b : SM} {G : Gx} {W : WX} {D : Ends} {s : St} {H : Hp} (hij : i ≠ j) (T : TabX K ct c l) (h : tS K ct G W (sTry l i j b) D s H) : tS K ct G (wKeep K c i j W D) b D s H := by
  obtain ⟨r, S, io, k, h⟩ := h
  refine ⟨r, S, io, k, ?_⟩
  unfold sTry at h
  cases e : b r S with
  | er c' p r' S' =>
    rw [e] at h
    intro dx s' io' H' k' er
    dsimp only at h
    split at h
    · rename_i e2
      obtain ⟨t1, t2⟩ := T _ (mem_of_lk e2)
      split at h
      · rename_i e3
        refine ⟨true, t1, fun _ a ha => ?_, fun z => by cases z⟩
        obtain ⟨st, sq⟩ := kept_sto k'.sto t2 ha er
        have k1 := k'.step st sq
        have k2 := (k1.blank (v := some (.ref a)) e3).setc (i := j) (d := .ins S'.length) (v := .ref a) (Rep.ins (by
          rw [List.getElem?_append_right (by rw [k'.sto.len]; exact Nat.le_refl _), k'.sto.len, Nat.sub_self]
          rfl))
        exact h _ _ _ (k2.blank (v := none) (by rw [List.getElem?_set_ne (Ne.symm hij)]; exact e3))
      · exact h.elim
    · rename_i e2
      obtain ⟨t1, t2⟩ := T _ (mem_of_lk e2)
      exact ⟨false, t1, (fun z => by cases z), fun _ => h dx s' io' H' k' er⟩
    · exact h.elim
  | nx r' S' => rw [e] at h; exact h
  | rt d f S' => rw [e] at h; exact h
  | bk r' S' => rw [e] at h; exact h
  | ct r' S' => rw [e] at h; exact h
  | no => rw [e] at h; exact h
theorem ms_try {x n y : Str} {c : Value} {i j : Nat} {body : List Stmt} {np pos' p1 p2 p3 : Pos} {l : List (Nat × Bool)} {b : SM} (hs : X.stack = X.env :: X.outer) (hf : X.env.frame = some X.env.locals) (hxx : X.ex = []) (hN : X.N.Nodup) (hi : X.N[i]? = some n) (hj : X.N[j]? = some y)
    (hln : X.env.kindOf n = some .local) (hly : X.env.kindOf y = some .local) (hij : i ≠ j) (hc : Names X x c) (T : TabX X.K ct c l) (hv : ∀ (a : Addr) (pn : List (Addr × Obj)), PE (X.suite a pn) (.Name n p2) (tVar i))
    (hy : ∀ (a : Addr) (pn : List (Addr × Obj)) (t : TE), PE (X.suite a pn) (.Name n p2) t → PS (X.suite a pn) (.Assign [.Name y p1] (.Name n p2) p3) (tAsg t (gName j)))
    (hb : ∀ (pn : List (Addr × Obj)) (xe : Value → Shared → Prop), MSs (X.tr pn xe) ct body b) : MS X ct (.Try body [.ExceptHandler (some (.Name x np)) (some n) [.Assign [.Name y p1] (.Name n p2) p3] pos'] [] [] pos) (sTry l i j b) :=
  ⟨fun G W tk po => (ps_try_keep (tb := fun W => tS X.K ct G W b) hs hf hxx hN hi hj hln hly hc tk hv hy fun W pn xe tk' po' => (hb pn xe).run G W tk' po').imp fun D s H h => try_go hij T h⟩
/-- try: b, except C: su -/
def sTryO (l : List (Nat × Bool)) (b su : SM) : SM := fun r S => match b r S with
  | .er c p r' S' => match l.lookup c with
    | some true => match su r' S' with
      | .er _ _ _ _ => .no
      | x => x
    | some false => .er c p r' S'
    | none => .no
  | x => x
theorem ms_tryO {x : Str} {c : Value} {body suite : List Stmt} {b₀ : Stmt} {np pos' : Pos} {l : List (Nat × Bool)} {b su : SM} (hs : X.stack = X.env :: X.outer) (hf : X.env.frame = some X.env.locals) (hc : Names X x c) (T : TabX X.K ct c l)
    (hb : ∀ (pn : List (Addr × Obj)) (xe : Value → Shared → Prop), MSs (X.tr pn xe) ct body b) (hsu : ∀ (a : Addr) (pn : List (Addr × Obj)), MSs (X.suite a pn) ct (b₀ :: suite) su) :
    MS X ct (.Try body [.ExceptHandler (some (.Name x np)) none (b₀ :: suite) pos'] [] [] pos) (sTryO l b su) :=
  ⟨fun G W tk po => (ps_try_only (tb := fun W => tS X.K ct G W b) (ts := fun _ _ _ => tS X.K ct G W0 su) hs hf hc tk (fun W pn xe tk' po' => (hb pn xe).run G W tk' po') fun a oe cls d pn _ _ => (hsu a ((a, oe) :: pn)).run G W0 (fun _ _ ⟨_, _, _, _, _, _, _, _, _, _, _, _, _, _, _, _, w⟩ => w) PassesOwn.never).imp fun D s H h => by
    obtain ⟨r, S, io, k, h⟩ := h
    refine ⟨r, S, io, k, ?_⟩
    unfold sTryO at h
    cases e : b r S with
    | er c' p r' S' =>
      rw [e] at h
      intro dx s' io' H' k' er
      dsimp only at h
      split at h
      · rename_i e2
        obtain ⟨t1, t2⟩ := T _ (mem_of_lk e2)
        refine ⟨true, t1, fun _ a ha => ⟨r', S', io', k', ?_⟩, fun z => by cases z⟩
        cases e3 : su r' S' with
        | er c2 p2 r2 S2 =>
          rw [e3] at h
          exact h.elim
        | nx r2 S2 => rw [e3] at h; exact h
        | rt d f S2 => rw [e3] at h; exact h
        | bk r2 S2 => rw [e3] at h; exact h
        | ct r2 S2 => rw [e3] at h; exact h
        | no => rw [e3] at h; exact h
      · rename_i e2
        obtain ⟨t1, t2⟩ := T _ (mem_of_lk e2)
        exact ⟨false, t1, (fun z => by cases z), fun _ => h dx s' io' H' k' er⟩
      · exact h.elim
    | nx r' S' => rw [e] at h; exact h
    | rt d f S' => rw [e] at h; exact h
    | bk r' S' => rw [e] at h; exact h
    | ct r' S' => rw [e] at h; exact h
    | no => rw [e] at h; exact h⟩
end
end Mv

set_option maxRecDepth 100000
set_option maxHeartbeats 2000000
namespace Mv
open PySem PySem.Spec PyProof.Rows L2
/-! ### isinstance of one's own classes -/
def kindB (tt : List (String × Bool)) (l : List (Nat × Bool)) (d : D) (S : Store) : Option Bool := match d with
  | .ins n => match S[n]? with
    | some (c, []) => l.lookup c
    | _ => none
  | d => match tyD d with
    | some t => tt.lookup t
    | none => none
def eIsx (tt : List (String × Bool)) (l : List (Nat × Bool)) (m : EM) : EM := fun r S => (m r S).bind fun x S1 => match kindB tt l x.1 S1 with
  | some b => .ok (.bl b, .c) S1
  | none => .no
theorem mem_of_lkS {α : Type} {n : String} {b : α} : ∀ {l : List (String × α)}, l.lookup n = some b → (n, b) ∈ l
  | [], h => by simp at h
  | (m, c) :: l, h => by
    rw [List.lookup_cons] at h
    split at h
    · rename_i e
      rw [beq_iff_eq.mp e]
      cases h
      exact List.mem_cons_self
    · exact List.mem_cons_of_mem _ (mem_of_lkS h)
structure IsC (K : PySem.W.Frag) (ct : CT) (f : Value → Option Bool) (tt : List (String × Bool)) (l : List (Nat × Bool)) : Prop where
  ty : ∀ p ∈ tt, f (.type p.1) = some p.2
  cl : ∀ p ∈ l, f (.ref (ct.ad p.1)) = some p.2 ∧ ct.ex p.1 = true ∧ ExcC K (ct.ad p.1)
theorem kindB_of {K : PySem.W.Frag} {ct : CT} {M : Addr → Prop} {io : List Addr} {H : Hp} {S : Store} {f : Value → Option Bool} {tt : List (String × Bool)} {l : List (Nat × Bool)} {d : D} {v : V} {b : Bool} (I : IsC K ct f tt l) (e : kindB tt l d S = some b) (h : Rep K M io H d v) (q : StoOk K ct M io S H) :
    ∃ t, KindZ K H v t ∧ f t = some b := by
  have go : ∀ {d : D}, Rep K M io H d v → (match tyD d with
    | some t => tt.lookup t
    | none => none) = some b → ∃ t, KindZ K H v t ∧ f t = some b := fun {d} h e => by
    split at e
    · rename_i t et
      exact ⟨_, .inl (tyD_of h et), I.ty _ (mem_of_lkS e)⟩
    · cases e
  cases h with
  | ins h1 =>
    rename_i n a
    unfold kindB at e
    dsimp only at e
    split at e
    · rename_i c e2
      obtain ⟨z1, z2, z3⟩ := I.cl _ (mem_of_lk e)
      obtain ⟨a', d, y1, y2, y3⟩ := q.ax n c [] e2 z2
      rw [h1] at y1
      cases y1
      rcases y3 with ⟨_, rfl⟩ | ⟨_, _, _, z, _⟩
      · exact ⟨_, .inr ⟨a, ct.ad c, rfl, rfl, y2, z3⟩, z1⟩
      · exact absurd rfl z
    · cases e
  | non => exact go .non e
  | bl x => exact go (.bl x) e
  | int x => exact go (.int x) e
  | str x => exact go (.str x) e
  | lst h1 h2 h3 => exact go (.lst h1 h2 h3) e
  | frz h1 h2 => exact go (.frz h1 h2) e
  | tup h1 h2 => exact go (.tup h1 h2) e
  | dic h1 h2 h3 h4 => exact go (.dic h1 h2 h3 h4) e
  | cst => cases e
theorem StoOk.weak {K : PySem.W.Frag} {ct : CT} {M : Addr → Prop} {io : List Addr} {S : Store} {H : Hp} (q : StoOk K ct M io S H) : StoOk K ct (fun _ => False) io S H := q.anti fun _ z => z.elim
section
variable {X : Cx} {ct : CT} {pos : Pos}
theorem me_isx {e c : Expr} {p : Pos} {v : V} {u : Value} {m : EM} {tt : List (String × Bool)} {l : List (Nat × Bool)} (he : ME X ct e m) (hc : PE X c (tC v)) (cv : ClsV v u) (I : IsC X.K ct (fun t => PySem.W.kitOne X.K t u) tt l) (hgl : Gl X "isinstance") (hm : X.mg "isinstance" = none) (hv : bootBuiltins "isinstance" = some (.builtin "isinstance"))
    (hs : starEach [c] X.env = (false, eval c X.env) :: starEach [] X.env := by rfl) (hs2 : starEach [e, c] X.env = (false, eval e X.env) :: starEach [c] X.env := by rfl) (hpl : (backTo pos (starEach [c] X.env)).any (·.1) = false := by rfl) :
    ME X ct (.Call (.Name "isinstance" p) [e, c] [] pos) (eIsx tt l m) :=
  ⟨fun G W tk => (pe_callB call_isZ hgl hm hv (pa_cons (he.run G W tk) (pcs_cons hc pcs_nil hs) hs2) (he := hs2) (hpl := hpl)).imp fun s H Q ⟨r, S, io, k, h⟩ => ⟨r, S, io, k, Res.first h fun x S1 io1 H1 e1 t1 q1 h1 w o => by
    split at h1
    · rename_i b e2
      obtain ⟨t, z1, z2⟩ := kindB_of I e2 o.repF.weak q1.weak
      exact ⟨w, v, t, u, b, rfl, cv, z1, z2, h1.here q1 _ (ResOk.sc (f := .c) (by simp) (.bl _) q1)⟩
    · exact h1.elim⟩⟩
theorem me_isxT {e : Expr} {es : List Expr} {p : Pos} {vs : List V} {us : List Value} {m : EM} {x1 pt} {tt : List (String × Bool)} {l : List (Nat × Bool)} (he : ME X ct e m) (hc : PA X es (fun _ H Q => Q vs H)) (cv : Paired ClsV vs us) (hl : vs.length ≤ sizeLine) (I : IsC X.K ct (fun t => PySem.W.kitAny X.K t us) tt l) (hgl : Gl X "isinstance") (hm : X.mg "isinstance" = none) (hv : bootBuiltins "isinstance" = some (.builtin "isinstance"))
    (hs : starEach [.Tuple es x1 pt] X.env = (false, eval (.Tuple es x1 pt) X.env) :: starEach [] X.env := by rfl) (hs2 : starEach [e, .Tuple es x1 pt] X.env = (false, eval e X.env) :: starEach [.Tuple es x1 pt] X.env := by rfl) (hpl : (backTo pos (starEach [.Tuple es x1 pt] X.env)).any (·.1) = false := by rfl) :
    ME X ct (.Call (.Name "isinstance" p) [e, .Tuple es x1 pt] [] pos) (eIsx tt l m) :=
  ⟨fun G W tk => (pe_callB call_isZT hgl hm hv (pa_cons (he.run G W tk) (pa_cons (pe_tup hc) pa_nil hs) hs2) (he := hs2) (hpl := hpl)).imp fun s H Q ⟨r, S, io, k, h⟩ => ⟨r, S, io, k, Res.first h fun x S1 io1 H1 e1 t1 q1 h1 w o => by
    split at h1
    · rename_i b e2
      refine ⟨hl, fun pp hp => ?_⟩
      obtain ⟨t, z1, z2⟩ := kindB_of I e2 (o.repF.stp (Stp.upd (ct := ct) (o := .tup vs) hp)).weak (q1.upd (o := .tup vs) hp).weak
      exact ⟨w, pp, vs, t, us, b, rfl, upd_same, cv, z1, z2, h1.go (Stp.upd hp) (q1.upd hp) _ (ResOk.sc (f := .c) (by simp) (.bl _) (q1.upd hp))⟩
    · exact h1.elim⟩⟩
/-- an own class's name -/
theorem pe_cls {x : Str} {A : Addr} (hg : Gl X x) (hm : X.mg x = some (.ref A)) (hd : (x == ("__debug__" : Str)) = false := by decide) : PE X (.Name x pos) (tC (.ref A)) := pe_glob hg hm rfl hd
theorem pe_bcls {x : Str} {n : String} (hg : Gl X x) (hm : X.mg x = none) (hv : bootBuiltins x = some (.type n)) (hn : x ≠ "__name__" := by decide) (hd : (x == ("__debug__" : Str)) = false := by decide) : PE X (.Name x pos) (tC (.ty n)) := pe_bltn (v := .ty n) hg hm hv rfl hn hd
end
end Mv
namespace Mv
open PySem PySem.Spec PyProof.Rows L2
section
variable {K : PySem.W.Frag} {ct : CT} {M N : Addr → Prop} {io : List Addr} {S : Store} {H : Hp}
/-- tuple(x) -/
def gTupOf : D × Fl → Option (D × Fl)
  | (.lst xs, f) => some (.tup xs, if f = .t then .t else .c)
  | (.frz xs, f) => some (.tup xs, if f = .t then .t else .c)
  | (.tup xs, f) => if f = .t then none else some (.tup xs, .c)
  | _ => none
theorem new_tupT {H0 : Hp} {p : Addr} {f : Fl} {xs : List D} {vs : List V} (hp : H p = none) (q : StoOk K ct M io S H) (hw : Reps K (fun _ => False) io H xs vs) (h : f ≠ .t → Reps K M io H xs vs) :
    ResOk K ct M N H0 io S (upd H p (.tup vs)) (if f = .t then .t else .c) (.tup xs) (.ref p) := by
  by_cases e : f = .t
  · rw [if_pos e]
    exact ⟨.tup (.inl (.inl upd_same)) (hw.stp (Stp.upd (ct := ct) hp)), q.upd hp⟩
  · rw [if_neg e]
    exact new_tup hp q (h e)
theorem ok_tupOf {x : V} {a res : D × Fl} {Q : VK} (o : RepF K M N io H a.2 a.1 x) (q : StoOk K ct M io S H) (e : gTupOf a = some res) (w : ∀ v H', Stp ct io H io H' → ResOk K ct M N H io S H' res.2 res.1 v → Q v H') : kTup K x H Q := by
  obtain ⟨d, f⟩ := a
  unfold gTupOf at e
  split at e
  · rename_i xs f' e2
    cases e2
    cases e
    obtain ⟨a, us, rfl, h1, h2, h3⟩ := seq_both (d := .lst xs) rfl o
    exact .inl ⟨a, us, rfl, h1, fun p hp => w _ _ (Stp.upd hp) (new_tupT hp q h3 h2)⟩
  · rename_i xs f' e2
    cases e2
    cases e
    obtain ⟨a, us, rfl, h1, h2, h3⟩ := seq_both (d := .frz xs) rfl o
    exact .inl ⟨a, us, rfl, h1, fun p hp => w _ _ (Stp.upd hp) (new_tupT hp q h3 h2)⟩
  · rename_i xs f' e2
    cases e2
    split at e
    · cases e
    · rename_i g
      cases e
      have o2 := o
      obtain ⟨a, us, rfl, h1, h2⟩ := nt_tup g o
      exact .inr ⟨a, us, rfl, h1, w _ _ Stp.refl ⟨.tup h1 h2, q⟩⟩
  · cases e
end
section
variable {X : Cx} {ct : CT} {pos : Pos}
def eG1 (g : D × Fl → Option (D × Fl)) (m : EM) : EM := fun r S => (m r S).bind fun x S1 => lift0 (g x) S1
theorem me_tupOf {a : Expr} {p : Pos} {m : EM} (hg : Gl X "tuple") (hm : X.mg "tuple" = none) (ha : ME X ct a m) (na : starEach [a] X.env = (false, eval a X.env) :: starEach [] X.env := by rfl) : ME X ct (.Call (.Name "tuple" p) [a] [] pos) (eG1 gTupOf m) :=
  ⟨fun G W tk => (pe_tupleOf hg hm (ha.run G W tk) na).imp fun s H Q ⟨r, S, io, k, h⟩ => ⟨r, S, io, k, Res.first h fun x S1 io1 H1 e1 t1 q1 h1 v o => by
    unfold lift0 at h1
    split at h1
    · rename_i res e
      refine ok_tupOf o.repF q1 e fun v H' t' o' => ?_
      exact h1.go t' o'.sto v (o'.back fun a z => t1.free z)
    · exact h1.elim⟩⟩
end
end Mv
namespace Mv
open PySem PySem.Spec PyProof.Rows L2
section
variable {X : Cx} {ct : CT} {pos : Pos}
/-- {} -/
def eDict0 : EM := fun _ S => .ok (.dic [] [], .n) S
theorem me_dict0 : ME X ct (.Dict [] [] pos) eDict0 :=
  ⟨fun G W tk => pe_dnewK.imp fun s H Q ⟨r, S, io, k, h⟩ p hp => by
    have np : ¬ Mall G r s p := fun z => by
      obtain ⟨o, e, _⟩ := k.mdom p z
      rw [hp] at e
      cases e
    exact h.go (Stp.upd hp) (k.sto.upd hp) _ ⟨p, rfl, hp, np, .inr ⟨[], [], [], rfl, upd_same, rfl, .nil⟩, (k.sto.off hp).upd hp⟩⟩
end
end Mv
namespace Mv
open PySem PySem.Spec PyProof.Rows
theorem ex_int {mg : Str → Option Value} {x : Str} {i : Int} {t : Tok} (h : mg x = some (.int i t)) : ∃ t, mg x = some (.int i t) := ⟨t, h⟩
theorem ex_str {mg : Str → Option Value} {x : Str} {i : Str} {t : Tok} (h : mg x = some (.str i t)) : ∃ t, mg x = some (.str i t) := ⟨t, h⟩
end Mv

set_option maxRecDepth 100000
set_option maxHeartbeats 2000000
namespace Mv
open PySem PySem.Spec PyProof.Rows L2
/-! ### more that a for walks -/
def gRng3 : List (Fl × D) → Option (List D) := fun as => match as with
  | [(_, .int i), (_, .int j), (_, .int c)] => if decide (c ≠ 0) && decide (c.natAbs < 1073741824) && Builtin.Range.small i j c && decide (Builtin.Range.rangeSize i j c = ((Builtin.Range.rangeSize i j c).toNat : Int)) then some (rangeD i c (Builtin.Range.rangeSize i j c).toNat) else none
  | _ => none
section
variable {X : Cx} {ct : CT} {tg : Expr} {pos : Pos}
theorem mi_range3 {a b c : Expr} {t : AM} {p : Pos} (hg : Gl X "range") (hm : X.mg "range" = none) (ha : MA X ct [a, b, c] t) (hs : starEach [a, b, c] X.env = (false, eval a X.env) :: starEach [b, c] X.env := by rfl) (hpl : (backTo pos (starEach [b, c] X.env)).any (·.1) = false := by rfl) :
    MI X ct tg (.Call (.Name "range" p) [a, b, c] [] pos) (iArgs gRng3 t) :=
  ⟨fun G W tk => (pi_range3 hg hm (ha.run G W tk) hs hpl).imp fun s H R h => iargs_go h fun M N io H1 as vs ds o e w => by
    unfold gRng3 at e
    split at e
    · rename_i f i f' j f2 c
      split at e
      · rename_i g
        simp only [Bool.and_eq_true, decide_eq_true_eq] at g
        obtain ⟨⟨⟨g1, g2⟩, g3⟩, g4⟩ := g
        cases e
        obtain ⟨v, u, z, rfl, r, r', r2⟩ := args3 o
        exact ⟨i, j, c, _, by rw [int_of r, int_of r', int_of r2], ⟨g1, g2, g3, g4⟩, w _ [] walk_rangeCD fun p hp => nomatch hp⟩
      · cases e
    · cases e⟩
/-- reversed(range(n)) -/
def iRevR (m : EM) : Env → Store → Rs (List D) := fun r S => (m r S).bind fun x S1 => match x.1 with
  | .int j => if inR j then .ok (rangeD ((j.toNat : Int) - 1) (-1) j.toNat) S1 else .no
  | _ => .no
theorem mi_revR {a : Expr} {m : EM} {p p2 pos2 : Pos} (hg : Gl X "reversed") (hm : X.mg "reversed" = none) (hg2 : Gl X "range") (hm2 : X.mg "range" = none) (ha : ME X ct a m) (na : starEach [a] X.env = (false, eval a X.env) :: starEach [] X.env := by rfl)
    (hs : starEach [.Call (.Name "range" p2) [a] [] pos2] X.env = (false, eval (.Call (.Name "range" p2) [a] [] pos2) X.env) :: starEach [] X.env := by rfl) :
    MI X ct tg (.Call (.Name "reversed" p) [.Call (.Name "range" p2) [a] [] pos2] [] pos) (iRevR m) :=
  ⟨fun G W tk => (pi_revR hg hm (prg_1 hg2 hm2 (ha.run G W tk) na) hs).imp fun s H R ⟨r, S, io, k, h⟩ => ⟨r, S, io, k, Res.first h fun x S1 io1 H1 e1 t1 q1 h1 v o => by
    split at h1
    · rename_i j e2
      split at h1
      · rename_i g
        have o2 := o.repF
        rw [e2] at o2
        refine ⟨j, int_of o2, by decide, by decide, (inR_of g).1, (inR_of g).2, ?_⟩
        rw [Int.sub_zero, Int.zero_add]
        exact h1.here q1 _ [] walk_rangeCD fun p hp => nomatch hp
      · exact h1.elim
    · exact h1.elim⟩⟩
end
end Mv

set_option maxRecDepth 100000
set_option maxHeartbeats 2000000
namespace L2
open PySem PySem.Spec PyProof.Rows LamX
section
variable {X : Cx} {pins : List (Addr × Obj)} {σ : L2.St} {H HZ : Hp} {s s1 : Shared}
/-- a lambda is made: what is tracked stays, but tables may grow; nothing is tracked no more -/
theorem lam_make3 {T : List (Addr × Str)} {c P : Addr} {params : Arguments} {body : Expr} {scope : Scope} {pos : Pos} {E : Value → Shared → Prop} {Q : Value → Shared → Prop}
    (I : Inv X pins σ H s) (TB : TabB X.base X.mg c P) (hcode : X.env.code = .ref c)
    (hm : (P, X.env.qual ++ "<lambda>") ∈ T) (hu : ∀ p ∈ T, p.1 = P → p.2 = X.env.qual ++ "<lambda>")
    (hT : Tabs T H) (hdef : defaultsOf params X.env = ([], [])) (hfree : ∀ y ∈ scope.names, y.2 = .free → ∃ c, X.env.cells.lookup y.1 = some c)
    (h : ∀ (f c' : Addr) (pm ctv : Value) (H1 : Hp) (s' : Shared), Inv X pins σ H1 s' → ExtN H H1 → (∀ b o, H b = some o → ∃ o', H1 b = some o') → Tabs T H1 →
      s'.heap.get? f = some (PySem.W.kla_obj "<lambda>" (X.env.qual ++ "<lambda>") params body scope (cloFrom X.env.cells scope.names []) pm c' ctv) → H1 f = none → f ∉ frs X.stack → H1 c' = some (CodeO c' (X.env.qual ++ "<lambda>")) → Q (.ref f) s') :
    wpAny (model X.prog X.w) X.A (eval (.Lambda params body scope pos) X.env) Q E s := by
  obtain ⟨ps, hP, ht, ha⟩ := hT _ hm
  have bP : s.heap.BuiltinsAt X.mg P := TB.bm.keeps I.bk
  have hP' : s.heap.get? P = some { cls := .none, data := .fields ps } := I.hok P _ hP
  have noF : ∀ f, s.heap.objs.size ≤ f → f ∉ frs X.stack := fun f hf z => by
    rcases List.mem_cons.mp (I.stkSub _ z) with e | e
    · have lt := I.lt
      rw [← e] at lt
      exact absurd hf (Nat.not_le_of_lt lt)
    · exact I.nofs hf e
  refine PySem.W.kla_eval hdef ?_
  cases hc : codeAmong pos ps.toList with
  | some cv =>
    obtain ⟨c', rfl, hco⟩ := ha pos cv hc
    refine PySem.W.kla_makeFunctionHit (mg := X.mg) (c := c) (P := P) (ps := ps) (closure_ok hfree) I.ok.glob (I.mod.glob.keeps I.bk) hcode
      (TB.code.keeps I.bk) hP' ht hc bP fun ctv h' tk hx hsz => ?_
    exact h h'.objs.size c' ((X.mg "__name__").getD .none) ctv H _
      (I.kept fun b o e => Heap.get?_push_of_some _ (hx b o e)) (ExtN.refl H) (fun _ o e => ⟨o, e⟩) hT (Heap.get?_push_size _ rfl) (I.hok.fresh hsz) (noF _ hsz) hco
  | none =>
    refine PySem.W.kla_makeFunction (mg := X.mg) (c := c) (P := P) (ps := ps) (closure_ok hfree) I.ok.glob (I.mod.glob.keeps I.bk) hcode
      (TB.code.keeps I.bk) hP' ht hc TB.gP bP fun c' ctv h' tk hx hge hlt hrec htb => ?_
    obtain ⟨c2, oc, vs, t, e2, hoc, hd, hv⟩ := hrec
    cases e2
    have nC : H c' = none := I.hok.fresh hge
    have hsz : s.heap.objs.size ≤ h'.objs.size := by omega
    have nPc : P ≠ c' := ne_of_none hP nC
    have I1 := inv_table (t' := tk) (more := #[rawInt pos.line, rawInt pos.col, .ref c'])
      (h' := h'.push (PySem.W.kla_obj "<lambda>" (X.env.qual ++ "<lambda>") params body scope (cloFrom X.env.cells scope.names []) ((X.mg "__name__").getD .none) c' ctv)) I hP
      (fun b o hb e => Heap.get?_push_of_some _ (hx b o hb e)) (Heap.get?_push_of_some _ htb) hge
      ⟨oc, vs, t, Heap.get?_push_of_some _ hoc, hd, hv⟩
    generalize hH1 : upd (upd H P (.tbl (ps ++ #[rawInt pos.line, rawInt pos.col, .ref c']))) c' (CodeO c' (X.env.qual ++ "<lambda>")) = H1 at I1
    have atP : H1 P = some (.tbl (ps ++ #[rawInt pos.line, rawInt pos.col, .ref c'])) := by rw [← hH1, upd_ne nPc, upd_same]
    have atC : H1 c' = some (CodeO c' (X.env.qual ++ "<lambda>")) := by rw [← hH1, upd_same]
    have oth : ∀ b, b ≠ P → b ≠ c' → H1 b = H b := fun b h1 h2 => by rw [← hH1, upd_ne h2, upd_ne h1]
    have hE : ExtN H H1 := fun b o e n => by
      rw [oth b (fun z => n ps (Option.some.inj (e.symm.trans (by rw [z]; exact hP)))) (ne_of_none e nC)]
      exact e
    have hD : ∀ b o, H b = some o → ∃ o', H1 b = some o' := fun b o e => by
      by_cases hb : b = P
      · exact ⟨_, by rw [hb]; exact atP⟩
      · exact ⟨o, by rw [oth b hb (ne_of_none e nC)]; exact e⟩
    have eL : (ps ++ #[rawInt pos.line, rawInt pos.col, .ref c']).toList = ps.toList ++ [rawInt pos.line, rawInt pos.col, .ref c'] := by simp
    have hT1 : Tabs T H1 := fun p hp => by
      by_cases hb : p.1 = P
      · rw [hu p hp hb, hb]
        refine ⟨_, atP, by rw [eL]; exact PySem.TriplesOk_snoc _ _ _ _ ht, fun p' cv hcv => ?_⟩
        rw [eL] at hcv
        rcases among_app _ ht hcv with z | z
        · obtain ⟨c0, e1, e2⟩ := ha p' cv z
          exact ⟨c0, e1, hE _ _ e2 codeO_ne⟩
        · exact ⟨c', z, atC⟩
      · obtain ⟨ps', a1, a2, a3⟩ := hT p hp
        refine ⟨ps', by rw [oth _ hb (ne_of_none a1 nC)]; exact a1, a2, fun p' cv hcv => ?_⟩
        obtain ⟨c0, e1, e2⟩ := a3 p' cv hcv
        exact ⟨c0, e1, hE _ _ e2 codeO_ne⟩
    refine h h'.objs.size c' ((X.mg "__name__").getD .none) ctv H1 _ I1 hE hD hT1 (Heap.get?_push_size _ rfl) ?_ (noF _ hsz) atC
    rw [oth _ (Nat.ne_of_gt (Nat.lt_of_lt_of_le (Heap.lt_size hP') hsz)) (Nat.ne_of_gt hlt)]
    exact I.hok.fresh hsz
/-- the context of the def that got the lambda -/
abbrev gotCx (X : Cx) (Ng : List Str) (x : Str) (sg : Scope) (g : Addr) (cdg : Value) (s : Shared) (H : Hp) : Cx :=
  cxOf (L2.CX X.prog X.w) X.prog X.w X.K X.mg X.base Ng x sg g cdg X.A X.stack s H fun _ _ _ => False
/-- x(), the lambda's body read at the maker's slots -/
theorem pe_got {Ng : List Str} {x : Str} {sg : Scope} {g f c' : Addr} {cdg pm ctv : Value} {params : Arguments} {body : Expr} {scope : Scope} {k i : Nat} {a : Str}
    {pn : List (Addr × Obj)} {xe : Value → Shared → Prop} {W : WX} {tb : XK → TE} {p1 p2 : Pos} (I : Inv X pins σ H s) (L : LamS X.env.scope scope)
    (hf : s.heap.get? f = some (PySem.W.kla_obj "<lambda>" (X.env.qual ++ "<lambda>") params body scope (cloFrom X.env.cells scope.names []) pm c' ctv))
    (hfn : H f = none) (hfr : f ∉ frs X.stack)
    (hbind : bindArgs (PySem.W.kla_fn "<lambda>" (X.env.qual ++ "<lambda>") params body scope (cloFrom X.env.cells scope.names []) pm (.ref c') ctv) ⟨[], []⟩ = pure [])
    (tk : Takes ((gotCx X Ng x sg g cdg s H).tr pn xe) W) (hr : Room (k + 1) (X.A.deeper (envOfC x sg s.heap.objs.size g cdg)))
    (hbody : ∀ (A : Around) (outer : List Env) (s : Shared) (H : Hp) (E : XK), Room k (A.deeper (lamEnv X scope s.heap.objs.size f c')) → PE (lamCx X A outer s H E scope f c') body (tb E))
    (hN : Ng[i]? = some a) (hv : Vis sg a) (hd : (a == ("__debug__" : Str)) = false) (hcd : (a == ("__classdict__" : Str)) = false) :
    PE ((gotCx X Ng x sg g cdg s H).tr pn xe) (.Call (.Name a p1) [] [] p2)
      (fun σZ HZ Q => σZ[i]? = some (some (.ref f)) ∧ HZ c' = some (CodeO c' (X.env.qual ++ "<lambda>")) ∧ tb (WE W σZ) σ HZ Q) := by
  refine ⟨fun pinsZ sZ σZ HZ Q IZ ⟨hs, hc, ht⟩ => ?_⟩
  refine wpAny_Call_Name_kw (thn ((pe_var (pos := p1) (i := i) hN hv hd hcd).run pinsZ sZ σZ HZ (fun v H1 => v = .ref f ∧ H1 = HZ) IZ
    ⟨.ref f, hs, rfl, rfl⟩) fun u s1 ⟨v, H1, I1, r1, ev, eH⟩ => ?_)
  subst ev eH
  obtain rfl : u = Value.ref f := r1
  have of1 : s1.heap.get? f = some (PySem.W.kla_obj "<lambda>" (X.env.qual ++ "<lambda>") params body scope (cloFrom X.env.cells scope.names []) pm c' ctv) :=
    I1.base.keep f _ hf hfn hfr (fun z => nomatch (show f ∈ ([] : List Addr) from z))
  refine PySem.W.callWith_F0 ⟨_, _, _, _, of1⟩ (wpAny_call (codeAny_mono
    (show codeAny (model X.prog X.w) (X.A.deeper (envOfC x sg s.heap.objs.size g cdg)) (.call (.ref f) ⟨[], []⟩)
      (CR (L2.CX X.prog X.w) (envOfC x sg s.heap.objs.size g cdg :: X.stack) X.prog X.w H1 s1 Q (WE W σZ)) s1 from ?_) fun r s' hq => ?_))
  · obtain ⟨⟨oc, vs, t, hoc, hdc, hvc⟩, _, _⟩ := I1.hok c' _ hc
    refine PySem.W.kla_callFunE hr.depth of1 rfl L.co L.gen rfl ⟨c', oc, vs, t, rfl, hoc, hdc, hvc⟩ ?_
    rw [hbind]
    refine wpAny_pure (wpAny_newFunctionEnv (fun y hy => (L.own y hy).2) (fun y hy => absurd hy (by simp)) (fun h₁ hns hsb => ⟨I1.nolimit.fresh _ hsb, ?_⟩) L.kind)
    have un : Un (frs X.stack) [] H H1 s.heap s1.heap := I1.base
    have kp : ∀ b o, s1.heap.get? b = some o → h₁.get? b = some o := fun b o e => hsb.extBut b o (Nat.ne_of_lt (Heap.lt_size e)) (Heap.get?_push_of_some _ e)
    refine PySem.W.kla_codeExpr (wpAny_mono ((hbody (X.A.deeper (envOfC x sg s.heap.objs.size g cdg)) (envOfC x sg s.heap.objs.size g cdg :: X.stack) s1 H1 (WE W σZ)
      (hr.deeper _)).run [] _ _ H1 Q (lam_start2 I L I1.env0 hr.hd un hns kp) ht) (fun v s' ⟨w', H', J', rv, q⟩ => ?_) fun e s' hq => hq)
    exact ⟨w', H', J'.os, J'.bare, J'.base, J'.hok, rv, q⟩
  · cases r with
    | error e => exact passAt tk σZ pinsZ H1 s1 e s' I1 hq
    | ok fl =>
      cases fl with
      | ret u => exact I1.after hq
      | next => exact hq.elim
      | brk => exact hq.elim
      | cont => exact hq.elim
end
end L2

set_option maxRecDepth 100000
set_option maxHeartbeats 2000000
namespace Mv
open PySem PySem.Spec PyProof.Rows L2 LamX
/-! ### statements, the frame's ghost told -/
structure MSG (X : Cx) (ct : CT) (G : Gx) (st : Stmt) (m : SM) : Prop where
  run : ∀ (W : WX), Takes X W → PassesOwn (model X.prog X.w) X.A X.env X.xe → PS X st (tS X.K ct G W m)
structure MSGs (X : Cx) (ct : CT) (G : Gx) (st : List Stmt) (m : SM) : Prop where
  run : ∀ (W : WX), Takes X W → PassesOwn (model X.prog X.w) X.A X.env X.xe → PSs X st (tS X.K ct G W m)
section
variable {X : Cx} {ct : CT} {G : Gx} {pos : Pos}
theorem MS.gh {st : Stmt} {m : SM} (h : MS X ct st m) : MSG X ct G st m := ⟨h.run G⟩
theorem MSs.gh {st : List Stmt} {m : SM} (h : MSs X ct st m) : MSGs X ct G st m := ⟨h.run G⟩
theorem msg_one {st : Stmt} {m : SM} (h : MSG X ct G st m) : MSGs X ct G [st] m := ⟨fun W tk po => pss_one (h.run W tk po)⟩
theorem msg_cons {st : Stmt} {rest : List Stmt} {m t : SM} (ha : MSG X ct G st m) (hb : MSGs X ct G rest t) : MSGs X ct G (st :: rest) (sSeq m t) :=
  ⟨fun W tk po => (pss_cons (ha.run W tk po) (hb.run W tk po)).imp fun D s H ⟨r, S, io, k, h⟩ => by
    refine ⟨r, S, io, k, ?_⟩
    unfold sSeq at h
    cases e : m r S with
    | nx r' S' =>
      rw [e] at h
      exact fun s' io' H' k' => ⟨r', S', io', k', h⟩
    | rt d f S' => rw [e] at h; exact h
    | bk r' S' => rw [e] at h; exact h
    | ct r' S' => rw [e] at h; exact h
    | er c p r' S' => rw [e] at h; exact h
    | no => rw [e] at h; exact h⟩
theorem msg_try {x n y : Str} {c : Value} {i j : Nat} {body : List Stmt} {np pos' p1 p2 p3 : Pos} {l : List (Nat × Bool)} {b : SM} (hs : X.stack = X.env :: X.outer) (hf : X.env.frame = some X.env.locals) (hxx : X.ex = []) (hN : X.N.Nodup) (hi : X.N[i]? = some n) (hj : X.N[j]? = some y)
    (hln : X.env.kindOf n = some .local) (hly : X.env.kindOf y = some .local) (hij : i ≠ j) (hc : Names X x c) (T : TabX X.K ct c l) (hv : ∀ (a : Addr) (pn : List (Addr × Obj)), PE (X.suite a pn) (.Name n p2) (tVar i))
    (hy : ∀ (a : Addr) (pn : List (Addr × Obj)) (t : TE), PE (X.suite a pn) (.Name n p2) t → PS (X.suite a pn) (.Assign [.Name y p1] (.Name n p2) p3) (tAsg t (gName j)))
    (hb : ∀ (pn : List (Addr × Obj)) (xe : Value → Shared → Prop), MSGs (X.tr pn xe) ct G body b) : MSG X ct G (.Try body [.ExceptHandler (some (.Name x np)) (some n) [.Assign [.Name y p1] (.Name n p2) p3] pos'] [] [] pos) (sTry l i j b) :=
  ⟨fun W tk po => (ps_try_keep (tb := fun W => tS X.K ct G W b) hs hf hxx hN hi hj hln hly hc tk hv hy fun W pn xe tk' po' => (hb pn xe).run W tk' po').imp fun D s H h => try_go hij T h⟩
end
/-- the first slot is known no more -/
def sFg0 (m : SM) : SM := fun r S => m (r.set 0 .no) S
def sFgt (m : SM) : SM := fun r S => match r[0]? with
  | some (Slot.ar _ _) => sFg0 m r S
  | _ => .no
theorem Ok.forget {K : PySem.W.Frag} {ct : CT} {G : Gx} {r : Env} {S : Store} {io : List Addr} {s : St} {H : Hp} {i : Nat} {f : Fl} {d : D} (k : Ok K ct G r S io s H) (e : r[i]? = some (.ar f d)) : Ok K ct G (r.set i .no) S io s H := by
  have em : Mown G (r.set i .no) s = Mown G r s := by
    funext a
    refine propext ⟨fun z => ?_, fun z => ?_⟩
    · rcases z with z | ⟨j, d', h1, h2⟩
      · exact .inl z
      · rcases get_set h1 with ⟨rfl, q, _⟩ | ⟨hj, q⟩
        · cases q
        · exact .inr ⟨j, d', q, h2⟩
    · rcases z with z | ⟨j, d', h1, h2⟩
      · exact .inl z
      · refine .inr ⟨j, d', ?_, h2⟩
        rw [List.getElem?_set_ne]
        · exact h1
        · rintro rfl
          rw [e] at h1
          cases h1
  have eM : Mall G (r.set i .no) s = Mall G r s := by unfold Mall; rw [em]
  refine ⟨by simp [k.len], fun j f d q => ?_, fun j d q => ?_, fun j j' d d' a q q' z z' => ?_, by rw [eM]; exact k.sto, k.stp, k.m0, k.n0, by rw [eM, em]; exact k.held, k.dp.env rfl (fun _ z => z) (dp_set0 fun _ _ z => by cases z)⟩
  · rcases get_set q with ⟨rfl, q, _⟩ | ⟨hj, q⟩
    · cases q
    · rw [eM, em]
      exact k.arg j f d q
  · rcases get_set q with ⟨rfl, q, _⟩ | ⟨hj, q⟩
    · cases q
    · rw [eM]
      exact k.own j d q
  · rcases get_set q with ⟨rfl, q, _⟩ | ⟨hj, q⟩
    · cases q
    · rcases get_set q' with ⟨rfl, q', _⟩ | ⟨hj', q'⟩
      · cases q'
      · exact k.inj j j' d d' a q q' z z'
section
variable {X : Cx} {ct : CT} {G : Gx} {pos : Pos}
theorem mss_for0 {st : List Stmt} {m : SM} (h : MSs X ct st m) : MSs X ct st (sFgt m) :=
  ⟨fun G W tk po => (h.run G W tk po).imp fun D s H ⟨r, S, io, k, h⟩ => by
    unfold sFgt at h
    split at h
    · rename_i e
      exact ⟨_, S, io, k.forget e, h⟩
    · exact h.elim⟩
end
/-! ### a def that calls what it gets -/
def noOwnB : Env → Bool := fun r => r.all fun x => match x with
  | .own _ => false
  | _ => true
def sGot (x : Store → Rs (D × Fl)) (f : Addr) : SM := fun rZ S => match rZ with
  | .ar .c (.cst (.ref g)) :: rest => if g = f ∧ noOwnB (.ar .c (.cst (.ref g)) :: rest) = true then (x S).sb rZ fun _ S1 => .nx rZ S1 else .no
  | _ => .no
def gvB (i j : Nat) (l : List (Nat × Bool)) (mr : SM) (act : SM) : SM := sSeq (sSet j (eC .non)) (sSeq (sTry l i j act) (sFgt mr))
def refEnd : SR → Rs (D × Fl)
  | .rt d f S => .ok (d, outf f) S
  | _ => .no
/-- x(lambda: e): n more slots, the exception's place j -/
def eRef (n j : Nat) (l : List (Nat × Bool)) (mr : SM) (m : EM) : EM := fun r S => match m r S with
  | .ok _ S1 => refEnd (mr (.no :: (List.replicate n Slot.no).set j (.ar .c .non)) S1)
  | .er c p S1 => match l.lookup c with
    | some true => refEnd (mr (.no :: (List.replicate n Slot.no).set j (.ar .c (.ins S1.length))) (S1 ++ [(c, p)]))
    | _ => .no
  | .no => .no
def gvRun (n j : Nat) (l : List (Nat × Bool)) (mr : SM) (x : Rs (D × Fl)) (r0 : Env) : SR := match x with
  | .ok _ S1 => mr (.no :: (List.replicate n Slot.no).set j (.ar .c .non)) S1
  | .er c p S1 => match l.lookup c with
    | some true => mr (.no :: (List.replicate n Slot.no).set j (.ar .c (.ins S1.length))) (S1 ++ [(c, p)])
    | some false => .er c p r0 S1
    | none => .no
  | .no => .no
theorem gv_run {n i j : Nat} {l : List (Nat × Bool)} {mr : SM} {x : Store → Rs (D × Fl)} {f : Addr} {S : Store} (h1 : noOwnB ((List.replicate n Slot.no).set j (.ar .c .non)) = true) (h2 : ((List.replicate n Slot.no).set j (.ar .c .non))[i]? = some .no) :
    ∃ r0, gvB (i + 1) (j + 1) l mr (sGot x f) (startE [(.c, .cst (.ref f))] (n + 1)) S = gvRun n j l mr (x S) r0 := by
  refine ⟨.ar .c (.cst (.ref f)) :: (List.replicate n Slot.no).set j (.ar .c .non), ?_⟩
  have e0 : startE [(.c, .cst (.ref f))] (n + 1) = .ar .c (.cst (.ref f)) :: List.replicate n Slot.no := rfl
  have h3 : noOwnB (.ar .c (.cst (.ref f)) :: (List.replicate n Slot.no).set j (.ar .c .non)) = true := h1
  rw [e0]
  show SR.bind (sTry l (i + 1) (j + 1) (sGot x f) (.ar .c (.cst (.ref f)) :: (List.replicate n Slot.no).set j (.ar .c .non)) S) (sFgt mr) = _
  have eg : sGot x f (.ar .c (.cst (.ref f)) :: (List.replicate n Slot.no).set j (.ar .c .non)) S = (x S).sb (.ar .c (.cst (.ref f)) :: (List.replicate n Slot.no).set j (.ar .c .non)) fun _ S1 => .nx (.ar .c (.cst (.ref f)) :: (List.replicate n Slot.no).set j (.ar .c .non)) S1 := by
    unfold sGot
    exact if_pos ⟨rfl, h3⟩
  unfold sTry
  rw [eg]
  cases x S with
  | ok y S1 => rfl
  | no => rfl
  | er c p S1 =>
    show SR.bind (match l.lookup c with
      | some true => match ((List.replicate n Slot.no).set j (.ar .c .non))[i]? with
        | some .no => .nx (.ar .c (.cst (.ref f)) :: ((List.replicate n Slot.no).set j (.ar .c .non)).set j (.ar .c (.ins S1.length))) (S1 ++ [(c, p)])
        | _ => .no
      | some false => .er c p (.ar .c (.cst (.ref f)) :: (List.replicate n Slot.no).set j (.ar .c .non)) S1
      | none => .no) (sFgt mr) = gvRun n j l mr (.er c p S1) _
    unfold gvRun
    rw [h2]
    dsimp only
    cases l.lookup c with
    | none => rfl
    | some b =>
      cases b with
      | false => rfl
      | true =>
        dsimp only
        rw [List.set_set]
        rfl
structure GvG (P : Program) (w : World) (K : PySem.W.Frag) (mg : Str → Option Value) (base : Heap) (ct : CT) (k : Nat) (x : Str) (n i j : Nat) (l : List (Nat × Bool)) (mr : SM) : Prop where
  ex : ∃ (g : Addr) (fd : FuncData) (N : List Str) (a : Str) (st : Stmt), Fun K x x st g fd ∧ mg x = some (.ref g) ∧ Binds K fd [a] [] ∧ FnScope N [a] (defScope st) ∧ N.length = n + 1 ∧ N[0]? = some a ∧ Vis (defScope st) a ∧ (a == ("__debug__" : Str)) = false ∧ (a == ("__classdict__" : Str)) = false ∧
    ∀ (cdv : Value) (A : Around) (outer : List PySem.Env) (s : Shared) (H : Hp) (E : XK) (G : Gx) (act : SM), Room k (A.deeper (envOfC x (defScope st) s.heap.objs.size g cdv)) →
      (∀ (pn : List (Addr × Obj)) (xe : Value → Shared → Prop) (p1 p2 p3 : Pos), MSG ((cxOf (L2.CX P w) P w K mg base N x (defScope st) g cdv A outer s H E).tr pn xe) ct G (.Expr (.Call (.Name a p1) [] [] p2) p3) act) →
      MSGs (cxOf (L2.CX P w) P w K mg base N x (defScope st) g cdv A outer s H E) ct G (defBody st) (gvB (i + 1) (j + 1) l mr act)
  h1 : noOwnB ((List.replicate n Slot.no).set j (.ar .c .non)) = true
  h2 : ((List.replicate n Slot.no).set j (.ar .c .non))[i]? = some .no
theorem no_own {r : Env} {i : Nat} {d : D} (h : noOwnB r = true) (e : r[i]? = some (.own d)) : False := by
  have h := List.all_eq_true.mp h _ (List.mem_of_getElem? e)
  cases h
section
variable {X : Cx} {ct : CT} {pos : Pos}
theorem me_lam {x : Str} {c P : Addr} {k n i j : Nat} {l : List (Nat × Bool)} {mr : SM} {m : EM} {params : Arguments} {body : Expr} {scope : Scope} {p lpos : Pos} (F : GvG X.prog X.w X.K X.mg X.base ct (k + 1) x n i j l mr) (TB : TabB X.base X.mg c P) (hcode : X.env.code = .ref c)
    (hmT : (P, X.env.qual ++ "<lambda>") ∈ ct.tb) (hu : ∀ p ∈ ct.tb, p.1 = P → p.2 = X.env.qual ++ "<lambda>") (hr : Room (k + 2) X.A) (hg : Gl X x) (L : LamS X.env.scope scope) (hdef : defaultsOf params X.env = ([], []))
    (hbind : ∀ (q : Str) (cl : List (Str × Addr)) (pm cv ctv : Value), bindArgs (PySem.W.kla_fn "<lambda>" q params body scope cl pm cv ctv) ⟨[], []⟩ = pure [])
    (hbody : ∀ (A : Around) (outer : List PySem.Env) (s : Shared) (H : Hp) (E : XK) (f c' : Addr), Room k (A.deeper (lamEnv X scope s.heap.objs.size f c')) → ME (lamCx X A outer s H E scope f c') ct body m)
    (hpu : ct.pu = false := by rfl)
    (hdb : (x == ("__debug__" : Str)) = false := by decide) : ME X ct (.Call (.Name x p) [.Lambda params body scope lpos] [] pos) (eRef n j l mr m) := by
  obtain ⟨g, fd, N, a, st, FF, hm, hb, Sc, hNl, hN0, hva, hd1, hd2, hG⟩ := F.ex
  obtain ⟨oc, od, kV, doc, pm, an, cdv, ctv, osl, efd, lk, hcd⟩ := FF.ex
  refine ⟨fun G W tk => ⟨fun pins s σ H Q I ⟨r, S, io, k0, h⟩ => ?_⟩⟩
  refine wpAny_Call_Name_kw (ld_glob I hg hm ?_ hdb)
  refine PySem.W.callWith_K (h₀ := X.base) I.ok.mod.kin FF.kp ?_ (by rfl) (by rfl)
  show wpAny _ _ (spliced ((false, eval (.Lambda params body scope lpos) X.env) :: backTo pos (starEach [] X.env))) _ _ s
  refine Calls.spliced_cons (lam_make3 I TB hcode hmT hu k0.sto.tb hdef (L.has I.ok) fun f c' pm' ctv' H1 s' I1 eN dm T1 hf hfn hfr hco => ?_)
  refine Calls.spliced_nil ⟨I1.kIn, ?_⟩
  have st1 : Stp ct io H io H1 := ⟨fun a o e n => eN a o e n.2, fun a o e _ n => eN a o e n, io_refl, fun a z n => absurd z n, dm, fun z => by rw [hpu] at z; cases z⟩
  have q1 : StoOk X.K ct (Mall G r σ) io S H1 := ⟨k0.sto.len, fun n C fs e x => by
    obtain ⟨a, dx, gs, y1, y2, y3, y4⟩ := k0.sto.at_ n C fs e x
    exact ⟨a, dx, gs, y1, eN _ _ y2 (fun _ z => by cases z), y3, y4.stp st1⟩, fun n C fs e x => by
    obtain ⟨a, d, y1, y2, y3⟩ := k0.sto.ax n C fs e x
    exact ⟨a, d, y1, st1.k1 _ _ y2 NI.ext, y3.mono (M := fun _ => False) st1.kp io_refl⟩, k0.sto.nd, T1, pins_mono (M := fun _ => False) k0.sto.pn st1.kp⟩
  have k1 : Ok X.K ct G r S io σ H1 := k0.step st1 q1
  have rc : codeAny (model X.prog X.w) X.A (.call (.ref g) ⟨[.ref f], []⟩) (CR (L2.CX X.prog X.w) X.stack X.prog X.w H1 s' Q (fun _ _ _ => False)) s' := by
    subst efd
    refine run_ofS (N := N) (ps := [a]) (us := [.ref f]) (vs := [.ref f]) lk hcd Sc hr I1.env0 (hb s' [.ref f] I1.kIn rfl) (.cons rfl .nil) rfl fun hr' => ?_
    have hact : ∀ (pn : List (Addr × Obj)) (xe : Value → Shared → Prop) (p1 p2 p3 : Pos), MSG ((gotCx X N x (defScope st) g cdv s' H1).tr pn xe) ct ⟨Mall G r σ, H1, io, [], fun _ => False, fun _ _ => False⟩ (.Expr (.Call (.Name a p1) [] [] p2) p3) (sGot (m r) f) := fun pn xe p1 p2 p3 => ⟨fun WZ tkZ _ => by
      refine (ps_expr (pe_got (tb := fun E => tE X.K ct G (fun cls d _ H => E cls d H) m) I1 L hf hfn hfr (hbind _ _ _ _ _) tkZ hr' (fun A outer s H E hr2 => (hbody A outer s H E f c' hr2).run G _ ?_) hN0 hva hd1 hd2) (by rfl)).imp fun D σZ HZ hZ => ?_
      · exact takes_of rfl rfl rfl rfl
      · obtain ⟨rZ, SZ, ioZ, kZ, hZ⟩ := hZ
        unfold sGot at hZ
        split at hZ
        · rename_i gg rest
          split at hZ
          · rename_i hc
            obtain ⟨rfl, no⟩ := hc
            obtain ⟨v, y1, y2⟩ := kZ.arg 0 .c (.cst (.ref gg)) rfl
            cases y2
            have noM : ∀ a, Mall ⟨Mall G r σ, H1, io, [], fun _ => False, fun _ _ => False⟩ (.ar .c (.cst (.ref gg)) :: rest) σZ a → Mall G r σ a := fun a z => by
              rcases z with z | z | ⟨i, d, z, _⟩
              · exact z
              · exact z.elim
              · exact (no_own no z).elim
            refine ⟨y1, kZ.stp.k1 c' _ hco NI.ext, r, SZ, ioZ, k1.step kZ.stp (kZ.sto.anti fun a z => .inl z), ?_⟩
            cases e : m r SZ with
            | ok y S' =>
              rw [e] at hZ
              exact fun io' H' t q v _ => hZ σZ io' H' (kZ.step t (q.anti noM))
            | er c p S' =>
              rw [e] at hZ
              exact fun dx io' H' t q eo => hZ dx σZ io' H' (kZ.step t (q.anti noM)) eo
            | no =>
              rw [e] at hZ
              exact hZ
          · exact hZ.elim
        · exact hZ.elim⟩
    refine ⟨_, (hG cdv X.A X.stack s' H1 (fun _ _ _ => False) ⟨Mall G r σ, H1, io, [], fun _ => False, fun _ _ => False⟩ (sGot (m r) f) hr' hact).run (fun cls d _ H => False) (takes_of rfl rfl rfl rfl) (passes_of rfl),
      startE [(.c, .cst (.ref f))] N.length, S, io, ok_start rfl (by rw [hNl]; exact Nat.succ_le_succ (Nat.zero_le _)) (.cons Rep.cst .nil) q1 k1.mdom, ?_⟩
    obtain ⟨r0, er⟩ := gv_run (n := n) (i := i) (j := j) (l := l) (mr := mr) (x := m r) (f := f) (S := S) F.h1 F.h2
    rw [hNl, er]
    have fin : ∀ (rr : Env) (S1 : Store) (io1 : List Addr), Res X.K ct W (Mall G r σ) σ io H (refEnd (mr rr S1)) (fun x S' io' H' => ∀ v, ResOk X.K ct (Mall G r σ) (Mown G r σ) H io' S' H' x.2 x.1 v → Q v H') →
        SRes X.K ct ⟨Mall G r σ, H1, io, [], fun _ => False, fun _ _ => False⟩ (fun cls d _ H => False) { nx := fun _ H' => Q .non H', rt := Q } (mr rr S1) := fun rr S1 io1 hh => by
      cases e : mr rr S1 with
      | rt d fl S' =>
        rw [e] at hh
        exact fun v io' H' t z => hh io' H' (st1.trans t) z.sto v (z.outf.back fun a y => st1.free y)
      | nx r' S' => rw [e] at hh; exact hh.elim
      | bk r' S' => rw [e] at hh; exact hh.elim
      | ct r' S' => rw [e] at hh; exact hh.elim
      | er c p r' S' => rw [e] at hh; exact hh.elim
      | no => rw [e] at hh; exact hh.elim
    unfold eRef at h
    cases e : m r S with
    | ok y S1 =>
      rw [e] at h
      exact fin _ S1 io h
    | er c p S1 =>
      rw [e] at h
      unfold gvRun
      dsimp only at h ⊢
      cases e2 : l.lookup c with
      | none =>
        rw [e2] at h
        exact h.elim
      | some b =>
        rw [e2] at h
        cases b with
        | true => exact fin _ _ io h
        | false => exact h.elim
    | no =>
      rw [e] at h
      exact h.elim
  refine wpAny_call (codeAny_mono rc fun z s2 hq => ?_)
  cases z with
  | ok fl =>
    cases fl with
    | ret u => exact I1.after hq
    | next => exact hq.elim
    | brk => exact hq.elim
    | cont => exact hq.elim
  | error e =>
    obtain ⟨_, _, _, _, _, _, _, _, _, _, _, _, z⟩ := hq
    exact z.elim
end
end Mv

set_option maxRecDepth 100000
set_option maxHeartbeats 2000000
namespace Mv
open PySem PySem.Spec PyProof.Rows L2 LamX
/-! ### defs that make lambdas: the code object's address is told -/
section
variable {P : Program} {w : World} {K : PySem.W.Frag} {mg : Str → Option Value} {base : Heap} {ct : CT}
def FunOC (K : PySem.W.Frag) (mg : Str → Option Value) (x : Str) (st : Stmt) (ps : List Str) (c : Addr) : Prop :=
  ∃ (f : Addr) (oc : Value) (od an : Option Addr) (osl : Array (Option Value)) (kV doc pm ctv : Value),
    K.lookup f = some ⟨oc, od, .func (PySem.W.fnOf x x (defArgs st) (defBody st) (defScope st) .none kV doc pm an (.ref c) ctv), osl⟩ ∧ PySem.W.codeIn K (.ref c) x = true ∧ PySem.W.keepIn K (.ref f) = true ∧ mg x = some (.ref f) ∧
      ∀ us : List Value, us.length = ps.length → bindArgs (PySem.W.fnOf x x (defArgs st) (defBody st) (defScope st) .none kV doc pm an (.ref c) ctv) ⟨us, []⟩ = pure (ps.zip us)
theorem FunOC.mk' {x : Str} {st : Stmt} {ps : List Str} {f c : Addr} {oc : Value} {od an : Option Addr} {osl : Array (Option Value)} {kV doc pm ctv : Value} {h : Heap} (X : K.In h) (G : h.Ns mainGlobals mg) (a : PySem.W.nsIn K mainGlobals x = some (some (.ref f)))
    (l : K.lookup f = some ⟨oc, od, .func (PySem.W.fnOf x x (defArgs st) (defBody st) (defScope st) .none kV doc pm an (.ref c) ctv), osl⟩) (cc : PySem.W.codeIn K (.ref c) x = true) (k : PySem.W.keepIn K (.ref f) = true)
    (hb : ∀ (kV doc pm : Value) (an : Option Addr) (cdv ct : Value) (us : List Value), us.length = ps.length → bindArgs (PySem.W.fnOf x x (defArgs st) (defBody st) (defScope st) .none kV doc pm an cdv ct) ⟨us, []⟩ = pure (ps.zip us)) : FunOC K mg x st ps c :=
  ⟨f, oc, od, an, osl, kV, doc, pm, ctv, l, cc, k, PySem.W.mg_of X G a, hb kV doc pm an (.ref c) ctv⟩
theorem fn_okC {x qual : Str} {st : Stmt} {f c : Addr} {oc : Value} {od an : Option Addr} {osl : Array (Option Value)} {kV doc pm ctv : Value} {N ps : List Str} {k : Nat} {b : SM}
    (lk : K.lookup f = some ⟨oc, od, .func (PySem.W.fnOf x qual (defArgs st) (defBody st) (defScope st) .none kV doc pm an (.ref c) ctv), osl⟩) (hcd : PySem.W.codeIn K (.ref c) qual = true) (Sc : FnScope N ps (defScope st))
    (hbody : ∀ (A : Around) (outer : List PySem.Env) (s : Shared) (H : Hp) (E : XK), Room k (A.deeper (envOfC qual (defScope st) s.heap.objs.size f (.ref c))) →
      MSs (cxOf (L2.CX P w) P w K mg base N qual (defScope st) f (.ref c) A outer s H E) ct (defBody st) b) :
    FnOk P w K mg base (L2.CX P w) (k + 1) f (PySem.W.fnOf x qual (defArgs st) (defBody st) (defScope st) .none kV doc pm an (.ref c) ctv) ps (spM K ct ps.length (fnM N.length b)) := by
  refine fn_of lk hcd Sc (fun vs H Q E h => h.1) fun A outer s H vs Q E hr h => ?_
  obtain ⟨hl, as, S, io, M0, o, q, m, h⟩ := h
  have hpl : ps.length ≤ N.length := by
    have z := congrArg List.length Sc.pre
    rw [List.length_take] at z
    omega
  refine ⟨_, (hbody A outer s H E hr).run ⟨M0, H, io, [], fun _ => False, fun _ _ => False⟩ (fun cls d _ H => E cls d H) (takes_of rfl rfl rfl rfl) (passes_of rfl), startE as N.length, S, io, ok_start rfl (by omega) o q m, ?_⟩
  unfold fnM at h
  cases e : b (startE as N.length) S with
  | rt d f S' => rw [e] at h; exact h
  | nx r' S' =>
    rw [e] at h
    exact fun s' io' H' k' => h .non io' H' k'.stp (ResOk.sc (f := .c) (by simp) .non (k'.sto.anti fun a z => .inl z))
  | er c p r' S' =>
    rw [e] at h
    exact fun dx s' io' H' k' eo => h dx io' H' k'.stp (k'.sto.anti fun a z => .inl z) eo
  | bk r' S' => rw [e] at h; exact h.elim
  | ct r' S' => rw [e] at h; exact h.elim
  | no => rw [e] at h; exact h.elim
theorem fn_gC {x : Str} {st : Stmt} {N ps : List Str} {c : Addr} {k n np : Nat} {b : SM} (F : FunOC K mg x st ps c) (Sc : FnScope N ps (defScope st))
    (hN : N.length = n) (hp : ps.length = np) (hbody : ∀ (f : Addr) (A : Around) (outer : List PySem.Env) (s : Shared) (H : Hp) (E : XK), Room k (A.deeper (envOfC x (defScope st) s.heap.objs.size f (.ref c))) →
      MSs (cxOf (L2.CX P w) P w K mg base N x (defScope st) f (.ref c) A outer s H E) ct (defBody st) b) : FnG P w K mg base ct (k + 1) x np (fnM n b) := by
  subst hN hp
  obtain ⟨f, oc, od, an, osl, kV, doc, pm, ctv, lk, cc, kp, hm, hb⟩ := F
  exact ⟨f, _, ps, fn_okC lk cc Sc (hbody f), hm, kp, .all hb⟩
/-- a def that calls what it gets, by its walk -/
theorem gv_g {x : Str} {st : Stmt} {N : List Str} {a : Str} {k n i j : Nat} {l : List (Nat × Bool)} {mr : SM} (F : FunO K mg x st [a]) (Sc : FnScope N [a] (defScope st)) (hN : N.length = n + 1) (h0 : N[0]? = some a) (hv : Vis (defScope st) a)
    (h1 : noOwnB ((List.replicate n Slot.no).set j (.ar .c .non)) = true) (h2 : ((List.replicate n Slot.no).set j (.ar .c .non))[i]? = some .no)
    (hbody : ∀ (g : Addr) (cdv : Value) (A : Around) (outer : List PySem.Env) (s : Shared) (H : Hp) (E : XK) (G : Gx) (act : SM), Room k (A.deeper (envOfC x (defScope st) s.heap.objs.size g cdv)) →
      (∀ (pn : List (Addr × Obj)) (xe : Value → Shared → Prop) (p1 p2 p3 : Pos), MSG ((cxOf (L2.CX P w) P w K mg base N x (defScope st) g cdv A outer s H E).tr pn xe) ct G (.Expr (.Call (.Name a p1) [] [] p2) p3) act) →
      MSGs (cxOf (L2.CX P w) P w K mg base N x (defScope st) g cdv A outer s H E) ct G (defBody st) (gvB (i + 1) (j + 1) l mr act))
    (hd1 : (a == ("__debug__" : Str)) = false := by decide) (hd2 : (a == ("__classdict__" : Str)) = false := by decide) : GvG P w K mg base ct k x n i j l mr := by
  obtain ⟨f, fd, F, hm, hb⟩ := F
  exact ⟨⟨f, fd, N, a, st, F, hm, .all hb, Sc, hN, h0, hv, hd1, hd2, hbody f⟩, h1, h2⟩
def spLawT (K : PySem.W.Frag) (ps : List Addr) : Sp := fun vs H Q _ => ∃ (a : Addr) (ns : List Int), vs = [.ref a] ∧ SqL K H a (ns.map V.int) ∧ ns.length ≤ 63 ∧ (∀ p ∈ ps, H p = some (.tbl #[])) ∧ ∀ H', Q (.bl true) H'
theorem law_endT {m : SM} {st : Stmt} {N : List Str} {k n : Nat} {fa c : Addr} {cs : List (Addr × Addr)} {xs : List Str} (F : FunOC K mg "law" st ["script"] c) (hfa : mg "law" = some (.ref fa)) (Sc : FnScope N ["script"] (defScope st)) (hN : N.length = n)
    (ht : ∀ p ∈ ct.tb, p.1 ∈ cs.map (·.2)) (hx : ∀ p ∈ cs, ∃ x ∈ xs, PySem.W.tabIn K x = some p) (hK : ∀ p ∈ cs, K.lookup p.2 = none)
    (hbody : ∀ (base : Heap), (∀ p ∈ cs, TabB base mg p.1 p.2) → ∀ (f : Addr) (A : Around) (outer : List PySem.Env) (s : Shared) (H : Hp) (E : XK), Room k (A.deeper (envOfC "law" (defScope st) s.heap.objs.size f (.ref c))) →
      MSs (cxOf (L2.CX P w) P w K mg base N "law" (defScope st) f (.ref c) A outer s H E) ct (defBody st) m)
    (math : ∀ ns : List Int, ns.length ≤ 63 → ∃ S f, fnM n m [(.c, .frz (ns.map D.int))] [] = .ok (.bl true, f) S) (hq : ct.pn = [] := by rfl) :
    ∃ (fd : FuncData) (cs : List (Addr × Addr)), (∀ p ∈ cs, ∃ x ∈ xs, PySem.W.tabIn K x = some p) ∧ (∀ p ∈ cs, K.lookup p.2 = none) ∧ (∀ (s : Shared) (u : Value), BindsTo s fd ⟨[u], []⟩ [("script", u)]) ∧
      ∀ base : Heap, K.In base → base.Ns mainGlobals mg → (∀ p ∈ cs, TabB base mg p.1 p.2) → FnOk P w K mg base (L2.CX P w) (k + 1) fa fd ["script"] (spLawT K (cs.map (·.2))) := by
  subst hN
  obtain ⟨f, oc, od, an, osl, kV, doc, pm, ctv, lk, cc, kp, hm, hb⟩ := F
  rw [hfa] at hm
  cases hm
  refine ⟨_, cs, hx, hK, fun s u => .of_eq (hb [u] rfl), fun base _ _ TB => (fn_okC (ct := ct) lk cc Sc (hbody base TB fa)).imp fun vs H Q E h => ?_⟩
  obtain ⟨a, ns, rfl, hS, hl, hP, q⟩ := h
  obtain ⟨S, f, e⟩ := math ns hl
  obtain ⟨h1, as, S0, io, M0, h2, h3, h4, h5⟩ := law_sp (ct := ct) hS (fun p hp => TabS.nil (hP _ (ht p hp))) (by rw [hq]; exact fun p hp => nomatch hp) ⟨S, f, e⟩
  refine ⟨h1, as, S0, io, M0, h2, h3, h4, ?_⟩
  cases e2 : fnM N.length m as S0 with
  | ok x S' =>
    rw [e2] at h5
    intro v io' H' t o
    have ev : v = .bl true := h5 v io' H' t o
    rw [ev]
    exact q H'
  | er c p S' =>
    rw [e2] at h5
    exact fun dx io' H' t1 t2 t3 => (h5 dx io' H' t1 t2 t3).elim
  | no =>
    rw [e2] at h5
    exact h5.elim
open PyProof in
theorem law_walkT {l : PySem.W.OpenLaw} {k : Nat} {q : Program} {loose : List Str} {XP : (Str → Option Value) → Heap → Prop} {YP : World → Heap → Prop} {d : DefRec} {K : Params → PySem.W.Frag} (xs : List Str) (hn : l.most = some 63) (hdf : d.params.defaults = []) (hr : Room k callerA)
    (hY : ∀ (w : World) (h : Heap), YP w h → (K w.params).In h) (hq : (xs.all fun x => ((recsOf q).find? (fun e => e.name == x)).isSome) = true)
    (F : ∀ (w : World) (mg : Str → Option Value) (fa : Addr) (h : Heap), (K w.params).In h → h.Ns mainGlobals mg → mg d.name = some (.ref fa) →
      ∃ (fd : FuncData) (cs : List (Addr × Addr)), (∀ p ∈ cs, ∃ x ∈ xs, PySem.W.tabIn (K w.params) x = some p) ∧ (∀ p ∈ cs, (K w.params).lookup p.2 = none) ∧ (∀ (s : Shared) (u : Value), BindsTo s fd ⟨[u], []⟩ [("script", u)]) ∧
        ∀ base : Heap, (K w.params).In base → base.Ns mainGlobals mg → (∀ p ∈ cs, TabB base mg p.1 p.2) → FnOk l.prog w (K w.params) mg base (L2.CX l.prog w) k fa fd ["script"] (spLawT (K w.params) (cs.map (·.2)))) :
    PySem.W.WalkO q loose XP YP l.row.toRowW d [] (fun f vs => PySem.call f vs) := by
  refine Att.attach_callB hn hdf fun w s₀ s₁ mg mb fa o pm cd doc a vs ns G Y ho hd hcd hmg hobj hints hlen hbits hg => ?_
  have KX := hY w _ Y
  obtain ⟨fd, cs, hx, hK, hb, hF⟩ := F w mg fa _ KX G.T.g hmg
  have tabs : ∀ p ∈ cs, PySem.W.CodeHd s₁.heap p.1 p.2 ∧ s₁.heap.get? p.2 = some (PySem.W.tabObj #[]) := fun p hp => by
    obtain ⟨x, hx1, hx2⟩ := hx p hp
    obtain ⟨dd, hdd⟩ := Option.isSome_iff_exists.mp (List.all_eq_true.mp hq x hx1)
    exact PySem.W.tab_of G.T KX hdd hx2
  exact law_callTs KX G.T.g G.T.b G.T.builtins G.T.nolimit hg (fun p hp => (tabs p hp).2) hK (fun p hp => (tabs p hp).1) G.T.bmain hobj hints (Nat.le_trans hlen (by decide)) hr hF hb
    (fun H hH hS => ⟨a, ns, rfl, hS, hlen, fun p hp => by
      obtain ⟨p', h1, rfl⟩ := List.mem_map.mp hp
      exact hH p' h1, fun _ => rfl⟩) fun H e s' h => by
    obtain ⟨_, _, _, _, _, _, _, _, _, _, _, _, z⟩ := h
    exact z
end
end Mv
namespace Mv
open PySem
/-- each table bears one name -/
def TabU (l : List (Addr × Str)) : Prop := ∀ p ∈ l, ∀ p' ∈ l, p.1 = p'.1 → p.2 = p'.2
theorem TabU.one (p : Addr × Str) : TabU [p] := fun a ha b hb _ => by
  rw [List.mem_singleton.mp ha, List.mem_singleton.mp hb]
end Mv
namespace Mv
open PySem
theorem tab_mk {K : PySem.W.Frag} {x : Str} {f c P : Addr} {o1 o3 : Value} {o2 o4 : Option Addr} {fd : FuncData} {s1 s2 : Array (Option Value)} {vs : Array Value} (a : PySem.W.nsIn K mainGlobals x = some (some (.ref f))) (l : K.lookup f = some ⟨o1, o2, .func fd, s1⟩) (hc : fd.code = .ref c)
    (lc : K.lookup c = some ⟨o3, o4, .fields vs, s2⟩) (hv : vs[11]? = some (.ref P)) : PySem.W.tabIn K x = some (c, P) := by
  unfold PySem.W.tabIn
  rw [a]
  dsimp only
  rw [l]
  dsimp only
  rw [hc]
  dsimp only
  rw [lc]
  dsimp only
  rw [hv]
end Mv

set_option maxRecDepth 100000
set_option maxHeartbeats 2000000
namespace L2
open PySem PySem.Spec PyProof.Rows
/-- a list's count of a flat value -/
def rCntF (K : PySem.W.Frag) : V → List V → Hp → VK → Prop := fun x xs H Q => ∃ (p : Addr) (ys : List V) (y : V), x = .ref p ∧ xs = [y] ∧ SqL K H p ys ∧ flatV y = true ∧ ys.all flatV = true ∧ Q (.int (ys.countP fun z => eqV z y : Nat)) H
theorem countP_eqU {x : V} : ∀ {xs : List V} {us : List Value}, Vals xs us → xs.all flatV = true → us.countP (eqU x) = xs.countP fun y => eqV y x
  | _, _, .nil, _ => rfl
  | y :: xs, u :: us, .cons r t, f => by
    rw [List.all_cons, Bool.and_eq_true] at f
    rw [List.countP_cons, List.countP_cons, eqU_of r f.1, countP_eqU t f.2]
theorem mt_cntF {X : Cx} : MtR X "list.count" (rCntF X.K) := by
  intro pins s σ H x xs v us Q I rx rxs h
  obtain ⟨p, ys, y, rfl, rfl, hs, fy, fys, q⟩ := h
  cases rx
  obtain ⟨u, rfl, ru⟩ := rxs.one
  obtain ⟨its, rv, ⟨⟨cls, dd, data, sl⟩, n, ho, hc, hdn, hd⟩, hlen⟩ := I.list hs
  dsimp only at hc hd
  subst hc hd
  refine call_meets PySem.F.slot_list_count ⟨_, ho, rfl⟩ PySem.F.entry_list_count (PySem.F.args_list_count_2 _ _) (SeqAt.list_countAt p its.toArray n dd sl u (eqU y))
    ⟨ho, fun u' hu' => mem_eqAt ru fy rv fys u' (by simpa using hu'), .int (ys.countP fun z => eqV z y : Nat), H, I.tok _, ⟨s.toks, ?_⟩, q⟩
  rw [show its.toArray.toList = its from rfl, countP_eqU rv fys]
end L2
namespace Mv
open PySem PySem.Spec PyProof.Rows L2
/-! ### a list's method by values -/
def BmOk (K : PySem.W.Frag) (ct : CT) (rd : V → List V → Hp → VK → Prop) (g : List D → List (Fl × D) → Option (D × Fl)) : Prop :=
  ∀ (M N : Addr → Prop) (io : List Addr) (S : Store) (H : Hp) (a : Addr) (vs ws : List V) (xs : List D) (as : List (Fl × D)) (res : D × Fl) (Q : VK), H a = some (.lst vs) → Reps K (fun _ => False) io H xs vs → ArgsOk K M N io H as ws → StoOk K ct M io S H → g xs as = some res →
    (∀ v H', Stp ct io H io H' → ResOk K ct M N H io S H' res.2 res.1 v → Q v H') → rd (.ref a) ws H Q
def eBm (g : List D → List (Fl × D) → Option (D × Fl)) (mo : EM) (t : AM) : EM := fun r S => (mo r S).bind fun x S1 => match x.1 with
  | .lst xs => (t r S1).bind fun as S2 => lift0 (g xs as) S2
  | _ => .no
section
variable {X : Cx} {ct : CT} {pos apos : Pos}
theorem me_bm {o e : Expr} {es : List Expr} {name : Str} {id : String} {rd : V → List V → Hp → VK → Prop} {g : List D → List (Fl × D) → Option (D × Fl)} {mo : EM} {t : AM} (slot : PySem.Slot "list" name id) (hty : typeOf (.builtin id) = pure (.type "method_descriptor")) (hm : MtR X id rd) (hg : BmOk X.K ct rd g)
    (ho : ME X ct o mo) (ha : MA X ct (e :: es) t)
    (hbase : attributeBase o name X.env (eval o X.env) = eval o X.env := by rfl)
    (hfew : ((backTo pos (starEach (e :: es) X.env)).all (fun x => !x.1) && (backToKw pos (keywordEach [] X.env)).all (fun x => x.1.isSome)
      && decide ((e :: es).length + ([] : List Keyword).length + (if ([] : List Keyword).isEmpty then 0 else 1) < 30)) = true := by rfl)
    (hline : (apos.endLine == pos.line) = true := by rfl) (hs : starEach (e :: es) X.env = (false, eval e X.env) :: starEach es X.env := by rfl) (hplain : (backTo pos (starEach es X.env)).any (·.1) = false := by rfl) :
    ME X ct (.Call (.Attribute o name apos) (e :: es) [] pos) (eBm g mo t) :=
  ⟨fun G W tk => (pe_bm PySem.F.plainAttrs_list slot hty hm (ho.run G W tk) (ha.run G W tk) hbase hfew hline hs hplain).imp fun s H Q ⟨r, S, io, k, h⟩ => by
    refine ⟨r, S, io, k, Res.first h fun x S1 io1 H1 e1 t1 q1 h1 v o => ?_⟩
    split at h1
    · rename_i xs ex
      have o1 := o.repF
      rw [ex] at o1
      obtain ⟨a, vs, rfl, ea, ra⟩ := lst_of o1
      have k1 := k.step t1 q1
      refine ⟨.inl ⟨rfl, vs, .inl (.inl ea)⟩, r, S1, io1, k1, Res.first h1 fun as S2 io2 H2 e2 t2 q2 h2 ws o2 => ?_⟩
      unfold lift0 at h2
      split at h2
      · rename_i res e
        exact hg _ _ io2 S2 H2 a vs ws xs as res Q (t2.k1 a _ ea NI.lst) (ra.stp t2) o2 q2 e fun v H' t' o' => h2.go t' o'.sto v (o'.back fun a z => t1.free (t2.free z))
      · exact h2.elim
    · exact h1.elim⟩
end
def gCntB (xs : List D) (as : List (Fl × D)) : Option (D × Fl) := match as with
  | [(_, .bl b)] => (blsOf xs).map fun bs => (.int (bs.count b : Nat), .c)
  | _ => none
def gIdxB (xs : List D) (as : List (Fl × D)) : Option (D × Fl) := match as with
  | [(_, .bl b)] => (blsOf xs).bind fun bs => (bs.findIdx? (· == b)).map fun j => (.int (j : Nat), .c)
  | _ => none
theorem flat_bls : ∀ bs : List Bool, (bs.map V.bl).all flatV = true
  | [] => rfl
  | _ :: bs => flat_bls bs
theorem eqV_bl (b c : Bool) : eqV (.bl b) (.bl c) = (b == c) := by
  cases b <;> cases c <;> rfl
theorem cnt_bls (b : Bool) : ∀ bs : List Bool, (bs.map V.bl).countP (fun z => eqV z (.bl b)) = bs.count b
  | [] => rfl
  | c :: bs => by
    rw [List.map_cons, List.countP_cons, List.count_cons, cnt_bls b bs, eqV_bl]
theorem args_one {K : PySem.W.Frag} {M N : Addr → Prop} {io : List Addr} {H : Hp} {p : Fl × D} {ws : List V} (o : ArgsOk K M N io H [p] ws) : ∃ v, ws = [v] ∧ RepF K M N io H p.1 p.2 v := by
  cases o with
  | cons h t =>
    cases t
    exact ⟨_, rfl, h⟩
theorem ok_cntB {K : PySem.W.Frag} {ct : CT} : BmOk K ct (rCntF K) gCntB := by
  intro M N io S H a vs ws xs as res Q ea ra o q e h
  unfold gCntB at e
  split at e
  · rename_i f b
    obtain ⟨bs, e1, rfl⟩ := Option.map_eq_some_iff.mp e
    rw [blsOf_eq e1] at ra
    have := ra.bls
    subst this
    obtain ⟨v, rfl, rv⟩ := args_one o
    rw [bl_of rv]
    refine ⟨a, _, .bl b, rfl, rfl, .inl (.inl ea), rfl, flat_bls bs, ?_⟩
    rw [cnt_bls]
    exact h _ H Stp.refl (ResOk.sc (f := .c) (by simp) (.int _) q)
  · cases e
theorem ok_idxB {K : PySem.W.Frag} {ct : CT} : BmOk K ct (rIndex K) gIdxB := by
  intro M N io S H a vs ws xs as res Q ea ra o q e h
  unfold gIdxB at e
  split at e
  · rename_i f b
    obtain ⟨bs, e1, e⟩ := Option.bind_eq_some_iff.mp e
    obtain ⟨j, e2, rfl⟩ := Option.map_eq_some_iff.mp e
    rw [blsOf_eq e1] at ra
    have := ra.bls
    subst this
    obtain ⟨v, rfl, rv⟩ := args_one o
    rw [bl_of rv]
    obtain ⟨hj, hp, hn⟩ := List.findIdx?_eq_some_iff_getElem.mp e2
    refine ⟨a, _, .bl b, j, .bl bs[j], rfl, rfl, .inl (.inl ea), rfl, flat_bls bs, by rw [List.getElem?_map, List.getElem?_eq_getElem hj]; rfl, by rw [eqV_bl]; exact hp, fun m z' hm e => ?_, h _ H Stp.refl (ResOk.sc (f := .c) (by simp) (.int _) q)⟩
    rw [List.getElem?_map, List.getElem?_eq_getElem (Nat.lt_trans hm hj)] at e
    cases e
    rw [eqV_bl]
    exact eq_false_of_ne_true (hn m hm)
  · cases e
end Mv

set_option maxRecDepth 100000
set_option maxHeartbeats 2000000
namespace L2
open PySem PySem.Spec PyProof.Rows
theorem PT.ex {X : Cx} {e : Expr} {ι : Sort _} {t : ι → TT} (h : ∀ i, PT X e (t i)) : PT X e (fun s H Q => ∃ i, t i s H Q) := ⟨fun pins s σ H Q I ⟨i, w⟩ => (h i).run pins s σ H Q I w⟩
end L2
namespace Mv
open PySem PySem.Spec PyProof.Rows L2
/-! ### a list of one's own, lent while a test is asked -/
def Gx.lend (G : Gx) (a : Addr) : Gx := { G with M0 := fun x => G.M0 x ∨ x = a }
section
variable {K : PySem.W.Frag} {ct : CT} {G : Gx} {r : Env} {S : Store} {io : List Addr} {s : St} {H : Hp} {i : Nat} {d : D} {a : Addr}
theorem mown_lend (k : Ok K ct G r S io s H) (e : r[i]? = some (.own d)) (ea : s[i]? = some (some (V.ref a))) {x : Addr} (h : Mown (G.lend a) (r.set i (.ar .b d)) s x) : Mown G r s x ∧ x ≠ a := by
  obtain ⟨a', e1, _, _, n0, _⟩ := k.own i d e
  rw [ea] at e1
  cases e1
  rcases h with h | ⟨j, u, h1, h2⟩
  · exact ⟨.inl h, fun z => n0 (z ▸ h)⟩
  · rcases get_set h1 with ⟨rfl, q, _⟩ | ⟨hj, q⟩
    · cases q
    · exact ⟨.inr ⟨j, u, q, h2⟩, fun z => hj (k.inj j i u d a q e (z ▸ h2) ea).symm⟩
theorem mall_lend (k : Ok K ct G r S io s H) (e : r[i]? = some (.own d)) (ea : s[i]? = some (some (V.ref a))) : Mall (G.lend a) (r.set i (.ar .b d)) s = Mall G r s := by
  funext x
  refine propext ⟨fun h => ?_, fun h => ?_⟩
  · rcases h with (h | h) | h
    · exact .inl h
    · exact .inr (.inr ⟨i, d, e, h ▸ ea⟩)
    · exact .inr (mown_lend k e ea h).1
  · rcases h with h | h | ⟨j, u, h1, h2⟩
    · exact .inl (.inl h)
    · exact .inr (.inl h)
    · by_cases hj : j = i
      · subst hj
        rw [ea] at h2
        cases h2
        exact .inl (.inr rfl)
      · exact .inr (.inr ⟨j, u, by rw [List.getElem?_set_ne (fun z => hj z.symm)]; exact h1, h2⟩)
theorem Ok.lend (k : Ok K ct G r S io s H) (e : r[i]? = some (.own d)) (ea : s[i]? = some (some (V.ref a))) : Ok K ct (G.lend a) (r.set i (.ar .b d)) S io s H := by
  obtain ⟨a', e1, ow, m0, n0, h0⟩ := k.own i d e
  have eM := mall_lend k e ea
  have mo := fun {x} => mown_lend (x := x) k e ea
  rw [ea] at e1
  cases e1
  refine ⟨by rw [List.length_set]; exact k.len, fun j f u q => ?_, fun j u q => ?_, fun j j' u u' b q q' z z' => ?_, by rw [eM]; exact k.sto, k.stp, fun b h => ?_, fun b h => ?_, fun p hp => ?_, k.dp.env rfl (fun _ z => z) (dp_set0 fun _ _ z => by cases z)⟩
  · rcases get_set q with ⟨rfl, q, _⟩ | ⟨hj, q⟩
    · cases q
      exact ⟨.ref a, ea, .inr ⟨a, rfl, by rw [eM]; exact ow, fun z => (mo z).2 rfl⟩⟩
    · obtain ⟨v, h1, h2⟩ := k.arg j f u q
      refine ⟨v, h1, ?_⟩
      rw [eM]
      exact h2.mono Kp.refl Kp.refl (fun _ _ n => n) (fun _ _ n z => n (mo z).1) io_refl
  · rcases get_set q with ⟨rfl, q, _⟩ | ⟨hj, q⟩
    · cases q
    · obtain ⟨b, h1, h2, h3, h4, h5⟩ := k.own j u q
      refine ⟨b, h1, by rw [eM]; exact h2, fun z => z.elim h3 fun z => hj (k.inj j i u d a q e (z ▸ h1) ea).symm, h4, h5⟩
  · rcases get_set q with ⟨rfl, q, _⟩ | ⟨hj, q⟩
    · cases q
    · rcases get_set q' with ⟨rfl, q', _⟩ | ⟨hj', q'⟩
      · cases q'
      · exact k.inj j j' u u' b q q' z z'
  · rcases h with h | rfl
    · exact k.m0 b h
    · exact ow.there
  · obtain ⟨o, h1, h2, h3⟩ := k.n0 b h
    exact ⟨o, h1, fun z => z.elim h2 fun z => n0 (z ▸ h), h3⟩
  · rw [eM]
    exact (k.held p hp).mono Kp.refl Kp.refl (fun _ _ n => n) (fun _ _ n z => n (mo z).1) io_refl
end
section
variable {X : Cx} {ct : CT}
def tLend (i : Nat) (t : TM) : TM := fun r S => match r[i]? with
  | some (.own d) => t (r.set i (.ar .b d)) S
  | _ => t r S
theorem mt_lend {i : Nat} {e : Expr} {t : TM} (h : MT X ct e t) : MT X ct e (tLend i t) := ⟨fun G W tk => by
  have all := PT.ex fun G' : Gx => h.run G' W tk
  exact all.imp fun s H Q ⟨r, S, io, k, w⟩ => by
    unfold tLend at w
    split at w
    · rename_i d e
      obtain ⟨a, ea, _⟩ := k.own i d e
      refine ⟨G.lend a, _, S, io, k.lend e ea, ?_⟩
      rw [mall_lend k e ea]
      exact w
    · exact ⟨G, r, S, io, k, w⟩⟩
end
end Mv
namespace Mv
open PySem
theorem TabU.of : ∀ {l : List (Addr × Str)}, (l.map (·.1)).Nodup → TabU l
  | [], _ => fun _ h => nomatch h
  | x :: l, nd => fun a ha b hb e => by
    have q := List.nodup_cons.mp nd
    rcases List.mem_cons.mp ha with ha | ha
    · rcases List.mem_cons.mp hb with hb | hb
      · rw [ha, hb]
      · rw [ha] at e
        exact absurd (List.mem_map.mpr ⟨b, hb, e.symm⟩) q.1
    · rcases List.mem_cons.mp hb with hb | hb
      · rw [hb] at e
        exact absurd (List.mem_map.mpr ⟨a, ha, e⟩) q.1
      · exact TabU.of q.2 a ha b hb e
end Mv

set_option maxRecDepth 100000
set_option maxHeartbeats 2000000
namespace Mv
open PySem PySem.Spec PyProof.Rows L2
/-! ### list(range(n)) -/
def gLRg (a : D × Fl) : Option (D × Fl) := match a.1 with
  | .int n => if 0 ≤ n ∧ n ≤ 1000000 then some (.lst (rangeD 0 1 n.toNat), .n) else none
  | _ => none
end Mv
namespace Mv
open PySem PySem.Spec PyProof.Rows L2
theorem reps_rg {K : PySem.W.Frag} {M : Addr → Prop} {io : List Addr} {H : Hp} (n : Int) : Reps K M io H (rangeD 0 1 n.toNat) (rgV 0 n) := by
  have h := Reps.ofInts (K := K) (M := M) (io := io) (H := H) ((List.range n.toNat).map fun i => (0 : Int) + (i : Nat) * 1)
  have e1 : ((List.range n.toNat).map fun i => (0 : Int) + (i : Nat) * 1).map D.int = rangeD 0 1 n.toNat := by
    unfold rangeD
    rw [List.map_map]
    rfl
  have e2 : ((List.range n.toNat).map fun i => (0 : Int) + (i : Nat) * 1).map V.int = rgV 0 n := by
    unfold rgV
    rw [List.map_map, Int.sub_zero]
    refine List.map_congr_left fun i _ => ?_
    show V.int ((0 : Int) + (i : Nat) * 1) = V.int (0 + (i : Nat))
    rw [Int.mul_one]
  rw [e1, e2] at h
  exact h
section
variable {X : Cx} {ct : CT} {pos : Pos}
theorem me_lRg {a : Expr} {p p2 pos2 : Pos} {m : EM} (hc : X.calm = true) (hg : Gl X "list") (hm : X.mg "list" = none) (hg2 : Gl X "range") (hm2 : X.mg "range" = none) (ha : ME X ct a m)
    (na : starEach [a] X.env = (false, eval a X.env) :: starEach [] X.env := by rfl)
    (na2 : starEach [Expr.Call (.Name "range" p2) [a] [] pos2] X.env = (false, eval (Expr.Call (.Name "range" p2) [a] [] pos2) X.env) :: starEach [] X.env := by rfl) :
    ME X ct (.Call (.Name "list" p) [.Call (.Name "range" p2) [a] [] pos2] [] pos) (eG1 gLRg m) :=
  ⟨fun G W tk => (pe_listRg hc hg hm (prg_1 hg2 hm2 (ha.run G W tk) na) na2).imp fun s H Q ⟨r, S, io, k, h⟩ => ⟨r, S, io, k, Res.first h fun x S1 io1 H1 e1 t1 q1 h1 v o => by
    have k1 := k.step t1 q1
    unfold lift0 at h1
    split at h1
    · rename_i res e
      unfold gLRg at e
      split at e
      · rename_i n en
        split at e
        · rename_i hn
          cases e
          have o1 := o.repF
          rw [en] at o1
          refine ⟨n, int_of o1, ?_, fun q hq => ?_⟩
          · exact RgOk.of_le (Int.le_refl 0) (by omega) (by omega) hn.1
          · exact h1.go (Stp.upd hq) (q1.upd hq) _ (new_lst hq (t1.free hq) k1.mdom q1 (reps_rg n))
        · cases e
      · cases e
    · exact h1.elim⟩⟩
end
end Mv

set_option maxRecDepth 100000
set_option maxHeartbeats 2000000
/-! Mv19: dicts with keys that are ints or texts; sorted of pairs of ints; unpacking of lists -/
namespace Mv
open PySem PySem.Spec PyProof.Rows L2
def keyD : D → Option Key
  | .int i => some (.inl i)
  | .str z => some (.inr z)
  | _ => none
def getK : List Key → List D → Key → Option D
  | k :: ks, x :: xs, j => if k = j then some x else getK ks xs j
  | _, _, _ => none
def putX : List Key → List D → Key → D → List D
  | k :: ks, x :: xs, j, d => (if k = j then d else x) :: putX ks xs j d
  | _, xs, _, _ => xs
def putKD (ks : List Key) (xs : List D) (k : Key) (d : D) : List Key × List D := if ks.any (fun j => decide (j = k)) = true then (ks, putX ks xs k d) else (ks ++ [k], xs ++ [d])
section
variable {K : PySem.W.Frag} {ct : CT} {M N : Addr → Prop} {io : List Addr} {H : Hp}
theorem key_val {f : Fl} {d : D} {v : V} {k : Key} (e : keyD d = some k) (h : RepF K M N io H f d v) : v = kV k := by
  unfold keyD at e
  split at e
  · cases e
    exact int_of h
  · cases e
    exact str_of h
  · cases e
theorem getK_val : ∀ {kvs : List (Key × V)} {xs : List D} (k : Key), Reps K M io H xs (kvs.map Prod.snd) → match getK (kvs.map Prod.fst) xs k with
    | some d => ∃ v, valV kvs k = some v ∧ Rep K M io H d v
    | none => valV kvs k = none
  | [], xs, k, h => by
    unfold getK
    exact valV_nil
  | (j, w) :: kvs, xs, k, h => by
    cases h with
    | @cons x xs _ _ h1 h2 =>
      show match (if j = k then some x else getK (kvs.map Prod.fst) xs k) with
        | some d => ∃ v, valV ((j, w) :: kvs) k = some v ∧ Rep K M io H d v
        | none => valV ((j, w) :: kvs) k = none
      by_cases e : j = k
      · rw [if_pos e]
        exact ⟨w, valV_pos (p := (j, w)) e, h1⟩
      · rw [if_neg e, valV_neg (p := (j, w)) e]
        exact getK_val k h2
theorem putX_len : ∀ (ks : List Key) (xs : List D) (k : Key) (d : D), (putX ks xs k d).length = xs.length
  | [], _, _, _ => by unfold putX; rfl
  | _ :: _, [], _, _ => by unfold putX; rfl
  | j :: ks, x :: xs, k, d => by
    unfold putX
    rw [List.length_cons, List.length_cons, putX_len ks xs k d]
theorem putX_rep {v : V} {d : D} (hv : Rep K M io H d v) (k : Key) : ∀ {kvs : List (Key × V)} {xs : List D}, Reps K M io H xs (kvs.map Prod.snd) → Reps K M io H (putX (kvs.map Prod.fst) xs k d) ((kvs.map fun kv => if kv.1 = k then (kv.1, v) else kv).map Prod.snd)
  | [], xs, h => by
    cases h
    exact .nil
  | (j, w) :: kvs, xs, h => by
    cases h with
    | @cons x xs _ _ h1 h2 =>
      have ih := putX_rep hv k h2
      show Reps K M io H ((if j = k then d else x) :: putX (kvs.map Prod.fst) xs k d) ((if j = k then (j, v) else (j, w)).2 :: _)
      by_cases e : j = k
      · rw [if_pos e, if_pos e]
        exact .cons hv ih
      · rw [if_neg e, if_neg e]
        exact .cons h1 ih
theorem put_any (kvs : List (Key × V)) (k : Key) : (kvs.any fun kv => decide (kv.1 = k)) = (kvs.map Prod.fst).any fun j => decide (j = k) := by
  rw [List.any_map]
  rfl
theorem put_keys (kvs : List (Key × V)) (k : Key) (v : V) (xs : List D) (d : D) : (putK kvs k v).map Prod.fst = (putKD (kvs.map Prod.fst) xs k d).1 := by
  unfold putK putKD
  rw [put_any]
  by_cases q : ((kvs.map Prod.fst).any fun j => decide (j = k)) = true
  · rw [if_pos q, if_pos q, List.map_map]
    refine List.map_congr_left fun p _ => ?_
    show (if p.1 = k then (p.1, v) else p).1 = p.1
    split <;> rfl
  · rw [if_neg q, if_neg q, List.map_append]
    rfl
theorem put_vals {kvs : List (Key × V)} {k : Key} {v : V} {xs : List D} {d : D} (h : Reps K M io H xs (kvs.map Prod.snd)) (hv : Rep K M io H d v) : Reps K M io H (putKD (kvs.map Prod.fst) xs k d).2 ((putK kvs k v).map Prod.snd) := by
  unfold putK putKD
  rw [put_any]
  by_cases q : ((kvs.map Prod.fst).any fun j => decide (j = k)) = true
  · rw [if_pos q, if_pos q]
    exact putX_rep hv k h
  · rw [if_neg q, if_neg q, List.map_append]
    exact h.app (.cons hv .nil)
theorem dic_of {f : Fl} {ks : List Key} {xs : List D} {v : V} (h : RepF K M N io H f (.dic ks xs) v) : ∃ a kvs, v = .ref a ∧ H a = some (.dK kvs) ∧ kvs.map Prod.fst = ks ∧ (f ≠ .t → Reps K M io H xs (kvs.map Prod.snd)) ∧ Reps K (fun _ => False) io H xs (kvs.map Prod.snd) := by
  have go : Rep K M io H (.dic ks xs) v → ∃ a kvs, v = .ref a ∧ H a = some (.dK kvs) ∧ kvs.map Prod.fst = ks ∧ Reps K M io H xs (kvs.map Prod.snd) := fun h => by
    cases h with
    | dic h1 _ h2 h3 => exact ⟨_, _, rfl, h1, h2, h3⟩
  have go2 : ∀ {a}, OwnAt K M io H (.dic ks xs) a → ∃ kvs, H a = some (.dK kvs) ∧ kvs.map Prod.fst = ks ∧ Reps K M io H xs (kvs.map Prod.snd) := fun h => by
    rcases h with ⟨xs', vs, e', _⟩ | ⟨ks, xs', kvs, e', h1, h2, h3⟩
    · cases e'
    · cases e'
      exact ⟨kvs, h1, h2, h3⟩
  have fin : (∃ a kvs, v = .ref a ∧ H a = some (.dK kvs) ∧ kvs.map Prod.fst = ks ∧ Reps K M io H xs (kvs.map Prod.snd)) → ∃ a kvs, v = .ref a ∧ H a = some (.dK kvs) ∧ kvs.map Prod.fst = ks ∧ (f ≠ .t → Reps K M io H xs (kvs.map Prod.snd)) ∧ Reps K (fun _ => False) io H xs (kvs.map Prod.snd) :=
    fun ⟨a, kvs, e, h1, h2, h3⟩ => ⟨a, kvs, e, h1, h2, fun _ => h3, h3.anti fun _ z => z.elim⟩
  cases f with
  | c => exact fin (go h)
  | n => exact fin (go h)
  | b => exact h.elim (fun h => fin (go h)) fun ⟨a, e, h, _⟩ => let ⟨kvs, z⟩ := go2 h; fin ⟨a, kvs, e, z⟩
  | o => exact h.elim (fun h => fin (go h)) fun ⟨a, e, h⟩ => let ⟨kvs, z⟩ := go2 h; fin ⟨a, kvs, e, z⟩
  | t =>
    cases h with
    | dic h1 _ h2 h3 => exact ⟨_, _, rfl, h1, h2, fun g => absurd rfl g, h3⟩
/-- d[e], there -/
def gDIx : D × Fl → D × Fl → Option (D × Fl) := fun a b => match a.1 with
  | .dic ks xs => match keyD b.1 with
    | some k => (getK ks xs k).map fun d => (d, if a.2 = .t then .t else .c)
    | none => none
  | _ => none
def rDIx : R2 := fun x y H Q => ∃ a v, x = .ref a ∧ DGet H a y (some v) ∧ Q v H
theorem ok_dix : BinOk K ct rDIx gDIx := by
  rintro M N io S H x y ⟨a, fa⟩ ⟨b, fb⟩ res Q ra rb q md e w
  unfold gDIx at e
  dsimp only at e ra rb
  split at e
  · rename_i ks xs
    split at e
    · rename_i k ek
      obtain ⟨p, kvs, rfl, h1, rfl, h2, h3⟩ := dic_of ra
      obtain rfl := key_val ek rb
      obtain ⟨d, ed, rfl⟩ := Option.map_eq_some_iff.mp e
      have g3 := getK_val k h3
      rw [ed] at g3
      obtain ⟨v, y1, y2⟩ := g3
      refine ⟨p, v, rfl, by rw [← y1]; exact DGet.k h1, w _ _ Stp.refl (ResOk.ct' (f := fa) (fun g => ?_) y2 q)⟩
      have g2 := getK_val k (h2 g)
      rw [ed] at g2
      obtain ⟨v', z1, z2⟩ := g2
      rw [y1] at z1
      cases z1
      exact z2
    · cases e
  · cases e
/-- list(d) -/
def kD : Key → D
  | .inl i => .int i
  | .inr z => .str z
def gListD : List (Fl × D) → Option (D × Fl) := fun as => match as with
  | [(_, .dic ks _)] => some (.lst (ks.map kD), .n)
  | _ => none
theorem reps_keys : ∀ ks : List Key, Reps K M io H (ks.map kD) (ks.map kV)
  | [] => .nil
  | .inl i :: ks => .cons (.int i) (reps_keys ks)
  | .inr z :: ks => .cons (.str z) (reps_keys ks)
theorem ok_listD : CalOk K ct (fun xs H Q => ∃ (a : Addr) (kvs : List (Key × V)), xs = [.ref a] ∧ Rd H a (.dK kvs) ∧ ∀ p, H p = none → Q (.ref p) (upd H p (.lst (kvs.map fun kv => kV kv.1)))) gListD := by
  intro M N io S H vs as res Q o q md e w
  unfold gListD at e
  split at e
  · rename_i f ks xs
    cases e
    obtain ⟨v, rfl, r⟩ := args1 o
    obtain ⟨a, kvs, rfl, h1, rfl, h2, h3⟩ := dic_of r
    refine ⟨a, kvs, rfl, .inl h1, fun p hp => w _ _ (Stp.upd hp) (new_lst hp hp md q ?_)⟩
    have := reps_keys (K := K) (M := M) (io := io) (H := H) (kvs.map Prod.fst)
    rw [List.map_map (g := kV)] at this
    exact this
  · cases e
/-- d != e, of dicts of ints that are alike -/
def alikeD (ls : List Key) (ys : List D) : List Key → List D → Bool
  | [], [] => true
  | k :: ks, .int i :: xs => (match getK ls ys k with
    | some (.int j) => decide (j = i)
    | _ => false) && alikeD ls ys ks xs
  | _, _ => false
def gNeD : D × Fl → D × Fl → Option (D × Fl) := fun a b => match a.1, b.1 with
  | .dic ks xs, .dic ls ys => if ks.length = ls.length ∧ alikeD ls ys ks xs = true then some (.bl false, .c) else none
  | _, _ => none
theorem alike_val {ls : List (Key × V)} {ys : List D} (h2 : Reps K M io H ys (ls.map Prod.snd)) : ∀ {ks : List (Key × V)} {xs : List D}, Reps K M io H xs (ks.map Prod.snd) → alikeD (ls.map Prod.fst) ys (ks.map Prod.fst) xs = true → ∀ p ∈ ks, valV ls p.1 = some p.2 ∧ flatB p.2 = true
  | [], _, _, _, p, hp => nomatch hp
  | (k, w) :: ks, xs, h, e, p, hp => by
    cases h with
    | @cons x xs _ _ r1 r2 =>
      have e' : alikeD (ls.map Prod.fst) ys (k :: ks.map Prod.fst) (x :: xs) = true := e
      unfold alikeD at e'
      split at e'
      · rename_i heq
        cases heq
      · rename_i heq1 heq2
        cases heq1
        cases heq2
        rw [Bool.and_eq_true] at e'
        rcases List.mem_cons.mp hp with rfl | hp
        · have g := getK_val k h2
          have e1 := e'.1
          split at e1
          · rename_i ej
            rw [ej] at g
            obtain ⟨v, g1, g2⟩ := g
            obtain rfl := of_decide_eq_true e1
            cases g2
            cases r1
            exact ⟨g1, rfl⟩
          · cases e1
        · exact alike_val h2 r2 e'.2 p hp
      · cases e'
theorem ok_neD : BinOk K ct rNeDA gNeD := by
  rintro M N io S H x y ⟨a, fa⟩ ⟨b, fb⟩ res Q ra rb q md e w
  unfold gNeD at e
  dsimp only at e ra rb
  split at e
  · rename_i ks xs ls ys
    split at e
    · rename_i g
      cases e
      obtain ⟨p, kvs, rfl, h1, rfl, _, h3⟩ := dic_of ra
      obtain ⟨p', kvs', rfl, h1', rfl, _, h3'⟩ := dic_of rb
      rw [List.length_map, List.length_map] at g
      exact ⟨p, p', kvs, kvs', rfl, rfl, h1, h1', g.1, alike_val h3' h3 g.2, w _ _ Stp.refl (ResOk.c (.bl _) q)⟩
    · cases e
  · cases e
end
section
variable {X : Cx} {ct : CT} {pos : Pos}
theorem hu1 (hu : X.A.units + 64 < cLine) : X.A.units + 1 < cLine := Nat.lt_of_le_of_lt (by omega) hu
theorem me_dix {a b : Expr} {ma mb : EM} (hu : X.A.units + 64 < cLine) (ha : ME X ct a ma) (hb : ME X ct b mb) (hs : NoSl b := by exact fun _ _ => rfl) : ME X ct (.Subscript a b pos) (eBin gDIx ma mb) :=
  ⟨fun G W tk => (pe_dget (hu1 hu) (ha.run G W tk) (hb.run G W tk) hs).imp fun s H Q h => bin_go ok_dix h⟩
theorem me_neD {a b : Expr} {ma mb : EM} (hu : X.A.units + 64 < cLine) (ha : ME X ct a ma) (hb : ME X ct b mb) (hm : behindInMarks .NotEq b = false) : ME X ct (.Compare a [.NotEq] [b] pos) (eBin gNeD ma mb) :=
  me_cmp (op_ne_dictA (Nat.lt_of_le_of_lt (by omega) hu)) ok_neD ha hb hm
theorem mt_neD {a b : Expr} {ma mb : EM} (hu : X.A.units + 64 < cLine) (ha : ME X ct a ma) (hb : ME X ct b mb) (hm : behindInMarks .NotEq b = false) : MT X ct (.Compare a [.NotEq] [b] pos) (tVal (eBin gNeD ma mb)) :=
  mt_cmp (op_ne_dictA (Nat.lt_of_le_of_lt (by omega) hu)) ok_neD ha hb hm
/-- d.get(k, x) -/
def eDGet (mo mi mx : EM) : EM := fun r S => (mo r S).bind fun o S1 => match o.1 with
  | .dic ks xs => (mi r S1).bind fun i S2 => (mx r S2).bind fun x S3 => match keyD i.1 with
    | some k => match getK ks xs k with
      | some d => .ok (d, if o.2 = .t then .t else .c) S3
      | none => if okst x.2 x.1 then .ok (x.1, .c) S3 else .no
    | none => .no
  | _ => .no
theorem me_dget2 {o e f : Expr} {apos : Pos} {mo mi mx : EM} (hu : X.A.units + 64 < cLine) (ho : ME X ct o mo) (he : ME X ct e mi) (hf : ME X ct f mx) (m : M2 X o "get" apos e f pos) : ME X ct (.Call (.Attribute o "get" apos) [e, f] [] pos) (eDGet mo mi mx) :=
  ⟨fun G W tk => (pe_dget2 (hu1 hu) (ho.run G W tk) (he.run G W tk) (hf.run G W tk) m).imp fun s H Q ⟨r, S, io, k, h⟩ => ⟨r, S, io, k, Res.first h fun x S1 io1 H1 e1 t1 q1 h1 v o => by
    have k1 := k.step t1 q1
    split at h1
    · rename_i ks xs ed
      have o1 := o.repF
      rw [ed] at o1
      obtain ⟨a, kvs, rfl, y1, rfl, y2, y3⟩ := dic_of o1
      refine ⟨a, rfl, .inl ⟨kvs, .inl y1⟩, r, S1, io1, k1, Res.first h1 fun y S2 io2 H2 e2 t2 q2 h2 u ou => ?_⟩
      have k2 := k1.step t2 q2
      refine ⟨r, S2, io2, k2, Res.first h2 fun z S3 io3 H3 e3 t3 q3 h3 w ow => ?_⟩
      split at h3
      · rename_i kk ek
        obtain rfl := key_val ek ou.repF
        have y1' := t3.k1 a _ (t2.k1 a _ y1 NI.dK) NI.dK
        have g3 := getK_val kk ((y3.stp t2).stp t3)
        split at h3
        · rename_i d ed2
          rw [ed2] at g3
          obtain ⟨v', g4, g5⟩ := g3
          refine ⟨some v', by rw [← g4]; exact DGet.k y1', h3.go Stp.refl q3 _ (ResOk.ct' (f := x.2) (fun g => ?_) g5 q3)⟩
          have g2 := getK_val kk (((y2 g).stp t2).stp t3)
          rw [ed2] at g2
          obtain ⟨v2, z1, z2⟩ := g2
          rw [g4] at z1
          cases z1
          exact z2
        · rename_i ed2
          rw [ed2] at g3
          split at h3
          · rename_i g
            refine ⟨none, by rw [← (show valV kvs kk = none from g3)]; exact DGet.k y1', h3.go Stp.refl q3 _ (ResOk.c (RepF.clean g ow.repF) q3)⟩
          · exact h3.elim
      · exact h3.elim
    · exact h1.elim⟩⟩
theorem own_dic {K : PySem.W.Frag} {M : Addr → Prop} {io : List Addr} {H : Hp} {ks : List Key} {xs : List D} {a : Addr} (h : OwnAt K M io H (.dic ks xs) a) : ∃ kvs, H a = some (.dK kvs) ∧ kvs.map Prod.fst = ks ∧ Reps K M io H xs (kvs.map Prod.snd) := by
  rcases h with ⟨xs', vs, e', _⟩ | ⟨ks, xs', kvs, e', h1, h2, h3⟩
  · cases e'
  · cases e'
    exact ⟨kvs, h1, h2, h3⟩
theorem own_newD {K : PySem.W.Frag} {M : Addr → Prop} {io : List Addr} {H : Hp} {ks : List Key} {ys : List D} {a : Addr} {vs ws : List (Key × V)} (ma : M a) (h : H a = some (.dK vs)) (e : ws.map Prod.fst = ks) (r : Reps K M io H ys (ws.map Prod.snd)) : OwnAt K M io (upd H a (.dK ws)) (.dic ks ys) a :=
  .inr ⟨ks, ys, ws, rfl, upd_same, e, r.mono (fun b u q ni z => by
    rw [upd_ne]
    · exact q
    · rintro rfl
      rcases z with z | z
      · exact z ma
      · rw [h] at q
        cases q
        exact not_im_dK z) (fun _ _ n => n) io_refl⟩
/-- d[k] = e -/
def sDSub (i : Nat) (mi m : EM) : SM := fun r S => (m r S).sb r fun x S1 => match r[i]? with
  | some (.own (.dic ks xs)) => (mi r S1).sb r fun j S2 => match keyD j.1 with
    | some k => if okst x.2 x.1 && decide (ks.length < sizeLine) then .nx (r.set i (.own (.dic (putKD ks xs k x.1).1 (putKD ks xs k x.1).2))) S2 else .no
    | none => .no
  | _ => .no
theorem ms_dsub {i : Nat} {y : Str} {p spos : Pos} {e ei : Expr} {m mi : EM} (hu : X.A.units + 64 < cLine) (hx : PE X (.Name y p) (tVar i)) (hi : ME X ct ei mi) (he : ME X ct e m)
    (ha : ∀ v, assign (.Subscript (.Name y p) ei spos) X.env v = (do
      let ov ← holding [v] (eval (.Name y p) X.env)
      let iv ← holding [v, ov] (eval ei X.env)
      standAt spos
      holding [v, ov, iv] (setItem ov iv v)
      release [v, ov, iv] []) := by intro _; rfl)
    (hs : swapsWithSole [.Subscript (.Name y p) ei spos] e pos.line X.env = pure false := by rfl) (hw : swappedStores [.Subscript (.Name y p) ei spos] e X.env = pure none := by rfl)
    (h1 : (assignEach [.Subscript (.Name y p) ei spos] X.env).map (·.2) = [assign (.Subscript (.Name y p) ei spos) X.env] := by rfl) : MS X ct (.Assign [.Subscript (.Name y p) ei spos] e pos) (sDSub i mi m) :=
  ⟨fun G W tk _ => (ps_asg (he.run G W tk) (pg_sub hx (hi.run G W tk) (set_dict (hu1 hu)) ha) hs hw h1).imp fun D s H ⟨r, S, io, k, h⟩ => ⟨r, S, io, k, SRes.first k h fun x S1 io1 H1 _ t1 q1 k1 h1' v ov => by
    split at h1'
    · rename_i ks xs e
      obtain ⟨a, h1, h2, h3, h4⟩ := k1.own i _ e
      obtain ⟨kvs, h5, h6, h7⟩ := own_dic h2
      refine ⟨.ref a, h1, r, S1, io1, k1, SRes.first k1 h1' fun j S2 io2 H2 _ t2 q2 k2 h2' u ou => ?_⟩
      split at h2'
      · rename_i kk ej
        split at h2'
        · rename_i g
          rw [Bool.and_eq_true, decide_eq_true_eq] at g
          have h5' := t2.k1 a _ h5 NI.dK
          have h7' := h7.stp t2
          obtain rfl := key_val ej ou.repF
          subst h6
          refine ⟨a, _, rfl, DPut.k h5' (by rw [← List.length_map Prod.fst]; exact g.2), h2' s io2 _ (k2.mut e h1 (own_newD (.inr (.inr ⟨i, _, e, h1⟩)) h5' (put_keys kvs kk v xs x.1) (put_vals h7' (RepF.clean g.1 (ov.repF.stp t2)))))⟩
        · exact h2'.elim
      · exact h2'.elim
    · exact h1'.elim⟩⟩
/-- a, b = [.., ..] -/
def gL (n : Nat) (gs : List D → Env → Option Env) : GM := fun d r => match d with
  | .lst ds => if ds.length = n then gs ds r else none
  | _ => none
theorem mg_unl {es : List Expr} {k n : Nat} {ts : List Nat} {gs : List D → Env → Option Env} (hc : X.calm = true) (h : MGs X ct es ts gs) (hn : (assignEach es X.env).length = n := by rfl) (hst : (assignEach es X.env).findIdx? (·.1) = none := by rfl) : MG X ct (.Tuple es k pos) ts (gL n gs) :=
  ⟨fun G => (pg_unl hc (h.run G) hn hst).imp fun v s H Q ⟨r, S, io, d, k, rv, h⟩ => by
    cases rv with
    | lst h1 _ h2 =>
      unfold gL at h
      simp only at h
      split at h
      · rename_i r' e
        split at e
        · rename_i hl
          refine ⟨_, _, rfl, SqL.of h1, by rw [← h2.len]; exact hl, r, S, io, _, k, h2, ?_⟩
          rw [e]
          exact h
        · cases e
      · exact h.elim
    | _ => exact h.elim⟩
end
end Mv

set_option maxRecDepth 100000
set_option maxHeartbeats 2000000
/-! Mv20: sorted of pairs of ints, however they came to be -/
namespace Mv
open PySem PySem.Spec PyProof.Rows L2
def leP (p q : Int × Int) : Bool := !SrtO.lexB q p
theorem leP_iff {p q : Int × Int} : leP p q = true ↔ p.1 < q.1 ∨ (p.1 = q.1 ∧ p.2 ≤ q.2) := by
  unfold leP
  rw [Bool.not_eq_true', SrtO.lexB_no]
  omega
def sortP (ps : List (Int × Int)) : List (Int × Int) := ps.mergeSort leP
theorem sortP_perm (ps : List (Int × Int)) : (sortP ps).Perm ps := List.mergeSort_perm ps leP
theorem sortP_sorted (ps : List (Int × Int)) : (sortP ps).Pairwise fun p q => leP p q = true := List.pairwise_mergeSort (le := leP) (fun a b c h1 h2 => by
  rw [leP_iff] at *
  omega) (fun a b => by
  rw [Bool.or_eq_true, leP_iff, leP_iff]
  omega) ps
theorem leP_one {a b : List (Int × Int)} (p : a.Perm b) (ha : a.Pairwise fun p q => leP p q = true) (hb : b.Pairwise fun p q => leP p q = true) : a = b := by
  induction a generalizing b with
  | nil => exact (List.Perm.eq_nil p.symm).symm
  | cons x a ih =>
    cases b with
    | nil => exact absurd p.length_eq (by simp)
    | cons y b =>
      rw [List.pairwise_cons] at ha hb
      have e : x = y := by
        rcases List.mem_cons.mp (p.mem_iff.mp (List.mem_cons_self (a := x) (l := a))) with h | h
        · exact h
        · rcases List.mem_cons.mp (p.mem_iff.mpr (List.mem_cons_self (a := y) (l := b))) with h' | h'
          · exact h'.symm
          · have h1 := leP_iff.mp (hb.1 x h)
            have h2 := leP_iff.mp (ha.1 y h')
            exact Prod.ext (by omega) (by omega)
      subst e
      rw [ih (List.Perm.cons_inv p) ha.2 hb.2]
/-- x is the pair p -/
def PrV (K : PySem.W.Frag) (H : Hp) (x : V) (p : Int × Int) : Prop := ∃ t, x = .ref t ∧ SqT K H t [.int p.1, .int p.2]
def rSortPT (K : PySem.W.Frag) : List V → Hp → VK → Prop := fun vs H Q => ∃ (a : Addr) (xs : List V) (ps : List (Int × Int)), vs = [V.ref a] ∧ SqL K H a xs ∧ Paired (PrV K H) xs ps ∧
  ∀ ys l, Paired (PrV K H) ys (sortP ps) → H l = none → Q (.ref l) (upd H l (.lst ys))
theorem prv_inj {X : Cx} {pins : List (Addr × Obj)} {σ : St} {H : Hp} {s : Shared} (I : Inv X pins σ H s) {x : V} {p q : Int × Int} (h : PrV X.K H x p) (h' : PrV X.K H x q) : p = q := by
  obtain ⟨t, rfl, e⟩ := h
  obtain ⟨t', e', f⟩ := h'
  cases e'
  have := I.tuple_inj e f
  injection this with e1 e2
  injection e2 with e2 _
  exact Prod.ext (V.int.inj e1) (V.int.inj e2)
theorem paired_back {K : PySem.W.Frag} {H : Hp} (k : V → Int × Int) : ∀ {ys : List V}, (∀ y ∈ ys, PrV K H y (k y)) → Paired (PrV K H) ys (ys.map k)
  | [], _ => .nil
  | y :: ys, h => .cons (h y (.head _)) (paired_back k fun z hz => h z (.tail _ hz))
theorem cr_sortPT {X : Cx} : CallR X (.builtin "sorted") (rSortPT X.K) := by
  intro pins s σ H vs us Q I r h
  obtain ⟨a, xs, ps, rfl, hs, hp, q⟩ := h
  have ex : ∀ x : V, ∃ p : Int × Int, (∃ p', PrV X.K H x p') → PrV X.K H x p := fun x => by
    by_cases e : ∃ p', PrV X.K H x p'
    · obtain ⟨p, e⟩ := e
      exact ⟨p, fun _ => e⟩
    · exact ⟨(0, 0), fun z => absurd z e⟩
  obtain ⟨k, hk⟩ := Classical.axiomOfChoice ex
  have hx : ∀ {xs : List V} {ps : List (Int × Int)}, Paired (PrV X.K H) xs ps → (∀ x ∈ xs, PrV X.K H x (k x)) ∧ xs.map k = ps := by
    intro xs ps hp
    induction hp with
    | nil => exact ⟨fun x hx => absurd hx (by simp), rfl⟩
    | @cons x p xs ps h1 h2 ih =>
      have h3 := hk x ⟨p, h1⟩
      refine ⟨fun y hy => ?_, ?_⟩
      · rcases List.mem_cons.mp hy with rfl | hy
        · exact h3
        · exact ih.1 y hy
      · rw [List.map_cons, ih.2, prv_inj I h3 h1]
  obtain ⟨hx1, hx2⟩ := hx hp
  obtain ⟨its, rv, hl, hz⟩ := I.list hs
  obtain ⟨u, rfl, ru⟩ := vals1 r
  obtain rfl : u = Value.ref a := ru
  obtain ⟨e1, e2⟩ := refs_back rv fun x m => by
    obtain ⟨t, e, _⟩ := hx1 x m
    exact ⟨t, e⟩
  refine SrtO.sorted_pairsO (k := fun u => k (backV u)) hl.isList (by rw [← rv.length]; exact hz) (fun v hv => ?_) fun h' d out h1 h2 kp hd hn => ?_
  · obtain ⟨t, rfl⟩ := e2 v hv
    have hm : V.ref t ∈ xs := by rw [e1]; exact List.mem_map.mpr ⟨_, hv, rfl⟩
    obtain ⟨t', e, ht⟩ := hx1 _ hm
    cases e
    obtain ⟨its2, r2, ⟨o, ho, hc, n, hd⟩, _⟩ := I.tuple ht
    obtain ⟨u1, u2, rfl, ri, rj⟩ := vals2 r2
    obtain ⟨t1, rfl⟩ := ri
    obtain ⟨t2, rfl⟩ := rj
    exact ⟨t, o, t1, t2, n, rfl, ho, hc, hd⟩
  · have h3 : ∀ u ∈ out, ∃ a, u = Value.ref a := fun u hu => e2 u (h2.perm.mem_iff.mp hu)
    obtain ⟨n, hn⟩ := hn
    have hb : SrtO.Stb (ltP k) (out.map backV) xs := by
      rw [e1]
      exact SrtO.Stb.map (ltP_swo k) backV h2
    have hs2 : SrtO.Srtd (ltP k) (out.map backV) := SrtO.srtd_map h1
    have hy : ∀ y ∈ out.map backV, PrV X.K H y (k y) := fun y hy => hx1 y (hb.perm.mem_iff.mp hy)
    have eq : (out.map backV).map k = sortP ps := by
      refine leP_one ?_ ?_ (sortP_sorted ps)
      · rw [← hx2]
        exact (hb.perm.map k).trans (sortP_perm _).symm
      · rw [List.pairwise_map]
        refine hs2.imp fun {p q} h => ?_
        show (!SrtO.lexB (k q) (k p)) = true
        rw [show SrtO.lexB (k q) (k p) = false from h]
        rfl
    refine ⟨.ref d, upd H d (.lst (out.map backV)), I.laid (t' := s.toks) kp hd ⟨?_, out, n, vals_back h3, hn⟩, rfl, q _ d (by rw [← eq]; exact paired_back k hy) (I.hok.fresh hd)⟩
    rw [hb.len]
    exact hz
def pairsOf : List D → Option (List (Int × Int))
  | [] => some []
  | .tup [.int i, .int j] :: ds => (pairsOf ds).map fun ps => (i, j) :: ps
  | _ => none
def pD (p : Int × Int) : D := .tup [.int p.1, .int p.2]
section
variable {K : PySem.W.Frag} {ct : CT} {M : Addr → Prop} {io : List Addr} {H : Hp}
theorem pairs_eq : ∀ {ds : List D} {ps : List (Int × Int)}, pairsOf ds = some ps → ds = ps.map pD
  | [], ps, e => by
    unfold pairsOf at e
    cases e
    rfl
  | d :: ds, ps, e => by
    unfold pairsOf at e
    split at e
    · rename_i heq
      cases heq
    · rename_i i j ds' heq
      cases heq
      obtain ⟨qs, e1, rfl⟩ := Option.map_eq_some_iff.mp e
      rw [pairs_eq e1]
      rfl
    · cases e
theorem pairs_of : ∀ ps : List (Int × Int), pairsOf (ps.map pD) = some ps
  | [] => rfl
  | p :: ps => by
    show (pairsOf (ps.map pD)).map _ = _
    rw [pairs_of ps]
    rfl
theorem reps_prv : ∀ {ps : List (Int × Int)} {vs : List V}, Reps K M io H (ps.map pD) vs → Paired (PrV K H) vs ps
  | [], _, h => by
    cases h
    exact .nil
  | p :: ps, _, h => by
    cases h with
    | cons h1 h2 =>
      refine .cons ?_ (reps_prv h2)
      cases h1 with
      | @tup a vs _ h3 h4 =>
        have := Reps.ints (is := [p.1, p.2]) h4
        subst this
        exact ⟨a, rfl, h3⟩
theorem prv_reps {ps : List (Int × Int)} {vs : List V} (h : Paired (PrV K H) vs ps) : Reps K M io H (ps.map pD) vs := by
  induction h with
  | nil => exact .nil
  | @cons x p xs ps h1 h2 ih =>
    obtain ⟨t, rfl, e⟩ := h1
    exact .cons (.tup e (.cons (.int _) (.cons (.int _) .nil))) ih
def gSortP : List (Fl × D) → Option (D × Fl) := fun as => match as with
  | [(_, .lst ds)] => (pairsOf ds).map fun ps => (.lst ((sortP ps).map pD), .n)
  | _ => none
theorem ok_sortP : CalOk K ct (rSortPT K) gSortP := by
  intro M N io S H vs as res Q o q md e w
  unfold gSortP at e
  split at e
  · rename_i f ds
    obtain ⟨ps, e1, rfl⟩ := Option.map_eq_some_iff.mp e
    obtain ⟨v, rfl, r⟩ := args1 o
    obtain ⟨a, us, rfl, h1, h2⟩ := lst_of r
    rw [pairs_eq e1] at h2
    refine ⟨a, us, ps, rfl, SqL.of h1, reps_prv h2, fun ys l hy hl => w _ _ (Stp.upd hl) (new_lst hl hl md q (prv_reps hy))⟩
  · cases e
end
end Mv

set_option maxRecDepth 100000
set_option maxHeartbeats 2000000
/-! Mv21: a walk over the items of a dict of one's own; moving what is one's own; a display of one pair; `in` of dicts; pairs compared; dict(d) -/
namespace Mv
open PySem PySem.Spec PyProof.Rows L2
section
variable {K : PySem.W.Frag} {ct : CT} {M N : Addr → Prop} {io : List Addr} {H : Hp} {a : Addr} {od : Obj} {kvs : List (Key × V)}
mutual
theorem Rep.av (h : H a = some (.frz od (.dK kvs))) : ∀ {d : D} {v : V}, Rep K M io H d v → Rep K (fun b => M b ∨ b = a) io H d v
  | _, _, .non => .non
  | _, _, .bl b => .bl b
  | _, _, .int i => .int i
  | _, _, .str z => .str z
  | _, _, .lst e n r => .lst e (fun z => z.elim n fun q => by subst q; rw [h] at e; cases e) (Reps.av h r)
  | _, _, .frz e r => .frz (e.elim (fun e => .inl ⟨e.1, fun z => z.elim e.2 fun q => by
      subst q
      rcases e.1 with e | ⟨o, e⟩
      · rw [h] at e; cases e
      · rw [h] at e; cases e⟩) .inr) (Reps.av h r)
  | _, _, .tup e r => .tup e (Reps.av h r)
  | _, _, .dic e n q r => .dic e (fun z => z.elim n fun q => by subst q; rw [h] at e; cases e) q (Reps.av h r)
  | _, _, .ins e => .ins e
  | _, _, .cst => .cst
theorem Reps.av (h : H a = some (.frz od (.dK kvs))) : ∀ {d : List D} {v : List V}, Reps K M io H d v → Reps K (fun b => M b ∨ b = a) io H d v
  | _, _, .nil => .nil
  | _, _, .cons r t => .cons (Rep.av h r) (Reps.av h t)
end
end
section
variable {K : PySem.W.Frag} {ct : CT} {G : Gx} {r : Env} {S : Store} {io : List Addr} {s : St} {H : Hp} {i : Nat} {ks : List Key} {xs : List D} {a : Addr} {od : Obj} {kvs : List (Key × V)}
/-- the thing at a is locked -/
def Gx.lock (G : Gx) (a : Addr) (o : HO) : Gx := { G with M0 := fun x => G.M0 x ∨ x = a, H0 := upd G.H0 a o }
theorem frz_not_im : ¬ Im (.frz od (.dK kvs)) := fun h => by
  rcases h with ⟨_, h⟩ | ⟨_, _, h⟩ | ⟨_, h⟩ | ⟨_, h⟩ <;> cases h
theorem Ok.lock (k : Ok K ct G r S io s H) (e : r[i]? = some (.own (.dic ks xs))) (ea : s[i]? = some (some (V.ref a))) (hH : H a = some (.dK kvs)) : Ok K ct (G.lock a (.frz od (.dK kvs))) (r.set i .no) S io s (upd H a (.frz od (.dK kvs))) := by
  obtain ⟨a', e1, ow, m0, n0, h0⟩ := k.own i _ e
  rw [ea] at e1
  cases e1
  have mo : ∀ {x}, Mown (G.lock a (.frz od (.dK kvs))) (r.set i .no) s x → Mown G r s x ∧ x ≠ a := fun {x} h => by
    rcases h with h | ⟨j, u, h1, h2⟩
    · exact ⟨.inl h, fun z => n0 (z ▸ h)⟩
    · rcases get_set h1 with ⟨rfl, q, _⟩ | ⟨hj, q⟩
      · cases q
      · exact ⟨.inr ⟨j, u, q, h2⟩, fun z => hj (k.inj j i u _ a q e (z ▸ h2) ea).symm⟩
  have ma : Mown G r s a := .inr ⟨i, _, e, ea⟩
  have ml : ∀ {x}, Mall (G.lock a (.frz od (.dK kvs))) (r.set i .no) s x → Mall G r s x := fun {x} h => by
    rcases h with (h | h) | h
    · exact .inl h
    · exact .inr (h ▸ ma)
    · exact .inr (mo h).1
  have kp : ∀ N : Addr → Prop, N a → Kp N H (upd H a (.frz od (.dK kvs))) := fun N na b u q ni z => by
    rw [upd_ne]
    · exact q
    · rintro rfl
      rcases z with z | z
      · exact z na
      · rw [hH] at q
        cases q
        exact not_im_dK z
  have ne : ∀ {b o}, H b = some o → (∀ l, o ≠ .dK l) → b ≠ a := fun q n z => by
    subst z
    rw [hH] at q
    cases q
    exact n _ rfl
  refine ⟨by rw [List.length_set]; exact k.len, fun j f u q => ?_, fun j u q => ?_, fun j j' u u' b q q' z z' => ?_, ?_, ?_, fun b h => ?_, fun b h => ?_, fun p hp => ?_, k.dp.gen (M := Mown G r s) rfl (fun _ z => z) (dp_set0 fun _ _ z => by cases z) (kp _ ma) (fun b o nb _ q _ => by rw [upd_ne (show b ≠ a from fun z => n0 (z ▸ nb))]; exact q) io_refl⟩
  · rcases get_set q with ⟨rfl, q, _⟩ | ⟨hj, q⟩
    · cases q
    · obtain ⟨v, h1, h2⟩ := k.arg j f u q
      exact ⟨v, h1, h2.mono (kp _ (.inr ma)) (kp _ ma) (fun _ _ n z => n (ml z)) (fun _ _ n z => n (mo z).1) io_refl⟩
  · rcases get_set q with ⟨rfl, q, _⟩ | ⟨hj, q⟩
    · cases q
    · obtain ⟨b, h1, h2, h3, h4, h5⟩ := k.own j u q
      have nb : b ≠ a := fun z => hj (k.inj j i u _ a q e (z ▸ h1) ea).symm
      refine ⟨b, h1, h2.mono (kp _ (.inr ma)) (fun _ _ n z => n (ml z)) io_refl fun o q _ => by rw [upd_ne nb]; exact q, fun z => z.elim h3 nb, h4, ?_⟩
      show (upd G.H0 a _) b = none
      rw [upd_ne nb]
      exact h5
  · rcases get_set q with ⟨rfl, q, _⟩ | ⟨hj, q⟩
    · cases q
    · rcases get_set q' with ⟨rfl, q', _⟩ | ⟨hj', q'⟩
      · cases q'
      · exact k.inj j j' u u' b q q' z z'
  · exact k.sto.mono (kp _ (.inr ma)) (fun _ _ n z => n (ml z)) (fun b C dx fs _ q => by rw [upd_ne (ne q fun _ z => by cases z)]; exact q) fun b ps q => by rw [upd_ne (ne q fun _ z => by cases z)]; exact q
  · have T := k.stp
    have hn : ∀ {b o}, G.H0 b = some o → b ≠ a := fun q z => by
      subst z
      rw [h0] at q
      cases q
    refine ⟨fun b o q n => ?_, fun b o q n nt => ?_, T.pre, fun b z n => ?_, fun b o q => ?_, fun pu b o q => by
      by_cases hb : b = a
      · subst hb
        have q : (upd G.H0 b (HO.frz od (.dK kvs))) b = some o := q
        rw [upd_same] at q ⊢
        exact q
      · have q : (upd G.H0 a (HO.frz od (.dK kvs))) b = some o := q
        rw [upd_ne hb] at q ⊢
        exact T.k3 pu b o q⟩
    · by_cases hb : b = a
      · subst hb
        have q : (upd G.H0 b (HO.frz od (.dK kvs))) b = some o := q
        rw [upd_same] at q ⊢
        exact q
      · have q : (upd G.H0 a (HO.frz od (.dK kvs))) b = some o := q
        rw [upd_ne hb] at q ⊢
        exact T.k1 b o q n
    · by_cases hb : b = a
      · subst hb
        have q : (upd G.H0 b (HO.frz od (.dK kvs))) b = some o := q
        rw [upd_same] at q ⊢
        exact q
      · have q : (upd G.H0 a (HO.frz od (.dK kvs))) b = some o := q
        rw [upd_ne hb] at q ⊢
        exact T.k2 b o q n nt
    · have hb : b ≠ a := fun y => by
        subst y
        obtain ⟨n', hn'⟩ := List.getElem?_of_mem z
        have hl := (List.getElem?_eq_some_iff.mp hn').1
        rw [← k.sto.len] at hl
        obtain ⟨a2, o2, q1, q2⟩ := k.sto.io_at hl
        rw [hn'] at q1
        cases q1
        cases hx : ct.ex (S[n']'hl).1 with
        | false =>
          obtain ⟨a3, dx, gs, w1, w2, _⟩ := k.sto.at_ n' _ _ (List.getElem?_eq_getElem hl) hx
          rw [hn'] at w1
          cases w1
          rw [hH] at w2
          cases w2
        | true =>
          obtain ⟨a3, d3, w1, w2, _⟩ := k.sto.ax n' _ _ (List.getElem?_eq_getElem hl) hx
          rw [hn'] at w1
          cases w1
          rw [hH] at w2
          cases w2
      show (upd G.H0 a _) b = none
      rw [upd_ne hb]
      exact T.new b z n
    · by_cases hb : b = a
      · subst hb
        exact ⟨_, upd_same⟩
      · have q : (upd G.H0 a (HO.frz od (.dK kvs))) b = some o := q
        rw [upd_ne hb] at q
        obtain ⟨o', q'⟩ := T.dom b o q
        exact ⟨o', by rw [upd_ne hb]; exact q'⟩
  · rcases h with h | rfl
    · obtain ⟨o, q, n⟩ := k.m0 b h
      exact ⟨o, by rw [upd_ne (show b ≠ a from fun z => m0 (z ▸ h))]; exact q, n⟩
    · exact ⟨_, upd_same, NI.frz⟩
  · obtain ⟨o, ⟨h1, h1'⟩, h2, h3, h4⟩ := k.n0 b h
    have nb : b ≠ a := fun z => n0 (z ▸ h)
    refine ⟨o, ⟨by rw [upd_ne nb]; exact h1, h1'⟩, fun z => z.elim h2 nb, ?_, h4⟩
    show (upd G.H0 a _) b = none
    rw [upd_ne nb]
    exact h3
  · exact (k.held p hp).mono (kp _ (.inr ma)) (kp _ ma) (fun _ _ n z => n (ml z)) (fun _ _ n z => n (mo z).1) io_refl
theorem Ok.unlock (h0 : G.H0 a = none) (m0 : ¬ G.M0 a) (n0 : ¬ G.N0 a) (k : Ok K ct (G.lock a (.frz od (.dK kvs))) r S io s H) : Ok K ct G r S io s (upd H a (.dK kvs)) := by
  have hf : H a = some (.frz od (.dK kvs)) := k.stp.k1 a _ upd_same NI.frz
  have mo : Mown (G.lock a (.frz od (.dK kvs))) r s = Mown G r s := rfl
  have ml : ∀ {x}, Mall G r s x → Mall (G.lock a (.frz od (.dK kvs))) r s x := fun {x} h => h.elim (fun h => .inl (.inl h)) .inr
  have ma : Mall (G.lock a (.frz od (.dK kvs))) r s a := .inl (.inr rfl)
  have kp : ∀ N : Addr → Prop, N a → Kp N H (upd H a (.dK kvs)) := fun N na b u q ni z => by
    rw [upd_ne]
    · exact q
    · rintro rfl
      rcases z with z | z
      · exact z na
      · rw [hf] at q
        cases q
        exact frz_not_im z
  have ne : ∀ {b o}, H b = some o → o ≠ .frz od (.dK kvs) → b ≠ a := fun q n z => by
    subst z
    rw [hf] at q
    cases q
    exact n rfl
  have hn : ∀ {b o}, G.H0 b = some o → b ≠ a := fun q z => by
    subst z
    rw [h0] at q
    cases q
  have ar : ∀ {f d v}, ArgF K (Mall (G.lock a (.frz od (.dK kvs))) r s) (Mown G r s) io H f d v → ArgF K (Mall G r s) (Mown G r s) io (upd H a (.dK kvs)) f d v := fun {f d v} h => by
    have m : ∀ b, (∃ o, H b = some o) → ¬ Mall (G.lock a (.frz od (.dK kvs))) r s b → ¬ Mall G r s b := fun b _ n z => n (ml z)
    have go : (Rep K (Mall (G.lock a (.frz od (.dK kvs))) r s) io H d v ∨ ∃ b, v = .ref b ∧ OwnAt K (Mall (G.lock a (.frz od (.dK kvs))) r s) io H d b ∧ ¬ Mown G r s b) → (Rep K (Mall G r s) io (upd H a (.dK kvs)) d v ∨ ∃ b, v = .ref b ∧ OwnAt K (Mall G r s) io (upd H a (.dK kvs)) d b ∧ ¬ Mown G r s b) := fun h => by
      rcases h with h | ⟨b, e, h, z⟩
      · exact .inl (Rep.mono (kp _ ma) m io_refl h)
      · refine .inr ⟨b, e, h.mono (kp _ ma) m io_refl fun o q _ => ?_, z⟩
        rw [upd_ne]
        · exact q
        · rcases h with ⟨_, _, _, w, _⟩ | ⟨_, _, _, _, w, _⟩
          · exact ne w fun z => by cases z
          · exact ne w fun z => by cases z
    cases f with
    | c => exact Rep.mono (kp _ ma) m io_refl h
    | n => exact Rep.mono (kp _ ma) m io_refl h
    | b => exact go h
    | o => exact go h
    | t => exact Rep.mono (kp _ (.inr rfl)) (fun b _ n z => n (.inl z)) io_refl (Rep.av hf h)
  refine ⟨k.len, fun j f u q => ?_, fun j u q => ?_, k.inj, ?_, ?_, fun b h => ?_, fun b h => ?_, fun p hp => ar (k.held p hp), k.dp.gen rfl (fun _ z => z) (fun _ _ _ e => ⟨e, rfl⟩) (kp _ ma) (fun b o nb _ q _ => by rw [upd_ne (show b ≠ a from fun z => n0 (z ▸ nb))]; exact q) io_refl⟩
  · obtain ⟨v, h1, h2⟩ := k.arg j f u q
    exact ⟨v, h1, ar h2⟩
  · obtain ⟨b, h1, h2, h3, h4, h5⟩ := k.own j u q
    have nb : b ≠ a := fun z => h3 (.inr z)
    have h5 : (upd G.H0 a _) b = none := h5
    rw [upd_ne nb] at h5
    exact ⟨b, h1, h2.mono (kp _ ma) (fun _ _ n z => n (ml z)) io_refl fun o q _ => by rw [upd_ne nb]; exact q, fun z => h3 (.inl z), h4, h5⟩
  · exact k.sto.mono (kp _ ma) (fun _ _ n z => n (ml z)) (fun b C dx fs _ q => by rw [upd_ne (ne q fun z => by cases z)]; exact q) fun b ps q => by rw [upd_ne (ne q fun z => by cases z)]; exact q
  · have T := k.stp
    refine ⟨fun b o q n => ?_, fun b o q n nt => ?_, T.pre, fun b z n => ?_, fun b o q => ?_, fun pu b o q => by
      have nb := hn q
      rw [upd_ne nb]
      exact T.k3 pu b o (by show (upd G.H0 a _) b = some o; rw [upd_ne nb]; exact q)⟩
    · have nb := hn q
      rw [upd_ne nb]
      exact T.k1 b o (by show (upd G.H0 a _) b = some o; rw [upd_ne nb]; exact q) n
    · have nb := hn q
      rw [upd_ne nb]
      exact T.k2 b o (by show (upd G.H0 a _) b = some o; rw [upd_ne nb]; exact q) n nt
    · have q : (upd G.H0 a (HO.frz od (.dK kvs))) b = none := T.new b z n
      by_cases hb : b = a
      · subst hb
        exact h0
      · rw [upd_ne hb] at q
        exact q
    · have nb := hn q
      obtain ⟨o', q'⟩ := T.dom b o (by show (upd G.H0 a _) b = some o; rw [upd_ne nb]; exact q)
      exact ⟨o', by rw [upd_ne nb]; exact q'⟩
  · obtain ⟨o, q, n⟩ := k.m0 b (.inl h)
    exact ⟨o, by rw [upd_ne (show b ≠ a from fun z => m0 (z ▸ h))]; exact q, n⟩
  · obtain ⟨o, ⟨h1, h1'⟩, h2, h3, h4⟩ := k.n0 b h
    have nb : b ≠ a := fun z => n0 (z ▸ h)
    have h3 : (upd G.H0 a _) b = none := h3
    rw [upd_ne nb] at h3
    exact ⟨o, ⟨by rw [upd_ne nb]; exact h1, h1'⟩, fun z => h2 (.inl z), h3, h4⟩
end
/-! ### for k, x in d.items(), d one's own -/
def itemsD : List Key → List D → List D
  | k :: ks, x :: xs => .tup [kD k, x] :: itemsD ks xs
  | _, _ => []
theorem itemsD_len : ∀ (ks : List Key) (xs : List D), ks.length = xs.length → (itemsD ks xs).length = ks.length
  | [], [], _ => rfl
  | k :: ks, x :: xs, h => by
    show (itemsD ks xs).length + 1 = ks.length + 1
    rw [itemsD_len ks xs (by simpa using h)]
  | [], _ :: _, h => by cases h
  | _ :: _, [], h => by cases h
theorem itemsD_get : ∀ (ks : List Key) (xs : List D) (j : Nat) (k : Key) (x : D), ks[j]? = some k → xs[j]? = some x → (itemsD ks xs)[j]? = some (.tup [kD k, x])
  | k' :: ks, x' :: xs, 0, k, x, h1, h2 => by
    cases h1
    cases h2
    rfl
  | k' :: ks, x' :: xs, j + 1, k, x, h1, h2 => itemsD_get ks xs j k x h1 h2
  | [], _, _, _, _, h1, _ => by simp at h1
  | _ :: _, [], _, _, _, _, h2 => by simp at h2
def sItm (i : Nat) (g : GM) (b : SM) : SM := fun r S => match r[i]? with
  | some (.own (.dic ks xs)) => match forL g b (itemsD ks xs) (r.set i .no) S with
    | .nx r' S' => .nx r' S'
    | _ => .no
  | _ => .no
section
variable {X : Cx} {ct : CT} {pos : Pos}
theorem ms_itm {i kk : Nat} {y : Str} {p apos cpos tpos : Pos} {elts : List Expr} {body : List Stmt} {ts : List Nat} {g : GM} {b : SM} (hc : X.calm = true) (hx : PE X (.Name y p) (tVar i)) (hg : MG X ct (.Tuple elts kk tpos) ts g) (hb : MSs X ct body b)
    (hbase : attributeBase (.Name y p) "items" X.env (eval (.Name y p) X.env) = eval (.Name y p) X.env := by rfl) (hline : (apos.endLine == cpos.line) = true := by rfl)
    (hs : ∀ x, foldedSetIterable (.Call (.Attribute (.Name y p) "items" apos) [] [] cpos) X.env x = pure x := by intro _; rfl) : MS X ct (.For (.Tuple elts kk tpos) (.Call (.Attribute (.Name y p) "items" apos) [] [] cpos) body [] pos) (sItm i g b) := by
  refine ⟨fun G W tk po => (ps_lock (ps_for po hc (pi_items hx hbase hline) (PG.ex fun G' : Gx => hg.run G') (PSs.ex fun G' : Gx => hb.run G' W tk po) hs)).imp fun De s H h => ?_⟩
  obtain ⟨r, S, io, k, h⟩ := h
  unfold sItm at h
  split at h
  · rename_i ks xs e
    obtain ⟨a, ea, ow, m0, n0, h0⟩ := k.own i _ e
    obtain ⟨kvs, hH, rfl, hr⟩ := own_dic ow
    refine ⟨a, .dK kvs, hH, trivial, fun od => ⟨.ref a, ea, a, od, kvs, rfl, upd_same, ?_⟩⟩
    have kl := k.lock (od := od) e ea hH
    have ekl : (itemsD (kvs.map Prod.fst) xs).length = kvs.length := by
      rw [itemsD_len _ _ (by rw [List.length_map, hr.len, List.length_map]), List.length_map]
    -- the values of the dict are held
    have hv : ∀ p ∈ (List.zipWith (fun x (v : V) => (Fl.c, x, v)) xs (kvs.map Prod.snd)), ArgF X.K (Mall (G.lock a (.frz od (.dK kvs))) (r.set i .no) s) (Mown (G.lock a (.frz od (.dK kvs))) (r.set i .no) s) io (upd H a (.frz od (.dK kvs))) p.1 p.2.1 p.2.2 := fun p hp => by
      obtain ⟨j, hj⟩ := List.getElem?_of_mem hp
      rw [List.getElem?_zipWith] at hj
      have ex : ∃ x v, xs[j]? = some x ∧ (kvs.map Prod.snd)[j]? = some v ∧ p = (Fl.c, x, v) := by
        cases q1 : xs[j]? with
        | none => rw [q1] at hj; cases hj
        | some x =>
          cases q2 : (kvs.map Prod.snd)[j]? with
          | none => rw [q1, q2] at hj; cases hj
          | some v =>
            rw [q1, q2] at hj
            cases hj
            exact ⟨x, v, rfl, rfl, rfl⟩
      obtain ⟨x, v, q1, q2, rfl⟩ := ex
      obtain ⟨v', q3, q4⟩ := hr.get q1
      rw [q2] at q3
      cases q3
      -- a value of one's own dict does not hold what is one's own
      refine Rep.mono (M := Mall G r s) (fun b u q ni z => ?_) (fun b _ n z => n ?_) io_refl q4
      · rw [upd_ne]
        · exact q
        · rintro rfl
          rcases z with z | z
          · exact z (.inr (.inr ⟨i, _, e, ea⟩))
          · rw [hH] at q
            cases q
            exact not_im_dK z
      · rcases z with (z | z) | z
        · exact .inl z
        · exact .inr (.inr ⟨i, _, e, z ▸ ea⟩)
        · rcases z with z | ⟨j, u, z1, z2⟩
          · exact .inr (.inl z)
          · rcases get_set z1 with ⟨_, z1, _⟩ | ⟨_, z1⟩
            · cases z1
            · exact .inr (.inr ⟨j, u, z1, z2⟩)
    have kh := kl.hold hv
    generalize hhv : List.zipWith (fun x (v : V) => (Fl.c, x, v)) xs (kvs.map Prod.snd) = held at *
    generalize hds : itemsD (kvs.map Prod.fst) xs = ds at *
    have hfin : ∀ {r' S' s' io' H'}, Ok X.K ct { G.lock a (.frz od (.dK kvs)) with held := held ++ (G.lock a (.frz od (.dK kvs))).held } r' S' io' s' H' → H' a = some (.frz od (.dK kvs)) := fun k' => k'.stp.k1 a _ upd_same NI.frz
    have h1 : ∃ r1 S1, forL g b ds (r.set i .no) S = .nx r1 S1 ∧ SRes X.K ct G W De (.nx r1 S1) := by
      cases q : forL g b ds (r.set i .no) S with
      | nx r1 S1 => rw [q] at h; exact ⟨r1, S1, rfl, h⟩
      | ct r1 S1 => rw [q] at h; exact h.elim
      | bk r1 S1 => rw [q] at h; exact h.elim
      | rt d f S1 => rw [q] at h; exact h.elim
      | er c p r1 S1 => rw [q] at h; exact h.elim
      | no => rw [q] at h; exact h.elim
    obtain ⟨r1, S1, q1, h1⟩ := h1
    have h2 : SRes X.K ct (G.lock a (.frz od (.dK kvs))) W ⟨fun σ' H' => H' a = some (.frz od (.dK kvs)) ∧ De.nx σ' (upd H' a (.dK kvs)), fun v H' => H' a = some (.frz od (.dK kvs)) ∧ De.rt v (upd H' a (.dK kvs)), fun σ' H' => H' a = some (.frz od (.dK kvs)) ∧ De.bk σ' (upd H' a (.dK kvs)), fun σ' H' => H' a = some (.frz od (.dK kvs)) ∧ De.ct σ' (upd H' a (.dK kvs))⟩ (forL g b ds (r.set i .no) S) := by
      rw [q1]
      exact fun s' io' H' k' => ⟨k'.stp.k1 a _ upd_same NI.frz, h1 s' io' _ (k'.unlock h0 m0 n0)⟩
    generalize (⟨fun σ' H' => H' a = some (.frz od (.dK kvs)) ∧ De.nx σ' (upd H' a (.dK kvs)), fun v H' => H' a = some (.frz od (.dK kvs)) ∧ De.rt v (upd H' a (.dK kvs)), fun σ' H' => H' a = some (.frz od (.dK kvs)) ∧ De.bk σ' (upd H' a (.dK kvs)), fun σ' H' => H' a = some (.frz od (.dK kvs)) ∧ De.ct σ' (upd H' a (.dK kvs))⟩ : Ends) = D1 at *
    have w := walk_items (d := a) (o := od) (kvs := kvs)
    refine ⟨fun j m s H => m = ds.length - j ∧ j ≤ ds.length ∧ ∃ r S io, Ok X.K ct { G.lock a (.frz od (.dK kvs)) with held := held ++ (G.lock a (.frz od (.dK kvs))).held } r S io s H ∧ SRes X.K ct (G.lock a (.frz od (.dK kvs))) W D1 (forL g b (ds.drop j) r S), ⟨_, rfl, Nat.zero_le _, _, S, io, kh, h2⟩, fun j m s H ⟨hm, hj, r, S, io, k, h⟩ => ?_⟩
    by_cases hlt : j < ds.length
    · refine .inr ⟨w.goes j H (by omega) (hfin k), fun s' H' => ∃ r S io, Ok X.K ct { G.lock a (.frz od (.dK kvs)) with held := held ++ (G.lock a (.frz od (.dK kvs))).held } r S io s' H' ∧ SRes X.K ct (G.lock a (.frz od (.dK kvs))) W D1 (forL g b (ds.drop (j + 1)) r S), fun s' H' n => ⟨ds.length - (j + 1), by omega, rfl, hlt, n⟩, fun x H' y => ?_⟩
      obtain ⟨T, kx, vx, rfl, nT, rfl, e1, e2⟩ := w.yields j H x H' (by omega) (hfin k) y
      have hjk : j < kvs.length := by omega
      dsimp only at e1 e2
      rw [List.getElem?_eq_getElem hjk] at e1 e2
      cases e1
      cases e2
      have gv : (kvs.map Prod.snd)[j]? = some kvs[j].2 := by rw [List.getElem?_map, List.getElem?_eq_getElem hjk]; rfl
      have gk : (kvs.map Prod.fst)[j]? = some kvs[j].1 := by rw [List.getElem?_map, List.getElem?_eq_getElem hjk]; rfl
      obtain ⟨d, gd, _⟩ := hr.getV gv
      have hd : ds[j]? = some (.tup [kD kvs[j].1, d]) := by
        rw [← hds]
        exact itemsD_get _ _ _ _ _ gk gd
      have rd : Rep X.K (Mall (G.lock a (.frz od (.dK kvs))) r s) io H d kvs[j].2 := k.held (Fl.c, d, kvs[j].2) (List.mem_append_left _ (by
        rw [← hhv]
        refine List.mem_of_getElem? (i := j) ?_
        rw [List.getElem?_zipWith, gd, gv]))
      have ed : ds.drop j = .tup [kD kvs[j].1, d] :: ds.drop (j + 1) := by
        rw [List.drop_eq_getElem_cons hlt]
        rw [List.getElem?_eq_getElem hlt] at hd
        rw [Option.some.inj hd]
      rw [ed] at h
      have k' := k.step (Stp.upd nT) (k.sto.upd nT (o := .tup [kV kvs[j].1, kvs[j].2]))
      have rk : Rep X.K (Mall (G.lock a (.frz od (.dK kvs))) r s) io (upd H T (.tup [kV kvs[j].1, kvs[j].2])) (kD kvs[j].1) (kV kvs[j].1) := by
        cases kvs[j].1 with
        | inl i => exact .int i
        | inr z => exact .str z
      refine ⟨{ G.lock a (.frz od (.dK kvs)) with held := held ++ (G.lock a (.frz od (.dK kvs))).held }, r, S, io, _, k', .tup (SqT.of upd_same) (.cons rk (.cons (rd.stp (Stp.upd (ct := ct) nT)) .nil)), ?_⟩
      unfold forL at h
      cases e2 : g (.tup [kD kvs[j].1, d]) r with
      | none => rw [e2] at h; exact h
      | some r1 =>
        rw [e2] at h
        intro s2 _ _ k2
        refine ⟨{ G.lock a (.frz od (.dK kvs)) with held := held ++ (G.lock a (.frz od (.dK kvs))).held }, r1, S, io, k2, ?_⟩
        have h : SRes X.K ct (G.lock a (.frz od (.dK kvs))) W D1 (match b r1 S with
          | .nx r' S' => forL g b (ds.drop (j + 1)) r' S'
          | .ct r' S' => forL g b (ds.drop (j + 1)) r' S'
          | .bk r' S' => .nx r' S'
          | x => x) := h
        cases e3 : b r1 S with
        | nx r' S' => rw [e3] at h; exact fun s' io' H' k' => ⟨r', S', io', k', h⟩
        | ct r' S' => rw [e3] at h; exact fun s' io' H' k' => ⟨r', S', io', k', h⟩
        | bk r' S' => rw [e3] at h; exact fun s' io' H' k' => h s' io' H' k'.drop
        | rt d f S' => rw [e3] at h; exact h
        | er c p r' S' => rw [e3] at h; exact fun dx s' io' H' k' e => h dx s' io' H' k'.drop e
        | no => rw [e3] at h; exact h
    · have ei : j = ds.length := by omega
      subst ei
      have hs2 := w.stops H (hfin k)
      rw [← ekl] at hs2
      refine .inl ⟨hs2, ?_⟩
      rw [List.drop_length] at h
      exact h s io H k.drop
  · exact h.elim
end
/-! ### x = y, y one's own: it is x's own from now on, y is known no more -/
section
variable {K : PySem.W.Frag} {ct : CT} {G : Gx} {r : Env} {S : Store} {io : List Addr} {s : St} {H : Hp} {i j : Nat} {d : D} {a : Addr}
theorem Ok.move (k : Ok K ct G r S io s H) (e : r[j]? = some (.own d)) (ea : s[j]? = some (some (V.ref a))) (hij : i ≠ j) (hi : i < r.length) : Ok K ct G ((r.set j .no).set i (.own d)) S io (s.set i (some (V.ref a))) H := by
  obtain ⟨a', e1, ow, m0, n0, h0⟩ := k.own j _ e
  rw [ea] at e1
  cases e1
  have at_ : ∀ {l u}, ((r.set j .no).set i (.own d))[l]? = some u → (l = i ∧ u = .own d) ∨ (l ≠ i ∧ l ≠ j ∧ r[l]? = some u) ∨ (l ≠ i ∧ u = .no) := fun {l u} q => by
    rcases get_set q with ⟨rfl, q, _⟩ | ⟨hl, q⟩
    · exact .inl ⟨rfl, q.symm⟩
    · rcases get_set q with ⟨rfl, q, _⟩ | ⟨hl', q⟩
      · exact .inr (.inr ⟨fun z => hl z.symm, q.symm⟩)
      · exact .inr (.inl ⟨fun z => hl z.symm, fun z => hl' z.symm, q⟩)
  have sl : i < s.length := by rw [← k.len]; exact hi
  have si : (s.set i (some (V.ref a)))[i]? = some (some (V.ref a)) := List.getElem?_set_self sl
  have sn : ∀ {l}, l ≠ i → (s.set i (some (V.ref a)))[l]? = s[l]? := fun h => List.getElem?_set_ne fun z => h z.symm
  have mo : ∀ {x}, Mown G ((r.set j .no).set i (.own d)) (s.set i (some (V.ref a))) x → Mown G r s x := fun {x} h => by
    rcases h with h | ⟨l, u, h1, h2⟩
    · exact .inl h
    · rcases at_ h1 with ⟨rfl, _⟩ | ⟨n1, n2, q⟩ | ⟨_, q⟩
      · rw [si] at h2
        cases h2
        exact .inr ⟨j, d, e, ea⟩
      · rw [sn n1] at h2
        exact .inr ⟨l, u, q, h2⟩
      · cases q
  have ml : ∀ {x}, Mall G ((r.set j .no).set i (.own d)) (s.set i (some (V.ref a))) x → Mall G r s x := fun h => h.elim .inl fun h => .inr (mo h)
  refine ⟨by simp [k.len], fun l f u q => ?_, fun l u q => ?_, fun l l' u u' b q q' z z' => ?_, k.sto.anti fun _ z => ml z, k.stp, k.m0, k.n0, fun p hp => (k.held p hp).mono Kp.refl Kp.refl (fun _ _ n z => n (ml z)) (fun _ _ n z => n (mo z)) io_refl, k.dp.env rfl (fun _ z => z) fun l b u q => by
    rcases at_ q with ⟨_, q2⟩ | ⟨n1, n2, q2⟩ | ⟨_, q2⟩
    · cases q2
    · exact ⟨q2, sn n1⟩
    · cases q2⟩
  · rcases at_ q with ⟨_, q2⟩ | ⟨n1, n2, q2⟩ | ⟨_, q2⟩
    · cases q2
    · obtain ⟨v, h1, h2⟩ := k.arg l f u q2
      exact ⟨v, by rw [sn n1]; exact h1, h2.mono Kp.refl Kp.refl (fun _ _ n z => n (ml z)) (fun _ _ n z => n (mo z)) io_refl⟩
    · cases q2
  · rcases at_ q with ⟨rfl, q2⟩ | ⟨n1, n2, q2⟩ | ⟨_, q2⟩
    · cases q2
      exact ⟨a, si, ow.anti fun _ z => ml z, m0, n0, h0⟩
    · obtain ⟨b, h1, h2, h3⟩ := k.own l u q2
      exact ⟨b, by rw [sn n1]; exact h1, h2.anti fun _ z => ml z, h3⟩
    · cases q2
  · rcases at_ q with ⟨e1, _⟩ | ⟨n1, n2, q2⟩ | ⟨_, q2⟩
    · subst e1
      rcases at_ q' with ⟨e2, _⟩ | ⟨n1', n2', q2'⟩ | ⟨_, q2'⟩
      · exact e2.symm
      · rw [si] at z
        cases z
        rw [sn n1'] at z'
        exact absurd (k.inj l' j u' d a q2' e z' ea) n2'
      · cases q2'
    · rcases at_ q' with ⟨e2, _⟩ | ⟨n1', n2', q2'⟩ | ⟨_, q2'⟩
      · subst e2
        rw [si] at z'
        cases z'
        rw [sn n1] at z
        exact absurd (k.inj l j u d a q2 e z ea) n2
      · rw [sn n1] at z
        rw [sn n1'] at z'
        exact k.inj l l' u u' b q2 q2' z z'
      · cases q2'
    · cases q2
end
def sMove (i j : Nat) : SM := fun r S => match r[j]? with
  | some (.own d) => if i ≠ j ∧ i < r.length then .nx ((r.set j .no).set i (.own d)) S else .no
  | _ => .no
section
variable {X : Cx} {ct : CT} {pos : Pos}
theorem ms_move {i j : Nat} {x y : Str} {p pos' : Pos} (hN : X.N.Nodup) (hi : X.N[i]? = some x) (hx : Loc X.env.scope x) (hy : PE X (.Name y p) (tVar j)) (hs : swapsWith (.Name y p) (some (.Name x pos')) pos.line X.env = pure false := by rfl) (hf : X.fn x = true ∨ X.env.scope.names.lookup x = some .local := by first | exact .inl rfl | exact .inr rfl | assumption) :
    MS X ct (.Assign [.Name x pos'] (.Name y p) pos) (sMove i j) := ⟨fun G W tk _ => (ps_set hN hi hx hy hs hf).imp fun De s H ⟨r, S, io, k, h⟩ => by
  unfold sMove at h
  split at h
  · rename_i d e
    split at h
    · rename_i g
      obtain ⟨a, ea, _⟩ := k.own j _ e
      exact ⟨.ref a, ea, h _ io H (k.move e ea g.1 g.2)⟩
    · exact h.elim
  · exact h.elim⟩
/-! ### {k: (i, j)} of constants -/
def eDict1 (k i j : Int) : EM := fun _ S => .ok (.dic [.inl k] [.tup [.int i, .int j]], .n) S
theorem me_dict1 {k i j : Int} {p1 p2 p3 p4 : Pos} {k1 k2 k3 : Nat} {kt : Nat} : ME X ct (.Dict [some (.Constant (.int k) k1 p1)] [.Tuple [.Constant (.int i) k2 p2, .Constant (.int j) k3 p3] kt p4] pos) (eDict1 k i j) :=
  ⟨fun G W tk => (pe_disp (pps_cons (pe_int (i := k)) (pe_tup (pa_cons (pe_int (i := i)) (pa_cons (pe_int (i := j)) pa_nil))) pps_nil) rfl rfl (by simp) (Nat.le_of_ble_eq_true rfl)).imp fun s H Q ⟨r, S, io, kk, h⟩ p hp => by
    refine ⟨by show 2 ≤ sizeLine; decide, fun t ht => ?_⟩
    have nt : t ≠ p := fun z => by
      subst z
      rw [upd_same] at ht
      cases ht
    have hH : (upd (upd H p (.dK [])) t (.tup [.int i, .int j])) p = some (.dK []) := by
      rw [upd_ne nt.symm, upd_same]
    refine ⟨hH, [(.inl k, .ref t)], rfl, Nat.le_of_ble_eq_true rfl, ?_⟩
    have tH : H t = none := by
      rw [upd_ne nt] at ht
      exact ht
    have s1 : Stp ct io H io (upd (upd H t (.tup [.int i, .int j])) p (.dK [(.inl k, .ref t)])) := (Stp.upd tH).trans (Stp.upd (by rw [upd_ne nt.symm]; exact hp))
    have eH : upd (upd (upd H p (.dK [])) t (.tup [.int i, .int j])) p (.dK [(.inl k, .ref t)]) = upd (upd H t (.tup [.int i, .int j])) p (.dK [(.inl k, .ref t)]) := by
      funext b
      by_cases hb : b = p
      · subst hb
        rw [upd_same, upd_same]
      · rw [upd_ne hb, upd_ne hb]
        by_cases ht' : b = t
        · subst ht'
          rw [upd_same, upd_same]
        · rw [upd_ne ht', upd_ne ht', upd_ne hb]
    show Q (.ref p) (upd (upd (upd H p (.dK [])) t (.tup [.int i, .int j])) p (.dK [(.inl k, .ref t)]))
    rw [eH]
    have np : ¬ Mall G r s p := fun z => by
      obtain ⟨o, e, _⟩ := kk.mdom p z
      rw [hp] at e
      cases e
    have q1 : StoOk X.K ct (Mall G r s) io S (upd (upd H t (.tup [.int i, .int j])) p (.dK [(.inl k, .ref t)])) := (kk.sto.upd tH).upd (by rw [upd_ne nt.symm]; exact hp)
    have hu : (upd H t (.tup [.int i, .int j])) p = none := by rw [upd_ne nt.symm]; exact hp
    refine h io _ s1 q1 (.ref p) ⟨p, rfl, hp, np, .inr ⟨[.inl k], [.tup [.int i, .int j]], [(.inl k, .ref t)], rfl, upd_same, rfl, .cons (.tup (SqT.of ?_) (.cons (.int i) (.cons (.int j) .nil))) .nil⟩, ?_⟩
    · rw [upd_ne nt, upd_same]
    · exact ((kk.sto.upd tH).off hu).upd hu⟩
/-! ### k not in d; pairs compared; dict(d) -/
def gDNi : D × Fl → D × Fl → Option (D × Fl) := fun a b => match b.1 with
  | .dic ks xs => match keyD a.1 with
    | some k => some (.bl (!(getK ks xs k).isSome), .c)
    | none => none
  | _ => none
def rDNi : R2 := fun x y H Q => ∃ a o, y = .ref a ∧ DGet H a x o ∧ Q (.bl (!o.isSome)) H
theorem ok_dni {K : PySem.W.Frag} {ct : CT} : BinOk K ct rDNi gDNi := by
  rintro M N io S H x y ⟨a, fa⟩ ⟨b, fb⟩ res Q ra rb q md e w
  unfold gDNi at e
  dsimp only at e ra rb
  split at e
  · rename_i ks xs
    split at e
    · rename_i k ek
      cases e
      obtain ⟨p, kvs, rfl, h1, rfl, h2, h3⟩ := dic_of rb
      obtain rfl := key_val ek ra
      have g3 := getK_val k h3
      have w := w _ _ Stp.refl (ResOk.c (.bl _) q)
      refine ⟨p, valV kvs k, rfl, DGet.k h1, ?_⟩
      cases hg : getK (kvs.map Prod.fst) xs k with
      | none =>
        rw [hg] at g3 w
        have g3 : valV kvs k = none := g3
        rw [g3]
        exact w
      | some d =>
        rw [hg] at g3 w
        obtain ⟨v, y1, y2⟩ := g3
        rw [y1]
        exact w
    · cases e
  · cases e
theorem me_dni {a b : Expr} {ma mb : EM} (hu : X.A.units + 64 < cLine) (ha : ME X ct a ma) (hb : ME X ct b mb) (hm : behindInMarks .NotIn b = false := by rfl) : ME X ct (.Compare a [.NotIn] [b] pos) (eBin gDNi ma mb) :=
  ⟨fun G W tk => (pe_cmp (pc_dnotin (hu1 hu) (ha.run G W tk) (hb.run G W tk)) hm).imp fun s H Q h => bin_go ok_dni h⟩
theorem mt_dni {a b : Expr} {ma mb : EM} (hu : X.A.units + 64 < cLine) (ha : ME X ct a ma) (hb : ME X ct b mb) (hm : behindInMarks .NotIn b = false := by rfl) : MT X ct (.Compare a [.NotIn] [b] pos) (tVal (eBin gDNi ma mb)) :=
  ⟨fun G W tk => (pt_cmp (pc_dnotin (hu1 hu) (ha.run G W tk) (hb.run G W tk)) hm).imp fun s H Q h => by
    obtain ⟨r, S, io, k, h⟩ := h
    refine show tOp rDNi (tE X.K ct G W ma) (tE X.K ct G W mb) s H (fun v H' => ∃ b, v = .bl b ∧ Q b H') from bin_go ok_dni ⟨r, S, io, k, Res.first h fun x S1 io1 H1 e1 t1 q1 h1 v1 o1 => ?_⟩
    split at h1
    · rename_i b e
      have o2 := o1.repF
      rw [e] at o2
      exact ⟨b, bl_of o2, h1.here q1⟩
    · exact h1.elim⟩
end
end Mv

set_option maxRecDepth 100000
set_option maxHeartbeats 2000000
/-! Mv22: min of pairs of ints; pairs compared; dict(d); e[::s] -/
namespace MinP
open PySem PyProof.Rows
section
variable {prog : Program} {w : World} {A : Around} {R : Result → Shared → Prop} {I : Addr} {fp wr : List Addr} {n : Nat} {P : Nat → Value → Prop} {St : Nat → Heap → Prop}
/-- what is compared stands in the heap: B -/
structure CmpB (prog : Program) (w : World) (A : Around) (wr : List Addr) (S : Addr) (P : Nat → Value → Prop) (bt : Nat → Nat → Bool) (B : Heap → Prop) : Prop where
  keep : ∀ h h' : Heap, B h → (∀ b o, b ∉ wr → b ≠ S → h.get? b = some o → h'.get? b = some o) → B h'
  cmp : ∀ (i j : Nat) (vi vj : Value) (s : Shared) (Q : Value → Shared → Prop) (E : Value → Shared → Prop), B s.heap → P i vi → P j vj → Q (.bool (bt i j)) s → wpAny (model prog w) A (richCompare .Lt vi vj) Q E s
theorem loop (W : Walks prog w A.in1 I fp wr n P St) (bt : Nat → Nat → Bool) (B : Heap → Prop) (S : Addr) (C : CmpB prog w A.in1 wr S P bt B) (hSf : S ∉ fp) :
    ∀ (k j : Nat) (s : Shared) (vb : Value) (c : Nat), n - (j + 1) = k → j + 1 ≤ n → St (j + 1) s.heap → B s.heap → P (argBest bt j) vb →
    s.heap.get? S = some { cls := .type "list", dict := none, data := .seq #[vb, vb] c, slots := #[] } →
    (∀ v h' tk, P (argBest bt (n - 1)) v → (∀ b o, b ∉ wr → b ≠ S → s.heap.get? b = some o → h'.get? b = some o) → R (.ok (.ret v)) { s with heap := h', toks := tk }) →
    codeAny (model prog w) A (.builtin "min.loop" ⟨[.ref I, .none, .ref S], []⟩) R s := by
  have hSw : S ∉ wr := fun h => hSf (W.sub _ h)
  have nm : (toString "min" ++ toString ".loop" : String) = "min.loop" := by decide
  intro k
  induction k with
  | zero =>
    intro j s vb c hk hj hst hB hPb hS hR
    have hin : j + 1 = n := by omega
    refine codeAny_builtin F.entry_min_loop ?_
    rw [Around.under_plainId F.plain_min_loop _]
    show wpAny _ A.in1 (seqItems? (.ref S) >>= _) _ _ s
    refine wpAny_bind (wpAny_seqItems hS rfl ?_)
    show wpAny _ A.in1 (tryCatch (pyNext (.ref I)) _ >>= _) _ _ s
    refine wpAny_bind (wpAny_tryCatch (W.done s _ _ (hin ▸ hst) fun h' tk hk' => ?_))
    have hS' := hk' S _ hSw hS
    show wpAny _ A.in1 (updateSeq S (fun _ => #[]) >>= _) _ _ _
    refine wpAny_bind ?_
    refine wpAny_updateSeq hS' rfl (wpAny_bind (wpAny_letGo (wpAny_pure ?_)))
    exact hR vb _ tk (by rw [← hin]; exact hPb) fun b o hbw hbS e => (Heap.get?_update_other _ _ (Ne.symm hbS)).trans (hk' b o hbw e)
  | succ k ih =>
    intro j s vb c hk hj hst hB hPb hS hR
    have hlt : j + 1 < n := by omega
    refine codeAny_builtin F.entry_min_loop ?_
    rw [Around.under_plainId F.plain_min_loop _]
    show wpAny _ A.in1 (seqItems? (.ref S) >>= _) _ _ s
    refine wpAny_bind (wpAny_seqItems hS rfl ?_)
    show wpAny _ A.in1 (tryCatch (pyNext (.ref I)) _ >>= _) _ _ s
    refine wpAny_bind (wpAny_tryCatch (W.item (j + 1) s _ _ hlt hst fun v h' tk hP hst' hk' => ?_))
    have hS' := hk' S _ hSw hS
    have hB' : B h' := C.keep _ _ hB fun b o h1 _ e => hk' b o h1 e
    show wpAny _ A.in1 (tryCatch (holding [v, v] (richCompare .Lt v vb >>= _)) _ >>= _) _ _ _
    refine wpAny_bind (wpAny_tryCatch (wpAny_holding (wpAny_bind (C.cmp (j + 1) (argBest bt j) v vb _ _ _ hB' hP hPb ?_))))
    refine wpAny_bind (wpAny_holding (wpAny_truthy_bool ?_))
    refine wpAny_bind (wpAny_letGo (wpAny_pure ?_))
    cases hb : bt (j + 1) (argBest bt j) with
    | true =>
      simp only [if_true]
      refine wpAny_bind ?_
      refine wpAny_updateSeq hS' rfl (wpAny_bind (wpAny_letGo ?_))
      rw [nm]
      refine wpAny_pure ⟨plainId_quiet F.plain_min_loop _, ih (j + 1) _ v _ (by omega) hlt (W.frame _ _ _ hst' fun b hbf o e => ?_) (C.keep _ _ hB' fun b o _ hbS e => (Heap.get?_update_other _ _ (Ne.symm hbS)).trans e) (by simp only [argBest, hb, if_true]; exact hP) (Heap.get?_update_self _ hS' rfl)
        fun v' h'' tk'' hP' hk'' => ?_⟩
      · exact (Heap.get?_update_other _ _ (fun h : S = b => hSf (by rw [h]; exact hbf))).trans e
      · exact hR v' h'' tk'' hP' fun b o hbw hbS e => hk'' b o hbw hbS ((Heap.get?_update_other _ _ (Ne.symm hbS)).trans (hk' b o hbw e))
    | false =>
      simp only [Bool.false_eq_true, if_false]
      refine wpAny_bind (wpAny_letGo ?_)
      rw [nm]
      refine wpAny_pure ⟨plainId_quiet F.plain_min_loop _, ih (j + 1) _ vb c (by omega) hlt hst' hB' (by simp only [argBest, hb, Bool.false_eq_true, if_false]; exact hPb) hS' fun v' h'' tk'' hP' hk'' => ?_⟩
      exact hR v' h'' tk'' hP' fun b o hbw hbS e => hk'' b o hbw hbS (hk' b o hbw e)
theorem first (W : Walks prog w A.in1 I fp wr n P St) (bt : Nat → Nat → Bool) (B : Heap → Prop) (S : Addr) (C : CmpB prog w A.in1 wr S P bt B) (hSf : S ∉ fp) (hn : 0 < n) {s : Shared} {c : Nat} (hst : St 0 s.heap) (hB : B s.heap)
    (hS : s.heap.get? S = some { cls := .type "list", dict := none, data := .seq #[] c, slots := #[] })
    (hR : ∀ v h' tk, P (argBest bt (n - 1)) v → (∀ b o, b ∉ wr → b ≠ S → s.heap.get? b = some o → h'.get? b = some o) → R (.ok (.ret v)) { s with heap := h', toks := tk }) :
    codeAny (model prog w) A (.builtin "min.loop" ⟨[.ref I, .none, .ref S], []⟩) R s := by
  have hSw : S ∉ wr := fun h => hSf (W.sub _ h)
  have nm : (toString "min" ++ toString ".loop" : String) = "min.loop" := by decide
  refine codeAny_builtin F.entry_min_loop ?_
  rw [Around.under_plainId F.plain_min_loop _]
  show wpAny _ A.in1 (seqItems? (.ref S) >>= _) _ _ s
  refine wpAny_bind (wpAny_seqItems hS rfl ?_)
  show wpAny _ A.in1 (tryCatch (pyNext (.ref I)) _ >>= _) _ _ s
  refine wpAny_bind (wpAny_tryCatch (W.item 0 s _ _ hn hst fun v h' tk hP hst' hk' => ?_))
  have hS' := hk' S _ hSw hS
  have hB' : B h' := C.keep _ _ hB fun b o h1 _ e => hk' b o h1 e
  show wpAny _ A.in1 (updateSeq S (fun _ => #[v, v]) >>= _) _ _ _
  refine wpAny_bind ?_
  refine wpAny_updateSeq hS' rfl ?_
  rw [nm]
  refine wpAny_pure ⟨plainId_quiet F.plain_min_loop _, loop W bt B S C hSf _ 0 _ v _ rfl hn (W.frame _ _ _ hst' fun b hbf o e => ?_) (C.keep _ _ hB' fun b o _ hbS e => (Heap.get?_update_other _ _ (Ne.symm hbS)).trans e) hP (Heap.get?_update_self _ hS' rfl) fun v' h'' tk'' hP' hk'' => ?_⟩
  · exact (Heap.get?_update_other _ _ (fun h : S = b => hSf (by rw [h]; exact hbf))).trans e
  · exact hR v' h'' tk'' hP' fun b o hbw hbS e => hk'' b o hbw hbS ((Heap.get?_update_other _ _ (Ne.symm hbS)).trans (hk' b o hbw e))
end
section
variable {prog : Program} {w : World} {A : Around} {E : Value → Shared → Prop} {s : Shared}
theorem call {x : Value} {Q : Value → Shared → Prop}
    (h : wpAny (model prog w) A.in1 (pyIter x) (fun it s₂ => ∃ I fp wr n P St bt B, it = .ref I ∧ Walks prog w A.in1 I fp wr n P St ∧ St 0 s₂.heap ∧ (∀ b ∈ fp, b < s₂.heap.objs.size) ∧ 0 < n ∧ CmpB prog w A.in1 wr s₂.heap.objs.size P bt B ∧ B s₂.heap ∧
      ∀ v h' tk, P (argBest bt (n - 1)) v → (∀ b o, b ∉ wr → s₂.heap.get? b = some o → h'.get? b = some o) → Q v { s₂ with heap := h', toks := tk }) E s) :
    wpAny (model prog w) A (PySem.call (.builtin "min") [x]) Q E s := by
  have nm : (toString "min" ++ toString ".loop" : String) = "min.loop" := by decide
  refine call_function_tree F.kind_min F.plain_min F.entry_min (F.args_min1 _) ?_
  show wpAny _ A.in1 (Builtin.Builtins.bindParams "min" ["key", "default"] 0 ⟨[], []⟩ >>= _) _ _ s
  refine wpAny_bind (wpAny_of_eq (show Builtin.Builtins.bindParams "min" ["key", "default"] 0 ⟨[], []⟩ = pure [none, none] from rfl) ?_)
  refine wpAny_bind (wpAny_pure ?_)
  refine wpAny_bind (wpAny_mono h (fun it s₂ h₂ => ?_) fun _ _ e => e)
  obtain ⟨I, fp, wr, n, P, St, bt, B, rfl, W, hst, hfp, hn, C, hB, hQ⟩ := h₂
  refine wpAny_bind (wpAny_newObj_type ?_)
  have hSf : s₂.heap.objs.size ∉ fp := fun hm => Nat.lt_irrefl _ (hfp _ hm)
  rw [nm]
  refine wpAny_pure ⟨plainId_quiet F.plain_min_loop _, first W bt B s₂.heap.objs.size C hSf hn (W.frame _ _ _ hst fun b _ o e => Heap.get?_push_of_some _ e) (C.keep _ _ hB fun b o _ _ e => Heap.get?_push_of_some _ e) (Heap.get?_push_size _ rfl) fun v h' tk hP hk => ?_⟩
  exact hQ v h' tk hP fun b o hbw e => hk b o hbw (Nat.ne_of_lt (Heap.lt_size e)) (Heap.get?_push_of_some _ e)
end
end MinP
namespace Mv
open PySem PySem.Spec PyProof.Rows L2
theorem lexLt_B (p q : Int × Int) : HT.lexLt [p.1, p.2] [q.1, q.2] = SrtO.lexB p q := by
  unfold HT.lexLt SrtO.lexB
  by_cases h : p.1 = q.1
  · rw [if_pos h, if_pos h]
    unfold HT.lexLt
    by_cases h2 : p.2 = q.2
    · rw [if_pos h2]
      unfold HT.lexLt
      exact (decide_eq_false (by omega)).symm
    · rw [if_neg h2]
  · rw [if_neg h, if_neg h]
theorem argBest_lex (k : Nat → Int × Int) : ∀ m, argBest (fun i j => SrtO.lexB (k i) (k j)) m ≤ m ∧ ∀ j ≤ m, leP (k (argBest (fun i j => SrtO.lexB (k i) (k j)) m)) (k j) = true
  | 0 => ⟨Nat.le_refl _, fun j hj => by
    obtain rfl : j = 0 := by omega
    exact leP_iff.mpr (by show _ < _ ∨ _; simp [argBest])⟩
  | m + 1 => by
    obtain ⟨h1, h2⟩ := argBest_lex k m
    unfold argBest
    cases hb : SrtO.lexB (k (m + 1)) (k (argBest (fun i j => SrtO.lexB (k i) (k j)) m)) with
    | true =>
      rw [if_pos rfl]
      refine ⟨Nat.le_refl _, fun j hj => ?_⟩
      have q := SrtO.lexB_iff.mp hb
      by_cases e : j = m + 1
      · subst e
        exact leP_iff.mpr (by omega)
      · have := leP_iff.mp (h2 j (by omega))
        exact leP_iff.mpr (by omega)
    | false =>
      rw [if_neg (by decide)]
      refine ⟨by omega, fun j hj => ?_⟩
      have q := SrtO.lexB_no.mp hb
      by_cases e : j = m + 1
      · subst e
        exact leP_iff.mpr (by omega)
      · exact h2 j (by omega)
def rMinPT (K : PySem.W.Frag) : List V → Hp → VK → Prop := fun vs H Q => ∃ (a : Addr) (xs : List V) (ps : List (Int × Int)), vs = [V.ref a] ∧ SqL K H a xs ∧ Paired (PrV K H) xs ps ∧ ps ≠ [] ∧
  ∀ x p, p ∈ ps → (∀ q ∈ ps, leP p q = true) → PrV K H x p → Q x H
theorem paired_len {K : PySem.W.Frag} {H : Hp} {xs : List V} {ps : List (Int × Int)} (h : Paired (PrV K H) xs ps) : xs.length = ps.length := by
  induction h with
  | nil => rfl
  | cons h1 h2 ih => rw [List.length_cons, List.length_cons, ih]
theorem paired_at {K : PySem.W.Frag} {H : Hp} {xs : List V} {ps : List (Int × Int)} (h : Paired (PrV K H) xs ps) : ∀ (i : Nat) (x : V), xs[i]? = some x → ∃ p, ps[i]? = some p ∧ PrV K H x p := by
  induction h with
  | nil => intro i x e; simp at e
  | @cons y p xs ps h1 h2 ih =>
    intro i x e
    cases i with
    | zero =>
      cases e
      exact ⟨p, rfl, h1⟩
    | succ i => exact ih i x e
theorem vals_at {xs : List V} {us : List Value} (r : Vals xs us) : ∀ (i : Nat) (u : Value), us[i]? = some u → ∃ x, xs[i]? = some x ∧ RelV x u := by
  induction r with
  | nil => intro i u e; simp at e
  | @cons x u xs us h1 h2 ih =>
    intro i v e
    cases i with
    | zero =>
      cases e
      exact ⟨x, rfl, h1⟩
    | succ i => exact ih i v e
theorem cr_minPT {X : Cx} (hc : X.calm = true) (hu : X.A.units + 64 < cLine) : CallR X (.builtin "min") (rMinPT X.K) := by
  intro pins s σ H vs us Q I r h
  obtain ⟨a, xs, ps, rfl, hs, hp, hne, q⟩ := h
  obtain ⟨its, rv, hl, hz⟩ := I.list hs
  rw [Vals.ref1 r]
  have hlen := paired_len hp
  have hlen2 := rv.length
  have at_ : ∀ (i : Nat) (u : Value), its[i]? = some u → ∃ p x t, ps[i]? = some p ∧ xs[i]? = some x ∧ x = V.ref t ∧ u = Value.ref t ∧ SqT X.K H t [.int p.1, .int p.2] := fun i u e => by
    obtain ⟨x, e1, rx⟩ := vals_at rv i u e
    obtain ⟨p, e2, t, rfl, e3⟩ := paired_at hp i x e1
    exact ⟨p, _, t, e2, e1, rfl, rx, e3⟩
  have hlt : a < s.heap.objs.size := by obtain ⟨_, e, _⟩ := hl.isList; exact Heap.lt_size e
  refine MinP.call (wpAny_pyIter_list hl.isList ?_)
  refine ⟨_, _, _, _, _, _, fun i j => SrtO.lexB ((ps[i]?).getD (0, 0)) ((ps[j]?).getD (0, 0)), fun h => ∀ (i : Nat) (u : Value), its[i]? = some u → ∃ t p its2, u = Value.ref t ∧ t < s.heap.objs.size ∧ ps[i]? = some p ∧ h.IsTuple t its2 ∧ IntsAre its2.toList [p.1, p.2], rfl,
    Walks.list (A := X.A.in1) (I.ok.hd hc) s.heap.objs.size a (Nat.ne_of_lt hlt) its.toArray, ⟨⟨_, Heap.get?_push_size _ rfl, rfl, rfl⟩, hl.isList.push _⟩, fun b hb => ?_, ?_, ⟨fun h h' hB hk i u e => ?_, fun i j vi vj s' Q' E' hB hi hj hq => ?_⟩, fun i u e => ?_, fun v h' tk hP hk => ?_⟩
  · show b < (s.heap.push _).objs.size
    rw [Heap.size_push]
    rcases List.mem_cons.mp hb with rfl | hb
    · exact Nat.lt_succ_self _
    · rw [List.mem_singleton.mp hb]
      exact Nat.lt_succ_of_lt hlt
  · have h0 : 0 < ps.length := List.length_pos_iff.mpr hne
    show 0 < its.toArray.size
    rw [List.size_toArray, ← hlen2, hlen]
    exact h0
  · obtain ⟨t, p, its2, e1, e2, e3, ⟨o, e4, e5⟩, e6⟩ := hB i u e
    refine ⟨t, p, its2, e1, e2, e3, ⟨o, hk t o (fun z => ?_) (fun z => ?_) e4, e5⟩, e6⟩
    · rw [List.mem_singleton.mp z] at e2
      exact Nat.lt_irrefl _ e2
    · have z : t = (s.heap.push _).objs.size := z
      rw [Heap.size_push] at z
      rw [z] at e2
      exact Nat.lt_irrefl _ (Nat.lt_trans (Nat.lt_succ_self _) e2)
  · have hi : its[i]? = some vi := by simpa using hi
    have hj : its[j]? = some vj := by simpa using hj
    obtain ⟨t, p, its2, rfl, _, e3, e4, e5⟩ := hB i vi hi
    obtain ⟨t', p', its2', rfl, _, e3', e4', e5'⟩ := hB j vj hj
    rw [e3, e3'] at hq
    show wpAny (model X.prog X.w) X.A.in1 (compareOp .Lt (.ref t) (.ref t')) Q' E' s'
    refine HT.lt_tupInts e4 e4' e5 e5' ?_ ?_
    · show X.A.in1.units < cLine
      exact Nat.lt_of_le_of_lt (show X.A.in1.units ≤ X.A.units + 1 from Nat.le_refl _) (hu1 hu)
    · rw [lexLt_B]
      exact hq
  · obtain ⟨p, x, t, e1, e2, rfl, rfl, e3⟩ := at_ i u e
    obtain ⟨its2, r2, p2, _⟩ := I.tuple e3
    have lt : t < s.heap.objs.size := by
      obtain ⟨o, e, _⟩ := p2
      exact Heap.lt_size e
    refine ⟨t, p, its2.toArray, rfl, lt, e1, ?_, intsAre_of (ns := [p.1, p.2]) r2⟩
    obtain ⟨o, e4, e5⟩ := p2
    exact ⟨o, Heap.get?_push_of_some _ e4, e5⟩
  · have hP : its[argBest (fun i j => SrtO.lexB ((ps[i]?).getD (0, 0)) ((ps[j]?).getD (0, 0))) (its.toArray.size - 1)]? = some v := by simpa using hP
    obtain ⟨p, x, t, e1, e2, rfl, rfl, e3⟩ := at_ _ _ hP
    obtain ⟨b1, b2⟩ := argBest_lex (fun i => (ps[i]?).getD (0, 0)) (its.toArray.size - 1)
    refine ⟨.ref t, H, I.kept fun b o e => hk b o (fun z => ?_) (Heap.get?_push_of_some _ e), rfl, q _ p (List.mem_of_getElem? e1) (fun y hy => ?_) ⟨t, rfl, e3⟩⟩
    · rw [List.mem_singleton.mp z] at e
      exact absurd (Heap.lt_size e) (Nat.lt_irrefl _)
    · obtain ⟨j, hj⟩ := List.getElem?_of_mem hy
      have hjl := (List.getElem?_eq_some_iff.mp hj).1
      have := b2 j (by rw [List.size_toArray]; omega)
      rw [e1, hj] at this
      exact this
section
variable {K : PySem.W.Frag} {ct : CT} {M : Addr → Prop} {io : List Addr} {H : Hp}
def minP (ps : List (Int × Int)) : Option (Int × Int) := (sortP ps).head?
theorem minP_of {ps : List (Int × Int)} {p : Int × Int} (h : p ∈ ps) (u : ∀ q ∈ ps, leP p q = true) : minP ps = some p := by
  have m := (sortP_perm ps).mem_iff.mpr h
  have s := sortP_sorted ps
  have pm := sortP_perm ps
  unfold minP
  generalize sortP ps = L at *
  cases L with
  | nil => cases m
  | cons x L =>
    have h1 := leP_iff.mp (u x (pm.mem_iff.mp (.head _)))
    rcases List.mem_cons.mp m with e | m
    · rw [e]
      rfl
    · have h2 := leP_iff.mp ((List.pairwise_cons.mp s).1 p m)
      have : x = p := Prod.ext (by omega) (by omega)
      rw [this]
      rfl
def gMinP : List (Fl × D) → Option (D × Fl) := fun as => match as with
  | [(_, .lst ds)] => match pairsOf ds with
    | some ps => (minP ps).map fun p => (pD p, .c)
    | none => none
  | _ => none
theorem ok_minP : CalOk K ct (rMinPT K) gMinP := by
  intro M N io S H vs as res Q o q md e w
  unfold gMinP at e
  split at e
  · rename_i f ds
    split at e
    · rename_i ps e1
      obtain ⟨p, e2, rfl⟩ := Option.map_eq_some_iff.mp e
      obtain ⟨v, rfl, r⟩ := args1 o
      obtain ⟨a, us, rfl, h1, h2⟩ := lst_of r
      rw [pairs_eq e1] at h2
      refine ⟨a, us, ps, rfl, SqL.of h1, reps_prv h2, fun z => ?_, fun x p' hp' hu ⟨t, ex, et⟩ => ?_⟩
      · subst z
        have e2 : (sortP []).head? = some p := e2
        have : sortP [] = [] := List.length_eq_zero_iff.mp (by rw [(sortP_perm []).length_eq]; rfl)
        rw [this] at e2
        cases e2
      · rw [minP_of hp' hu] at e2
        cases e2
        exact w _ _ Stp.refl (ResOk.c (by rw [ex]; exact .tup et (.cons (.int _) (.cons (.int _) .nil))) q)
    · cases e
  · cases e
/-- t < u, tuples of ints -/
def gLtP : D × Fl → D × Fl → Option (D × Fl) := fun a b => match a.1, b.1 with
  | .tup xs, .tup ys => match intsOf xs, intsOf ys with
    | some is, some js => some (.bl (HT.lexLt is js), .c)
    | _, _ => none
  | _, _ => none
theorem ok_ltP : BinOk K ct (rLtT K) gLtP := by
  rintro M N io S H x y ⟨a, fa⟩ ⟨b, fb⟩ res Q ra rb q md e w
  unfold gLtP at e
  dsimp only at e ra rb
  split at e
  · rename_i xs ys
    split at e
    · rename_i is js e1 e2
      cases e
      obtain ⟨p, vs, rfl, h1, h2⟩ := tup_of ra
      obtain ⟨p', vs', rfl, h1', h2'⟩ := tup_of rb
      rw [intsOf_eq e1] at h2
      rw [intsOf_eq e2] at h2'
      rw [h2.ints] at h1
      rw [h2'.ints] at h1'
      exact ⟨p, p', is, js, rfl, rfl, h1, h1', w _ _ Stp.refl (ResOk.c (.bl _) q)⟩
    · cases e
  · cases e
/-- dict(d) -/
def gDictD : List (Fl × D) → Option (D × Fl) := fun as => match as with
  | [(f, .dic ks xs)] => if f = .t then none else some (.dic ks xs, .n)
  | _ => none
theorem ok_dictD : CalOk K ct (fun xs H Q => ∃ (a : Addr) (kvs : List (Key × V)), xs = [.ref a] ∧ Rd H a (.dK kvs) ∧ ∀ p, H p = none → Q (.ref p) (upd H p (.dK kvs))) gDictD := by
  intro M N io S H vs as res Q o q md e w
  unfold gDictD at e
  split at e
  · rename_i f ks xs
    split at e
    · cases e
    · rename_i g
      cases e
      obtain ⟨v, rfl, r⟩ := args1 o
      obtain ⟨a, kvs, rfl, h1, rfl, h2, _⟩ := dic_of r
      refine ⟨a, kvs, rfl, .inl h1, fun p hp => w _ _ (Stp.upd hp) ⟨p, rfl, hp, fun z => ?_, .inr ⟨_, xs, kvs, rfl, upd_same, rfl, ((h2 g).off hp).stp (Stp.upd (ct := ct) hp)⟩, (q.off hp).upd hp⟩⟩
      obtain ⟨o, e, _⟩ := md p z
      rw [hp] at e
      cases e
  · cases e
end
end Mv

set_option maxRecDepth 100000
set_option maxHeartbeats 2000000
/-! Mv23: e[::s], s 1 or -1 -/
namespace Mv
open PySem PySem.Spec PyProof.Rows L2
theorem pick_one (items : List Value) : slicePick items.toArray none none (some 1) = items.toArray := by
  have e : slicePick items.toArray none none (some 1) = slicePick items.toArray none none none := rfl
  rw [e, slicePick_cut]
  congr 1
  rw [HT.sIx_none, HT.sIx_none, Nat.sub_zero, List.drop_zero]
  exact List.take_of_length_le (Nat.le_refl _)
def tStp (K : PySem.W.Frag) (te ts : TE) : TE := fun σ H Q => te σ H fun x H1 => tPart ts σ H1 fun o H2 => ∃ y, o = some y ∧ ∃ a xs, x = .ref a ∧ SqL K H2 a xs ∧
  ((y = -1 ∧ ∀ p, H2 p = none → Q (.ref p) (upd H2 p (.lst xs.reverse))) ∨ (y = 1 ∧ ∀ p, H2 p = none → Q (.ref p) (upd H2 p (.lst xs))))
section
variable {X : Cx} {ct : CT} {pos : Pos}
theorem pe_stp {e st : Expr} {te ts : TE} {p3 : Pos} (he : PE X e te) (hst : PE X st ts) : PE X (.Subscript e (.Slice none none (some st) p3) pos) (tStp X.K te ts) := by
  refine ⟨fun pins s σ H Q I h => ?_⟩
  refine Subscript_ (thn (he.run pins s σ H _ I h) fun v s1 ⟨x, H1, I1, r1, q1⟩ => ?_)
  refine wpAny_Slice (thn (po_none.run pins s1 σ H1 (fun o H2 => o = none ∧ H2 = H1) I1 ⟨rfl, rfl⟩) fun vl s2 ⟨l, H2, I2, pl, el, e2⟩ => ?_)
  subst el e2
  refine thn (po_none.run pins s2 σ H2 (fun o H3 => o = none ∧ H3 = H2) I2 ⟨rfl, rfl⟩) fun vu s3 ⟨u, H3, I3, pu, eu, e3⟩ => ?_
  subst eu e3
  refine thn ((po_some hst).run pins s3 σ H3 _ I3 q1) fun vs s4 ⟨o, H4, I4, ps, y, eo, a, xs, ex, hx, hq⟩ => ?_
  subst eo ex
  cases r1
  have I5 : Inv X pins σ H4 { s4 with heap := s4.heap.push { cls := .type "slice", data := .fields #[vl, vu, vs] } } := I4.kept (t' := s4.toks) fun b ob q => Heap.get?_push_of_some _ q
  obtain ⟨its, r, htl, hz⟩ := I5.list hx
  have hlen := r.length
  show wpAny (model X.prog X.w) X.A (subscriptTail e (.Slice none none (some st) p3) (.ref a) (.ref s4.heap.objs.size)) (EP X pins σ Q) X.xe { s4 with heap := s4.heap.push { cls := .type "slice", data := .fields #[vl, vu, vs] } }
  refine tail_any (ops := [.ref a, .ref s4.heap.objs.size]) htl.isList.typeIs (PySem.slot_list_getitem.lookup) ?_ (by with_unfolding_all rfl)
  rcases hq with ⟨rfl, q⟩ | ⟨rfl, q⟩
  · refine wpAny_getItem_list_slice htl.isList (Heap.IsSliceOf.new _ vl vu vs) pl pu ps (by decide) ?_ (by rw [List.size_toArray]; omega)
    rw [PySem.W.krv_pick]
    refine ⟨.ref _, _, I5.laid (t' := s4.toks) (o := .lst xs.reverse) (fun b ob q => Heap.get?_push_of_some _ q) (Nat.le_refl _) ?_, rfl, q _ (I5.hok.fresh (Nat.le_refl _))⟩
    exact ⟨by rw [List.length_reverse]; exact hz, _, 0, r.reverse, Heap.get?_push_size _ rfl⟩
  · refine wpAny_getItem_list_slice htl.isList (Heap.IsSliceOf.new _ vl vu vs) pl pu ps (by decide) ?_ (by rw [List.size_toArray]; omega)
    rw [pick_one]
    refine ⟨.ref _, _, I5.laid (t' := s4.toks) (o := .lst xs) (fun b ob q => Heap.get?_push_of_some _ q) (Nat.le_refl _) ?_, rfl, q _ (I5.hok.fresh (Nat.le_refl _))⟩
    exact ⟨hz, _, 0, r, Heap.get?_push_size _ rfl⟩
def gStp : D × Fl → D × Fl → Option (D × Fl) := fun a b => match a.1, b.1 with
  | .lst xs, .int i => if i = -1 then some (.lst xs.reverse, if a.2 = .t then .t else .n) else if i = 1 then some (.lst xs, if a.2 = .t then .t else .n) else none
  | _, _ => none
theorem me_stp {e st : Expr} {me ms : EM} {p3 : Pos} (he : ME X ct e me) (hs : ME X ct st ms) : ME X ct (.Subscript e (.Slice none none (some st) p3) pos) (eBin gStp me ms) :=
  ⟨fun G W tk => (pe_stp (he.run G W tk) (hs.run G W tk)).imp fun s H Q ⟨r, S, io, k, h⟩ => by
    refine ⟨r, S, io, k, Res.first h fun x S1 io1 H1 e1 t1 q1 h1 v1 o1 => ?_⟩
    have k1 := k.step t1 q1
    refine ⟨r, S1, io1, k1, Res.first h1 fun y S2 io2 H2 e2 t2 q2 h2 v2 o2 => ?_⟩
    have k2 := k1.step t2 q2
    unfold lift0 at h2
    split at h2
    · rename_i res eg
      unfold gStp at eg
      split at eg
      · rename_i xs i ex ey
        have r1 := o1.repF.stp t2
        have r2 := o2.repF
        rw [ex] at r1
        rw [ey] at r2
        obtain ⟨a, us, rfl, w1, w2, w3⟩ := seq_both (d := .lst xs) rfl r1
        refine ⟨i, int_of r2, i, rfl, a, us, rfl, w1, ?_⟩
        split at eg
        · rename_i gi
          cases eg
          refine .inl ⟨gi, fun p hp => h2.go (Stp.upd hp) (q2.upd hp) _ ?_⟩
          exact new_lstT hp (t1.free (t2.free hp)) k2.mdom q2 (fun z => (w2 z).rev) w3.rev
        · split at eg
          · rename_i gi
            cases eg
            refine .inr ⟨gi, fun p hp => h2.go (Stp.upd hp) (q2.upd hp) _ ?_⟩
            exact new_lstT hp (t1.free (t2.free hp)) k2.mdom q2 w2 w3
          · cases eg
      · cases eg
    · exact h2.elim⟩
end
end Mv

set_option maxRecDepth 100000
set_option maxHeartbeats 2000000
/-! Mv24: == of lists of lists of ints and of dicts of ints that are alike -/
namespace Mv
open PySem PySem.Spec PyProof.Rows L2
def elEq : D → D → Bool
  | .lst xs, .lst ys => match intsOf xs, intsOf ys with
    | some is, some js => decide (is = js)
    | _, _ => false
  | .dic ks xs, .dic ls ys => decide (ks.length = ls.length) && alikeD ls ys ks xs
  | _, _ => false
def elsEq : List D → List D → Bool
  | [], [] => true
  | x :: xs, y :: ys => elEq x y && elsEq xs ys
  | _, _ => false
def gEqV : D × Fl → D × Fl → Option (D × Fl) := fun a b => match a.1, b.1 with
  | .lst xs, .lst ys => if elsEq xs ys = true then some (.bl true, .c) else none
  | _, _ => none
section
variable {K : PySem.W.Frag} {ct : CT} {M : Addr → Prop} {io : List Addr} {H : Hp}
theorem ints_paired : ∀ is : List Int, Paired (EqV K H 1) (is.map V.int) (is.map V.int)
  | [] => .nil
  | i :: is => .cons (.inl ⟨rfl, rfl⟩) (ints_paired is)
theorem elEq_val {x y : D} {v u : V} (hx : Rep K M io H x v) (hy : Rep K M io H y u) (e : elEq x y = true) : EqV K H 2 v u := by
  unfold elEq at e
  split at e
  · rename_i xs ys
    split at e
    · rename_i is js e1 e2
      obtain rfl := of_decide_eq_true e
      cases hx with
      | @lst a vs _ h1 _ h2 =>
        cases hy with
        | @lst b us _ h3 _ h4 =>
          rw [intsOf_eq e1] at h2
          rw [intsOf_eq e2] at h4
          rw [h2.ints] at h1
          rw [h4.ints] at h3
          exact .inr (.inr (.inl ⟨a, b, _, _, rfl, rfl, SqL.of h1, SqL.of h3, ints_paired is⟩))
    · cases e
  · rename_i ks xs ls ys
    rw [Bool.and_eq_true, decide_eq_true_eq] at e
    cases hx with
    | @dic a kvs _ _ h1 _ hk h2 =>
      cases hy with
      | @dic b lvs _ _ h3 _ hl h4 =>
        subst hk hl
        rw [List.length_map, List.length_map] at e
        have al := alike_val h4 h2 e.2
        exact .inr (.inr (.inr ⟨a, b, kvs, lvs, rfl, rfl, h1, h3, e.1, fun p hp => ⟨p.2, (al p hp).1, .inl ⟨rfl, (al p hp).2⟩⟩⟩))
  · cases e
theorem elsEq_val : ∀ {xs ys : List D} {vs us : List V}, Reps K M io H xs vs → Reps K M io H ys us → elsEq xs ys = true → Paired (EqV K H 2) vs us
  | _, _, _, _, .nil, .nil, _ => .nil
  | _, _, _, _, .cons h1 t1, .cons h2 t2, e => by
    have e : (_ && _) = true := e
    rw [Bool.and_eq_true] at e
    exact .cons (elEq_val h1 h2 e.1) (elsEq_val t1 t2 e.2)
  | _, _, _, _, .nil, .cons _ _, e => by cases e
  | _, _, _, _, .cons _ _, .nil, e => by cases e
theorem ok_eqV : BinOk K ct (rEqV K) gEqV := by
  rintro M N io S H x y ⟨a, fa⟩ ⟨b, fb⟩ res Q ra rb q md e w
  unfold gEqV at e
  dsimp only at e ra rb
  split at e
  · rename_i xs ys
    split at e
    · rename_i g
      cases e
      obtain ⟨p, vs, rfl, h1, h2⟩ := lst_of ra
      obtain ⟨p', vs', rfl, h1', h2'⟩ := lst_of rb
      exact ⟨2, by decide, .inl ⟨p, p', vs, vs', rfl, rfl, SqL.of h1, SqL.of h1', elsEq_val h2 h2' g⟩, w _ _ Stp.refl (ResOk.c (.bl _) q)⟩
    · cases e
  · cases e
end
end Mv

set_option maxRecDepth 100000
set_option maxHeartbeats 2000000
/-! Mv25: dict(pairs); a, b, c = x, y, z -/
namespace Mv
open PySem PySem.Spec PyProof.Rows L2
def pairK : D → Option (Key × D)
  | .tup [k, d] => (keyD k).map fun j => (j, d)
  | _ => none
def mergeD : List D → List Key → List D → Option (List Key × List D)
  | [], ks, xs => some (ks, xs)
  | p :: ps, ks, xs => match pairK p with
    | some kd => mergeD ps (putKD ks xs kd.1 kd.2).1 (putKD ks xs kd.1 kd.2).2
    | none => none
/-- dict([(k, x), ..]) -/
def gDictP : List (Fl × D) → Option (D × Fl) := fun as => match as with
  | [(f, .lst ps)] => if f = .t then none else (mergeD ps [] []).map fun r => (.dic r.1 r.2, .n)
  | _ => none
section
variable {K : PySem.W.Frag} {ct : CT} {M N : Addr → Prop} {io : List Addr} {H : Hp}
theorem pair_val {p : D} {v : V} {kd : Key × D} (e : pairK p = some kd) (h : Rep K M io H p v) : ∃ (a : Addr) (w : V), v = .ref a ∧ SqT K H a [kV kd.1, w] ∧ Rep K M io H kd.2 w := by
  unfold pairK at e
  split at e
  · rename_i k d
    obtain ⟨j, ej, rfl⟩ := Option.map_eq_some_iff.mp e
    cases h with
    | tup h1 h2 =>
      cases h2 with
      | cons r1 h3 =>
        cases h3 with
        | cons r2 h4 =>
          cases h4
          obtain rfl := key_val (f := .c) (N := M) ej r1
          exact ⟨_, _, rfl, h1, r2⟩
  · cases e
theorem merge_val : ∀ {ps : List D} {vs : List V} {ks : List Key} {xs : List D} {kvs : List (Key × V)} {r : List Key × List D}, Reps K M io H ps vs → mergeD ps ks xs = some r → kvs.map Prod.fst = ks → Reps K M io H xs (kvs.map Prod.snd) →
    ∃ (as : List Addr) (more : List (Key × V)), vs = as.map V.ref ∧ Paired (fun p kv => SqT K H p [kV kv.1, kv.2]) as more ∧ (mergeK kvs more).map Prod.fst = r.1 ∧ Reps K M io H r.2 ((mergeK kvs more).map Prod.snd)
  | [], _, ks, xs, kvs, r, h, e, hk, hx => by
    cases h
    cases e
    exact ⟨[], [], rfl, .nil, hk, hx⟩
  | p :: ps, _, ks, xs, kvs, r, h, e, hk, hx => by
    cases h with
    | @cons _ _ v vs r1 r2 =>
      unfold mergeD at e
      split at e
      · rename_i kd ek
        obtain ⟨a, w, rfl, h1, h2⟩ := pair_val ek r1
        subst hk
        obtain ⟨as, more, rfl, q1, q2, q3⟩ := merge_val (kvs := putK kvs kd.1 w) r2 e (put_keys kvs kd.1 w xs kd.2) (put_vals hx h2)
        exact ⟨a :: as, (kd.1, w) :: more, rfl, .cons h1 q1, q2, q3⟩
      · cases e
theorem ok_dictP : CalOk K ct (fun xs H Q => ∃ (a : Addr) (ps : List Addr) (kvs : List (Key × V)), xs = [.ref a] ∧ SqL K H a (ps.map V.ref) ∧ Paired (fun p kv => SqT K H p [kV kv.1, kv.2]) ps kvs ∧
    ∀ p, H p = none → Q (.ref p) (upd H p (.dK (mergeK [] kvs)))) gDictP := by
  intro M N io S H vs as res Q o q md e w
  unfold gDictP at e
  split at e
  · rename_i f ps
    split at e
    · cases e
    · rename_i g
      obtain ⟨r, er, rfl⟩ := Option.map_eq_some_iff.mp e
      obtain ⟨v, rfl, rv⟩ := args1 o
      obtain ⟨a, us, rfl, h1, h2, _⟩ := seq_both (d := .lst ps) rfl rv
      obtain ⟨as, more, rfl, q1, q2, q3⟩ := merge_val (kvs := []) (h2 g) er rfl .nil
      refine ⟨a, as, more, rfl, h1, q1, fun p hp => w _ _ (Stp.upd hp) ⟨p, rfl, hp, fun z => ?_, .inr ⟨_, _, _, rfl, upd_same, q2, (q3.off hp).stp (Stp.upd (ct := ct) hp)⟩, (q.off hp).upd hp⟩⟩
      obtain ⟨o, e, _⟩ := md p z
      rw [hp] at e
      cases e
  · cases e
end
section
variable {X : Cx} {ct : CT} {pos : Pos}
/-- a, b, c = x, y, z -/
def sPar3 (i j l : Nat) (ma mb mc : EM) : SM := fun r S => (ma r S).sb r fun x S1 => (mb r S1).sb r fun y S2 => (mc r S2).sb r fun z S3 => if okst x.2 x.1 && okst y.2 y.1 && okst z.2 z.1 then .nx (((r.set i (.ar .c x.1)).set j (.ar .c y.1)).set l (.ar .c z.1)) S3 else .no
theorem ms_par3 {i j l : Nat} {x y z : Str} {a b c : Expr} {ma mb mc : EM} {px py pz pt : Pos} {kt k2 pt2} (hc : X.calm = true) (hN : X.N.Nodup) (hi : X.N[i]? = some x) (hj : X.N[j]? = some y) (hl : X.N[l]? = some z) (hij : i ≠ j) (hil : i ≠ l) (hjl : j ≠ l)
    (hx : X.env.scope.names.lookup x = some .local) (hy : X.env.scope.names.lookup y = some .local) (hz : X.env.scope.names.lookup z = some .local) (ha : ME X ct a ma) (hb : ME X ct b mb) (hcc : ME X ct c mc)
    (hs0 : starEach [c] X.env = (false, eval c X.env) :: starEach [] X.env) (hs1 : starEach [b, c] X.env = (false, eval b X.env) :: starEach [c] X.env) (hs2 : starEach [a, b, c] X.env = (false, eval a X.env) :: starEach [b, c] X.env)
    (hw : swappedStores [.Tuple [.Name x px, .Name y py, .Name z pz] kt pt] (.Tuple [a, b, c] k2 pt2) X.env = pure (some [x, y, z]))
    (hs : swapsWithSole [.Tuple [.Name x px, .Name y py, .Name z pz] kt pt] (.Tuple [a, b, c] k2 pt2) pos.line X.env = pure false := by rfl) :
    MS X ct (.Assign [.Tuple [.Name x px, .Name y py, .Name z pz] kt pt] (.Tuple [a, b, c] k2 pt2) pos) (sPar3 i j l ma mb mc) :=
  ⟨fun G W tk _ => (ps_par3 hc hN hi hj hl hij hil hjl hx hy hz (pa_cons (ha.run G W tk) (pa_cons (hb.run G W tk) (pa_cons (hcc.run G W tk) pa_nil hs0) hs1) hs2) hw hs).imp fun D s H ⟨r, S, io, k, h⟩ =>
    ⟨r, S, io, k, SRes.first k h fun x S1 io1 H1 _ t1 q1 k1 h1 v ov => ⟨r, S1, io1, k1, SRes.first k1 h1 fun y S2 io2 H2 _ t2 q2 k2 h2 u ou => ⟨r, S2, io2, k2, SRes.first k2 h2 fun z S3 io3 H3 _ t3 q3 k3 h3 w ow => by
      refine ⟨v, u, w, rfl, ?_⟩
      split at h3
      · rename_i g
        rw [Bool.and_eq_true, Bool.and_eq_true] at g
        have k4 := k3.setc (i := i) (RepF.clean g.1.1 ((ov.repF.stp t2).stp t3))
        have k5 := k4.setc (i := j) ((RepF.clean g.1.2 (ou.repF.stp t3)).anti fun a z => mall_set (fun e z => by cases z) z)
        have k6 := k5.setc (i := l) (((RepF.clean g.2 ow.repF).anti fun a z => mall_set (fun e z => by cases z) z).anti fun a z => mall_set (fun e z => by cases z) z)
        exact h3 _ io3 H3 k6
      · exact h3.elim⟩⟩⟩⟩
end
end Mv

set_option maxRecDepth 100000
set_option maxHeartbeats 2000000
/-! Mv26: xs.pop() -/
namespace Mv
open PySem PySem.Spec PyProof.Rows L2
theorem Reps.initl {K : PySem.W.Frag} {M : Addr → Prop} {io : List Addr} {H : Hp} : ∀ {xs : List D} {vs : List V}, Reps K M io H xs vs → Reps K M io H xs.dropLast vs.dropLast
  | [], _, .nil => .nil
  | [x], _, .cons _ .nil => .nil
  | x :: y :: xs, _, .cons r (.cons r2 r3) => .cons r (Reps.initl (.cons r2 r3))
section
variable {X : Cx} {ct : CT} {pos : Pos}
theorem ms_pop {i : Nat} {x : Str} {p apos cpos : Pos} (hx : PE X (.Name x p) (tVar i))
    (hb : ∀ {to : TE}, PE X (.Name x p) to → PE X (.Call (.Attribute (.Name x p) "pop" apos) [] [] cpos) (tBM0 X.K "list" rPop to))
    (hs : swapsWith (.Call (.Attribute (.Name x p) "pop" apos) [] [] cpos) none pos.line X.env = pure false := by rfl) : MS X ct (.Expr (.Call (.Attribute (.Name x p) "pop" apos) [] [] cpos) pos) (sPop i) :=
  ⟨fun G W tk _ => (ps_expr (hb hx) hs).imp fun D s H ⟨r, S, io, k, h⟩ => by
    unfold sPop at h
    split at h
    · rename_i xs e
      split at h
      · exact h.elim
      · rename_i ne
        obtain ⟨a, h1, h2, h3, h4⟩ := k.own i _ e
        obtain ⟨vs, h5, h6⟩ := own_lst h2
        have lp : 0 < vs.length := by
          rw [← h6.len]
          exact List.length_pos_iff.mpr ne
        exact ⟨.ref a, h1, .inl ⟨rfl, _, .inl (.inl h5)⟩, a, vs, vs[vs.length - 1], rfl, rfl, h5, List.getElem?_eq_getElem (by omega), h s io _ (k.mut e h1 (own_new (xs := xs) (.inr (.inr ⟨i, _, e, h1⟩)) h5 h6.initl))⟩
    · exact h.elim⟩
end
end Mv

set_option maxRecDepth 100000
set_option maxHeartbeats 2000000
/-! Mv27: t + u, of tuples -/
namespace Mv
open PySem PySem.Spec PyProof.Rows L2
def gAddT : D × Fl → D × Fl → Option (D × Fl) := fun a b => match a.1, b.1 with
  | .tup xs, .tup ys => if a.2 ≠ .t ∧ b.2 ≠ .t ∧ xs.length + ys.length ≤ sizeLine then some (.tup (xs ++ ys), .c) else none
  | _, _ => none
theorem ok_addT {K : PySem.W.Frag} {ct : CT} : BinOk K ct (rCatA K) gAddT := by
  rintro M N io S H x y ⟨a, fa⟩ ⟨b, fb⟩ res Q ra rb q md e w
  unfold gAddT at e
  dsimp only at e ra rb
  split at e
  · rename_i xs ys
    split at e
    · rename_i g
      cases e
      obtain ⟨p, vs, rfl, h1, h2⟩ := nt_tup g.1 ra
      obtain ⟨p', ws, rfl, h3, h4⟩ := nt_tup g.2.1 rb
      refine ⟨p, p', vs, ws, rfl, rfl, h1, h3, by rw [← h2.len, ← h4.len]; exact g.2.2, fun z => ?_, fun _ z => ?_, fun _ _ l hl => w _ _ (Stp.upd hl) (new_tup hl q (h2.app h4))⟩
      · subst z
        cases h2
        exact w _ _ Stp.refl (ResOk.c (.tup h3 h4) q)
      · subst z
        cases h4
        exact w _ _ Stp.refl (ResOk.c (show Rep K M io H (.tup (xs ++ [])) (.ref p) by rw [List.append_nil]; exact .tup h1 h2) q)
    · cases e
  · cases e
end Mv

set_option maxRecDepth 100000
set_option maxHeartbeats 2000000
/-! Mv28: the script + [..] -/
namespace Mv
open PySem PySem.Spec PyProof.Rows L2
def rCatL (K : PySem.W.Frag) : R2 := fun x y H Q => ∃ l b xs zs, x = .ref l ∧ y = .ref b ∧ SqL K H l xs ∧ SqL K H b zs ∧ xs.length + zs.length ≤ sizeLine ∧ ∀ p, H p = none → Q (.ref p) (upd H p (.lst (xs ++ zs)))
theorem op_catL {X : Cx} : OpR X (binaryOp .Add) (rCatL X.K) := by
  intro pins s σ H x y v u Q I rx ry h
  obtain ⟨l, b, xs, zs, rfl, rfl, hH, hB, hz, q⟩ := h
  cases rx
  cases ry
  obtain ⟨its, r, ⟨⟨cls, dd, data, sl⟩, n, ho, hc, hd0, hd⟩, _⟩ := I.list hH
  obtain ⟨its2, r2, ⟨⟨cls2, dd2, data2, sl2⟩, n2, ho2, hc2, hd02, hd2⟩, _⟩ := I.list hB
  simp only at hc hd hc2 hd2
  subst hc hd hc2 hd2
  have e1 := r.length
  have e2 := r2.length
  have ea : its.toArray ++ its2.toArray = (its ++ its2).toArray := by simp
  refine concat_meets ⟨_, ho, rfl⟩ ⟨_, ho2, rfl⟩ noFill_list_add seq_list_add PySem.F.slot_list_add PySem.F.entry_list_add (PySem.F.args_list_add_2 _ _) (list_addW l b its.toArray its2.toArray n n2 dd dd2 sl sl2 (by rw [List.size_toArray, List.size_toArray]; omega)) ⟨ho, ho2, ?_⟩
  rw [ea]
  exact ⟨.ref _, _, I.lnew (t' := s.toks) (r.append r2) (by rw [List.length_append]; omega), rfl, q _ I.fresh⟩
def gAddF : D × Fl → D × Fl → Option (D × Fl) := fun a b => match a.1, b.1 with
  | .frz xs, .lst ys => if a.2 ≠ .t ∧ b.2 ≠ .t ∧ xs.length + ys.length ≤ sizeLine then some (.lst (xs ++ ys), .n) else none
  | _, _ => none
theorem ok_addF {K : PySem.W.Frag} {ct : CT} : BinOk K ct (rCatL K) gAddF := by
  rintro M N io S H x y ⟨a, fa⟩ ⟨b, fb⟩ res Q ra rb q md e w
  unfold gAddF at e
  dsimp only at e ra rb
  split at e
  · rename_i xs ys
    split at e
    · rename_i g
      cases e
      obtain ⟨p, vs, rfl, h1, h2⟩ := nt_frz g.1 ra
      obtain ⟨p', ws, rfl, h3, h4⟩ := nt_lst g.2.1 rb
      exact ⟨p, p', vs, ws, rfl, rfl, h1, SqL.of h3, by rw [← h2.len, ← h4.len]; exact g.2.2, fun l hl => w _ _ (Stp.upd hl) (new_lst hl hl md q (h2.app h4))⟩
    · cases e
  · cases e
end Mv

set_option maxRecDepth 100000
set_option maxHeartbeats 2000000
/-! Mv29: sorted(set(xs)), xs a list of ints -/
namespace L2
open PySem PySem.Spec PyProof.Rows
section
variable {P : Program} {w : World} {A : Around} {E : Value → Shared → Prop} {s : Shared}
/-- the empty set's object -/
abbrev nSet (w : World) : Obj := { cls := .type "set", dict := none, data := .set #[] 0 (.fresh 0 0 (!w.params.followText "set-order")) }
abbrev nHp (w : World) (h : Heap) : Heap := h.push (nSet w)
theorem nS_at (w : World) (h : Heap) : (nHp w h).get? h.objs.size = some (nSet w) := Heap.get?_push_size _ rfl
/-- what the filled set at the heap's end is like -/
def Filled (w : World) (ns : List Int) (s : Shared) (h' : Heap) (c : Nat) : Prop := SetR w h' s.heap.objs.size (fun j => decide (j ∈ ns)) c ∧ c ≤ ns.length ∧ ∀ b o, s.heap.get? b = some o → h'.get? b = some o
set_option maxHeartbeats 6000000 in
theorem set_of_list {l : Addr} {us : Array Value} (ns : List Int) {Q : Value → Shared → Prop} (hh : A.handled = none) (hl : s.heap.IsList l us) (iu : IntsAre us.toList ns) (hb : ns.length + 1 < scanBound)
    (fin : ∀ h' tk c, Filled w ns s h' c → Q (.ref s.heap.objs.size) { s with heap := h', toks := tk }) : wpAny (model P w) A (call (.type "set") [.ref l]) Q E s := by
  have us_len : us.size = ns.length := by rw [← Array.length_toList]; exact IntsAre.length iu
  have ⟨c, tl, _⟩ := F.called_set.mro
  have _ := F.called_set.made; have _ := F.called_set.sub
  refine wpAny_call (codeAny_of_tree (show wpAny _ _ (callAny (.type "set") _) _ _ _ from wpAny_pure ⟨Code.quiet_builtin _ (by decide +kernel), codeAny_builtin F.entry_type_call ?_⟩))
  rw [Around.under_plain (weight_type_call_type "set" [.ref l] []) rfl]
  have _ := F.called_set.notType; have _ := F.called_set.canCreate; have _ := F.typeCall_set_1 (.ref l)
  repeat (any_goals (first | assumption | wp_step))
  refine codeAny_mono (code_set_led1 (.ref l) (E := E) (Q₁ := fun x t => x = .ref s.heap.objs.size ∧ t = { s with heap := nHp w s.heap }) ⟨rfl, rfl⟩) fun r t hr => ?_
  match r, hr with
  | .error e, hr => exact hr
  | .ok (.ret x), ⟨ex, et⟩ =>
    subst ex et
    have at0 := nS_at w s.heap
    have ty : Shared.TypeIs { s with heap := nHp w s.heap } (.ref s.heap.objs.size) "set" := ⟨_, at0, rfl⟩
    have _ := F.called_set.init.lookup; have _ := F.called_set.init.bind (.ref s.heap.objs.size)
    repeat (any_goals (first | assumption | wp_step))
    refine codeAny_mono (codeAny_call_builtin (R := wants (fun v t => v = .none ∧ ∃ h' tk c, t = { s with heap := h', toks := tk } ∧ Filled w ns s h' c) E) F.called_set.init.plain F.entry_set_init (check_set_init_1 ty ?_)) fun r t hr => ?_
    · have ⟨⟨oc, od, oa, os⟩, ol, kc, nl, kd⟩ := hl
      simp only at kc kd
      subst kc kd
      have ol2 : (nHp w s.heap).get? l = some _ := Heap.get?_push_of_some _ ol
      have _ := F.sub_list_set; have _ := F.sub_list_frozenset
      have _ : (Value.type "list" == Value.type "dict") = false := by decide
      have lst : (nHp w s.heap).IsList l us := ⟨_, ol2, rfl, nl, rfl⟩
      unfold Builtin.«set.__init__» noKeywords Builtin.Frozenset.updateFrom
      generalize eI : pyIter = PI
      wp_walk
      subst eI
      refine wpAny_pyIter_list lst (wpAny_bind (wpAny_runValue ?_))
      have lt := Heap.lt_size ol
      have sz : (nHp w s.heap).objs.size = s.heap.objs.size + 1 := Heap.size_push ..
      have far : l ≠ (nHp w s.heap).objs.size := by rw [sz]; exact Nat.ne_of_lt (Nat.lt_succ_of_lt lt)
      have out : s.heap.objs.size ∉ [(nHp w s.heap).objs.size, l] := fun z => by
        rw [sz] at z
        rcases List.mem_cons.mp z with z | z
        · exact Nat.ne_of_lt (Nat.lt_succ_self _) z
        · exact Nat.ne_of_gt lt (List.mem_singleton.mp z)
      refine set_update_ints ((Walks.list (by simp [hh]) _ l far us).toS) s.heap.objs.size out ns us_len hb (fun i v hv => ?_) (us.size - 0) 0 _ (by omega) (Nat.zero_le _) ⟨⟨_, Heap.get?_push_size _ rfl, rfl, rfl⟩, lst.push _⟩ ⟨0, Nat.le_refl 0, setR_new_at (Heap.get?_push_of_some _ at0)⟩ ?_
      · have hi : i < ns.length := by rw [← us_len]; exact (Array.getElem?_eq_some_iff.mp hv).1
        obtain ⟨t, e⟩ := PyProof.Rows.IntsAre.int_at iu i v (by rw [Array.getElem?_toList]; exact hv)
        exact ⟨ns[i], t, List.getElem?_eq_getElem hi, by rw [e, List.getD_eq_getElem?_getD, List.getElem?_eq_getElem hi]; rfl⟩
      · rintro ⟨h', g2, d', tk, o2⟩ c' mv hc' R
        obtain rfl : g2 = s.gens := mv.gens
        obtain rfl : d' = s.drawn := mv.drawn
        obtain rfl : o2 = s.os := mv.os
        refine (show wpAny _ _ _ _ _ _ from wpAny_pure (show wpAny _ _ (ret Value.none) _ _ _ from wpAny_pure ⟨rfl, h', tk, c', rfl, R, by rw [← us_len]; exact hc', fun b o e => ?_⟩))
        have lb := Heap.lt_size e
        exact mv.heap b o (fun z => by
          rw [sz] at z
          rcases List.mem_cons.mp z with z | z
          · exact Nat.ne_of_lt lb z
          · exact Nat.ne_of_lt (Nat.lt_succ_of_lt lb) (List.mem_singleton.mp z)) (Heap.get?_push_of_some _ (Heap.get?_push_of_some _ e))
    · match r, hr with
      | .error e, hr => exact hr
      | .ok (.ret v), ⟨ev, h', tk, c', et, R⟩ =>
        subst ev et
        repeat (any_goals (first | assumption | wp_step))
        exact fin h' tk c' R
      | .ok .next, hr => exact hr.elim
      | .ok .brk, hr => exact hr.elim
      | .ok .cont, hr => exact hr.elim
  | .ok .next, hr => exact hr.elim
  | .ok .brk, hr => exact hr.elim
  | .ok .cont, hr => exact hr.elim
end
section
variable {X : Cx}
def rSetI (K : PySem.W.Frag) (w : World) : List V → Hp → VK → Prop := fun xs H Q => ∃ (l : Addr) (ns : List Int), xs = [.ref l] ∧ SqL K H l (ns.map V.int) ∧ ns.length < 64 ∧ ∀ p c, H p = none → c ≤ ns.length → Q (.ref p) (upd H p (SetO w p (fun j => decide (j ∈ ns)) c))
theorem cr_setI (hc : X.calm = true) : CallR X (.type "set") (rSetI X.K X.w) := by
  intro pins s σ H xs us Q I r h
  obtain ⟨l, ns, rfl, hq, hl, q⟩ := h
  rw [Vals.ref1 r]
  obtain ⟨its, rv, pl, hz⟩ := I.list hq
  have iu : IntsAre its.toArray.toList ns := ints_of_vals rv
  obtain ⟨o, n, h1, h2, h3, h4⟩ := pl
  refine set_of_list ns (I.ok.hd hc) ⟨o, h1, h2, n, h4⟩ iu (by unfold scanBound; omega) fun h' tk c R => ?_
  have hk : ∀ b o, s.heap.get? b = some o → h'.get? b = some o := R.2.2
  obtain ⟨o2, _, _, _, ho2, _⟩ := R.1
  exact ⟨.ref _, upd H s.heap.objs.size (SetO X.w s.heap.objs.size (fun j => decide (j ∈ ns)) c), I.laid (t' := tk) hk (Nat.le_refl _) (setO_new R.1), rfl, q _ c (I.hok.fresh (Nat.le_refl _)) R.2.1⟩
end
end L2
namespace Mv
open PySem PySem.Spec PyProof.Rows L2
/-- a rising list without what stands twice -/
def nubS : List Int → List Int
  | x :: y :: r => if x = y then nubS (y :: r) else x :: nubS (y :: r)
  | xs => xs
theorem nub_mem (k : Int) : ∀ xs : List Int, k ∈ nubS xs ↔ k ∈ xs
  | [] => Iff.rfl
  | [_] => Iff.rfl
  | x :: y :: r => by
    have ih := nub_mem k (y :: r)
    rw [nubS]
    split
    · rename_i e
      rw [ih, e]
      simp
    · rw [List.mem_cons, ih, List.mem_cons (a := k) (b := x)]
theorem nub_sorted : ∀ xs : List Int, xs.Pairwise (· ≤ ·) → (nubS xs).Pairwise (· < ·)
  | [], _ => .nil
  | [x], _ => List.pairwise_singleton _ _
  | x :: y :: r, h => by
    have h := List.pairwise_cons.mp h
    have ih := nub_sorted (y :: r) h.2
    rw [nubS]
    split
    · exact ih
    · rename_i ne
      refine List.pairwise_cons.mpr ⟨fun z hz => ?_, ih⟩
      have hz := (nub_mem z (y :: r)).mp hz
      have h1 := h.1 y (.head _)
      rcases List.mem_cons.mp hz with rfl | hz
      · omega
      · have h2 := (List.pairwise_cons.mp h.2).1 z hz
        omega
theorem rising_one : ∀ {xs ys : List Int}, xs.Pairwise (· < ·) → ys.Pairwise (· < ·) → (∀ k, k ∈ xs ↔ k ∈ ys) → xs = ys
  | [], [], _, _, _ => rfl
  | [], y :: ys, _, _, h => by have := (h y).mpr (.head _); simp at this
  | x :: xs, [], _, _, h => by have := (h x).mp (.head _); simp at this
  | x :: xs, y :: ys, h1, h2, h => by
    have h1 := List.pairwise_cons.mp h1
    have h2 := List.pairwise_cons.mp h2
    have e : x = y := by
      rcases List.mem_cons.mp ((h x).mp (.head _)) with e | m
      · exact e
      · rcases List.mem_cons.mp ((h y).mpr (.head _)) with e | m2
        · exact e.symm
        · have a := h2.1 x m
          have b := h1.1 y m2
          omega
    subst e
    congr 1
    refine rising_one h1.2 h2.2 fun k => ?_
    constructor
    · intro m
      rcases List.mem_cons.mp ((h k).mp (.tail _ m)) with e | q
      · have := h1.1 k m
        omega
      · exact q
    · intro m
      rcases List.mem_cons.mp ((h k).mpr (.tail _ m)) with e | q
      · have := h2.1 k m
        omega
      · exact q
def gSrtSet : D × Fl → Option (D × Fl) := fun x => match x.1 with
  | .lst ds => match intsOf ds with
    | some is => if is.length < 64 then some (.lst ((nubS (sortI is)).map .int), .n) else none
    | none => none
  | _ => none
section
variable {X : Cx} {ct : CT} {pos : Pos}
theorem me_srtSet {a : Expr} {p p2 pos2 : Pos} {m : EM} (hc : X.calm = true) (hg : Gl X "sorted") (hm : X.mg "sorted" = none) (hg2 : Gl X "set") (hm2 : X.mg "set" = none) (ha : ME X ct a m)
    (na : starEach [a] X.env = (false, eval a X.env) :: starEach [] X.env := by rfl)
    (na2 : starEach [Expr.Call (.Name "set" p2) [a] [] pos2] X.env = (false, eval (Expr.Call (.Name "set" p2) [a] [] pos2) X.env) :: starEach [] X.env := by rfl)
    (b1 : bootBuiltins "sorted" = some (.builtin "sorted") := by decide +kernel) (b2 : bootBuiltins "set" = some (.type "set") := by decide +kernel) :
    ME X ct (.Call (.Name "sorted" p) [.Call (.Name "set" p2) [a] [] pos2] [] pos) (eG1 gSrtSet m) :=
  ⟨fun G W tk => (pe_callB (cr_sortedSet hc) hg hm b1 (pa_cons (pe_callTy (cr_setI hc) hg2 hm2 b2 (pa_cons (ha.run G W tk) pa_nil na) (he := na)) pa_nil na2) (he := na2)).imp fun s H Q ⟨r, S, io, k, h⟩ => ⟨r, S, io, k, Res.first h fun x S1 io1 H1 e1 t1 q1 h1 v o => by
    have k1 := k.step t1 q1
    unfold lift0 at h1
    split at h1
    · rename_i res e
      unfold gSrtSet at e
      split at e
      · rename_i ds ed
        split at e
        · rename_i is ei
          split at e
          · rename_i hl
            cases e
            have o1 := o.repF
            rw [ed] at o1
            obtain ⟨l, vs, rfl, y1, y2, y3⟩ := seq_both (d := .lst ds) rfl o1
            rw [intsOf_eq ei] at y3
            obtain rfl := y3.ints
            refine ⟨l, is, rfl, y1, hl, fun p c hp hcl => ⟨p, _, c, rfl, upd_same, by omega, fun ns p' hs hm hn hp' => ?_⟩⟩
            have e : ns = nubS (sortI is) := rising_one hs (nub_sorted _ (sortI_sorted is)) fun k => by
              rw [hm k, nub_mem, (sortI_perm is).mem_iff, decide_eq_true_eq]
            subst e
            have np : p' ≠ p := fun z => by rw [z, upd_same] at hp'; cases hp'
            have hp1 : H1 p' = none := by rw [← upd_ne (H := H1) np]; exact hp'
            refine h1.go ((Stp.upd hp).trans (Stp.upd hp')) ((q1.upd hp).upd hp') _ (new_lst hp' (t1.free hp1) (fun a z => ?_) (q1.upd hp) (Reps.ofInts _))
            obtain ⟨o2, w1, w2⟩ := k1.mdom a z
            exact ⟨o2, by rw [upd_ne (fun y => by rw [y, hp] at w1; cases w1)]; exact w1, w2⟩
          · cases e
        · cases e
      · cases e
    · exact h1.elim⟩⟩
end
end Mv

set_option maxRecDepth 100000
set_option maxHeartbeats 2000000
/-! Mv30: (n, list) < (m, list); the display of one pair whose value is a number and an empty list -/
namespace L2
open PySem PySem.Spec PyProof.Rows PySem.W
def rLtD (K : PySem.W.Frag) : R2 := fun x y H Q => ∃ d e, Dp K H x d ∧ Dp K H y e ∧ alike d e = true ∧ d ≠ .none ∧ d.depth ≤ 8 ∧ Q (.bl (dataLt d e)) H
theorem op_ltD {X : Cx} (hu : X.A.units + 64 < cLine) : OpR X (compareOp .Lt) (rLtD X.K) := by
  intro pins s σ H x y v u Q I rx ry h
  obtain ⟨d, e, hd, he, al, nn, dp, q⟩ := h
  obtain ⟨as, r1⟩ := Dp.reads I d x v hd rx
  obtain ⟨bs, r2⟩ := Dp.reads I e y u he ry
  exact rcLt_alike d e X.A s v u as bs r1 r2 al nn (Nat.lt_of_le_of_lt (by omega) hu) _ _ _ _ ⟨.bl _, H, I, rfl, q⟩
end L2
namespace Mv
open PySem PySem.Spec PyProof.Rows L2 PySem.W
theorem alike_ints : ∀ is js : List Int, alikeAll (is.map PyData.int) (js.map PyData.int) = true
  | [], _ => by simp [alikeAll]
  | _ :: _, [] => by simp [alikeAll]
  | i :: is, j :: js => by simp [alikeAll, alike, alike_ints is js]
theorem eqv_ints : ∀ is js : List Int, PyData.eqvAll (is.map PyData.int) (js.map PyData.int) = decide (is = js)
  | [], [] => by simp [PyData.eqvAll]
  | [], _ :: _ => by simp [PyData.eqvAll]
  | _ :: _, [] => by simp [PyData.eqvAll]
  | i :: is, j :: js => by
    rw [List.map_cons, List.map_cons, eqv_all_cons, eqv_ints is js]
    by_cases h : i = j <;> by_cases h2 : is = js <;> simp [PyData.eqv, h, h2]
theorem lt_ints : ∀ is js : List Int, PyProof.Rows.lexLt itemOrd (keyToksAll (is.map PyData.int)) (keyToksAll (js.map PyData.int)) = HT.lexLt is js
  | [], [] => by
    simp [keyToksAll]
    rfl
  | [], _ :: _ => by
    simp only [List.map_nil, List.map_cons, keyToksAll]
    rfl
  | _ :: _, [] => by
    simp only [List.map_nil, List.map_cons, keyToksAll]
    rfl
  | i :: is, j :: js => by
    rw [List.map_cons, List.map_cons, HT.lexLt_cons]
    by_cases h : i = j
    · subst h
      rw [if_pos rfl, dataLt_all_yes (by simp [alike]) (by simp [PyData.eqv]), lt_ints is js]
    · rw [if_neg h, dataLt_all_no (by simp [alike]) (by simp [PyData.eqv, h]), dataLt_int]
def ltL (c d : Int) (is js : List Int) : Bool := if c = d then HT.lexLt is js else decide (c < d)
theorem lex_self : ∀ is : List Int, HT.lexLt is is = false
  | [] => rfl
  | i :: is => by rw [HT.lexLt_cons, if_pos rfl, lex_self is]
theorem lt_pair (c d : Int) (is js : List Int) : dataLt (.tuple [.int c, .list (is.map PyData.int)]) (.tuple [.int d, .list (js.map PyData.int)]) = ltL c d is js := by
  rw [dataLt_tuple]
  unfold ltL
  by_cases h : c = d
  · subst h
    rw [if_pos rfl, dataLt_all_yes (by simp [alike]) (by simp [PyData.eqv])]
    by_cases h2 : is = js
    · subst h2
      rw [dataLt_all_yes (by simp [alike, alike_ints]) (by simp [PyData.eqv, eqv_ints]), lex_self]
      simp [keyToksAll]
      rfl
    · rw [dataLt_all_no (by simp [alike, alike_ints]) (by simp [PyData.eqv, eqv_ints, h2]), dataLt_list, lt_ints]
  · rw [if_neg h, dataLt_all_no (by simp [alike]) (by simp [PyData.eqv, h]), dataLt_int]
def gLtL : D × Fl → D × Fl → Option (D × Fl) := fun a b => match a.1, b.1 with
  | .tup [.int c, .lst xs], .tup [.int d, .lst ys] => match intsOf xs, intsOf ys with
    | some is, some js => some (.bl (ltL c d is js), .c)
    | _, _ => none
  | _, _ => none
theorem toPys_ints : ∀ is : List Int, toPys (is.map D.int) = some (is.map PyData.int)
  | [] => rfl
  | i :: is => by
    rw [List.map_cons]
    unfold toPys toPy
    rw [toPys_ints is]
    rfl
theorem depth_ints : ∀ is : List Int, PyData.depthAll (is.map PyData.int) = 0
  | [] => rfl
  | i :: is => by
    rw [List.map_cons]
    unfold PyData.depthAll PyData.depth
    rw [depth_ints is]
    rfl
section
variable {K : PySem.W.Frag} {ct : CT} {M N : Addr → Prop} {io : List Addr} {H : Hp}
theorem dp_pair {c : Int} {is : List Int} {v : V} (h : Rep K M io H (.tup [.int c, .lst (is.map D.int)]) v) : Dp K H v (.tuple [.int c, .list (is.map PyData.int)]) :=
  h.dp (by simp [toPy, toPys, toPys_ints])
theorem any_rep {f : Fl} {d : D} {v : V} (hd : ∀ xs, d = .tup xs → RepF K M N io H f d v → Rep K (fun _ => False) io H d v) (xs : List D) (e : d = .tup xs) (h : RepF K M N io H f d v) : Rep K (fun _ => False) io H d v := hd xs e h
theorem tup_rep {f : Fl} {xs : List D} {v : V} (h : RepF K M N io H f (.tup xs) v) : Rep K (fun _ => False) io H (.tup xs) v := by
  obtain ⟨p, vs, rfl, h1, h2⟩ := tup_of h
  exact .tup h1 h2
theorem ok_ltL : BinOk K ct (rLtD K) gLtL := by
  rintro M N io S H x y ⟨a, fa⟩ ⟨b, fb⟩ res Q ra rb q md e w
  unfold gLtL at e
  dsimp only at e ra rb
  split at e
  · rename_i c xs d ys
    split at e
    · rename_i is js e1 e2
      cases e
      rw [intsOf_eq e1] at ra
      rw [intsOf_eq e2] at rb
      refine ⟨_, _, dp_pair (tup_rep ra), dp_pair (tup_rep rb), by simp [alike, alikeAll, alike_ints], (fun z => nomatch z), by simp [PyData.depth, PyData.depthAll, depth_ints], ?_⟩
      rw [lt_pair]
      exact w _ _ Stp.refl (ResOk.c (.bl _) q)
    · cases e
  · cases e
end
/-- {k: (i, [])} -/
def eDict1L (k i : Int) : EM := fun _ S => .ok (.dic [.inl k] [.tup [.int i, .lst []]], .n) S
section
variable {X : Cx} {ct : CT} {pos : Pos}
theorem upd3 {H : Hp} {p l t : Addr} {a b c d : HO} (h1 : l ≠ p) (h2 : t ≠ p) : upd (upd (upd (upd H p a) l b) t c) p d = upd (upd (upd H l b) t c) p d := by
  funext x
  by_cases hx : x = p
  · subst hx
    rw [upd_same, upd_same]
  · rw [upd_ne hx, upd_ne hx]
    by_cases ht : x = t
    · subst ht
      rw [upd_same, upd_same]
    · rw [upd_ne ht, upd_ne ht]
      by_cases hl : x = l
      · subst hl
        rw [upd_same, upd_same]
      · rw [upd_ne hl, upd_ne hl, upd_ne hx]
theorem me_dict1L {k i : Int} {p1 p2 p3 p4 : Pos} {k1 k2 : Nat} {kt : Nat} : ME X ct (.Dict [some (.Constant (.int k) k1 p1)] [.Tuple [.Constant (.int i) k2 p2, .List [] p3] kt p4] pos) (eDict1L k i) :=
  ⟨fun G W tk => (pe_disp (pps_cons (pe_int (i := k)) (pe_tup (pa_cons (pe_int (i := i)) (pa_cons (pe_lst pa_nil) pa_nil))) pps_nil) rfl rfl (by simp) (Nat.le_of_ble_eq_true rfl)).imp fun s H Q ⟨r, S, io, kk, h⟩ p hp => by
    refine ⟨Nat.zero_le _, fun l hl => ⟨by show 2 ≤ sizeLine; decide, fun t ht => ?_⟩⟩
    have nl : l ≠ p := fun z => by rw [z, upd_same] at hl; cases hl
    have ntl : t ≠ l := fun z => by rw [z, upd_same] at ht; cases ht
    rw [upd_ne ntl] at ht
    have nt : t ≠ p := fun z => by rw [z, upd_same] at ht; cases ht
    rw [upd_ne nl] at hl
    rw [upd_ne nt] at ht
    have hH : (upd (upd (upd H p (.dK [])) l (.lst [])) t (.tup [.int i, .ref l])) p = some (.dK []) := by
      rw [upd_ne nt.symm, upd_ne nl.symm, upd_same]
    refine ⟨hH, [(.inl k, .ref t)], rfl, Nat.le_of_ble_eq_true rfl, ?_⟩
    show Q (.ref p) (upd (upd (upd (upd H p (.dK [])) l (.lst [])) t (.tup [.int i, .ref l])) p (.dK [(.inl k, .ref t)]))
    rw [upd3 nl nt]
    have h1 : (upd H l (.lst [])) t = none := by rw [upd_ne ntl]; exact ht
    have h2 : (upd (upd H l (.lst [])) t (.tup [.int i, .ref l])) p = none := by rw [upd_ne nt.symm, upd_ne nl.symm]; exact hp
    have s1 : Stp ct io H io (upd (upd (upd H l (.lst [])) t (.tup [.int i, .ref l])) p (.dK [(.inl k, .ref t)])) := ((Stp.upd hl).trans (Stp.upd h1)).trans (Stp.upd h2)
    have fresh : ∀ {a : Addr}, H a = none → ¬ Mall G r s a := fun ha z => by
      obtain ⟨o, e, _⟩ := kk.mdom _ z
      rw [ha] at e
      cases e
    have q0 : StoOk X.K ct (Mall G r s) io S (upd (upd H l (.lst [])) t (.tup [.int i, .ref l])) := (kk.sto.upd hl).upd h1
    have et : (upd (upd (upd H l (.lst [])) t (.tup [.int i, .ref l])) p (.dK [(.inl k, .ref t)])) t = some (.tup [.int i, .ref l]) := by
      rw [upd_ne nt, upd_same]
    have el : (upd (upd (upd H l (.lst [])) t (.tup [.int i, .ref l])) p (.dK [(.inl k, .ref t)])) l = some (.lst []) := by
      rw [upd_ne nl, upd_ne ntl.symm, upd_same]
    exact h io _ s1 (q0.upd h2) (.ref p) ⟨p, rfl, hp, fresh hp, .inr ⟨[.inl k], [.tup [.int i, .lst []]], [(.inl k, .ref t)], rfl, upd_same, rfl, .cons (.tup (SqT.of et) (.cons (.int i) (.cons (.lst el (fun z => z.elim (fresh hl) nl) .nil) .nil))) .nil⟩, (q0.off h2).upd h2⟩⟩
end
end Mv

set_option maxRecDepth 100000
set_option maxHeartbeats 2000000
/-! Mv31: a comprehension within a comprehension -/
namespace Mv
open PySem PySem.Spec PyProof.Rows L2 PySem.W
def relS (scope sc : Scope) : Scope :=
  { scope with names := scope.names.map fun (n, k) => if (k == .free && sc.kind == .function && sc.names.lookup n == some .cell) then (n, .cell) else (n, k) }
theorem blkIn {X : Cx} {s : Shared} {H : Hp} {scope0 scope : Scope} {cl : List (Str × Addr)} {C : Addr} {fp : List Addr} {N : List Str} {sc : Scope} {own : List (Str × Nat)}
    (e : X.env.scope = sc) (h : blkC N (relS scope0 sc) scope own = true) : BlkOk N (X.blk s H scope0 (compEnvC scope0 cl C X.env) fp).env.scope scope own := by
  subst e
  exact blkOk_by h
end Mv

set_option maxRecDepth 100000
set_option maxHeartbeats 2000000
/-! Mv32: len(set(xs)), xs a list of unlike ints -/
namespace Mv
open PySem PySem.Spec PyProof.Rows L2
def gLenSet : D × Fl → Option (D × Fl) := fun x => match x.1 with
  | .lst ds => match intsOf ds with
    | some is => if is.length ≤ 4000 ∧ is.Nodup then some (.int (is.length : Nat), .c) else none
    | none => none
  | _ => none
section
variable {X : Cx} {ct : CT} {pos : Pos}
theorem me_lenSet {a : Expr} {p p2 pos2 : Pos} {m : EM} (hc : X.calm = true) (hg : Gl X "len") (hm : X.mg "len" = none) (hg2 : Gl X "set") (hm2 : X.mg "set" = none) (ha : ME X ct a m)
    (na : starEach [a] X.env = (false, eval a X.env) :: starEach [] X.env := by rfl) :
    ME X ct (.Call (.Name "len" p) [.Call (.Name "set" p2) [a] [] pos2] [] pos) (eG1 gLenSet m) :=
  ⟨fun G W tk => (RZ.pe_lenSetI hg hm hg2 hm2 (ha.run G W tk) hc na).imp fun s H Q ⟨r, S, io, k, h⟩ => ⟨r, S, io, k, Res.first h fun x S1 io1 H1 e1 t1 q1 h1 v o => by
    have k1 := k.step t1 q1
    unfold lift0 at h1
    split at h1
    · rename_i res e
      unfold gLenSet at e
      split at e
      · rename_i ds ed
        split at e
        · rename_i is ei
          split at e
          · rename_i hl
            cases e
            have o1 := o.repF
            rw [ed] at o1
            obtain ⟨l, vs, rfl, y1, y2, y3⟩ := seq_both (d := .lst ds) rfl o1
            rw [intsOf_eq ei] at y3
            obtain rfl := y3.ints
            exact ⟨l, is, rfl, y1, hl.2, hl.1, h1.go Stp.refl q1 _ (ResOk.c (.int _) q1)⟩
          · cases e
        · cases e
      · cases e
    · exact h1.elim⟩⟩
end
end Mv

set_option maxRecDepth 100000
set_option maxHeartbeats 2000000
/-! Mv33: for x in y: d[x] = e, y a list of ints of one's own that stays one's own -/
namespace Mv
open PySem PySem.Spec PyProof.Rows L2
section
variable {X : Cx} {ct : CT} {pos : Pos}
/-- the same ends, asked of the same slots alone -/
def only (D : Ends) (s : St) : Ends := { D with nx := fun s' H' => s' = s → D.nx s' H' }
/-- a statement that sets no slot -/
structure MS0 (X : Cx) (ct : CT) (st : Stmt) (m : SM) : Prop where
  run : ∀ (G : Gx) (W : WX), Takes X W → PS X st (fun D s H => ∃ r S io, Ok X.K ct G r S io s H ∧ SRes X.K ct G W (only D s) (m r S))
theorem ms0_dsub {i : Nat} {y : Str} {p spos : Pos} {e ei : Expr} {m mi : EM} (hu : X.A.units + 64 < cLine) (hx : PE X (.Name y p) (tVar i)) (hi : ME X ct ei mi) (he : ME X ct e m)
    (ha : ∀ v, assign (.Subscript (.Name y p) ei spos) X.env v = (do
      let ov ← holding [v] (eval (.Name y p) X.env)
      let iv ← holding [v, ov] (eval ei X.env)
      standAt spos
      holding [v, ov, iv] (setItem ov iv v)
      release [v, ov, iv] []) := by intro _; rfl)
    (hs : swapsWithSole [.Subscript (.Name y p) ei spos] e pos.line X.env = pure false := by rfl) (hw : swappedStores [.Subscript (.Name y p) ei spos] e X.env = pure none := by rfl)
    (h1 : (assignEach [.Subscript (.Name y p) ei spos] X.env).map (·.2) = [assign (.Subscript (.Name y p) ei spos) X.env] := by rfl) : MS0 X ct (.Assign [.Subscript (.Name y p) ei spos] e pos) (sDSub i mi m) :=
  ⟨fun G W tk => (ps_asg (he.run G W tk) (pg_sub hx (hi.run G W tk) (set_dict (hu1 hu)) ha) hs hw h1).imp fun D s H ⟨r, S, io, k, h⟩ => ⟨r, S, io, k, SRes.first k h fun x S1 io1 H1 _ t1 q1 k1 h1' v ov => by
    split at h1'
    · rename_i ks xs e
      obtain ⟨a, h1, h2, h3, h4⟩ := k1.own i _ e
      obtain ⟨kvs, h5, h6, h7⟩ := own_dic h2
      refine ⟨.ref a, h1, r, S1, io1, k1, SRes.first k1 h1' fun j S2 io2 H2 _ t2 q2 k2 h2' u ou => ?_⟩
      split at h2'
      · rename_i kk ej
        split at h2'
        · rename_i g
          rw [Bool.and_eq_true, decide_eq_true_eq] at g
          have h5' := t2.k1 a _ h5 NI.dK
          have h7' := h7.stp t2
          obtain rfl := key_val ej ou.repF
          subst h6
          refine ⟨a, _, rfl, DPut.k h5' (by rw [← List.length_map Prod.fst]; exact g.2), h2' s io2 _ (k2.mut e h1 (own_newD (.inr (.inr ⟨i, _, e, h1⟩)) h5' (put_keys kvs kk v xs x.1) (put_vals h7' (RepF.clean g.1 (ov.repF.stp t2))))) rfl⟩
        · exact h2'.elim
      · exact h2'.elim
    · exact h1'.elim⟩⟩
def sameI (x : Option Slot) (is : List Int) : Bool := match x with
  | some (.own (.lst ds)) => decide (intsOf ds = some is)
  | _ => false
def forO (i : Nat) (js : List Int) (g : GM) (b : SM) : List D → Env → Store → SR
  | [], r, S => .nx r S
  | d :: ds, r, S => match g d r with
    | none => .no
    | some r1 => match b r1 S with
      | .nx r2 S2 => if sameI r1[i]? js && sameI r2[i]? js then forO i js g b ds r2 S2 else .no
      | .er c p r2 S2 => .er c p r2 S2
      | _ => .no
def sForO (i : Nat) (g : GM) (b : SM) : SM := fun r S => match r[i]? with
  | some (.own (.lst ds)) => match intsOf ds with
    | some js => forO i js g b ds r S
    | none => .no
  | _ => .no
theorem same_own {x : Option Slot} {js : List Int} (h : sameI x js = true) : x = some (.own (.lst (js.map D.int))) := by
  unfold sameI at h
  split at h
  · rename_i ds
    rw [intsOf_eq (of_decide_eq_true h)]
  · cases h
theorem ms_forO {i t : Nat} {y : Str} {p : Pos} {tg : Expr} {st : Stmt} {g : GM} {b : SM} (hc : X.calm = true) (hx : PE X (.Name y p) (tVar i)) (hg : MG X ct tg [t] g) (ht : i ≠ t) (hb : MS0 X ct st b)
    (hs : ∀ x, foldedSetIterable (.Name y p) X.env x = pure x := by intro _; rfl) : MS X ct (.For tg (.Name y p) [st] [] pos) (sForO i g b) := by
  refine ⟨fun G W tk po => (ps_for po hc (pi_list hx) (hg.run G) (pss_one (hb.run G W tk)) hs).imp fun De s H ⟨r, S, io, k, h⟩ => ?_⟩
  unfold sForO at h
  split at h
  · rename_i ds e
    split at h
    · rename_i js ej
      have ed := intsOf_eq ej
      obtain ⟨a, ea, ow, _, _, _⟩ := k.own i _ e
      obtain ⟨vs, h1, h2⟩ := own_lst ow
      refine ⟨.ref a, ea, a, rfl, ⟨vs, SqL.of h1⟩, ?_⟩
      refine ⟨fun j m s H => m = ds.length - j ∧ j ≤ ds.length ∧ s[i]? = some (some (V.ref a)) ∧ ∃ r S io, Ok X.K ct G r S io s H ∧ r[i]? = some (.own (.lst ds)) ∧ SRes X.K ct G W De (forO i js g b (ds.drop j) r S), ⟨_, rfl, Nat.zero_le _, ea, r, S, io, k, e, h⟩, fun j m s H ⟨hm, hj, ea, r, S, io, k, e, h⟩ => ?_⟩
      subst hm
      obtain ⟨a', ea', ow, _, _, _⟩ := k.own i _ e
      rw [ea] at ea'
      cases ea'
      obtain ⟨vs, h1, h2⟩ := own_lst ow
      have hl := h2.len
      by_cases hlt : j < ds.length
      · obtain ⟨v, gv, _⟩ := h2.get (List.getElem?_eq_getElem hlt)
        refine .inr ⟨⟨vs, v, SqL.of h1, gv⟩, fun s' H' => s'[i]? = some (some (V.ref a)) ∧ ∃ r S io, Ok X.K ct G r S io s' H' ∧ r[i]? = some (.own (.lst ds)) ∧ SRes X.K ct G W De (forO i js g b (ds.drop (j + 1)) r S), fun s' H' ⟨n1, n2⟩ => ⟨ds.length - (j + 1), by omega, rfl, hlt, n1, n2⟩, fun x H' y => ?_⟩
        obtain ⟨e2, y⟩ := y
        subst e2
        have gx := y vs (SqL.of h1)
        obtain ⟨d, hd, rv⟩ := h2.getV gx
        have edr : ds.drop j = d :: ds.drop (j + 1) := by
          rw [List.drop_eq_getElem_cons hlt]
          rw [List.getElem?_eq_getElem hlt] at hd
          cases hd
          rfl
        have di : ∃ z, d = .int z := by
          rw [ed, List.getElem?_map] at hd
          obtain ⟨z, _, q⟩ := Option.map_eq_some_iff.mp hd
          exact ⟨z, q.symm⟩
        obtain ⟨z, rfl⟩ := di
        rw [edr] at h
        refine ⟨r, S, io, .int z, k, by cases rv; exact .int z, ?_⟩
        unfold forO at h
        cases e2 : g (.int z) r with
        | none => rw [e2] at h; exact h
        | some r1 =>
          rw [e2] at h
          intro s2 kp _ k2
          have s2a : s2[i]? = some (some (V.ref a)) := by
            rw [(kp.2 i (by rw [List.mem_singleton]; exact ht)).2]
            exact ea
          refine ⟨r1, S, io, k2, ?_⟩
          have h : SRes X.K ct G W De (match b r1 S with
            | .nx r2 S2 => if sameI r1[i]? js && sameI r2[i]? js then forO i js g b (ds.drop (j + 1)) r2 S2 else .no
            | .er c p r2 S2 => .er c p r2 S2
            | _ => .no) := h
          cases e3 : b r1 S with
          | nx r2 S2 =>
            rw [e3] at h
            dsimp only at h
            split at h
            · rename_i g2
              rw [Bool.and_eq_true] at g2
              have o2 := same_own g2.2
              rw [← ed] at o2
              exact fun s' io' H' k' es => ⟨by rw [es]; exact s2a, r2, S2, io', k', o2, h⟩
            · exact h.elim
          | er c p r2 S2 => rw [e3] at h; exact h
          | _ => rw [e3] at h; exact h.elim
      · have ei : j = ds.length := by omega
        subst ei
        refine .inl ⟨⟨vs, SqL.of h1, by omega⟩, ?_⟩
        rw [List.drop_length] at h
        exact h s io H k
    · exact h.elim
  · exact h.elim
end
end Mv

set_option maxRecDepth 100000
set_option maxHeartbeats 2000000
/-! Mv34: containers that are one's own to the ground -/
namespace L2
open PySem PySem.Spec PyProof.Rows
theorem PA.ex {X : Cx} {e : List Expr} {ι : Sort _} {t : ι → TA} (h : ∀ i, PA X e (t i)) : PA X e (fun s H Q => ∃ i, t i s H Q) := ⟨fun pos pins s σ H Q I ⟨i, w⟩ => (h i).run pos pins s σ H Q I w⟩
end L2
namespace Mv
open PySem PySem.Spec PyProof.Rows L2
theorem ConD.region {K : PySem.W.Frag} {io : List Addr} {H : Hp} {F F' : Addr → Prop} {b : Nat} {d : D} {v : V} (f : ∀ a, F a → F' a) (h : ConD K io H F b d v) : ConD K io H F' b d v := by
  obtain ⟨p, vs, xs, po, e, h1, h2⟩ := h
  refine ⟨p, vs, xs, po, e, ?_, Paired.mapP h2 fun _ _ z => ?_⟩
  · exact h1.imp id fun ⟨e1, h1, hp, hn⟩ => ⟨e1, h1, f _ hp, hn⟩
  · rcases z with z | ⟨ys, q, ws, e, e2, hq, r⟩
    · exact .inl z
    · exact .inr ⟨ys, q, ws, e, e2, f _ hq, r⟩
theorem ElD.rep {K : PySem.W.Frag} {io : List Addr} {H : Hp} {F : Addr → Prop} {p : Option Addr} {x : D} {v : V} (h : ElD K io H F p 0 x v) : Rep K (fun _ => False) io H x v := by
  rcases h with ⟨_, h⟩ | ⟨ys, q, ws, rfl, rfl, _, _, h, _, z⟩
  · exact h
  · exact .lst h (fun z => z) (z rfl).2
theorem els_rep {K : PySem.W.Frag} {io : List Addr} {H : Hp} {F : Addr → Prop} {p : Option Addr} : ∀ {xs : List D} {vs : List V}, Paired (ElD K io H F p 0) xs vs → Reps K (fun _ => False) io H xs vs
  | _, _, .nil => .nil
  | _, _, .cons r t => .cons r.rep (els_rep t)
theorem ConD.rep {K : PySem.W.Frag} {io : List Addr} {H : Hp} {F : Addr → Prop} {d : D} {v : V} (h : ConD K io H F 0 d v) : Rep K (fun _ => False) io H d v := by
  obtain ⟨p, vs, xs, po, rfl, ⟨rfl, h1, _⟩ | ⟨rfl, h1, _⟩, h2⟩ := h
  · exact .tup h1 (els_rep h2)
  · exact .lst h1 (fun z => z) (els_rep h2)
section
variable {K : PySem.W.Frag} {ct : CT} {G : Gx} {r : Env} {S S1 : Store} {io io1 : List Addr} {s : St} {H H1 : Hp} {i : Nat} {d : D} {v : V} {F : Addr → Prop}
/-- new things are hidden -/
def Gx.hideF (G : Gx) (F : Addr → Prop) : Gx := { G with N0 := fun a => G.N0 a ∨ F a }
theorem mown_hideF {a : Addr} : Mown (G.hideF F) r s a ↔ Mown G r s a ∨ F a := by
  constructor
  · rintro ((z | z) | z)
    · exact .inl (.inl z)
    · exact .inr z
    · exact .inl (.inr z)
  · rintro ((z | z) | z)
    · exact .inl (.inl z)
    · exact .inr z
    · exact .inl (.inr z)
theorem mall_hideF {a : Addr} : Mall (G.hideF F) r s a ↔ Mall G r s a ∨ F a := by
  constructor
  · rintro (z | z)
    · exact .inl (.inl z)
    · exact (mown_hideF.mp z).elim (fun z => .inl (.inr z)) .inr
  · rintro ((z | z) | z)
    · exact .inl z
    · exact .inr (mown_hideF.mpr (.inl z))
    · exact .inr (mown_hideF.mpr (.inr z))
theorem Ok.hideF (k : Ok K ct G r S io s H) (t : Stp ct io H io1 H1) (hF : ∀ a, F a → H a = none) (hF1 : ∀ a, F a → ∃ o, H1 a = some o ∧ NI o ∧ ¬ Im o) (q : StoOk K ct (fun a => Mall G r s a ∨ F a) io1 S1 H1) : Ok K ct (G.hideF F) r S1 io1 s H1 := by
  have ne : ∀ a, (∃ o, H a = some o) → ¬ F a := fun a ⟨o, e⟩ z => by
    rw [hF a z] at e
    cases e
  have m : ∀ a, (∃ o, H a = some o) → ¬ Mall G r s a → ¬ Mall (G.hideF F) r s a := fun a e n z => (mall_hideF.mp z).elim n (ne a e)
  have m' : ∀ a, (∃ o, H a = some o) → ¬ Mown G r s a → ¬ Mown (G.hideF F) r s a := fun a e n z => (mown_hideF.mp z).elim n (ne a e)
  refine ⟨k.len, fun i f d h => ?_, fun i d h => ?_, k.inj, q.anti fun a z => mall_hideF.mp z, k.stp.trans t, fun a h => ?_, fun a h => ?_, fun p hp => (k.held p hp).mono t.kp t.kp m m' t.pre, k.dp.gen (M := fun _ => False) rfl (fun _ z => .inl z) (fun _ _ _ e => ⟨e, rfl⟩) t.kp (fun a o _ _ e n => t.k1 a o e n) t.pre⟩
  · obtain ⟨v, h1, h2⟩ := k.arg i f d h
    exact ⟨v, h1, h2.mono t.kp t.kp m m' t.pre⟩
  · obtain ⟨a, h1, h2, h3, h4, h5⟩ := k.own i d h
    obtain ⟨o, e, _⟩ := h2.there
    exact ⟨a, h1, h2.mono t.kp m t.pre fun o e n => t.k1 a o e n, h3, fun z => z.elim h4 (ne a ⟨o, e⟩), h5⟩
  · obtain ⟨o, e, n⟩ := k.m0 a h
    exact ⟨o, t.k1 a o e n, n⟩
  · rcases h with h | h
    · obtain ⟨o, ⟨e, n⟩, y⟩ := k.n0 a h
      exact ⟨o, ⟨t.k1 a o e n, n⟩, y⟩
    · obtain ⟨o, e, n, ni⟩ := hF1 a h
      refine ⟨o, ⟨e, n⟩, fun z => ?_, k.stp.free (hF a h), ni⟩
      obtain ⟨o, e, _⟩ := k.m0 a z
      rw [hF a h] at e
      cases e
/-- what is hidden is slot i's -/
def Gx.give (G : Gx) (i : Nat) (F : Addr → Prop) : Gx := { G with F0 := fun j a => G.F0 j a ∨ (j = i ∧ F a) }
theorem Ok.give (k : Ok K ct (G.hideF F) r S io s H) (sub : ∀ j a, G.F0 j a → G.N0 a) (nF : ∀ a, G.N0 a → ¬ F a) (hi : i < r.length) (hc : ConD K io H F 0 d v) : Ok K ct ((G.hideF F).give i F) (r.set i (.deep 0 d)) S io (s.set i (some v)) H := by
  have no : ∀ e, Slot.deep 0 d ≠ Slot.own e := fun e z => by cases z
  have m : ∀ a, Mall ((G.hideF F).give i F) (r.set i (.deep 0 d)) (s.set i (some v)) a → Mall (G.hideF F) r s a := fun a => mall_set (G := G.hideF F) no
  have m' : ∀ a, Mown ((G.hideF F).give i F) (r.set i (.deep 0 d)) (s.set i (some v)) a → Mown (G.hideF F) r s a := fun a => mown_set (G := G.hideF F) no
  have an : ∀ {g : Fl} {e : D} {w : V}, ArgF K (Mall (G.hideF F) r s) (Mown (G.hideF F) r s) io H g e w → ArgF K (Mall ((G.hideF F).give i F) (r.set i (.deep 0 d)) (s.set i (some v))) (Mown ((G.hideF F).give i F) (r.set i (.deep 0 d)) (s.set i (some v))) io H g e w :=
    fun {g e w} h => h.mono Kp.refl Kp.refl (fun a _ n z => n (m a z)) (fun a _ n z => n (m' a z)) io_refl
  refine ⟨by simp [k.len], fun j g e q => ?_, fun j e q => ?_, fun j j' e e' a q q' z z' => ?_, k.sto.anti m, k.stp, k.m0, k.n0, fun p hp => an (k.held p hp), ⟨fun j a z => ?_, fun j j' a z z' => ?_, fun j b e q => ?_⟩⟩
  · rcases get_set q with ⟨rfl, q, hl⟩ | ⟨hj, q⟩
    · cases q
    · obtain ⟨w, h1, h2⟩ := k.arg j g e q
      exact ⟨w, by rw [List.getElem?_set_ne hj]; exact h1, an h2⟩
  · rcases get_set q with ⟨rfl, q, _⟩ | ⟨hj, q⟩
    · cases q
    · obtain ⟨a, h1, h2, h3, h4⟩ := k.own j e q
      exact ⟨a, by rw [List.getElem?_set_ne hj]; exact h1, h2.anti m, h3, h4⟩
  · rcases get_set q with ⟨_, q, _⟩ | ⟨hj, q⟩
    · cases q
    · rcases get_set q' with ⟨_, q', _⟩ | ⟨hj', q'⟩
      · cases q'
      · rw [List.getElem?_set_ne hj] at z
        rw [List.getElem?_set_ne hj'] at z'
        exact k.inj j j' e e' a q q' z z'
  · rcases z with z | ⟨_, z⟩
    · exact .inl (sub j a z)
    · exact .inr z
  · rcases z with z | ⟨e, z⟩
    · rcases z' with z' | ⟨_, z'⟩
      · exact k.dp.one j j' a z z'
      · exact absurd z' (nF a (sub j a z))
    · rcases z' with z' | ⟨e', z'⟩
      · exact absurd z (nF a (sub j' a z'))
      · rw [e, e']
  · rcases get_set q with ⟨rfl, q, hl⟩ | ⟨hj, q⟩
    · cases q
      exact ⟨v, List.getElem?_set_self (k.len ▸ hl), hc.region fun a z => .inr ⟨rfl, z⟩⟩
    · obtain ⟨w, h1, h2⟩ := k.dp.at_ j b e q
      exact ⟨w, by rw [List.getElem?_set_ne hj]; exact h1, h2.region fun a z => .inl z⟩
/-- it is forgotten -/
theorem Ok.ungive (k : Ok K ct ((G.hideF F).give i F) r S io s H) (sub : ∀ j a, G.F0 j a → G.N0 a) : Ok K ct G (r.set i .no) S io s H := by
  have mo : ∀ a, Mown G (r.set i .no) s a → Mown ((G.hideF F).give i F) r s a := fun a z => by
    rcases z with z | ⟨j, e, h1, h2⟩
    · exact .inl (.inl z)
    · rcases get_set h1 with ⟨_, h1, _⟩ | ⟨hj, h1⟩
      · cases h1
      · exact .inr ⟨j, e, h1, h2⟩
  have ml : ∀ a, Mall G (r.set i .no) s a → Mall ((G.hideF F).give i F) r s a := fun a z => z.elim .inl fun z => .inr (mo a z)
  have an : ∀ {g : Fl} {e : D} {w : V}, ArgF K (Mall ((G.hideF F).give i F) r s) (Mown ((G.hideF F).give i F) r s) io H g e w → ArgF K (Mall G (r.set i .no) s) (Mown G (r.set i .no) s) io H g e w :=
    fun {g e w} h => h.mono Kp.refl Kp.refl (fun a _ n z => n (ml a z)) (fun a _ n z => n (mo a z)) io_refl
  refine ⟨by simp [k.len], fun j g e q => ?_, fun j e q => ?_, fun j j' e e' a q q' z z' => ?_, k.sto.anti ml, k.stp, k.m0, fun a z => k.n0 a (.inl z), fun p hp => an (k.held p hp), ⟨sub, fun j j' a z z' => k.dp.one j j' a (.inl z) (.inl z'), fun j b e q => ?_⟩⟩
  · rcases get_set q with ⟨rfl, q, hl⟩ | ⟨hj, q⟩
    · cases q
    · obtain ⟨w, h1, h2⟩ := k.arg j g e q
      exact ⟨w, h1, an h2⟩
  · rcases get_set q with ⟨rfl, q, _⟩ | ⟨hj, q⟩
    · cases q
    · obtain ⟨a, h1, h2, h3, h4, h5⟩ := k.own j e q
      exact ⟨a, h1, h2.anti ml, h3, fun z => h4 (.inl z), h5⟩
  · rcases get_set q with ⟨_, q, _⟩ | ⟨hj, q⟩
    · cases q
    · rcases get_set q' with ⟨_, q', _⟩ | ⟨hj', q'⟩
      · cases q'
      · exact k.inj j j' e e' a q q' z z'
  · rcases get_set q with ⟨rfl, q, _⟩ | ⟨hj, q⟩
    · cases q
    · obtain ⟨w, h1, h2⟩ := k.dp.at_ j b e q
      exact ⟨w, h1, h2.region fun a z => z.elim id fun ⟨e, _⟩ => absurd e.symm hj⟩
/-- a list of slot i's region is written: of the slot nothing is known -/
theorem Ok.mutF {q : Addr} {vs ws : List V} (k : Ok K ct G r S io s H) (hq : G.F0 i q) (hD : H q = some (.lst vs)) : Ok K ct G (r.set i .no) S io s (upd H q (.lst ws)) := by
  have hN := k.dp.sub i q hq
  have mo : ∀ a, Mown G (r.set i .no) s a → Mown G r s a := fun a z => by
    rcases z with z | ⟨j, e, h1, h2⟩
    · exact .inl z
    · rcases get_set h1 with ⟨_, h1, _⟩ | ⟨hj, h1⟩
      · cases h1
      · exact .inr ⟨j, e, h1, h2⟩
  have ml : ∀ a, Mall G (r.set i .no) s a → Mall G r s a := fun a z => z.elim .inl fun z => .inr (mo a z)
  have ma : Mown G r s q := .inl hN
  have mb : Mall G r s q := .inr ma
  have kp : ∀ M : Addr → Prop, M q → Kp M H (upd H q (.lst ws)) := fun M hm b u e ni z => by
    rw [upd_ne]
    · exact e
    · rintro rfl
      rcases z with z | z
      · exact z hm
      · rw [hD] at e
        cases e
        exact not_im_lst z
  obtain ⟨o, ⟨_, _⟩, nm, n0, _⟩ := k.n0 q hN
  have h0 : ∀ b u, G.H0 b = some u → b ≠ q := fun b u e y => by
    rw [y, n0] at e
    cases e
  have n1 : ∀ a, (∃ o, H a = some o) → ¬ Mall G r s a → ¬ Mall G (r.set i .no) s a := fun a _ n z => n (ml a z)
  have n2 : ∀ a, (∃ o, H a = some o) → ¬ Mown G r s a → ¬ Mown G (r.set i .no) s a := fun a _ n z => n (mo a z)
  refine ⟨by simp [k.len], fun j f d h => ?_, fun j d h => ?_, fun j j' e e' a q q' z z' => ?_, k.sto.mono (kp _ mb) n1 (fun b _ _ _ _ e => ?_) (fun b _ e => ?_), ⟨fun b u q n => ?_, fun b u q n nt => ?_, k.stp.pre, k.stp.new, fun b u q => ?_, fun pu b u q => by rw [upd_ne (h0 b u q)]; exact k.stp.k3 pu b u q⟩, fun a h => ?_, fun a h => ?_, fun p hp => (k.held p hp).mono (kp _ mb) (kp _ ma) n1 n2 io_refl, k.dp.sub, k.dp.one, fun j b e h => ?_⟩
  · rcases get_set h with ⟨_, h, _⟩ | ⟨hj, h⟩
    · cases h
    · obtain ⟨v, h1, h2⟩ := k.arg j f d h
      exact ⟨v, h1, h2.mono (kp _ mb) (kp _ ma) n1 n2 io_refl⟩
  · rcases get_set h with ⟨_, h, _⟩ | ⟨hj, h⟩
    · cases h
    · obtain ⟨a, h1, h2, h3, h4, h5⟩ := k.own j d h
      refine ⟨a, h1, h2.mono (kp _ mb) n1 io_refl fun o e _ => ?_, h3, h4, h5⟩
      rw [upd_ne]
      · exact e
      · exact fun z => h4 (z ▸ hN)
  · rcases get_set q with ⟨_, q, _⟩ | ⟨hj, q⟩
    · cases q
    · rcases get_set q' with ⟨_, q', _⟩ | ⟨hj', q'⟩
      · cases q'
      · exact k.inj j j' e e' a q q' z z'
  · rw [upd_ne]
    · exact e
    · intro z
      rw [z, hD] at e
      cases e
  · rw [upd_ne]
    · exact e
    · intro z
      rw [z, hD] at e
      cases e
  · rw [upd_ne (h0 b u q)]
    exact k.stp.k1 b u q n
  · rw [upd_ne (h0 b u q)]
    exact k.stp.k2 b u q n nt
  · rw [upd_ne (h0 b u q)]
    exact k.stp.dom b u q
  · obtain ⟨o, e, n⟩ := k.m0 a h
    refine ⟨o, ?_, n⟩
    rw [upd_ne]
    · exact e
    · exact fun z => nm (z ▸ h)
  · by_cases z : a = q
    · subst z
      exact ⟨.lst ws, ⟨upd_same, NI.lst⟩, nm, n0, not_im_lst⟩
    · obtain ⟨o, ⟨e, n⟩, y⟩ := k.n0 a h
      exact ⟨o, ⟨by rw [upd_ne z]; exact e, n⟩, y⟩
  · rcases get_set h with ⟨_, h, _⟩ | ⟨hj, h⟩
    · cases h
    · obtain ⟨v, h1, h2⟩ := k.dp.at_ j b e h
      refine ⟨v, h1, h2.mono (kp _ ma) (fun a o z e _ => ?_) io_refl⟩
      rw [upd_ne]
      · exact e
      · rintro rfl
        exact hj (k.dp.one i j a hq z)
/-- a slot of which nothing is known gets its word back -/
theorem Ok.redeep {n : Nat} (k : Ok K ct G r S io s H) (e : r[i]? = some .no) (es : s[i]? = some (some v)) (hc : ConD K io H (G.F0 i) n d v) : Ok K ct G (r.set i (.deep n d)) S io s H := by
  have no : ∀ e, Slot.deep n d ≠ Slot.own e := fun e z => by cases z
  have hl := lt_of_get e
  have mo : Mown G (r.set i (.deep n d)) s = Mown G r s := by
    funext a
    refine propext ⟨fun z => ?_, fun z => ?_⟩
    · rcases z with z | ⟨j, u, h1, h2⟩
      · exact .inl z
      · rcases get_set h1 with ⟨_, h1, _⟩ | ⟨hj, h1⟩
        · cases h1
        · exact .inr ⟨j, u, h1, h2⟩
    · rcases z with z | ⟨j, u, h1, h2⟩
      · exact .inl z
      · refine .inr ⟨j, u, ?_, h2⟩
        rw [List.getElem?_set_ne]
        · exact h1
        · rintro rfl
          rw [e] at h1
          cases h1
  have ml : Mall G (r.set i (.deep n d)) s = Mall G r s := by unfold Mall; rw [mo]
  refine ⟨by simp [k.len], fun j g u q => ?_, fun j u q => ?_, fun j j' u u' a q q' z z' => ?_, by rw [ml]; exact k.sto, k.stp, k.m0, k.n0, by rw [ml, mo]; exact k.held, ⟨k.dp.sub, k.dp.one, fun j b u q => ?_⟩⟩
  · rcases get_set q with ⟨_, q, _⟩ | ⟨hj, q⟩
    · cases q
    · rw [ml, mo]; exact k.arg j g u q
  · rcases get_set q with ⟨_, q, _⟩ | ⟨hj, q⟩
    · cases q
    · rw [ml]; exact k.own j u q
  · rcases get_set q with ⟨_, q, _⟩ | ⟨hj, q⟩
    · cases q
    · rcases get_set q' with ⟨_, q', _⟩ | ⟨hj', q'⟩
      · cases q'
      · exact k.inj j j' u u' a q q' z z'
  · rcases get_set q with ⟨rfl, q, _⟩ | ⟨hj, q⟩
    · cases q
      exact ⟨v, es, hc⟩
    · exact k.dp.at_ j b u q
end
end Mv

set_option maxRecDepth 100000
set_option maxHeartbeats 2000000
/-! Mv35: a container of one's own: made, read, written -/
namespace Mv
open PySem PySem.Spec PyProof.Rows L2
section
variable {K : PySem.W.Frag} {ct : CT} {G : Gx} {r : Env} {S S1 : Store} {io io1 : List Addr} {s : St} {H H1 : Hp} {i : Nat} {d : D} {v : V} {F : Addr → Prop} {W : WX} {De : Ends}
theorem Ok.clear (k : Ok K ct G r S io s H) (i : Nat) : Ok K ct G (r.set i .no) S io s H := by
  have mo : ∀ a, Mown G (r.set i .no) s a → Mown G r s a := fun a z => by
    rcases z with z | ⟨j, e, h1, h2⟩
    · exact .inl z
    · rcases get_set h1 with ⟨_, h1, _⟩ | ⟨hj, h1⟩
      · cases h1
      · exact .inr ⟨j, e, h1, h2⟩
  have ml : ∀ a, Mall G (r.set i .no) s a → Mall G r s a := fun a z => z.elim .inl fun z => .inr (mo a z)
  have an : ∀ {g : Fl} {e : D} {w : V}, ArgF K (Mall G r s) (Mown G r s) io H g e w → ArgF K (Mall G (r.set i .no) s) (Mown G (r.set i .no) s) io H g e w :=
    fun {g e w} h => h.mono Kp.refl Kp.refl (fun a _ n z => n (ml a z)) (fun a _ n z => n (mo a z)) io_refl
  refine ⟨by simp [k.len], fun j g e q => ?_, fun j e q => ?_, fun j j' e e' a q q' z z' => ?_, k.sto.anti ml, k.stp, k.m0, k.n0, fun p hp => an (k.held p hp), k.dp.env rfl (fun _ z => z) (dp_set0 fun _ _ z => by cases z)⟩
  · rcases get_set q with ⟨_, q, _⟩ | ⟨hj, q⟩
    · cases q
    · obtain ⟨w, h1, h2⟩ := k.arg j g e q
      exact ⟨w, h1, an h2⟩
  · rcases get_set q with ⟨_, q, _⟩ | ⟨hj, q⟩
    · cases q
    · obtain ⟨a, h1, h2, h3⟩ := k.own j e q
      exact ⟨a, h1, h2.anti ml, h3⟩
  · rcases get_set q with ⟨_, q, _⟩ | ⟨hj, q⟩
    · cases q
    · rcases get_set q' with ⟨_, q', _⟩ | ⟨hj', q'⟩
      · cases q'
      · exact k.inj j j' e e' a q q' z z'
def clr (i : Nat) : SR → SR
  | .nx r S => .nx (r.set i .no) S
  | .bk r S => .bk (r.set i .no) S
  | .ct r S => .ct (r.set i .no) S
  | .er c p r S => .er c p (r.set i .no) S
  | x => x
theorem SRes.unclr {x : SR} (h : SRes K ct G W De (clr i x)) : SRes K ct G W De x := by
  cases x with
  | nx r S => exact fun s io H k => h s io H (k.clear i)
  | bk r S => exact fun s io H k => h s io H (k.clear i)
  | ct r S => exact fun s io H k => h s io H (k.clear i)
  | er c p r S => exact fun dx s io H k => h dx s io H (k.clear i)
  | rt d f S => exact h
  | no => exact h
theorem SRes.ungive {x : SR} (sub : ∀ j a, G.F0 j a → G.N0 a) (h : SRes K ct G W De (clr i x)) : SRes K ct ((G.hideF F).give i F) W De x := by
  cases x with
  | nx r S => exact fun s io H k => h s io H (k.ungive sub)
  | bk r S => exact fun s io H k => h s io H (k.ungive sub)
  | ct r S => exact fun s io H k => h s io H (k.ungive sub)
  | er c p r S => exact fun dx s io H k => h dx s io H (k.ungive sub)
  | rt d f S => exact h
  | no => exact h
/-- a new container, or a plain value -/
def ResG (K : PySem.W.Frag) (ct : CT) (M : Addr → Prop) (H : Hp) (io' : List Addr) (S' : Store) (H' : Hp) (d : D) (v : V) : Prop :=
  (gnd d = true ∧ Rep K (fun _ => False) io' H' d v ∧ StoOk K ct M io' S' H') ∨
    ∃ F : Addr → Prop, (∀ a, F a → H a = none) ∧ (∀ a, F a → ∃ o, H' a = some o ∧ NI o ∧ ¬ Im o) ∧ ConD K io' H' F 0 d v ∧ StoOk K ct (fun a => M a ∨ F a) io' S' H'
def tED (K : PySem.W.Frag) (ct : CT) (G : Gx) (W : WX) (m : Env → Store → Rs D) : TE := fun s H Q => ∃ r S io, Ok K ct G r S io s H ∧
  Res K ct W (Mall G r s) s io H (m r S) (fun d S' io' H' => ∀ v, ResG K ct (Mall G r s) H io' S' H' d v → Q v H')
structure MED (X : Cx) (ct : CT) (e : Expr) (m : Env → Store → Rs D) : Prop where
  run : ∀ (G : Gx) (W : WX), Takes X W → PE X e (tED X.K ct G W m)
def deepS (d : D) : Slot := if gnd d then .ar .c d else .deep 0 d
/-- x = e, a new container; x is forgotten at the block's end -/
def sDeep (i : Nat) (m : Env → Store → Rs D) (b : SM) : SM := fun r S => (m r S).sb r fun d S1 => if i < r.length then clr i (b (r.set i (deepS d)) S1) else .no
theorem con_not {n : Nat} (g : gnd d = true) (h : ConD K io H F n d v) : False := by
  obtain ⟨p, vs, xs, po, rfl, ⟨rfl, _⟩ | ⟨rfl, _⟩, _⟩ := h
  · cases g
  · cases g
theorem mss_deep {X : Cx} {pos : Pos} {i : Nat} {x : Str} {e : Expr} {m : Env → Store → Rs D} {rest : List Stmt} {b : SM} {pos' : Pos} (hN : X.N.Nodup) (hi : X.N[i]? = some x) (hx : Loc X.env.scope x) (he : MED X ct e m) (hb : MSs X ct rest b)
    (hs : swapsWith e (some (.Name x pos')) pos.line X.env = pure false := by rfl) (hf : X.fn x = true ∨ X.env.scope.names.lookup x = some .local := by first | exact .inl rfl | exact .inr rfl | assumption) :
    MSs X ct (.Assign [.Name x pos'] e pos :: rest) (sDeep i m b) :=
  ⟨fun G W tk po => (pss_cons (ps_set hN hi hx (he.run G W tk) hs hf) (PSs.ex fun G' : Gx => hb.run G' W tk po)).imp fun De s H ⟨r, S, io, k, h⟩ => by
    refine ⟨r, S, io, k, SRes.first k h fun d S1 io1 H1 _ t q k1 h1 v o => ?_⟩
    split at h1
    · rename_i hl
      rcases o with ⟨g, rv, st⟩ | ⟨F, hF, hF1, hc, st⟩
      · refine ⟨G, r.set i (deepS d), S1, io1, ?_, SRes.unclr h1⟩
        unfold deepS
        rw [if_pos g]
        exact k1.setc (Rep.of_gnd g rv)
      · have nd : ¬ gnd d = true := fun g => con_not g hc
        refine ⟨(G.hideF F).give i F, r.set i (deepS d), S1, io1, ?_, SRes.ungive k.dp.sub h1⟩
        unfold deepS
        rw [if_neg nd]
        refine (k.hideF t hF hF1 st).give k.dp.sub (fun a z y => ?_) hl hc
        obtain ⟨o, ⟨e, _⟩, _⟩ := k.n0 a z
        rw [hF a y] at e
        cases e
    · exact h1.elim⟩
end
/-! ### it is read -/
section
variable {X : Cx} {ct : CT} {pos : Pos}
theorem paired_atI {R : D → V → Prop} {xs : List D} {vs : List V} {j : Int} {x : D} (h : Paired R xs vs) (e : atI xs j = some x) : ∃ v, atI vs j = some v ∧ R x v := by
  have hl := Paired.length h
  unfold atI at e ⊢
  rw [← hl]
  cases q : ixN xs.length j with
  | none => rw [q] at e; cases e
  | some n =>
    rw [q] at e
    exact paired_get h e
theorem var_go {K : PySem.W.Frag} {i : Nat} {G : Gx} {W : WX} {s : St} {H : Hp} {Q : VK} (h : tE K ct G W (eVar i) s H Q) : tVar i s H Q := by
  obtain ⟨r, S, io, k, h⟩ := h
  unfold eVar at h
  split at h
  · rename_i f d e
    obtain ⟨v, h1, h2⟩ := k.arg i _ _ e
    exact ⟨v, h1, h.here k.sto v (ResOk.mk inf_n h2.repF k.sto)⟩
  · rename_i d e
    obtain ⟨a, h1, h2, _⟩ := k.own i _ e
    exact ⟨_, h1, h.here k.sto _ (ResOk.mk (by simp) (.inr ⟨a, rfl, h2⟩) k.sto)⟩
  · exact h.elim
def eVarD (i : Nat) : EM := fun r S => match r[i]? with
  | some (.deep 0 d) => .ok (d, .t) S
  | _ => eVar i r S
theorem me_varD {i : Nat} {x : Str} (h : PE X (.Name x pos) (tVar i)) : ME X ct (.Name x pos) (eVarD i) := ⟨fun G W _ => h.imp fun s H Q ⟨r, S, io, k, h⟩ => by
  unfold eVarD at h
  split at h
  · rename_i d e
    obtain ⟨v, h1, hc⟩ := k.dp.at_ i 0 d e
    exact ⟨v, h1, h.here k.sto v ⟨hc.rep, k.sto⟩⟩
  · exact var_go ⟨r, S, io, k, h⟩⟩
def conL : D → Option (List D)
  | .tup xs => some xs
  | .lst xs => some xs
  | _ => none
theorem con_open {K : PySem.W.Frag} {io : List Addr} {H : Hp} {F : Addr → Prop} {n : Nat} {d : D} {v : V} {xs : List D} (h : ConD K io H F n d v) (e : conL d = some xs) :
    ∃ p vs po, v = .ref p ∧ (SqL K H p vs ∨ SqT K H p vs) ∧ (d = .lst xs → po = some p) ∧ Paired (ElD K io H F po n) xs vs := by
  obtain ⟨p, vs, ys, po, rfl, ⟨rfl, h1, _⟩ | ⟨rfl, h1, _, hn⟩, h2⟩ := h
  · cases e
    exact ⟨p, vs, po, rfl, .inr h1, (fun z => by cases z), h2⟩
  · cases e
    exact ⟨p, vs, po, rfl, .inl (SqL.of h1), fun _ => hn, h2⟩
def eIxD (i : Nat) (mi : EM) : EM := fun r S => match r[i]? with
  | some (.deep 0 d) => (mi r S).bind fun k S1 => match conL d, k.1 with
    | some xs, .int j => match atI xs j with
      | some x => .ok (x, if gnd x then .c else .o) S1
      | none => .no
    | _, _ => .no
  | _ => .no
theorem me_ixD {i : Nat} {x : Str} {p : Pos} {b : Expr} {mb : EM} (hx : PE X (.Name x p) (tVar i)) (hb : ME X ct b mb) (hs : PlainIx b := by exact fun _ _ => rfl) : ME X ct (.Subscript (.Name x p) b pos) (eIxD i mb) :=
  ⟨fun G W tk => (pe_ix ix_seq hx (hb.run G W tk) hs).imp fun s H Q ⟨r, S, io, k, h⟩ => by
    unfold eIxD at h
    split at h
    · rename_i d e
      obtain ⟨v, h1, hc⟩ := k.dp.at_ i 0 d e
      refine ⟨v, h1, r, S, io, k, Res.first h fun y S1 io1 H1 e1 t q h' w o => ?_⟩
      split at h'
      · rename_i xs j exs ej
        have o2 := o.repF
        rw [ej] at o2
        obtain rfl := int_of o2
        have hc1 := hc.mono (M := fun _ => False) t.kp (fun a o _ e n => t.k1 a o e n) t.pre
        obtain ⟨p, vs, po, rfl, sq, hpo, hp⟩ := con_open hc1 exs
        split at h'
        · rename_i x ex
          obtain ⟨u, eu, ru⟩ := paired_atI hp ex
          have fin : ResOk X.K ct (Mall G r s) (Mown G r s) H io1 S1 H1 (if gnd x then .c else .o) x u := by
            rcases ru with ⟨g, ru⟩ | ⟨ys, q', ws, rfl, rfl, _, _, hH, _, z⟩
            · rw [if_pos g]
              exact ⟨Rep.of_gnd g ru, q⟩
            · refine ⟨.inr ⟨q', rfl, .inl ⟨ys, ws, rfl, hH, ?_⟩⟩, q⟩
              exact Reps.gnd_any io_refl (z rfl).1 (z rfl).2
          have w := h'.here q u fin
          rcases sq with sq | sq
          · exact .inl ⟨p, vs, j, u, rfl, rfl, sq, eu, w⟩
          · exact .inr (.inl ⟨p, vs, j, u, rfl, rfl, sq, eu, w⟩)
        · exact h'.elim
      · exact h'.elim
    · exact h.elim⟩
/-! ### it is written -/
theorem ConD.mut {K : PySem.W.Frag} {io : List Addr} {H : Hp} {F : Addr → Prop} {n : Nat} {d : D} {v : V} {q : Addr} {ws ws' : List V} (h : ConD K io H F n d v) (hq : H q = some (.lst ws)) (hl : ws'.length ≤ ws.length + 1)
    (np : ∀ p xs, v = .ref p → d = .lst xs → q ≠ p) : ConD K io (upd H q (.lst ws')) F (n + 1) d v := by
  obtain ⟨p, vs, xs, po, rfl, h1, h2⟩ := h
  refine ⟨p, vs, xs, po, rfl, ?_, Paired.mapP h2 fun x u z => ?_⟩
  · rcases h1 with ⟨e, h1, hn⟩ | ⟨e, h1, hp, hn⟩
    · refine .inl ⟨e, SqT.mono (M := fun a => a = q) (fun b o e2 _ z => ?_) h1, hn⟩
      rw [upd_ne]
      · exact e2
      · rintro rfl
        rcases z with z | z
        · exact z rfl
        · rw [hq] at e2
          cases e2
          exact not_im_lst z
    · exact .inr ⟨e, by rw [upd_ne (Ne.symm (np p xs rfl e))]; exact h1, hp, hn⟩
  · rcases z with ⟨g, z⟩ | ⟨ys, q', us, e1, e2, hF, nq, hH, hle, z⟩
    · exact .inl ⟨g, Rep.gnd_any g io_refl z⟩
    · by_cases hqq : q' = q
      · subst hqq
        rw [hq] at hH
        cases hH
        exact .inr ⟨ys, q', ws', e1, e2, hF, nq, upd_same, by omega, fun z => by cases z⟩
      · exact .inr ⟨ys, q', us, e1, e2, hF, nq, by rw [upd_ne hqq]; exact hH, by omega, fun z => by cases z⟩
def itD (d : D) (k : D) : Option (List D) := match conL d, k with
  | some xs, .int j => match atI xs j with
    | some (.lst ys) => some ys
    | _ => none
  | _, _ => none
theorem itD_of {d k : D} {ys : List D} (h : itD d k = some ys) : ∃ xs j, conL d = some xs ∧ k = .int j ∧ atI xs j = some (.lst ys) := by
  unfold itD at h
  split at h
  · rename_i xs j e
    split at h
    · rename_i ys' e2
      cases h
      exact ⟨xs, j, e, rfl, e2⟩
    · cases h
  · cases h
theorem el_lst {K : PySem.W.Frag} {io : List Addr} {H : Hp} {F : Addr → Prop} {p : Option Addr} {n : Nat} {ys : List D} {v : V} (h : ElD K io H F p n (.lst ys) v) : ∃ q ws, v = .ref q ∧ F q ∧ some q ≠ p ∧ H q = some (.lst ws) ∧ ws.length ≤ ys.length + n := by
  rcases h with ⟨g, _⟩ | ⟨ys', q, ws, e, e2, h1, h2, h3, h4, _⟩
  · cases g
  · cases e
    exact ⟨q, ws, e2, h1, h2, h3, h4⟩
/-- x[k].append(c) -/
def sApD (i : Nat) (mk mc : EM) : SM := fun r S => match r[i]? with
  | some (.deep n d) => (mk r S).sb r fun k S1 => match itD d k.1 with
    | some ys => (mc r S1).sb r fun c S2 => if ys.length + n < sizeLine then .nx (r.set i (.deep (n + 1) d)) S2 else .no
    | none => .no
  | _ => .no
theorem mut_go {K : PySem.W.Frag} {G : Gx} {r : Env} {S : Store} {io : List Addr} {s : St} {H : Hp} {i n : Nat} {d : D} {v : V} {q : Addr} {ws ws' : List V} (k : Ok K ct G r S io s H) (e : r[i]? = some (.deep n d)) (es : s[i]? = some (some v)) (hc : ConD K io H (G.F0 i) n d v) (hF : G.F0 i q)
    (hq : H q = some (.lst ws)) (hl : ws'.length ≤ ws.length + 1) (np : ∀ p xs, v = .ref p → d = .lst xs → q ≠ p) : Ok K ct G (r.set i (.deep (n + 1) d)) S io s (upd H q (.lst ws')) := by
  have k2 := k.mutF (ws := ws') hF hq
  have hl2 := lt_of_get e
  have z := k2.redeep (n := n + 1) (d := d) (List.getElem?_set_self hl2) es (hc.mut hq hl np)
  rw [List.set_set] at z
  exact z
theorem ms_apD {i : Nat} {x : Str} {p apos cpos spos : Pos} {b e : Expr} {mk mc : EM} (hx : PE X (.Name x p) (tVar i)) (hk : ME X ct b mk) (he : ME X ct e mc)
    (hb : ∀ {to : TE} {t : TA}, PE X (.Subscript (.Name x p) b spos) to → PA X [e] t → PE X (.Call (.Attribute (.Subscript (.Name x p) b spos) "append" apos) [e] [] cpos) (tBM X.K "list" rAppend to t))
    (hpi : PlainIx b := by exact fun _ _ => rfl) (hs1 : starEach [e] X.env = (false, eval e X.env) :: starEach [] X.env := by rfl) (hs : swapsWith (.Call (.Attribute (.Subscript (.Name x p) b spos) "append" apos) [e] [] cpos) none pos.line X.env = pure false := by rfl) :
    MS X ct (.Expr (.Call (.Attribute (.Subscript (.Name x p) b spos) "append" apos) [e] [] cpos) pos) (sApD i mk mc) :=
  ⟨fun G W tk _ => (ps_expr (hb (pe_ix ix_seq hx (hk.run G W tk) hpi) (pa_cons (he.run G W tk) pa_nil hs1)) hs).imp fun De s H ⟨r, S, io, k, h⟩ => by
    unfold sApD at h
    split at h
    · rename_i n d e
      obtain ⟨v, h1, hc⟩ := k.dp.at_ i n d e
      refine ⟨v, h1, r, S, io, k, SRes.first k h fun y S1 io1 H1 _ t q k1 h' w o => ?_⟩
      have hc1 := hc.mono (M := fun _ => False) t.kp (fun a o z e n => t.k1 a o e n) t.pre
      split at h'
      · rename_i ys ei
        obtain ⟨xs, j, exs, ej, ex⟩ := itD_of ei
        have o2 := o.repF
        rw [ej] at o2
        obtain rfl := int_of o2
        obtain ⟨p, vs, po, rfl, sq, hpo, hp⟩ := con_open hc1 exs
        obtain ⟨u, eu, ru⟩ := paired_atI hp ex
        obtain ⟨q', ws, rfl, hF, nq, hH, hle⟩ := el_lst ru
        have go : tyV X.K "list" (.ref q') H1 ∧ (tCons (tE X.K ct G W mc) tNil) s H1 (fun xs H2 => rAppend (.ref q') xs H2 fun _ H3 => De.nx s H3) := by
          refine ⟨.inl ⟨rfl, _, SqL.of hH⟩, r, S1, io1, k1, SRes.first k1 h' fun c S2 io2 H2 _ t2 q2 k2 h2 u ou => ?_⟩
          split at h2
          · rename_i g
            have hH2 := t2.k1 _ _ hH NI.lst
            obtain ⟨v2, h12, hc2⟩ := k2.dp.at_ i n d e
            rw [h1] at h12
            cases h12
            exact ⟨q', ws, u, rfl, rfl, hH2, by omega, h2 s io2 _ (mut_go k2 e h1 hc2 hF hH2 (by rw [List.length_append]; exact Nat.le_refl _) fun p' xs' z ed => by
              cases z
              rintro rfl
              have exs' := exs
              rw [ed] at exs'
              cases exs'
              exact nq (hpo ed).symm)⟩
          · exact h2.elim
        rcases sq with sq | sq
        · exact .inl ⟨p, vs, j, _, rfl, rfl, sq, eu, go⟩
        · exact .inr (.inl ⟨p, vs, j, _, rfl, rfl, sq, eu, go⟩)
      · exact h'.elim
    · exact h.elim⟩
/-- x[k].clear() -/
def sClD (i : Nat) (mk : EM) : SM := fun r S => match r[i]? with
  | some (.deep n d) => (mk r S).sb r fun k S1 => match itD d k.1 with
    | some _ => .nx (r.set i (.deep (n + 1) d)) S1
    | none => .no
  | _ => .no
theorem ms_clD {i : Nat} {x : Str} {p apos cpos spos : Pos} {b : Expr} {mk : EM} (hx : PE X (.Name x p) (tVar i)) (hk : ME X ct b mk)
    (hb : ∀ {to : TE}, PE X (.Subscript (.Name x p) b spos) to → PE X (.Call (.Attribute (.Subscript (.Name x p) b spos) "clear" apos) [] [] cpos) (tBM0 X.K "list" rClear to))
    (hpi : PlainIx b := by exact fun _ _ => rfl) (hs : swapsWith (.Call (.Attribute (.Subscript (.Name x p) b spos) "clear" apos) [] [] cpos) none pos.line X.env = pure false := by rfl) :
    MS X ct (.Expr (.Call (.Attribute (.Subscript (.Name x p) b spos) "clear" apos) [] [] cpos) pos) (sClD i mk) :=
  ⟨fun G W tk _ => (ps_expr (hb (pe_ix ix_seq hx (hk.run G W tk) hpi)) hs).imp fun De s H ⟨r, S, io, k, h⟩ => by
    unfold sClD at h
    split at h
    · rename_i n d e
      obtain ⟨v, h1, hc⟩ := k.dp.at_ i n d e
      refine ⟨v, h1, r, S, io, k, SRes.first k h fun y S1 io1 H1 _ t q k1 h' w o => ?_⟩
      have hc1 := hc.mono (M := fun _ => False) t.kp (fun a o z e n => t.k1 a o e n) t.pre
      split at h'
      · rename_i ys ei
        obtain ⟨xs, j, exs, ej, ex⟩ := itD_of ei
        have o2 := o.repF
        rw [ej] at o2
        obtain rfl := int_of o2
        obtain ⟨p, vs, po, rfl, sq, hpo, hp⟩ := con_open hc1 exs
        obtain ⟨u, eu, ru⟩ := paired_atI hp ex
        obtain ⟨q', ws, rfl, hF, nq, hH, hle⟩ := el_lst ru
        have go : tyV X.K "list" (.ref q') H1 ∧ rClear (.ref q') [] H1 fun _ H3 => De.nx s H3 :=
          ⟨.inl ⟨rfl, _, SqL.of hH⟩, q', ws, rfl, rfl, hH, h' s io1 _ (mut_go k1 e h1 hc1 hF hH (Nat.zero_le _) fun p' xs' z ed => by
              cases z
              rintro rfl
              have exs' := exs
              rw [ed] at exs'
              cases exs'
              exact nq (hpo ed).symm)⟩
        rcases sq with sq | sq
        · exact .inl ⟨p, vs, j, _, rfl, rfl, sq, eu, go⟩
        · exact .inr (.inl ⟨p, vs, j, _, rfl, rfl, sq, eu, go⟩)
      · exact h'.elim
    · exact h.elim⟩
/-- x.append(c), x.clear(): x is not known any more -/
def sAp0 (i : Nat) (mc : EM) : SM := fun r S => match r[i]? with
  | some (.deep n (.lst xs)) => (mc r S).sb r fun c S1 => if xs.length < sizeLine then .nx (r.set i .no) S1 else .no
  | _ => .no
theorem con_lst {K : PySem.W.Frag} {io : List Addr} {H : Hp} {F : Addr → Prop} {n : Nat} {xs : List D} {v : V} (h : ConD K io H F n (.lst xs) v) : ∃ p vs, v = .ref p ∧ H p = some (.lst vs) ∧ F p ∧ vs.length = xs.length := by
  obtain ⟨p, vs, ys, po, rfl, ⟨e, h1, _⟩ | ⟨e, h1, hF, _⟩, h2⟩ := h
  · cases e
  · cases e
    exact ⟨p, vs, rfl, h1, hF, (Paired.length h2).symm⟩
theorem ms_ap0 {i : Nat} {x : Str} {p apos cpos : Pos} {e : Expr} {mc : EM} (hx : PE X (.Name x p) (tVar i)) (he : ME X ct e mc)
    (hb : ∀ {to : TE} {t : TA}, PE X (.Name x p) to → PA X [e] t → PE X (.Call (.Attribute (.Name x p) "append" apos) [e] [] cpos) (tBM X.K "list" rAppend to t))
    (hs1 : starEach [e] X.env = (false, eval e X.env) :: starEach [] X.env := by rfl) (hs : swapsWith (.Call (.Attribute (.Name x p) "append" apos) [e] [] cpos) none pos.line X.env = pure false := by rfl) : MS X ct (.Expr (.Call (.Attribute (.Name x p) "append" apos) [e] [] cpos) pos) (sAp0 i mc) :=
  ⟨fun G W tk _ => (ps_expr (hb hx (pa_cons (he.run G W tk) pa_nil hs1)) hs).imp fun De s H ⟨r, S, io, k, h⟩ => by
    unfold sAp0 at h
    split at h
    · rename_i n xs e
      obtain ⟨v, h1, hc⟩ := k.dp.at_ i n _ e
      obtain ⟨p, vs, rfl, hH, hF, hl⟩ := con_lst hc
      refine ⟨_, h1, .inl ⟨rfl, _, SqL.of hH⟩, r, S, io, k, SRes.first k h fun c S1 io1 H1 _ t q k1 h' u ou => ?_⟩
      split at h'
      · rename_i g
        have hH1 := t.k1 _ _ hH NI.lst
        exact ⟨p, vs, u, rfl, rfl, hH1, by omega, h' s io1 _ (k1.mutF hF hH1)⟩
      · exact h'.elim
    · exact h.elim⟩
def sCl0 (i : Nat) : SM := fun r S => match r[i]? with
  | some (.deep _ (.lst _)) => .nx (r.set i .no) S
  | _ => .no
theorem ms_cl0 {i : Nat} {x : Str} {p apos cpos : Pos} (hx : PE X (.Name x p) (tVar i))
    (hb : ∀ {to : TE}, PE X (.Name x p) to → PE X (.Call (.Attribute (.Name x p) "clear" apos) [] [] cpos) (tBM0 X.K "list" rClear to))
    (hs : swapsWith (.Call (.Attribute (.Name x p) "clear" apos) [] [] cpos) none pos.line X.env = pure false := by rfl) : MS X ct (.Expr (.Call (.Attribute (.Name x p) "clear" apos) [] [] cpos) pos) (sCl0 i) :=
  ⟨fun G W tk _ => (ps_expr (hb hx) hs).imp fun De s H ⟨r, S, io, k, h⟩ => by
    unfold sCl0 at h
    split at h
    · rename_i n xs e
      obtain ⟨v, h1, hc⟩ := k.dp.at_ i n _ e
      obtain ⟨p, vs, rfl, hH, hF, hl⟩ := con_lst hc
      exact ⟨_, h1, .inl ⟨rfl, _, SqL.of hH⟩, p, vs, rfl, rfl, hH, h s io _ (k.mutF hF hH)⟩
    · exact h.elim⟩
end
end Mv

set_option maxRecDepth 100000
set_option maxHeartbeats 2000000
/-! Mv36: a display of new lists; a walk that writes; a call that sees no object -/
namespace Mv
open PySem PySem.Spec PyProof.Rows L2
section
variable {K : PySem.W.Frag} {ct : CT} {G : Gx} {r : Env} {S S1 : Store} {io io1 : List Addr} {s : St} {H H1 : Hp} {i : Nat} {d : D} {v : V} {F : Addr → Prop} {W : WX} {De : Ends} {M M' : Addr → Prop}
theorem Res.firstM {α β : Type} {x : Rs α} {k : α → Store → Rs β} {P : β → Store → List Addr → Hp → Prop} {P' : α → Store → List Addr → Hp → Prop} (h : Res K ct W M s io H (x.bind k) P) (sub : ∀ a, M a → M' a)
    (n : ∀ a S1 io1 H1, x = .ok a S1 → Stp ct io H io1 H1 → StoOk K ct M' io1 S1 H1 → Res K ct W M s io1 H1 (k a S1) P → P' a S1 io1 H1) : Res K ct W M' s io H x P' := by
  cases x with
  | ok a S' => exact fun io' H' t q => n a S' io' H' rfl t q (Res.shift (x := k a S') h t)
  | er c p S' => exact fun dx io' H' t q e => h dx io' H' t (q.anti sub) e
  | no => exact h
def ElF (K : PySem.W.Frag) (io : List Addr) (H : Hp) (F : Addr → Prop) (x : D) (v : V) : Prop :=
  (gnd x = true ∧ Rep K (fun _ => False) io H x v) ∨ ∃ ys q ws, x = .lst ys ∧ v = .ref q ∧ F q ∧ H q = some (.lst ws) ∧ ys.all gnd = true ∧ Reps K (fun _ => False) io H ys ws
theorem ElF.mono {io' : List Addr} {H' : Hp} {F' : Addr → Prop} {x : D} (kF : ∀ a o, F a → H a = some o → NI o → H' a = some o) (f : ∀ a, F a → F' a) (pr : ∃ l, io' = io ++ l) (h : ElF K io H F x v) : ElF K io' H' F' x v := by
  rcases h with ⟨g, h⟩ | ⟨ys, q, ws, e, e2, hq, hH, g, z⟩
  · exact .inl ⟨g, Rep.gnd_any g pr h⟩
  · exact .inr ⟨ys, q, ws, e, e2, f _ hq, kF _ _ hq hH NI.lst, g, Reps.gnd_any pr g z⟩
def tAD (K : PySem.W.Frag) (ct : CT) (G : Gx) (W : WX) (m : Env → Store → Rs (List D)) : TA := fun s H Q => ∃ r S io, Ok K ct G r S io s H ∧
  Res K ct W (Mall G r s) s io H (m r S) (fun ds S' io' H' => ∀ vs F, (∀ a, F a → H a = none) → (∀ a, F a → ∃ o, H' a = some o ∧ NI o ∧ ¬ Im o) → Paired (ElF K io' H' F) ds vs → StoOk K ct (fun a => Mall G r s a ∨ F a) io' S' H' → Q vs H')
structure MDA (X : Cx) (ct : CT) (es : List Expr) (m : Env → Store → Rs (List D)) : Prop where
  run : ∀ (G : Gx) (W : WX), Takes X W → PA X es (tAD X.K ct G W m)
def isLg : D → Bool
  | .lst ys => ys.all gnd
  | _ => false
def adNil : Env → Store → Rs (List D) := fun _ S => .ok [] S
def adCons (m : EM) (t : Env → Store → Rs (List D)) : Env → Store → Rs (List D) := fun r S => (m r S).bind fun x S1 => if gnd x.1 || (decide (x.2 = .n) && isLg x.1) then (t r S1).bind fun ds S2 => .ok (x.1 :: ds) S2 else .no
end
section
variable {X : Cx} {ct : CT} {pos : Pos}
theorem mda_nil : MDA X ct [] adNil := ⟨fun G W tk => pa_nil.imp fun s H Q ⟨r, S, io, k, h⟩ => h.here k.sto [] (fun _ => False) (fun _ z => z.elim) (fun _ z => z.elim) .nil (k.sto.anti fun a z => z.elim id False.elim)⟩
theorem mda_cons {e : Expr} {es : List Expr} {m : EM} {t : Env → Store → Rs (List D)} (ha : ME X ct e m) (hr : MDA X ct es t) (hs : starEach (e :: es) X.env = (false, eval e X.env) :: starEach es X.env := by rfl) : MDA X ct (e :: es) (adCons m t) :=
  ⟨fun G W tk => (pa_cons (ha.run G W tk) (PA.ex fun G' : Gx => hr.run G' W tk) hs).imp fun s H Q ⟨r, S, io, k, h⟩ => ⟨r, S, io, k, Res.first h fun x S1 io1 H1 e1 t1 q1 h1 v o => by
    have k1 := k.step t1 q1
    split at h1
    · rename_i g
      by_cases gx : gnd x.1 = true
      · refine ⟨G, r, S1, io1, k1, Res.first h1 fun ds S2 io2 H2 e2 t2 q2 h2 vs F hF hF1 hp st => ?_⟩
        exact h2.here q2 (v :: vs) F (fun a z => t1.free (hF a z)) hF1 (.cons (.inl ⟨gx, Rep.gnd_any gx t2.pre o.repF.weak⟩) hp) st
      · have g2 : x.2 = .n ∧ isLg x.1 = true := by
          rw [Bool.or_eq_true, Bool.and_eq_true, decide_eq_true_eq] at g
          exact g.resolve_left gx
        obtain ⟨g2, g3⟩ := g2
        rw [g2] at o
        obtain ⟨p, rfl, hp0, np, ow, st1⟩ := o
        have hx : ∃ ys ws, x.1 = .lst ys ∧ H1 p = some (.lst ws) ∧ ys.all gnd = true ∧ Reps X.K (fun _ => False) io1 H1 ys ws := by
          rcases ow with ⟨xs, vs, e, h1, h2⟩ | ⟨ks, xs, kvs, e, _⟩
          · rw [e] at g3
            exact ⟨xs, vs, e, h1, g3, Reps.gnd_any io_refl g3 h2⟩
          · rw [e] at g3
            cases g3
        obtain ⟨ys, ws, ex, hH1, gy, ry⟩ := hx
        have kh : Ok X.K ct (G.hideF fun a => a = p) r S1 io1 s H1 := k.hideF t1 (fun a z => by rw [z]; exact hp0) (fun a z => ⟨.lst ws, by rw [z]; exact hH1, NI.lst, not_im_lst⟩) st1
        refine ⟨_, r, S1, io1, kh, Res.firstM h1 (fun a z => mall_hideF.mpr (.inl z)) fun ds S2 io2 H2 e2 t2 q2 h2 vs F hF hF1 hp st => ?_⟩
        have hH2 := t2.k1 _ _ hH1 NI.lst
        refine h2.here (q2.anti fun a z => mall_hideF.mpr (.inl z)) (.ref p :: vs) (fun a => a = p ∨ F a) (fun a z => ?_) (fun a z => ?_) (.cons ?_ ?_) (st.anti fun a z => ?_)
        · rcases z with z | z
          · rw [z]; exact hp0
          · exact t1.free (hF a z)
        · rcases z with z | z
          · exact ⟨.lst ws, by rw [z]; exact hH2, NI.lst, not_im_lst⟩
          · exact hF1 a z
        · exact .inr ⟨ys, p, ws, ex, rfl, .inl rfl, hH2, gy, Reps.gnd_any t2.pre gy ry⟩
        · exact Paired.mapP hp fun _ _ z => z.mono (fun a o _ e _ => e) (fun a z => .inr z) io_refl
        · rcases z with z | z | z
          · exact .inl (mall_hideF.mpr (.inl z))
          · exact .inl (mall_hideF.mpr (.inr z))
          · exact .inr z
    · exact h1.elim⟩⟩
def eLstD (t : Env → Store → Rs (List D)) : Env → Store → Rs D := fun r S => (t r S).bind fun ds S1 => if ds.length ≤ sizeLine then .ok (.lst ds) S1 else .no
theorem med_lst {es : List Expr} {t : Env → Store → Rs (List D)} (ha : MDA X ct es t) : MED X ct (.List es pos) (eLstD t) :=
  ⟨fun G W tk => (pe_lst (ha.run G W tk)).imp fun s H Q ⟨r, S, io, k, h⟩ => ⟨r, S, io, k, Res.first h fun ds S1 io1 H1 e1 t1 q1 h1 vs F hF hF1 hp st => by
    have hl : ds.length = vs.length := Paired.length hp
    split at h1
    · rename_i hz
      refine ⟨hl ▸ hz, fun p np => ?_⟩
      have s2 : Stp ct io1 H1 io1 (upd H1 p (.lst vs)) := Stp.upd np
      have neF : ∀ a, F a → a ≠ p := fun a z y => by
        obtain ⟨o, e, _⟩ := hF1 a z
        rw [y, np] at e
        cases e
      refine h1.go s2 (q1.upd np) (.ref p) (.inr ⟨fun a => a = p ∨ F a, fun a z => ?_, fun a z => ?_, ⟨p, vs, ds, some p, rfl, .inr ⟨rfl, upd_same, .inl rfl, rfl⟩, Paired.mapP hp fun x u z => ?_⟩, ?_⟩)
      · rcases z with z | z
        · rw [z]; exact t1.free np
        · exact hF a z
      · rcases z with z | z
        · exact ⟨.lst vs, by rw [z]; exact upd_same, NI.lst, not_im_lst⟩
        · obtain ⟨o, e, n⟩ := hF1 a z
          exact ⟨o, by rw [upd_ne (neF a z)]; exact e, n⟩
      · rcases z with ⟨g, z⟩ | ⟨ys, q, ws, e, e2, hq, hH, g, z⟩
        · exact .inl ⟨g, Rep.gnd_any g io_refl z⟩
        · exact .inr ⟨ys, q, ws, e, e2, .inr hq, (fun z => neF q hq (Option.some.inj z)), by rw [upd_ne (neF q hq)]; exact hH, by rw [z.len]; exact Nat.le_refl _, fun _ => ⟨g, Reps.gnd_any io_refl g z⟩⟩
      · refine ((st.off np).upd np).anti fun a z => ?_
        rcases z with z | z | z
        · exact .inl (.inl z)
        · exact .inr z
        · exact .inl (.inr z)
    · exact h1.elim⟩⟩
/-! ### for y in x: y.append(c) -/
def allL (n : Nat) : D → Bool
  | .lst ys => decide (ys.length + n < sizeLine)
  | _ => false
def sForAp (i t : Nat) : SM := fun r S => match r[i]? with
  | some (.deep n (.lst xs)) => if i ≠ t ∧ t < r.length ∧ xs.all (allL (n + xs.length)) = true then .nx ((r.set t .no).set i .no) S else .no
  | _ => .no
theorem ms_forAp {i t : Nat} {x y : Str} {c : Int} {jn : Nat} {p tp yp apos cpos cp pos2 : Pos} (hc : X.calm = true) (hx : PE X (.Name x p) (tVar i)) (hN : X.N.Nodup) (hi : X.N[t]? = some y) (hy : Loc X.env.scope y) (hyv : PE X (.Name y yp) (tVar t))
    (hb : ∀ {to : TE} {ta : TA}, PE X (.Name y yp) to → PA X [.Constant (.int c) jn cp] ta → PE X (.Call (.Attribute (.Name y yp) "append" apos) [.Constant (.int c) jn cp] [] cpos) (tBM X.K "list" rAppend to ta))
    (hf : X.fn y = true ∨ X.env.scope.names.lookup y = some .local := by first | exact .inl rfl | exact .inr rfl | assumption)
    (hs1 : starEach [.Constant (.int c) jn cp] X.env = (false, eval (.Constant (.int c) jn cp) X.env) :: starEach [] X.env := by rfl) (hsw : swapsWith (.Call (.Attribute (.Name y yp) "append" apos) [.Constant (.int c) jn cp] [] cpos) none pos2.line X.env = pure false := by rfl)
    (hs : ∀ x', foldedSetIterable (.Name x p) X.env x' = pure x' := by intro _; rfl) : MS X ct (.For (.Name y tp) (.Name x p) [.Expr (.Call (.Attribute (.Name y yp) "append" apos) [.Constant (.int c) jn cp] [] cpos) pos2] [] pos) (sForAp i t) := by
  refine ⟨fun G W tk po => (ps_for po hc (pi_list hx) (pg_name hN hi hy hf) (pss_one (ps_expr (hb hyv (pa_cons pe_int pa_nil hs1)) hsw)) hs).imp fun De s H ⟨r, S, io, k, h⟩ => ?_⟩
  unfold sForAp at h
  split at h
  · rename_i n xs e
    split at h
    · rename_i g
      obtain ⟨hit, htl, hall⟩ := g
      obtain ⟨v, ev, hc0⟩ := k.dp.at_ i n _ e
      obtain ⟨p, vs, rfl, hH, hF, hl⟩ := con_lst hc0
      have k0 := k.clear t
      have e0 : (r.set t .no)[i]? = some (.deep n (.lst xs)) := by rw [List.getElem?_set_ne (Ne.symm hit)]; exact e
      refine ⟨.ref p, ev, p, rfl, ⟨vs, SqL.of hH⟩, ?_⟩
      refine ⟨fun j m s H => m = vs.length - j ∧ j ≤ vs.length ∧ s[i]? = some (some (V.ref p)) ∧ H p = some (.lst vs) ∧ Ok X.K ct G ((r.set t .no).set i (.deep (n + j) (.lst xs))) S io s H, ⟨_, rfl, Nat.zero_le _, ev, hH, ?_⟩, fun j m s H ⟨hm, hj, ev, hH, k⟩ => ?_⟩
      · rw [show (r.set t .no).set i (.deep (n + 0) (.lst xs)) = r.set t .no from by
          obtain ⟨hl3, h3⟩ := List.getElem?_eq_some_iff.mp e0
          rw [Nat.add_zero, ← h3]
          exact List.set_getElem_self hl3]
        exact k0
      · subst hm
        have hil : i < (r.set t .no).length := lt_of_get e0
        have ei : ((r.set t .no).set i (.deep (n + j) (.lst xs)))[i]? = some (.deep (n + j) (.lst xs)) := List.getElem?_set_self hil
        obtain ⟨v1, ev1, hc1⟩ := k.dp.at_ i (n + j) _ ei
        rw [ev] at ev1
        cases ev1
        by_cases hlt : j < vs.length
        · have gv : vs[j]? = some vs[j] := List.getElem?_eq_getElem hlt
          refine .inr ⟨⟨vs, vs[j], SqL.of hH, gv⟩, fun s' H' => s'[i]? = some (some (V.ref p)) ∧ H' p = some (.lst vs) ∧ Ok X.K ct G ((r.set t .no).set i (.deep (n + (j + 1)) (.lst xs))) S io s' H', fun s' H' ⟨n1, n2, n3⟩ => ⟨vs.length - (j + 1), by omega, rfl, hlt, n1, n2, n3⟩, fun x H' y => ?_⟩
          obtain ⟨e2, y⟩ := y
          subst e2
          have gx := y vs (SqL.of hH)
          rw [gv] at gx
          cases gx
          obtain ⟨p', vs', xs', po, ep, hd, hp⟩ := hc1
          cases ep
          have hd : xs' = xs ∧ vs' = vs ∧ po = some p := by
            rcases hd with ⟨z, _⟩ | ⟨z, z2, _, z3⟩
            · cases z
            · cases z
              rw [hH] at z2
              cases z2
              exact ⟨rfl, rfl, z3⟩
          obtain ⟨rfl, rfl, rfl⟩ := hd
          have hjx : j < xs'.length := by omega
          obtain ⟨u, gu, ru⟩ := paired_get hp (List.getElem?_eq_getElem hjx)
          rw [gv] at gu
          cases gu
          have al := List.all_eq_true.mp hall xs'[j] (List.getElem_mem hjx)
          have hx : ∃ ys, xs'[j] = .lst ys ∧ ys.length + (n + xs'.length) < sizeLine := by
            unfold allL at al
            split at al
            · rename_i ys ey
              exact ⟨ys, ey, of_decide_eq_true al⟩
            · cases al
          obtain ⟨ys, ey, hys⟩ := hx
          rw [ey] at ru
          obtain ⟨q, ws, eq, hFq, nq, hHq, hle⟩ := el_lst ru
          have en : ((r.set t .no).set i (.deep (n + j) (.lst xs')))[t]? = some .no := by
            rw [List.getElem?_set_ne hit]
            exact List.getElem?_set_self htl
          have htls : t < s.length := by
            rw [← k.len]
            simp
            exact htl
          have kb := k.blank (v := some (vs'[j])) en
          refine ⟨vs'[j], List.getElem?_set_self htls, ?_, q, ws, .int c, eq, rfl, hHq, by omega, ?_⟩
          · rw [eq]
            exact .inl ⟨rfl, _, SqL.of hHq⟩
          have es : (s.set t (some vs'[j]))[i]? = some (some (V.ref p)) := by
            rw [List.getElem?_set_ne (Ne.symm hit)]
            exact ev
          obtain ⟨v2, ev2, hc2⟩ := kb.dp.at_ i (n + j) _ ei
          rw [es] at ev2
          cases ev2
          have km := mut_go (ws' := ws ++ [V.int c]) kb ei es hc2 hFq hHq (by rw [List.length_append]; exact Nat.le_refl _) (fun p' xs'' z _ => by cases z; exact fun y => nq (congrArg some y))
          rw [List.set_set] at km
          exact ⟨es, by rw [upd_ne (show p ≠ q from fun y => nq (congrArg some y.symm))]; exact hH, km⟩
        · have ej : j = vs.length := by omega
          subst ej
          refine .inl ⟨⟨vs, SqL.of hH, by omega⟩, ?_⟩
          have kc := k.clear i
          rw [List.set_set] at kc
          exact h s io H kc
    · exact h.elim
  · exact h.elim
end
end Mv

set_option maxRecDepth 100000
set_option maxHeartbeats 2000000
/-! Mv37: calls that tell what is new; calls that see no object -/
namespace L2
open PySem PySem.Spec PyProof.Rows
/-- a promise kept while some lists are locked -/
def lockP (sp : Sp) (E : XK) (vs : List V) (H : Hp) (Q : VK) : Prop := ∃ T : List Addr, T.Nodup ∧ (∀ a ∈ T, ∃ ws, H a = some (.lst ws)) ∧
  ∀ HL : Hp, (∀ a, a ∉ T → HL a = H a) → (∀ a ∈ T, ∀ ws, H a = some (.lst ws) → ∃ od, HL a = some (.frz od (.lst ws))) → sp vs HL (fun v H2 => (∀ a ∈ T, H2 a = HL a) ∧ Q v (fun a => if a ∈ T then H a else H2 a)) E
section
variable {X : Cx} {CX : CXT} {k : Nat} {f C : Addr} {fd : FuncData} {ps : List Str} {sp : Sp} {E : L2.St → XK} {x m : Str} {p pos apos : Pos} {e o : Expr} {es : List Expr} {ta : TE} {t : TA}
theorem locks {pins : List (Addr × Obj)} {σ : L2.St} {s : Shared} {B : Sem Value} : ∀ (T : List Addr) (H : Hp) (Q : VK), Inv X pins σ H s → T.Nodup → (∀ a ∈ T, ∃ ws, H a = some (.lst ws)) →
    (∀ HL : Hp, Inv X pins σ HL s → (∀ a, a ∉ T → HL a = H a) → (∀ a ∈ T, ∀ ws, H a = some (.lst ws) → ∃ od, HL a = some (.frz od (.lst ws))) →
      wpAny (model X.prog X.w) X.A B (EP X pins σ fun v H2 => (∀ a ∈ T, H2 a = HL a) ∧ Q v (fun a => if a ∈ T then H a else H2 a)) X.xe s) → wpAny (model X.prog X.w) X.A B (EP X pins σ Q) X.xe s
  | [], H, Q, I, _, _, h => thn (h H I (fun _ _ => rfl) (fun a z => nomatch z)) fun v s1 ⟨x, H2, I2, rx, _, q⟩ => ⟨x, H2, I2, rx, by simpa using q⟩
  | a :: T, H, Q, I, nd, hT, h => by
    obtain ⟨ws, hw⟩ := hT a (List.mem_cons_self ..)
    have mu : Mut (some (HO.lst ws)) := trivial
    obtain ⟨od, I1⟩ := I.lock hw mu
    have nd := List.nodup_cons.mp nd
    have ne : ∀ b ∈ T, b ≠ a := fun b hb z => nd.1 (z ▸ hb)
    refine thn (locks T (upd H a (.frz od (.lst ws))) (fun v H' => H' a = some (.frz od (.lst ws)) ∧ Q v (upd H' a (.lst ws))) I1 nd.2 (fun b hb => ?_) fun HL IL h1 h2 => ?_) fun v s1 ⟨x, H2, I2, rx, e2, q⟩ => ⟨x, _, I2.unlock e2 (I.nofrz hw mu), rx, q⟩
    · obtain ⟨us, hu⟩ := hT b (List.mem_cons_of_mem _ hb)
      exact ⟨us, by rw [upd_ne (ne b hb)]; exact hu⟩
    · have ha : HL a = some (.frz od (.lst ws)) := by rw [h1 a nd.1]; exact upd_same
      refine thn (h HL IL (fun b hb => ?_) fun b hb us hu => ?_) fun v s1 ⟨x, H2, I2, rx, e2, q⟩ => ⟨x, H2, I2, rx, fun b hb => e2 b (List.mem_cons_of_mem _ hb), ?_, ?_⟩
      · rw [List.mem_cons, not_or] at hb
        rw [h1 b hb.2, upd_ne hb.1]
      · rcases List.mem_cons.mp hb with rfl | hb
        · rw [hw] at hu
          cases hu
          exact ⟨od, ha⟩
        · exact h2 b hb us (by rw [upd_ne (ne b hb)]; exact hu)
      · show (if a ∈ T then upd H a (.frz od (.lst ws)) a else H2 a) = _
        rw [if_neg nd.1, e2 a (List.mem_cons_self ..), ha]
      · have eH : (upd (fun b => if b ∈ T then upd H a (.frz od (.lst ws)) b else H2 b) a (.lst ws)) = fun b => if b ∈ a :: T then H b else H2 b := by
          funext b
          by_cases hb : b = a
          · subst hb
            rw [upd_same, if_pos (List.mem_cons_self ..), hw]
          · rw [upd_ne hb]
            by_cases hbT : b ∈ T
            · rw [if_pos hbT, if_pos (List.mem_cons_of_mem _ hbT), upd_ne hb]
            · rw [if_neg hbT, if_neg (fun z => (List.mem_cons.mp z).elim hb hbT)]
        rw [eH]
        exact q
theorem run_fnL {pins : List (Addr × Obj)} {σ : L2.St} {H : Hp} {s : Shared} {Q : VK} {us : List Value} {vs : List V} (F : FnOk X.prog X.w X.K X.mg X.base CX k f fd ps sp) (hr : Room k X.A) (hb : Binds X.K fd ps []) (hx : PassesAt CX X σ (E σ))
    (I : Inv X pins σ H s) (r : Vals vs us) (h : lockP sp (E σ) vs H Q) : wpAny (model X.prog X.w) X.A (call (.ref f) us) (EP X pins σ Q) X.xe s := by
  obtain ⟨T, nd, hT, h⟩ := h
  exact locks T H Q I nd hT fun HL IL h1 h2 => run_fnS F hr hb hx IL r (h HL h1 h2)
def tCallL (sp : Sp) (E : L2.St → XK) (t : TA) : TE := fun σ H Q => t σ H fun vs H1 => lockP sp (E σ) vs H1 Q
theorem pe_callL (F : FnOk X.prog X.w X.K X.mg X.base CX k f fd ps sp) (hr : Room k X.A) (hg : Gl X x) (hm : X.mg x = some (.ref f)) (hk : PySem.W.keepIn X.K (.ref f) = true) (hb : Binds X.K fd ps []) (hx : ∀ σ, PassesAt CX X σ (E σ))
    (ha : PA X (e :: es) t) (hdb : (x == ("__debug__" : Str)) = false := by decide) (he : starEach (e :: es) X.env = (false, eval e X.env) :: starEach es X.env := by rfl) (hpl : (backTo pos (starEach es X.env)).any (·.1) = false := by rfl) :
    PE X (.Call (.Name x p) (e :: es) [] pos) (tCallL sp E t) := by
  refine ⟨fun pins s σ H Q I h => ?_⟩
  refine wpAny_Call_Name_kw (ld_glob I hg hm ?_ hdb)
  refine PySem.W.callWith_K (h₀ := X.base) I.ok.mod.kin hk (thn (ha.run pos pins s σ H _ I h) fun us s1 ⟨vs, H1, I1, r, q⟩ => ⟨I1.kIn, ?_⟩) he hpl
  exact run_fnL F hr hb (hx σ) I1 r q
def tMethL (C : Addr) (m : Str) (sp : Sp) (E : L2.St → XK) (ta : TE) (t : TA) : TE := fun σ H Q => ta σ H fun x H1 => ∃ a dx fs, x = .ref a ∧ H1 a = some (.ins C dx fs) ∧ fs.lookup m = none ∧
  t σ H1 fun vs H2 => lockP sp (E σ) (x :: vs) H2 Q
theorem pe_methL {pl : Sem Bool} (he : PE X o ta) (c : Cls X.K C) (hm : Meth X.K C m f) (F : FnOk X.prog X.w X.K X.mg X.base CX k f fd ps sp) (hr : Room k X.A) (hb : Binds X.K fd ps []) (hx : ∀ σ, PassesAt CX X σ (E σ)) (ha : PA X (e :: es) t)
    (hst : starEach (e :: es) X.env = (false, eval e X.env) :: starEach es X.env := by rfl) (hpl : (backTo pos (starEach es X.env)).any (·.1) = false := by rfl)
    (ht : eval (.Call (.Attribute o m apos) (e :: es) [] pos) X.env = (do
      let ov ← eval o X.env
      standAt apos.atName
      let (f, first) ← holding [ov] (getMethod ov m pl)
      callWith pos f first (backTo pos (starEach (e :: es) X.env)) (backToKw pos (keywordEach [] X.env))) := by rfl) :
    PE X (.Call (.Attribute o m apos) (e :: es) [] pos) (tMethL C m sp E ta t) :=
  ⟨fun pins s σ H Q I h => PySem.W.methodCall_KW (pl := pl) (thn (he.run pins s σ H _ I h) fun u s1 ⟨x, H1, I1, rx, a, dx, fs, ex, ea, l, q⟩ => by
    cases ex
    cases rx
    exact getmeth_ok I1 ea c hm l (PySem.W.callWith_K (first := [.ref a]) (h₀ := X.base) I.ok.mod.kin hm.kp (thn (ha.run pos pins s1 σ H1 _ I1 q) fun us s2 ⟨vs, H2, I2, r, q2⟩ =>
      ⟨I2.kIn, run_fnL (us := .ref a :: us) (vs := .ref a :: vs) F hr hb (hx σ) I2 (.cons rfl r) q2⟩) hst hpl)) ht⟩
theorem pe_methL0 {pl : Sem Bool} (he : PE X o ta) (c : Cls X.K C) (hm : Meth X.K C m f) (F : FnOk X.prog X.w X.K X.mg X.base CX k f fd ps sp) (hr : Room k X.A) (hb : Binds X.K fd ps []) (hx : ∀ σ, PassesAt CX X σ (E σ))
    (ht : eval (.Call (.Attribute o m apos) [] [] pos) X.env = (do
      let ov ← eval o X.env
      standAt apos.atName
      let (f, first) ← holding [ov] (getMethod ov m pl)
      callWith pos f first (backTo pos (starEach [] X.env)) (backToKw pos (keywordEach [] X.env))) := by rfl) :
    PE X (.Call (.Attribute o m apos) [] [] pos) (tMethL C m sp E ta tNil) :=
  ⟨fun pins s σ H Q I h => PySem.W.methodCall_KW (pl := pl) (thn (he.run pins s σ H _ I h) fun u s1 ⟨x, H1, I1, rx, a, dx, fs, ex, ea, l, q⟩ => by
    cases ex
    cases rx
    exact getmeth_ok I1 ea c hm l (PySem.W.callWith_K0 (first := [.ref a]) I1.kIn hm.kp (run_fnL (us := [.ref a]) (vs := [.ref a]) F hr hb (hx σ) I1 (.cons rfl .nil) q))) ht⟩
end
end L2
namespace Mv
open PySem PySem.Spec PyProof.Rows L2
def CT.pure (ct : CT) : CT := { ct with pu := true }
def gnd1 : D → Bool
  | .non => true
  | .bl _ => true
  | .int _ => true
  | .str _ => true
  | _ => false
theorem gnd1_gnd {d : D} (h : gnd1 d = true) : gnd d = true := by cases d <;> first | rfl | cases h
theorem gnds1_gnd {ds : List D} (h : ds.all gnd1 = true) : ds.all gnd = true := List.all_eq_true.mpr fun x hx => gnd1_gnd (List.all_eq_true.mp h x hx)
def okF : D → Bool
  | .ins _ => true
  | .frz xs => xs.all gnd1
  | .dic _ xs => xs.all gnd1
  | .tup xs => xs.all gnd1
  | d => gnd1 d
def okS (S : Store) : Bool := S.all fun e => e.2.all okF
def okR1 : D → Bool
  | .lst ys => ys.all gnd1
  | d => gnd1 d
def okR : D → Bool
  | .tup xs => xs.all okR1
  | .lst xs => xs.all okR1
  | d => gnd1 d
/-- an argument: a plain value, or a list of plain values that is one's own -/
def ArgO (K : PySem.W.Frag) (M : Addr → Prop) (io : List Addr) (H : Hp) (p : Fl × D) (v : V) : Prop :=
  (p.1 = .c ∧ gnd p.2 = true ∧ Rep K (fun _ => False) io H p.2 v) ∨ ∃ a ys ws, p = (.o, .lst ys) ∧ v = .ref a ∧ M a ∧ H a = some (.lst ws) ∧ ys.all gnd = true ∧ Reps K (fun _ => False) io H ys ws
theorem nodup_of : ∀ (L : List Addr) (P : Addr → Prop), ∃ T : List Addr, T.Nodup ∧ ∀ a, a ∈ T ↔ a ∈ L ∧ P a
  | [], P => ⟨[], .nil, fun a => by simp⟩
  | b :: L, P => by
    classical
    obtain ⟨T, nd, h⟩ := nodup_of L P
    by_cases hb : P b ∧ b ∉ T
    · refine ⟨b :: T, List.nodup_cons.mpr ⟨hb.2, nd⟩, fun a => ?_⟩
      rw [List.mem_cons, List.mem_cons, h]
      constructor
      · rintro (rfl | ⟨z, y⟩)
        · exact ⟨.inl rfl, hb.1⟩
        · exact ⟨.inr z, y⟩
      · rintro ⟨rfl | z, y⟩
        · exact .inl rfl
        · exact .inr ⟨z, y⟩
    · refine ⟨T, nd, fun a => ?_⟩
      rw [List.mem_cons, h]
      constructor
      · rintro ⟨z, y⟩
        exact ⟨.inr z, y⟩
      · rintro ⟨rfl | z, y⟩
        · have : a ∈ T := Classical.byContradiction fun n => hb ⟨y, n⟩
          exact (h a).mp this
        · exact ⟨z, y⟩
section
variable {K : PySem.W.Frag} {ct : CT} {S S1 : Store} {io io1 : List Addr} {H HL : Hp} {d : D} {v : V} {M : Addr → Prop} {T : List Addr}
theorem off_lock (h1 : ∀ a, a ∉ T → HL a = H a) (hT : ∀ a ∈ T, ∃ ws, H a = some (.lst ws)) {a : Addr} {o : HO} (e : H a = some o) (n : ∀ ws, o ≠ .lst ws) : HL a = some o := by
  rw [h1 a]
  · exact e
  · intro z
    obtain ⟨ws, h⟩ := hT a z
    rw [e] at h
    cases h
    exact n _ rfl
theorem sqt_lock (h1 : ∀ a, a ∉ T → HL a = H a) (hT : ∀ a ∈ T, ∃ ws, H a = some (.lst ws)) {a : Addr} {vs : List V} (h : SqT K H a vs) : SqT K HL a vs := by
  rcases h with (h | ⟨o, h⟩) | h
  · exact .inl (.inl (off_lock h1 hT h fun _ z => by cases z))
  · exact .inl (.inr ⟨o, off_lock h1 hT h fun _ z => by cases z⟩)
  · exact .inr h
theorem rep_lock (h1 : ∀ a, a ∉ T → HL a = H a) (h2 : ∀ a ∈ T, ∀ ws, H a = some (.lst ws) → ∃ od, HL a = some (.frz od (.lst ws))) (hT : ∀ a ∈ T, ∃ ws, H a = some (.lst ws))
    (g : okF d = true) (hv : ∀ a, v = .ref a → (∃ ws, H a = some (.lst ws)) → ¬ M a → a ∈ T) (h : Rep K M io H d v) : Rep K (fun a => ∃ ws, HL a = some (.lst ws)) io HL d v := by
  cases h with
  | non => exact .non
  | bl b => exact .bl b
  | int i => exact .int i
  | str z => exact .str z
  | ins e => exact .ins e
  | cst => cases g
  | lst _ _ _ => cases g
  | frz h r =>
    refine .frz ?_ (Reps.gnd_any io_refl (gnds1_gnd g) r)
    rcases h with ⟨h | ⟨o, h⟩, n⟩ | h
    · obtain ⟨od, e⟩ := h2 _ (hv _ rfl ⟨_, h⟩ n) _ h
      refine .inl ⟨.inr ⟨od, e⟩, fun ⟨ws, z⟩ => ?_⟩
      rw [e] at z
      cases z
    · have e := off_lock h1 hT h fun _ z => by cases z
      refine .inl ⟨.inr ⟨o, e⟩, fun ⟨ws, z⟩ => ?_⟩
      rw [e] at z
      cases z
    · exact .inr h
  | tup h r => exact .tup (sqt_lock h1 hT h) (Reps.gnd_any io_refl (gnds1_gnd g) r)
  | dic h n e r =>
    have e2 := off_lock h1 hT h fun _ z => by cases z
    refine .dic e2 (fun ⟨ws, z⟩ => ?_) e (Reps.gnd_any io_refl (gnds1_gnd g) r)
    rw [e2] at z
    cases z
theorem reps_lock (h1 : ∀ a, a ∉ T → HL a = H a) (h2 : ∀ a ∈ T, ∀ ws, H a = some (.lst ws) → ∃ od, HL a = some (.frz od (.lst ws))) (hT : ∀ a ∈ T, ∃ ws, H a = some (.lst ws)) :
    ∀ {ds : List D} {vs : List V}, ds.all okF = true → (∀ a, V.ref a ∈ vs → (∃ ws, H a = some (.lst ws)) → ¬ M a → a ∈ T) → Reps K M io H ds vs → Reps K (fun a => ∃ ws, HL a = some (.lst ws)) io HL ds vs
  | _, _, _, _, .nil => .nil
  | _, _, g, hv, .cons r t => by
    rw [List.all_cons, Bool.and_eq_true] at g
    exact .cons (rep_lock h1 h2 hT g.1 (fun a e => hv a (e ▸ List.mem_cons_self ..)) r) (reps_lock h1 h2 hT g.2 (fun a e => hv a (List.mem_cons_of_mem _ e)) t)
/-- the addresses that the instances' fields hold -/
noncomputable def refsOf (H : Hp) (io : List Addr) : List Addr := io.flatMap fun b => match H b with
  | some (.ins _ _ gs) => gs.filterMap fun g => match g.2 with
    | .ref a => some a
    | _ => none
  | _ => []
theorem refs_mem {b a C dx : Addr} {gs : List (Str × V)} (hb : b ∈ io) (h : H b = some (.ins C dx gs)) (ha : V.ref a ∈ gs.map Prod.snd) : a ∈ refsOf H io := by
  unfold refsOf
  refine List.mem_flatMap.mpr ⟨b, hb, ?_⟩
  rw [h]
  obtain ⟨g, hg, e⟩ := List.mem_map.mp ha
  exact List.mem_filterMap.mpr ⟨g, hg, by rw [e]⟩
theorem sto_lock (q : StoOk K ct M io S H) (hS : okS S = true) (h1 : ∀ a, a ∉ T → HL a = H a) (h2 : ∀ a ∈ T, ∀ ws, H a = some (.lst ws) → ∃ od, HL a = some (.frz od (.lst ws)))
    (hT : ∀ a, a ∈ T ↔ a ∈ refsOf H io ∧ (∃ ws, H a = some (.lst ws)) ∧ ¬ M a) : StoOk K ct (fun a => ∃ ws, HL a = some (.lst ws)) io S HL := by
  have hT' : ∀ a ∈ T, ∃ ws, H a = some (.lst ws) := fun a z => ((hT a).mp z).2.1
  have kp : Kp (fun _ => True) H HL := fun a o e n z => by
    rcases z with z | z
    · exact absurd trivial z
    · exact off_lock h1 hT' e fun ws y => not_im_lst (y ▸ z)
  refine ⟨q.len, fun n C fs e x => ?_, fun n C fs e x => ?_, q.nd, fun p hp => ?_, fun p hp => ?_⟩
  · obtain ⟨a, dx, gs, y1, y2, y3, y4⟩ := q.at_ n C fs e x
    refine ⟨a, dx, gs, y1, off_lock h1 hT' y2 (fun _ z => by cases z), y3, ?_⟩
    have g : fs.all okF = true := List.all_eq_true.mp hS _ (List.mem_of_getElem? e)
    exact reps_lock h1 h2 hT' g (fun b hb hl nm => (hT b).mpr ⟨refs_mem (List.mem_of_getElem? y1) y2 hb, hl, nm⟩) y4
  · obtain ⟨a, d, y1, y2, y3⟩ := q.ax n C fs e x
    exact ⟨a, d, y1, off_lock h1 hT' y2 (fun _ z => by cases z), y3.mono kp io_refl⟩
  · obtain ⟨ps, h1', h2', h3'⟩ := q.tb p hp
    refine ⟨ps, off_lock h1 hT' h1' (fun _ z => by cases z), h2', fun pos cv hc => ?_⟩
    obtain ⟨c, e1, e2⟩ := h3' pos cv hc
    exact ⟨c, e1, off_lock h1 hT' e2 fun _ z => by cases z⟩
  · obtain ⟨e, φ, z⟩ := q.pn p hp
    exact ⟨off_lock h1 hT' e (fun _ y => by rw [z] at y; cases y), φ, z⟩
theorem ins_no_lst (q : StoOk K ct M io S H) {n : Nat} {a : Addr} {ws : List V} (e : io[n]? = some a) (h : H a = some (.lst ws)) : False := by
  have hl : n < S.length := by rw [q.len]; exact (List.getElem?_eq_some_iff.mp e).1
  cases hx : ct.ex (S[n]'hl).1 with
  | false =>
    obtain ⟨a3, dx, gs, w1, w2, _⟩ := q.at_ n _ _ (List.getElem?_eq_getElem hl) hx
    rw [e] at w1
    cases w1
    rw [h] at w2
    cases w2
  | true =>
    obtain ⟨a3, d3, w1, w2, _⟩ := q.ax n _ _ (List.getElem?_eq_getElem hl) hx
    rw [e] at w1
    cases w1
    rw [h] at w2
    cases w2
theorem gnd1_ref {M' : Addr → Prop} {a : Addr} {d : D} (g : gnd1 d = true) (h : Rep K M' io H d (.ref a)) : False := by
  cases h <;> cases g
theorem reps_paired {M' : Addr → Prop} {H' : Hp} {R : D → V → Prop} : ∀ {ys : List D} {us : List V}, (∀ y u, y ∈ ys → u ∈ us → Rep K M' io H' y u → R y u) → Reps K M' io H' ys us → Paired R ys us
  | _, _, _, .nil => .nil
  | _, _, h, .cons r t => .cons (h _ _ (List.mem_cons_self ..) (List.mem_cons_self ..) r) (reps_paired (fun y u hy hu => h y u (List.mem_cons_of_mem _ hy) (List.mem_cons_of_mem _ hu)) t)
theorem lock_main (q : StoOk K ct M io S H) (hS : okS S = true) {as : List (Fl × D)} {vs : List V} (o : Paired (ArgO K M io H) as vs) {np : Nat} {m : FM} (hl : as.length = np) {x : D} {f : Fl} (e : m as S = .ok (x, f) S) (hf : f = .c ∨ f = .n) (hR : okR x = true)
    {Q : VK} {E : XK} (w : ∀ v H', Stp ct io H io H' → ResG K ct M H io S H' x v → Q v H') : lockP (spM K ct.pure np m) E vs H Q := by
  obtain ⟨T, nd, hT⟩ := nodup_of (refsOf H io) (fun a => (∃ ws, H a = some (.lst ws)) ∧ ¬ M a)
  have hT' : ∀ a ∈ T, ∃ ws, H a = some (.lst ws) := fun a z => ((hT a).mp z).2.1
  refine ⟨T, nd, hT', fun HL h1 h2 => ?_⟩
  have q' : StoOk K ct (fun a => ∃ ws, HL a = some (.lst ws)) io S HL := sto_lock q hS h1 h2 hT
  have qp : StoOk K ct.pure (fun a => ∃ ws, HL a = some (.lst ws)) io S HL := ⟨q'.len, q'.at_, q'.ax, q'.nd, q'.tb, q'.pn⟩
  refine ⟨by rw [← hl]; exact (Paired.length o).symm, as, S, io, fun a => ∃ ws, HL a = some (.lst ws), Paired.mapP o fun p v z => ?_, qp, fun a ⟨ws, z⟩ => ⟨_, z, NI.lst⟩, ?_⟩
  · rcases z with ⟨z1, z2, z3⟩ | ⟨a, ys, ws, rfl, rfl, ma, ha, g, z3⟩
    · rw [z1]
      exact Rep.gnd_any z2 io_refl z3
    · have nT : a ∉ T := fun z => ((hT a).mp z).2.2 ma
      exact .inr ⟨a, rfl, .inl ⟨ys, ws, rfl, by rw [h1 a nT]; exact ha, Reps.gnd_any io_refl g z3⟩⟩
  rw [e]
  show ∀ v io' H', Stp ct.pure io HL io' H' → ResOk K ct.pure (fun a => ∃ ws, HL a = some (.lst ws)) (fun _ => False) HL io' S H' f x v → _
  intro v io' H2 t res
  have eio : io' = io := by
    obtain ⟨l, e⟩ := t.pre
    have l1 := res.sto.len
    have l2 := q.len
    rw [e, List.length_append] at l1
    have : l = [] := List.length_eq_zero_iff.mp (by omega)
    rw [e, this, List.append_nil]
  subst eio
  have all : ∀ a o, HL a = some o → H2 a = some o := fun a o z => t.k3 rfl a o z
  refine ⟨fun a z => ?_, w v _ ?_ ?_⟩
  · obtain ⟨ws, hw⟩ := hT' a z
    obtain ⟨od, z2⟩ := h2 a z ws hw
    rw [z2, all a _ z2]
  all_goals
    have ex : ∀ a o, H a = some o → (if a ∈ T then H a else H2 a) = some o := fun a o z => by
      by_cases hb : a ∈ T
      · rw [if_pos hb]
        exact z
      · rw [if_neg hb]
        exact all a o (by rw [h1 a hb]; exact z)
  · exact ⟨fun a o z _ => ex a o z, fun a o z _ _ => ex a o z, io_refl, fun a z n => absurd z n, fun a o z => ⟨o, ex a o z⟩, fun _ a o z => ex a o z⟩
  · have rp : Rep K (fun a => ∃ ws, HL a = some (.lst ws)) io' H2 x v := by
      have z := res.repF
      rcases hf with rfl | rfl
      · exact z
      · exact z
    have kp : ∀ N : Addr → Prop, Kp N H (fun a => if a ∈ T then H a else H2 a) := fun N a o z _ _ => ex a o z
    have stM : StoOk K ct M io' S (fun a => if a ∈ T then H a else H2 a) := q.mono (kp _) (fun _ _ n => n) (fun a C dx fs _ z => ex a _ z) fun a ps z => ex a _ z
    by_cases gx : gnd1 x = true
    · exact .inl ⟨gnd1_gnd gx, Rep.gnd_any (gnd1_gnd gx) io_refl rp, stM⟩
    · -- a list that is told is new
      have nw : ∀ b ws, H2 b = some (.lst ws) → ¬ (∃ us, HL b = some (.lst us)) → H b = none ∧ b ∉ T := fun b ws hb n => by
        have nT : b ∉ T := fun z => by
          obtain ⟨us, hu⟩ := hT' b z
          obtain ⟨od, z2⟩ := h2 b z us hu
          rw [all b _ z2] at hb
          cases hb
        refine ⟨?_, nT⟩
        cases z : H b with
        | none => rfl
        | some o =>
          have z2 : HL b = some o := by rw [h1 b nT]; exact z
          have z3 := all b o z2
          rw [hb] at z3
          cases z3
          exact absurd ⟨ws, z2⟩ n
      have el : ∀ (po : Option Addr) (y : D) (u : V), okR1 y = true → Rep K (fun a => ∃ ws, HL a = some (.lst ws)) io' H2 y u → (∀ q ys, po = some q → y = .lst ys → u ≠ .ref q) → ElD K io' (fun a => if a ∈ T then H a else H2 a) (fun a => H a = none ∧ ∃ ws, (if a ∈ T then H a else H2 a) = some (.lst ws)) po 0 y u := fun po y u g r np => by
        by_cases gy : gnd1 y = true
        · exact .inl ⟨gnd1_gnd gy, Rep.gnd_any (gnd1_gnd gy) io_refl r⟩
        · cases r with
          | lst hH n rr =>
            rename_i b ws ys
            obtain ⟨hn, nT⟩ := nw b ws hH n
            have hb : (if b ∈ T then H b else H2 b) = some (.lst ws) := by rw [if_neg nT]; exact hH
            refine .inr ⟨ys, b, ws, rfl, rfl, ⟨hn, ws, hb⟩, fun z => np b ys z.symm rfl rfl, hb, by rw [rr.len]; exact Nat.le_refl _, fun _ => ⟨gnds1_gnd g, Reps.gnd_any io_refl (gnds1_gnd g) rr⟩⟩
          | non => exact absurd rfl gy
          | bl b => exact absurd rfl gy
          | int i => exact absurd rfl gy
          | str z => exact absurd rfl gy
          | ins e => cases g
          | cst => cases g
          | frz _ _ => cases g
          | tup _ _ => cases g
          | dic _ _ _ _ => cases g
      have els : ∀ (po : Option Addr) {ys : List D} {us : List V}, ys.all okR1 = true → Reps K (fun a => ∃ ws, HL a = some (.lst ws)) io' H2 ys us → (∀ q zs, po = some q → .lst zs ∈ ys → V.ref q ∈ us → False) → Paired (ElD K io' (fun a => if a ∈ T then H a else H2 a) (fun a => H a = none ∧ ∃ ws, (if a ∈ T then H a else H2 a) = some (.lst ws)) po 0) ys us :=
        fun po {ys us} g r np => reps_paired (fun y u hy hu r => el po y u (List.all_eq_true.mp g y hy) r fun q zs e e2 e3 => np q zs e (e2 ▸ hy) (e3 ▸ hu)) r
      refine .inr ⟨fun a => H a = none ∧ ∃ ws, (if a ∈ T then H a else H2 a) = some (.lst ws), fun a z => z.1, fun a ⟨_, ws, z⟩ => ⟨_, z, NI.lst, not_im_lst⟩, ?_, ?_⟩
      · cases rp with
        | non => exact absurd rfl gx
        | bl b => exact absurd rfl gx
        | int i => exact absurd rfl gx
        | str z => exact absurd rfl gx
        | ins e => cases hR
        | cst => cases hR
        | frz _ _ => cases hR
        | dic _ _ _ _ => cases hR
        | tup h r =>
          rename_i p us ys
          refine ⟨p, us, ys, none, rfl, .inl ⟨rfl, ?_, rfl⟩, els none hR r fun q zs z => by cases z⟩
          rcases h with (h | ⟨o, h⟩) | h
          · refine .inl (.inl ?_)
            show (if p ∈ T then H p else H2 p) = _
            rw [if_neg]
            · exact h
            · intro z
              obtain ⟨ws, hw⟩ := hT' p z
              obtain ⟨od, z2⟩ := h2 p z ws hw
              rw [all p _ z2] at h
              cases h
          · refine .inl (.inr ⟨o, ?_⟩)
            show (if p ∈ T then H p else H2 p) = _
            rw [if_neg]
            · exact h
            · intro z
              obtain ⟨ws, hw⟩ := hT' p z
              obtain ⟨od, z2⟩ := h2 p z ws hw
              rw [all p _ z2] at h
              cases h
          · exact .inr h
        | lst h n r =>
          rename_i p us ys
          obtain ⟨hn, nT⟩ := nw p us h n
          have hb : (if p ∈ T then H p else H2 p) = some (.lst us) := by rw [if_neg nT]; exact h
          refine ⟨p, us, ys, some p, rfl, .inr ⟨rfl, hb, ⟨hn, us, hb⟩, rfl⟩, els (some p) hR r fun q zs z hz hu => ?_⟩
          -- a row of plain values is not the list of rows
          cases z
          obtain ⟨j, hj⟩ := List.getElem?_of_mem hu
          obtain ⟨y, hy, ry⟩ := r.getV hj
          have gy : okR1 y = true := List.all_eq_true.mp hR y (List.mem_of_getElem? hy)
          cases ry with
          | lst hH _ rr =>
            rw [h] at hH
            cases hH
            obtain ⟨y2, hy2, ry2⟩ := rr.getV hj
            exact gnd1_ref (List.all_eq_true.mp gy y2 (List.mem_of_getElem? hy2)) ry2
          | ins e => cases gy
          | cst => cases gy
          | frz _ _ => cases gy
          | tup _ _ => cases gy
          | dic _ _ _ _ => cases gy
      · refine q.mono (kp _) (fun a ⟨o, z⟩ n y => y.elim n fun y => ?_) (fun a C dx fs _ z => ex a _ z) fun a ps z => ex a _ z
        have y : H a = none := y.1
        rw [z] at y
        cases y
end
end Mv

set_option maxRecDepth 100000
set_option maxHeartbeats 2000000
/-! Mv38: the calls of Mv37 as expressions -/
namespace Mv
open PySem PySem.Spec PyProof.Rows L2
def tAO (K : PySem.W.Frag) (ct : CT) (G : Gx) (W : WX) (m : AM) : TA := fun s H Q => ∃ r S io, Ok K ct G r S io s H ∧
  Res K ct W (Mall G r s) s io H (m r S) (fun as S' io' H' => ∀ vs, Paired (ArgO K (Mall G r s) io' H') as vs → Q vs H')
structure MAO (X : Cx) (ct : CT) (es : List Expr) (m : AM) : Prop where
  run : ∀ (G : Gx) (W : WX), Takes X W → PA X es (tAO X.K ct G W m)
theorem ArgO.stp {K : PySem.W.Frag} {ct : CT} {M : Addr → Prop} {io io' : List Addr} {H H' : Hp} {p : Fl × D} {v : V} (t : Stp ct io H io' H') (h : ArgO K M io H p v) : ArgO K M io' H' p v := by
  rcases h with ⟨z1, z2, z3⟩ | ⟨a, ys, ws, e1, e2, ma, ha, g, z⟩
  · exact .inl ⟨z1, z2, Rep.gnd_any z2 t.pre z3⟩
  · exact .inr ⟨a, ys, ws, e1, e2, ma, t.k1 _ _ ha NI.lst, g, Reps.gnd_any t.pre g z⟩
def aoG (m : EM) (t : AM) : AM := fun r S => (m r S).bind fun x S1 => if gnd x.1 then (t r S1).bind fun as S2 => .ok ((.c, x.1) :: as) S2 else .no
def aoO (i : Nat) (t : AM) : AM := fun r S => match r[i]? with
  | some (.own (.lst ys)) => if ys.all gnd then (t r S).bind fun as S2 => .ok ((.o, .lst ys) :: as) S2 else .no
  | _ => .no
def aoD (i : Nat) (mk : EM) (t : AM) : AM := fun r S => match r[i]? with
  | some (.deep 0 d) => (mk r S).bind fun k S1 => match itD d k.1 with
    | some ys => if ys.all gnd then (t r S1).bind fun as S2 => .ok ((.o, .lst ys) :: as) S2 else .no
    | none => .no
  | _ => .no
section
variable {X : Cx} {ct : CT} {pos : Pos}
theorem mao_nil : MAO X ct [] aNil := ⟨fun G W tk => pa_nil.imp fun s H Q ⟨r, S, io, k, h⟩ => h.here k.sto [] .nil⟩
theorem mao_gnd {e : Expr} {es : List Expr} {m : EM} {t : AM} (ha : ME X ct e m) (hr : MAO X ct es t) (hs : starEach (e :: es) X.env = (false, eval e X.env) :: starEach es X.env := by rfl) : MAO X ct (e :: es) (aoG m t) :=
  ⟨fun G W tk => (pa_cons (ha.run G W tk) (hr.run G W tk) hs).imp fun s H Q ⟨r, S, io, k, h⟩ => ⟨r, S, io, k, Res.first h fun x S1 io1 H1 e1 t1 q1 h1 v o => by
    split at h1
    · rename_i g
      refine ⟨r, S1, io1, k.step t1 q1, Res.first h1 fun as S2 io2 H2 e2 t2 q2 h2 vs o2 => ?_⟩
      exact h2.here q2 (v :: vs) (.cons (.inl ⟨rfl, g, Rep.gnd_any g t2.pre o.repF.weak⟩) o2)
    · exact h1.elim⟩⟩
theorem mao_own {i : Nat} {x : Str} {p : Pos} {es : List Expr} {t : AM} (hx : PE X (.Name x p) (tVar i)) (hr : MAO X ct es t) (hs : starEach (.Name x p :: es) X.env = (false, eval (.Name x p) X.env) :: starEach es X.env := by rfl) : MAO X ct (.Name x p :: es) (aoO i t) :=
  ⟨fun G W tk => (pa_cons hx (hr.run G W tk) hs).imp fun s H Q ⟨r, S, io, k, h⟩ => by
    unfold aoO at h
    split at h
    · rename_i ys e
      obtain ⟨a, ea, ow, _⟩ := k.own i _ e
      obtain ⟨ws, h1, h2⟩ := own_lst ow
      split at h
      · rename_i g
        refine ⟨.ref a, ea, r, S, io, k, Res.first h fun as S2 io2 H2 e2 t2 q2 h2' vs o2 => ?_⟩
        exact h2'.here q2 (.ref a :: vs) (.cons (.inr ⟨a, ys, ws, rfl, rfl, .inr (.inr ⟨i, _, e, ea⟩), t2.k1 _ _ h1 NI.lst, g, Reps.gnd_any t2.pre g h2⟩) o2)
      · exact h.elim
    · exact h.elim⟩
theorem mao_deep {i : Nat} {x : Str} {p spos : Pos} {b : Expr} {es : List Expr} {mk : EM} {t : AM} (hx : PE X (.Name x p) (tVar i)) (hk : ME X ct b mk) (hr : MAO X ct es t) (hpi : PlainIx b := by exact fun _ _ => rfl)
    (hs : starEach (.Subscript (.Name x p) b spos :: es) X.env = (false, eval (.Subscript (.Name x p) b spos) X.env) :: starEach es X.env := by rfl) : MAO X ct (.Subscript (.Name x p) b spos :: es) (aoD i mk t) :=
  ⟨fun G W tk => (pa_cons (pe_ix ix_seq hx (hk.run G W tk) hpi) (hr.run G W tk) hs).imp fun s H Q ⟨r, S, io, k, h⟩ => by
    unfold aoD at h
    split at h
    · rename_i d e
      obtain ⟨v, h1, hc⟩ := k.dp.at_ i 0 d e
      refine ⟨v, h1, r, S, io, k, Res.first h fun y S1 io1 H1 _ t1 q1 h' w o => ?_⟩
      have k1 := k.step t1 q1
      have hc1 := hc.mono (M := fun _ => False) t1.kp (fun a o z e n => t1.k1 a o e n) t1.pre
      split at h'
      · rename_i ys ei
        obtain ⟨xs, j, exs, ej, ex⟩ := itD_of ei
        have o2 := o.repF
        rw [ej] at o2
        obtain rfl := int_of o2
        obtain ⟨p, vs, po, rfl, sq, hpo, hp⟩ := con_open hc1 exs
        obtain ⟨u, eu, ru⟩ := paired_atI hp ex
        split at h'
        · rename_i g
          rcases ru with ⟨z, _⟩ | ⟨ys', q', ws, e1, rfl, hF, nq, hH, hle, hb⟩
          · cases z
          cases e1
          have go : tAO X.K ct G W t s H1 fun us H2 => Q (.ref q' :: us) H2 := by
            refine ⟨r, S1, io1, k1, Res.first h' fun as S2 io2 H2 e2 t2 q2 h2 vs o2 => ?_⟩
            exact h2.here q2 (.ref q' :: vs) (.cons (.inr ⟨q', ys, ws, rfl, rfl, .inr (.inl (k.dp.sub i q' hF)), t2.k1 _ _ hH NI.lst, g, Reps.gnd_any t2.pre g (hb rfl).2⟩) o2)
          rcases sq with sq | sq
          · exact .inl ⟨p, vs, j, _, rfl, rfl, sq, eu, go⟩
          · exact .inr (.inl ⟨p, vs, j, _, rfl, rfl, sq, eu, go⟩)
        · exact h'.elim
      · exact h'.elim
    · exact h.elim⟩
open Classical in
noncomputable def newR (y : Rs (D × Fl)) (S : Store) : Rs D := match y with
  | .ok x S2 => if S2 = S ∧ (x.2 = .c ∨ x.2 = .n) ∧ okR x.1 = true then .ok x.1 S else .no
  | _ => .no
theorem newR_ok {y : Rs (D × Fl)} {S S' : Store} {d : D} (h : newR y S = .ok d S') : ∃ f, y = .ok (d, f) S ∧ (f = .c ∨ f = .n) ∧ okR d = true ∧ S' = S := by
  unfold newR at h
  split at h
  · rename_i x S2
    split at h
    · rename_i g
      obtain ⟨rfl, g2, g3⟩ := g
      cases h
      exact ⟨x.2, rfl, g2, g3, rfl⟩
    · cases h
  · cases h
theorem newR_er {y : Rs (D × Fl)} {S S' : Store} {c : Nat} {p : List D} (h : newR y S = .er c p S') : False := by
  unfold newR at h
  split at h
  · split at h <;> cases h
  · cases h
noncomputable def eNewC (np : Nat) (m : FM) (t : AM) : Env → Store → Rs D := fun r S => (t r S).bind fun as S1 => if as.length = np ∧ okS S1 = true then newR (m as S1) S1 else .no
theorem new_go {K : PySem.W.Frag} {np : Nat} {m : FM} {G : Gx} {W : WX} {r : Env} {S : Store} {io : List Addr} {s : St} {H H0 : Hp} {as : List (Fl × D)} {vs : List V} {Q : VK} {E : XK} (k : Ok K ct G r S io s H) (back : ∀ a, H a = none → H0 a = none)
    (o : Paired (ArgO K (Mall G r s) io H) as vs) (h : Res K ct W (Mall G r s) s io H (if as.length = np ∧ okS S = true then newR (m as S) S else .no) fun d S' io' H' => ∀ v, ResG K ct (Mall G r s) H0 io' S' H' d v → Q v H') : lockP (spM K ct.pure np m) E vs H Q := by
  split at h
  · rename_i g
    cases e : newR (m as S) S with
    | ok d S' =>
      rw [e] at h
      obtain ⟨f, e1, e2, e3, rfl⟩ := newR_ok e
      refine lock_main k.sto g.2 o g.1 e1 e2 e3 fun v H' t z => ?_
      refine h io H' t ?_ v ?_
      · rcases z with ⟨_, _, z⟩ | ⟨F, _, _, _, z⟩
        · exact z
        · exact z.anti fun a y => .inl y
      · exact z.imp id fun ⟨F, z1, z2⟩ => ⟨F, fun a y => back a (z1 a y), z2⟩
    | er c p S' => exact (newR_er e).elim
    | no => rw [e] at h; exact h.elim
  · exact h.elim
theorem med_call {x : Str} {p : Pos} {e : Expr} {es : List Expr} {k np : Nat} {m : FM} {t : AM} (F : FnT X ct.pure k x np m) (hr : Room k X.A) (hg : Gl X x) (ha : MAO X ct (e :: es) t)
    (hdb : (x == ("__debug__" : Str)) = false := by decide) (he : starEach (e :: es) X.env = (false, eval e X.env) :: starEach es X.env := by rfl) (hpl : (backTo pos (starEach es X.env)).any (·.1) = false := by rfl) :
    MED X ct (.Call (.Name x p) (e :: es) [] pos) (eNewC np m t) := by
  obtain ⟨f, fd, ps, F, hm, hk, hb⟩ := F.ex
  exact ⟨fun G W tk => (pe_callL F hr hg hm hk hb (passAt tk) (ha.run G W tk) hdb he hpl).imp fun s H Q ⟨r, S, io, k, h⟩ => ⟨r, S, io, k, Res.first h fun as S1 io1 H1 e1 t1 q1 h1 vs o => new_go (k.step t1 q1) (fun a z => t1.free z) o h1⟩⟩
noncomputable def eNewM (np : Nat) (tab : Nat → Option FM) (mo : EM) (t : AM) : Env → Store → Rs D := fun r S => match mo r S with
  | .ok (.ins n, _) S1 => match S1[n]? with
    | some (C, _) => match tab C with
      | some m => (t r S1).bind fun as S2 => if ((Fl.c, D.ins n) :: as).length = np ∧ okS S2 = true then newR (m ((.c, .ins n) :: as) S2) S2 else .no
      | none => .no
    | none => .no
  | _ => .no
theorem methL_go {np : Nat} {tab : Nat → Option FM} {mo : EM} {t : AM} {x : Str} {G : Gx} {W : WX} {s : St} {H : Hp} {Q : VK} (hx : ∀ C m, tab C = some m → x ∉ ct.fd C ∧ ct.ex C = false) (h : tED X.K ct G W (eNewM np tab mo t) s H Q) :
    ∃ z : {z : Nat × FM // tab z.1 = some z.2}, tMethL (ct.ad z.1.1) x (spM X.K ct.pure np z.1.2) (WE W) (tE X.K ct G W mo) (tAO X.K ct G W t) s H Q := by
  obtain ⟨r, S, io, k, h⟩ := h
  unfold eNewM at h
  split at h
  · rename_i n fl S1 e
    split at h
    · rename_i C vs0 e2
      split at h
      · rename_i m e3
        refine ⟨⟨(C, m), e3⟩, r, S, io, k, ?_⟩
        rw [e]
        intro io1 H1 t1 q1 v o
        obtain ⟨a, ev, ea⟩ := ins_of o.repF
        obtain ⟨a', dx, gs, h1, h2, h3⟩ := q1.at_ n C vs0 e2 (hx C m e3).2
        rw [ea] at h1
        cases h1
        refine ⟨a, dx, gs, ev, h2, lookup_none_of h3.1 (hx C m e3).1, r, S1, io1, k.step t1 q1, Res.first (h.shift t1) fun as S2 io2 H2 e5 t2 q2 h5 vs o2 => ?_⟩
        have k2 := (k.step t1 q1).step t2 q2
        exact new_go (as := (.c, .ins n) :: as) k2 (fun a z => t1.free (t2.free z)) (.cons (.inl ⟨rfl, rfl, by rw [ev]; exact Rep.ins (io_get t2.pre ea)⟩) o2) h5
      · exact h.elim
    · exact h.elim
  · exact h.elim
theorem med_meth {x : Str} {o e : Expr} {es : List Expr} {apos : Pos} {k np : Nat} {tab : Nat → Option FM} {mo : EM} {t : AM} {pl : Sem Bool} (ho : ME X ct o mo) (T : ∀ C m, tab C = some m → MeT X ct.pure k C x np m) (hr : Room k X.A) (ha : MAO X ct (e :: es) t)
    (hst : starEach (e :: es) X.env = (false, eval e X.env) :: starEach es X.env := by rfl) (hpl : (backTo pos (starEach es X.env)).any (·.1) = false := by rfl)
    (ht : eval (.Call (.Attribute o x apos) (e :: es) [] pos) X.env = (do
      let ov ← eval o X.env
      standAt apos.atName
      let (f, first) ← holding [ov] (getMethod ov x pl)
      callWith pos f first (backTo pos (starEach (e :: es) X.env)) (backToKw pos (keywordEach [] X.env))) := by rfl) :
    MED X ct (.Call (.Attribute o x apos) (e :: es) [] pos) (eNewM np tab mo t) :=
  ⟨fun G W tk => (PE.ex fun z : {z : Nat × FM // tab z.1 = some z.2} => show PE X _ (tMethL (ct.ad z.1.1) x (spM X.K ct.pure np z.1.2) (WE W) (tE X.K ct G W mo) (tAO X.K ct G W t)) by
    obtain ⟨f, fd, ps, F, c, hm, hb, _⟩ := (T z.1.1 z.1.2 z.2).ex
    exact pe_methL (ho.run G W tk) c hm F hr hb (passAt tk) (ha.run G W tk) hst hpl ht).imp fun s H Q h => methL_go (fun C m e => by
      obtain ⟨_, _, _, _, _, _, _, z⟩ := (T C m e).ex
      exact z) h⟩
theorem med_meth0 {x : Str} {o : Expr} {apos : Pos} {k np : Nat} {tab : Nat → Option FM} {mo : EM} {pl : Sem Bool} (ho : ME X ct o mo) (T : ∀ C m, tab C = some m → MeT X ct.pure k C x np m) (hr : Room k X.A)
    (ht : eval (.Call (.Attribute o x apos) [] [] pos) X.env = (do
      let ov ← eval o X.env
      standAt apos.atName
      let (f, first) ← holding [ov] (getMethod ov x pl)
      callWith pos f first (backTo pos (starEach [] X.env)) (backToKw pos (keywordEach [] X.env))) := by rfl) :
    MED X ct (.Call (.Attribute o x apos) [] [] pos) (eNewM np tab mo aNil) :=
  ⟨fun G W tk => (PE.ex fun z : {z : Nat × FM // tab z.1 = some z.2} => show PE X _ (tMethL (ct.ad z.1.1) x (spM X.K ct.pure np z.1.2) (WE W) (tE X.K ct G W mo) tNil) by
    obtain ⟨f, fd, ps, F, c, hm, hb, _⟩ := (T z.1.1 z.1.2 z.2).ex
    exact pe_methL0 (ho.run G W tk) c hm F hr hb (passAt tk) ht).imp fun s H Q h => by
      obtain ⟨z, r, S, io, k, h⟩ := methL_go (fun C m e => by
        obtain ⟨_, _, _, _, _, _, _, z⟩ := (T C m e).ex
        exact z) h
      refine ⟨z, r, S, io, k, Res.imp h fun x S1 io1 H1 t1 q1 h1 v o => ?_⟩
      obtain ⟨a, dx, gs, e1, e2, e3, r2, S2, io2, k2, h2⟩ := h1 v o
      exact ⟨a, dx, gs, e1, e2, e3, h2.here k2.sto [] .nil⟩⟩
/-! ### a list that is kept as one that is only read -/
def eFrz (m : EM) : EM := fun r S => (m r S).bind fun x S1 => match x.1 with
  | .lst xs => if x.2 = .c ∨ x.2 = .n then .ok (.frz xs, .c) S1 else .no
  | _ => .no
theorem me_frz {e : Expr} {m : EM} (h : ME X ct e m) : ME X ct e (eFrz m) := ⟨fun G W tk => (h.run G W tk).imp fun s H Q ⟨r, S, io, k, h⟩ => ⟨r, S, io, k, Res.first h fun x S1 io1 H1 e1 t1 q1 h1 v o => by
  split at h1
  · rename_i xs ex
    split at h1
    · rename_i g
      refine h1.here q1 v ⟨?_, q1⟩
      have z := o.repF
      rw [ex] at z
      have z : Rep X.K (Mall G r s) io1 H1 (.lst xs) v := by
        rcases g with g | g
        · rw [g] at z; exact z
        · rw [g] at z; exact z
      cases z with
      | lst hH n r => exact .frz (.inl ⟨.inl hH, n⟩) r
    · exact h1.elim
  · exact h1.elim⟩⟩
/-! ### a call that sees no object -/
mutual
def noIns : D → Bool
  | .lst xs => noInss xs
  | .tup xs => noInss xs
  | .frz xs => noInss xs
  | .dic _ xs => noInss xs
  | .ins _ => false
  | _ => true
def noInss : List D → Bool
  | [] => true
  | x :: xs => noIns x && noInss xs
end
mutual
theorem Rep.noio {K : PySem.W.Frag} {M : Addr → Prop} {io io' : List Addr} {H : Hp} : ∀ {d : D} {v : V}, noIns d = true → Rep K M io H d v → Rep K M io' H d v
  | _, _, _, .non => .non
  | _, _, _, .bl b => .bl b
  | _, _, _, .int i => .int i
  | _, _, _, .str z => .str z
  | _, _, g, .lst h n r => .lst h n (Reps.noio (by simpa [noIns] using g) r)
  | _, _, g, .frz h r => .frz h (Reps.noio (by simpa [noIns] using g) r)
  | _, _, g, .tup h r => .tup h (Reps.noio (by simpa [noIns] using g) r)
  | _, _, g, .dic h n e r => .dic h n e (Reps.noio (by simpa [noIns] using g) r)
  | _, _, g, .ins h => by simp [noIns] at g
  | _, _, _, .cst => .cst
theorem Reps.noio {K : PySem.W.Frag} {M : Addr → Prop} {io io' : List Addr} {H : Hp} : ∀ {ds : List D} {vs : List V}, noInss ds = true → Reps K M io H ds vs → Reps K M io' H ds vs
  | _, _, _, .nil => .nil
  | _, _, g, .cons r t => by
    rw [noInss, Bool.and_eq_true] at g
    exact .cons (Rep.noio g.1 r) (Reps.noio g.2 t)
end
def pureR (y : Rs (D × Fl)) (S : Store) : Rs (D × Fl) := match y with
  | .ok x _ => if gnd1 x.1 then .ok (x.1, .c) S else .no
  | _ => .no
def eFnP (np : Nat) (m : FM) (t : AM) : EM := fun r S => (t r S).bind fun as S1 => if as.length = np ∧ (as.all fun x => noIns x.2) = true then pureR (m (as.map fun x => (Fl.c, x.2)) []) S1 else .no
theorem me_callP {x : Str} {p : Pos} {e : Expr} {es : List Expr} {k np : Nat} {m : FM} {t : AM} (F : FnT X ct k x np m) (hr : Room k X.A) (hg : Gl X x) (ha : MA X ct (e :: es) t)
    (hdb : (x == ("__debug__" : Str)) = false := by decide) (he : starEach (e :: es) X.env = (false, eval e X.env) :: starEach es X.env := by rfl) (hpl : (backTo pos (starEach es X.env)).any (·.1) = false := by rfl) :
    ME X ct (.Call (.Name x p) (e :: es) [] pos) (eFnP np m t) := by
  obtain ⟨f, fd, ps, F, hm, hk, hb⟩ := F.ex
  refine ⟨fun G W tk => (pe_callS F hr hg hm hk hb (passAt tk) (ha.run G W tk) hdb he hpl).imp fun s H Q ⟨r, S, io, k, h⟩ => ⟨r, S, io, k, Res.first h fun as S1 io1 H1 e1 t1 q1 h1 vs o => ?_⟩⟩
  split at h1
  · rename_i g
    obtain ⟨g1, g2⟩ := g
    refine ⟨by rw [← g1]; exact (Paired.length o).symm, as.map fun x => (Fl.c, x.2), [], [], fun _ => False, ?_, ⟨rfl, fun n C fs e => by simp at e, fun n C fs e => by simp at e, .nil, q1.tb, q1.pn⟩, fun a z => z.elim, ?_⟩
    · clear h1 h e1 g1
      induction o with
      | nil => exact .nil
      | cons r t ih =>
        rw [List.all_cons, Bool.and_eq_true] at g2
        exact .cons (Rep.noio g2.1 r.weak) (ih g2.2)
    · cases em : m (as.map fun x => (Fl.c, x.2)) [] with
      | ok x S2 =>
        rw [em] at h1
        have h1 : Res X.K ct W (Mall G r s) s io1 H1 (if gnd1 x.1 then (.ok (x.1, Fl.c) S1 : Rs (D × Fl)) else .no) _ := h1
        split at h1
        · rename_i gx
          intro v io' H2 t z
          have s2 : Stp ct io1 H1 io1 H2 := ⟨t.k1, fun a o e _ n => t.k2 a o e (fun z => nomatch z) n, io_refl, fun a z n => absurd z n, t.dom, t.k3⟩
          have q2 : StoOk X.K ct (Mall G r s) io1 S1 H2 := by
            refine ⟨q1.len, fun n C fs e x => ?_, fun n C fs e x => ?_, q1.nd, z.sto.tb, z.sto.pn⟩
            · obtain ⟨a, dx, gs, y1, y2, y3, y4⟩ := q1.at_ n C fs e x
              exact ⟨a, dx, gs, y1, t.k2 a _ y2 (fun z => nomatch z) (fun _ z => by cases z), y3, y4.stp s2⟩
            · obtain ⟨a, d, y1, y2, y3⟩ := q1.ax n C fs e x
              exact ⟨a, d, y1, t.k1 _ _ y2 NI.ext, y3.mono (M := fun _ => False) s2.kp io_refl⟩
          refine h1.go s2 q2 v ⟨?_, q2⟩
          exact Rep.noio (by cases hx : x.1 <;> rw [hx] at gx <;> first | rfl | cases gx) (Rep.of_gnd (gnd1_gnd gx) z.repF.weak)
        · exact h1.elim
      | er c p S2 => rw [em] at h1; exact h1.elim
      | no => rw [em] at h1; exact h1.elim
  · exact h1.elim
end
end Mv

set_option maxRecDepth 100000
set_option maxHeartbeats 2000000
/-! Mv39: {k: e, ..} -/
namespace Mv
open PySem PySem.Spec PyProof.Rows L2
def mgD : List Key → List D → List Key → List D → List Key × List D
  | ks, xs, k :: l, d :: ds => mgD (putKD ks xs k d).1 (putKD ks xs k d).2 l ds
  | ks, xs, _, _ => (ks, xs)
theorem merge_rep {K : PySem.W.Frag} {M : Addr → Prop} {io : List Addr} {H : Hp} : ∀ {more kvs : List (Key × V)} {xs ys : List D}, Reps K M io H xs (kvs.map Prod.snd) → Reps K M io H ys (more.map Prod.snd) →
    (mergeK kvs more).map Prod.fst = (mgD (kvs.map Prod.fst) xs (more.map Prod.fst) ys).1 ∧ Reps K M io H (mgD (kvs.map Prod.fst) xs (more.map Prod.fst) ys).2 ((mergeK kvs more).map Prod.snd)
  | [], kvs, xs, ys, h, r => by
    cases r
    exact ⟨rfl, h⟩
  | p :: more, kvs, xs, ys, h, r => by
    cases r with
    | cons r1 r2 =>
      rename_i d ds
      have z := merge_rep (kvs := putK kvs p.1 p.2) (put_vals (k := p.1) h r1) r2
      rw [put_keys kvs p.1 p.2 xs d] at z
      exact z
theorem stp_atNew {ct : CT} {io io1 : List Addr} {H H1 : Hp} {p : Addr} {o : HO} (t : Stp ct io H io1 H1) (hp : H p = none) : Stp ct io H io1 (upd H1 p o) := by
  have ne : ∀ {a u}, H a = some u → a ≠ p := fun e z => by rw [z, hp] at e; cases e
  exact ⟨fun a u e n => by rw [upd_ne (ne e)]; exact t.k1 a u e n, fun a u e n nt => by rw [upd_ne (ne e)]; exact t.k2 a u e n nt, t.pre, t.new, fun a u e => by rw [upd_ne (ne e)]; exact t.dom a u e, fun pu a u e => by rw [upd_ne (ne e)]; exact t.k3 pu a u e⟩
abbrev PM := Env → Store → Rs (List Key × List D)
def dpNil : PM := fun _ S => .ok ([], []) S
def dpCons (mk mv : EM) (t : PM) : PM := fun r S => (mk r S).bind fun k S1 => (mv r S1).bind fun v S2 => match keyD k.1 with
  | some kk => if okst v.2 v.1 then (t r S2).bind fun p S3 => .ok (kk :: p.1, v.1 :: p.2) S3 else .no
  | none => .no
def tDp (K : PySem.W.Frag) (ct : CT) (G : Gx) (W : WX) (m : PM) : St → Hp → (List (V × V) → Hp → Prop) → Prop := fun s H Q => ∃ r S io, Ok K ct G r S io s H ∧
  Res K ct W (Mall G r s) s io H (m r S) (fun p S' io' H' => ∀ kvs : List (Key × V), kvs.map Prod.fst = p.1 → Reps K (Mall G r s) io' H' p.2 (kvs.map Prod.snd) → Q (kvs.map fun kv => (kV kv.1, kv.2)) H')
section
variable {X : Cx} {ct : CT} {pos : Pos}
structure MDp (X : Cx) (ct : CT) (pos : Pos) (ks : List (Option Expr)) (vs : List Expr) (m : PM) : Prop where
  run : ∀ W : WX, Takes X W → ∃ trs, PPs X pos ks vs trs ∧ ∀ G s H Q, tDp X.K ct G W m s H Q → tPairs trs s H Q
theorem mdp_nil : MDp X ct pos [] [] dpNil := ⟨fun W tk => ⟨[], pps_nil, fun G s H Q ⟨r, S, io, k, h⟩ => h.here k.sto [] rfl .nil⟩⟩
theorem mdp_cons {a b : Expr} {ks : List (Option Expr)} {vs : List Expr} {mk mv : EM} {t : PM} (hk : ME X ct a mk) (hv : ME X ct b mv) (ht : MDp X ct pos ks vs t) : MDp X ct pos (some a :: ks) (b :: vs) (dpCons mk mv t) :=
  ⟨fun W tk => by
    obtain ⟨trs, hp, hq⟩ := ht.run W tk
    refine ⟨_, pps_cons (PE.ex fun G : Gx => hk.run G W tk) (PE.ex fun G : Gx => hv.run G W tk) hp, fun G s H Q ⟨r, S, io, k, h⟩ => ⟨G, r, S, io, k, Res.first h fun x S1 io1 H1 _ t1 q1 h1 v o => ?_⟩⟩
    have k1 := k.step t1 q1
    refine ⟨G, r, S1, io1, k1, Res.first h1 fun y S2 io2 H2 _ t2 q2 h2 w ow => ?_⟩
    have k2 := k1.step t2 q2
    split at h2
    · rename_i kk ek
      split at h2
      · rename_i g
        have ev : v = kV kk := key_val ek o.repF
        refine hq G s H2 _ ⟨r, S2, io2, k2, Res.first h2 fun p S3 io3 H3 _ t3 q3 h3 kvs e1 e2 => ?_⟩
        have z := h3.here q3 ((kk, w) :: kvs) (by rw [List.map_cons, e1]) (.cons (RepF.clean g (ow.repF.stp t3)) e2)
        rw [ev]
        exact z
      · exact h2.elim
    · exact h2.elim⟩
def eDisp (m : PM) : EM := fun r S => (m r S).bind fun p S1 => if p.1.length ≤ 15 then .ok (.dic (mgD [] [] p.1 p.2).1 (mgD [] [] p.1 p.2).2, .n) S1 else .no
theorem me_dict {ks : List (Option Expr)} {vs : List Expr} {m : PM} (h : MDp X ct pos ks vs m) (hall : ks.all (·.isSome) = true) (hl : ks.length = vs.length) (h0 : ks ≠ []) (h15 : ks.length ≤ 15) : ME X ct (.Dict ks vs pos) (eDisp m) :=
  ⟨fun G W tk => by
    obtain ⟨trs, hp, hq⟩ := h.run W tk
    refine (pe_disp hp hall hl h0 h15).imp fun s H Q ⟨r, S, io, k, h⟩ p np => hq (G.hideF fun a => a = p) s _ _ ?_
    have s0 : Stp ct io H io (upd H p (.dK [])) := Stp.upd np
    have kh : Ok X.K ct (G.hideF fun a => a = p) r S io s (upd H p (.dK [])) := k.hideF s0 (fun a z => by rw [z]; exact np) (fun a z => ⟨.dK [], by rw [z]; exact upd_same, NI.dK, not_im_dK⟩) ((k.sto.off np).upd np)
    refine ⟨r, S, io, kh, ?_⟩
    unfold eDisp at h
    cases e : m r S with
    | no => rw [e] at h; exact h.elim
    | er c pr S' =>
      rw [e] at h
      exact fun dx io' H' t q er => h dx io' H' (s0.trans t) (q.anti fun a z => mall_hideF.mpr (.inl z)) er
    | ok x S1 =>
      rw [e] at h
      intro io1 H1 t1 q1 kvs e1 e2
      have h : Res X.K ct W (Mall G r s) s io H (if x.1.length ≤ 15 then (.ok (D.dic (mgD [] [] x.1 x.2).1 (mgD [] [] x.1 x.2).2, Fl.n) S1 : Rs (D × Fl)) else .no) _ := h
      split at h
      · rename_i g
        have hH : H1 p = some (.dK []) := t1.k1 _ _ upd_same NI.dK
        refine ⟨hH, kvs, rfl, by rw [← List.length_map Prod.fst, e1]; exact g, ?_⟩
        have npm : ¬ Mall G r s p := fun z => by
          obtain ⟨o, e, _⟩ := k.mdom p z
          rw [np] at e
          cases e
        have t3 : Stp ct io H io1 (upd H1 p (.dK (mergeK [] kvs))) := stp_atNew (s0.trans t1) np
        have kp : Kp (fun a => Mall G r s a ∨ a = p) H1 (upd H1 p (.dK (mergeK [] kvs))) := fun a o e n z => by
          rw [upd_ne]
          · exact e
          · rintro rfl
            rcases z with z | z
            · exact z (.inr rfl)
            · rw [hH] at e
              cases e
              exact not_im_dK z
        have ne : ∀ {a o}, H1 a = some o → (∀ l, o ≠ .dK l) → a ≠ p := fun e n z => by
          subst z
          rw [hH] at e
          cases e
          exact n _ rfl
        have q3 : StoOk X.K ct (fun a => Mall G r s a ∨ a = p) io1 S1 (upd H1 p (.dK (mergeK [] kvs))) :=
          (q1.anti fun a z => mall_hideF.mpr z).mono kp (fun _ _ n => n) (fun b C dx fs _ e => by rw [upd_ne (ne e fun _ z => by cases z)]; exact e) fun b ps e => by rw [upd_ne (ne e fun _ z => by cases z)]; exact e
        have mr := merge_rep (kvs := []) (xs := []) .nil (e2.anti (M' := fun a => Mall G r s a ∨ a = p) fun a z => mall_hideF.mpr z)
        rw [e1] at mr
        refine h io1 _ t3 (q3.anti fun a z => .inl z) (.ref p) ⟨p, rfl, np, npm, .inr ⟨_, _, _, rfl, upd_same, mr.1, mr.2.mono kp (fun _ _ n => n) io_refl⟩, q3⟩
      · exact h.elim⟩
end
end Mv

set_option maxRecDepth 100000
set_option maxHeartbeats 2000000
/-! Mv40: sorted of lists of ints -/
namespace Mv
open PySem PySem.Spec PyProof.Rows L2 PySem.W
abbrev encL (is : List Int) : PyData := .list (is.map .int)
def sortL (iss : List (List Int)) : List (List Int) := iss.mergeSort fun p q => decide (p ≤ q)
/-- what is kept of an item: P says it is that list -/
def rSortLT (K : PySem.W.Frag) : List V → Hp → VK → Prop := fun vs H Q => ∃ (P : V → List Int → Prop) (a : Addr) (xs : List V) (iss : List (List Int)), vs = [V.ref a] ∧ SqL K H a xs ∧ Paired P xs iss ∧ (∀ x is, P x is → ∃ t, x = .ref t ∧ Dp K H x (encL is)) ∧
  ∀ ys l, Paired P ys (sortL iss) → H l = none → Q (.ref l) (upd H l (.lst ys))
theorem paired_each {P : V → List Int → Prop} : ∀ {us : List Value} {xs : List V} {iss : List (List Int)}, xs = us.map backV → Paired P xs iss → EachIs (fun u is => P (backV u) is) us iss
  | [], _, _, e, h => by
    subst e
    cases h
    exact .nil
  | u :: us, _, _, e, h => by
    subst e
    cases h with
    | cons h1 h2 => exact .cons h1 (paired_each rfl h2)
theorem each_paired {P : V → List Int → Prop} {us : List Value} {iss : List (List Int)} (h : EachIs (fun u is => P (backV u) is) us iss) : Paired P (us.map backV) iss := by
  induction h with
  | nil => exact .nil
  | cons h1 h2 ih => exact .cons h1 ih
theorem each_and {R : Value → List Int → Prop} {T : Value → Prop} {us : List Value} {iss : List (List Int)} (h : EachIs R us iss) : (∀ u ∈ us, T u) → EachIs (fun u is => R u is ∧ T u) us iss := by
  induction h with
  | nil => exact fun _ => .nil
  | cons h1 h2 ih => exact fun t => .cons ⟨h1, t _ (.head _)⟩ (ih fun u m => t u (.tail _ m))
theorem each_all {R : Value → List Int → Prop} {T : Value → Prop} {us : List Value} {iss : List (List Int)} (h : EachIs R us iss) (ht : ∀ u is, R u is → T u) : ∀ u ∈ us, T u := by
  induction h with
  | nil => exact fun u m => absurd m (by simp)
  | cons h1 h2 ih =>
    intro u m
    rcases List.mem_cons.mp m with rfl | m
    · exact ht _ _ h1
    · exact ih u m
theorem cr_sortLT {X : Cx} (hu : X.A.units + 64 < cLine) : CallR X (.builtin "sorted") (rSortLT X.K) := by
  intro pins s σ H vs us Q I r h
  obtain ⟨P, a, xs, iss, rfl, hs, hp, hP, q⟩ := h
  obtain ⟨its, rv, hl, hz⟩ := I.list hs
  obtain ⟨u, rfl, ru⟩ := vals1 r
  obtain rfl : u = Value.ref a := ru
  have hx : ∀ x ∈ xs, ∃ is, P x is := by
    clear q rv hl hz hs
    induction hp with
    | nil => exact fun x m => absurd m (by simp)
    | cons h1 h2 ih =>
      intro x m
      rcases List.mem_cons.mp m with rfl | m
      · exact ⟨_, h1⟩
      · exact ih x m
  obtain ⟨e1, e2⟩ := refs_back rv fun x m => by
    obtain ⟨is, h⟩ := hx x m
    obtain ⟨t, e, _⟩ := hP x is h
    exact ⟨t, e⟩
  have hz2 : iss.length ≤ sizeLine := by
    rw [← hp.length]
    exact hz
  have ea := paired_each (P := P) e1 hp
  have e : EachIs (fun u is => P (backV u) is ∧ ∃ a, u = Value.ref a) its iss := by
    exact each_and ea e2
  have er : EachIs (fun v b => ∃ as, Reads s.heap v (encL b) as) its iss := e.mono fun u is h => by
    obtain ⟨h, t, rfl⟩ := h
    obtain ⟨t', e3, d⟩ := hP _ _ h
    exact Dp.reads I _ _ _ d rfl
  have hal : AllAlike (iss.map encL) := AllAlike.of fun b b' => by simp [alike, Mv.alike_ints]
  have hso : Sortable (iss.map encL) := Sortable.others fun b => ⟨by simp, by simp⟩
  have hun : ∀ b, b ∈ iss → X.A.units + 2 + (encL b).depth < cLine := fun b _ => by
    have hd : (encL b).depth = 1 := by simp [PyData.depth, Mv.depth_ints]
    omega
  refine sorted_data (R := fun u is => P (backV u) is ∧ ∃ a, u = Value.ref a) (enc := encL) hl.isList e er hal hso hz2 hun fun out hlen eo => ?_
  · rw [dataLe_rows (fun b => b)] at eo
    have h3 : ∀ u ∈ out, ∃ a, u = Value.ref a := each_all eo fun u is h => h.2
    obtain ⟨n, hn⟩ := sortedAll_at s.heap its (List.toArray out)
    have hd : s.heap.objs.size ≤ s.heap.objs.size + 1 := Nat.le_succ _
    refine ⟨.ref (s.heap.objs.size + 1), upd H (s.heap.objs.size + 1) (.lst (out.map backV)), I.laid (t' := s.toks) (fun b o e => sortedAll_old e) hd ⟨?_, out, n, vals_back h3, hn⟩, rfl, q _ _ ?_ (I.hok.fresh hd)⟩
    · rw [List.length_map, hlen]
      exact hz2
    · exact each_paired (eo.mono fun u is h => h.1)
def rowsOf : List D → Option (List (List Int))
  | [] => some []
  | .lst xs :: ds => match intsOf xs, rowsOf ds with
    | some is, some iss => some (is :: iss)
    | _, _ => none
  | _ => none
def rL (is : List Int) : D := .lst (is.map D.int)
section
variable {K : PySem.W.Frag} {ct : CT} {M N : Addr → Prop} {io : List Addr} {H : Hp}
theorem rows_eq : ∀ {ds : List D} {iss : List (List Int)}, rowsOf ds = some iss → ds = iss.map rL
  | [], iss, e => by
    unfold rowsOf at e
    cases e
    rfl
  | d :: ds, iss, e => by
    unfold rowsOf at e
    split at e
    · rename_i heq
      cases heq
    · rename_i xs ds' heq
      cases heq
      split at e
      · rename_i is jss e1 e2
        cases e
        rw [rows_eq e2, intsOf_eq e1]
        rfl
      · cases e
    · cases e
theorem rows_of : ∀ iss : List (List Int), rowsOf (iss.map rL) = some iss
  | [] => rfl
  | is :: iss => by
    show (match intsOf (is.map D.int), rowsOf (iss.map rL) with
      | some is, some iss => some (is :: iss)
      | _, _ => none) = _
    rw [rows_of iss, intsOf_map]
theorem reps_rows : ∀ {iss : List (List Int)} {vs : List V}, Reps K M io H (iss.map rL) vs → Paired (fun v is => Rep K M io H (rL is) v) vs iss
  | [], _, h => by
    cases h
    exact .nil
  | p :: ps, _, h => by
    cases h with
    | cons h1 h2 => exact .cons h1 (reps_rows h2)
theorem rows_reps {iss : List (List Int)} {vs : List V} (h : Paired (fun v is => Rep K M io H (rL is) v) vs iss) : Reps K M io H (iss.map rL) vs := by
  induction h with
  | nil => exact .nil
  | cons h1 h2 ih => exact .cons h1 ih
def gSortL : List (Fl × D) → Option (D × Fl) := fun as => match as with
  | [(f, .lst ds)] => if f = .t then none else (rowsOf ds).map fun iss => (.lst ((sortL iss).map rL), .n)
  | _ => none
theorem ok_sortL : CalOk K ct (rSortLT K) gSortL := by
  intro M N io S H vs as res Q o q md e w
  unfold gSortL at e
  split at e
  · rename_i f ds
    split at e
    · cases e
    · rename_i g
      obtain ⟨iss, e1, rfl⟩ := Option.map_eq_some_iff.mp e
      obtain ⟨v, rfl, r⟩ := args1 o
      obtain ⟨a, us, rfl, h1, h2⟩ := nt_seq (xs := ds) g rfl r
      rw [rows_eq e1] at h2
      refine ⟨fun v is => Rep K M io H (rL is) v, a, us, iss, rfl, h1, reps_rows h2, fun x is h => ?_, fun ys l hy hl => w _ _ (Stp.upd hl) (new_lst hl hl md q (rows_reps hy))⟩
      have d : Dp K H x (encL is) := (Rep.anti (M' := fun _ => False) (fun _ z => z.elim) h).dp (by simp [rL, toPy, toPys_ints])
      cases h with
      | lst h1 h2 h3 => exact ⟨_, rfl, d⟩
  · cases e
end
end Mv

set_option maxRecDepth 100000
set_option maxHeartbeats 2000000
/-! Mv41: (n, m, list) < (n', m', list') -/
namespace Mv
open PySem PySem.Spec PyProof.Rows L2 PySem.W
def ltT (a c b d : Int) (is js : List Int) : Bool := if a = c then ltL b d is js else decide (a < c)
theorem lt_trip (a b c d : Int) (is js : List Int) : dataLt (.tuple [.int a, .int b, .list (is.map PyData.int)]) (.tuple [.int c, .int d, .list (js.map PyData.int)]) = ltT a c b d is js := by
  rw [dataLt_tuple]
  unfold ltT ltL
  by_cases h : a = c
  · subst h
    rw [if_pos rfl, dataLt_all_yes (by simp [alike]) (by simp [PyData.eqv])]
    by_cases h1 : b = d
    · subst h1
      rw [if_pos rfl, dataLt_all_yes (by simp [alike]) (by simp [PyData.eqv])]
      by_cases h2 : is = js
      · subst h2
        rw [dataLt_all_yes (by simp [alike, Mv.alike_ints]) (by simp [PyData.eqv, eqv_ints]), lex_self]
        simp [keyToksAll]
        rfl
      · rw [dataLt_all_no (by simp [alike, Mv.alike_ints]) (by simp [PyData.eqv, eqv_ints, h2]), dataLt_list, lt_ints]
    · rw [if_neg h1, dataLt_all_no (by simp [alike]) (by simp [PyData.eqv, h1]), dataLt_int]
  · rw [if_neg h, dataLt_all_no (by simp [alike]) (by simp [PyData.eqv, h]), dataLt_int]
def gLtT : D × Fl → D × Fl → Option (D × Fl) := fun a b => match a.1, b.1 with
  | .tup [.int a, .int b, .lst xs], .tup [.int c, .int d, .lst ys] => match intsOf xs, intsOf ys with
    | some is, some js => some (.bl (ltT a c b d is js), .c)
    | _, _ => none
  | _, _ => none
section
variable {K : PySem.W.Frag} {ct : CT} {M N : Addr → Prop} {io : List Addr} {H : Hp}
theorem dp_trip {c e : Int} {is : List Int} {v : V} (h : Rep K M io H (.tup [.int c, .int e, .lst (is.map D.int)]) v) : Dp K H v (.tuple [.int c, .int e, .list (is.map PyData.int)]) :=
  h.dp (by simp [toPy, toPys, toPys_ints])
theorem ok_ltT : BinOk K ct (rLtD K) gLtT := by
  rintro M N io S H x y ⟨a, fa⟩ ⟨b, fb⟩ res Q ra rb q md e w
  unfold gLtT at e
  dsimp only at e ra rb
  split at e
  · rename_i a b xs c d ys
    split at e
    · rename_i is js e1 e2
      cases e
      rw [intsOf_eq e1] at ra
      rw [intsOf_eq e2] at rb
      refine ⟨_, _, dp_trip (tup_rep ra), dp_trip (tup_rep rb), by simp [alike, alikeAll, Mv.alike_ints], (fun z => nomatch z), by simp [PyData.depth, PyData.depthAll, Mv.depth_ints], ?_⟩
      rw [lt_trip]
      exact w _ _ Stp.refl (ResOk.c (.bl _) q)
    · cases e
  · cases e
end
end Mv

set_option maxRecDepth 100000
set_option maxHeartbeats 2000000
/-! Mv42: for k, x in d.items(), d one's own dict that stays one's own -/
namespace Mv
open PySem PySem.Spec PyProof.Rows L2
section
variable {K : PySem.W.Frag} {ct : CT} {G : Gx} {r : Env} {S : Store} {io : List Addr} {s : St} {H : Hp} {i : Nat} {ks : List Key} {xs : List D} {a : Addr} {od : Obj} {kvs : List (Key × V)}
theorem Ok.unlockOwn (h0 : G.H0 a = none) (m0 : ¬ G.M0 a) (n0 : ¬ G.N0 a) (k : Ok K ct (G.lock a (.frz od (.dK kvs))) r S io s H) (hi : r[i]? = some (.ar .c (.cst (.ref a)))) (hr : Reps K (Mall (G.lock a (.frz od (.dK kvs))) r s) io H xs (kvs.map Prod.snd)) :
    Ok K ct G (r.set i (.own (.dic (kvs.map Prod.fst) xs))) S io s (upd H a (.dK kvs)) := by
  have hf : H a = some (.frz od (.dK kvs)) := k.stp.k1 a _ upd_same NI.frz
  have hs : s[i]? = some (some (V.ref a)) := by
    obtain ⟨v, h1, h2⟩ := k.arg i _ _ hi
    have h2 : Rep K (Mall (G.lock a (.frz od (.dK kvs))) r s) io H (.cst (.ref a)) v := h2
    cases h2
    exact h1
  have at_ : ∀ {j u}, (r.set i (.own (.dic (kvs.map Prod.fst) xs)))[j]? = some u → (j = i ∧ u = .own (.dic (kvs.map Prod.fst) xs)) ∨ (j ≠ i ∧ r[j]? = some u) := fun {j u} q => by
    rcases get_set q with ⟨rfl, q, _⟩ | ⟨hj, q⟩
    · exact .inl ⟨rfl, q.symm⟩
    · exact .inr ⟨fun z => hj z.symm, q⟩
  have na : ∀ {j : Nat} {d : D} {b : Addr}, r[j]? = some (Slot.own d) → s[j]? = some (some (V.ref b)) → b ≠ a := fun {j d b} q z => by
    obtain ⟨b', h1, h2, h3, _⟩ := k.own j d q
    rw [z] at h1
    cases h1
    exact fun e => h3 (.inr e)
  have mo2 : ∀ {x}, Mown G (r.set i (.own (.dic (kvs.map Prod.fst) xs))) s x → Mown G r s x ∨ x = a := fun {x} h => by
    rcases h with h | ⟨j, u, h1, h2⟩
    · exact .inl (.inl h)
    · rcases at_ h1 with ⟨rfl, _⟩ | ⟨_, q⟩
      · rw [hs] at h2
        cases h2
        exact .inr rfl
      · exact .inl (.inr ⟨j, u, q, h2⟩)
  have ml : ∀ {x}, Mall G (r.set i (.own (.dic (kvs.map Prod.fst) xs))) s x → Mall (G.lock a (.frz od (.dK kvs))) r s x := fun {x} h => by
    rcases h with h | h
    · exact .inl (.inl h)
    · rcases mo2 h with h | h
      · exact .inr h
      · exact .inl (.inr h)
  have ma : Mall (G.lock a (.frz od (.dK kvs))) r s a := .inl (.inr rfl)
  have kp : ∀ N : Addr → Prop, N a → Kp N H (upd H a (.dK kvs)) := fun N na b u q ni z => by
    rw [upd_ne]
    · exact q
    · rintro rfl
      rcases z with z | z
      · exact z na
      · rw [hf] at q
        cases q
        exact frz_not_im z
  have ne : ∀ {b o}, H b = some o → o ≠ .frz od (.dK kvs) → b ≠ a := fun q n z => by
    subst z
    rw [hf] at q
    cases q
    exact n rfl
  have hn : ∀ {b o}, G.H0 b = some o → b ≠ a := fun q z => by
    subst z
    rw [h0] at q
    cases q
  have ar : ∀ {f d v}, ArgF K (Mall (G.lock a (.frz od (.dK kvs))) r s) (Mown G r s) io H f d v → ArgF K (Mall G (r.set i (.own (.dic (kvs.map Prod.fst) xs))) s) (Mown G (r.set i (.own (.dic (kvs.map Prod.fst) xs))) s) io (upd H a (.dK kvs)) f d v := fun {f d v} h => by
    have m : ∀ b, (∃ o, H b = some o) → ¬ Mall (G.lock a (.frz od (.dK kvs))) r s b → ¬ Mall G (r.set i (.own (.dic (kvs.map Prod.fst) xs))) s b := fun b _ n z => n (ml z)
    have go : (Rep K (Mall (G.lock a (.frz od (.dK kvs))) r s) io H d v ∨ ∃ b, v = .ref b ∧ OwnAt K (Mall (G.lock a (.frz od (.dK kvs))) r s) io H d b ∧ ¬ Mown G r s b) → (Rep K (Mall G (r.set i (.own (.dic (kvs.map Prod.fst) xs))) s) io (upd H a (.dK kvs)) d v ∨ ∃ b, v = .ref b ∧ OwnAt K (Mall G (r.set i (.own (.dic (kvs.map Prod.fst) xs))) s) io (upd H a (.dK kvs)) d b ∧ ¬ Mown G (r.set i (.own (.dic (kvs.map Prod.fst) xs))) s b) := fun h => by
      rcases h with h | ⟨b, e, h, z⟩
      · exact .inl (Rep.mono (kp _ ma) m io_refl h)
      · have nb : b ≠ a := by
          rcases h with ⟨_, _, _, w, _⟩ | ⟨_, _, _, _, w, _⟩
          · exact ne w fun z => by cases z
          · exact ne w fun z => by cases z
        refine .inr ⟨b, e, h.mono (kp _ ma) m io_refl fun o q _ => ?_, fun q => (mo2 q).elim z nb⟩
        rw [upd_ne nb]
        exact q
    cases f with
    | c => exact Rep.mono (kp _ ma) m io_refl h
    | n => exact Rep.mono (kp _ ma) m io_refl h
    | b => exact go h
    | o => exact go h
    | t => exact Rep.mono (kp _ (.inr rfl)) (fun b _ n z => n (mo2 z)) io_refl (Rep.av hf h)
  refine ⟨by rw [List.length_set]; exact k.len, fun j f u q => ?_, fun j u q => ?_, fun j j' u u' b q q' z z' => ?_, ?_, ?_, fun b h => ?_, fun b h => ?_, fun p hp => ar (k.held p hp), k.dp.gen rfl (fun _ z => z) (fun j b d q => ?_) (kp _ ma) (fun b o nb _ q _ => by rw [upd_ne (show b ≠ a from fun z => n0 (z ▸ nb))]; exact q) io_refl⟩
  · rcases at_ q with ⟨_, q2⟩ | ⟨_, q⟩
    · cases q2
    · obtain ⟨v, h1, h2⟩ := k.arg j f u q
      exact ⟨v, h1, ar h2⟩
  · rcases at_ q with ⟨ej, q2⟩ | ⟨_, q⟩
    · subst ej
      cases q2
      exact ⟨a, hs, .inr ⟨_, xs, kvs, rfl, upd_same, rfl, hr.mono (kp _ ma) (fun _ _ n z => n (ml z)) io_refl⟩, m0, n0, h0⟩
    · obtain ⟨b, h1, h2, h3, h4, h5⟩ := k.own j u q
      have nb : b ≠ a := fun z => h3 (.inr z)
      have h5 : (upd G.H0 a _) b = none := h5
      rw [upd_ne nb] at h5
      exact ⟨b, h1, h2.mono (kp _ ma) (fun _ _ n z => n (ml z)) io_refl fun o q _ => by rw [upd_ne nb]; exact q, fun z => h3 (.inl z), h4, h5⟩
  · rcases at_ q with ⟨rfl, _⟩ | ⟨_, q⟩
    · rcases at_ q' with ⟨rfl, _⟩ | ⟨_, q'⟩
      · rfl
      · rw [hs] at z
        cases z
        exact absurd rfl (na q' z')
    · rcases at_ q' with ⟨ej, _⟩ | ⟨_, q'⟩
      · subst ej
        rw [hs] at z'
        cases z'
        exact absurd rfl (na (by assumption) z)
      · exact k.inj j j' u u' b q q' z z'
  · exact k.sto.mono (kp _ ma) (fun _ _ n z => n (ml z)) (fun b C dx fs _ q => by rw [upd_ne (ne q fun z => by cases z)]; exact q) fun b ps q => by rw [upd_ne (ne q fun z => by cases z)]; exact q
  · have T := k.stp
    refine ⟨fun b o q n => ?_, fun b o q n nt => ?_, T.pre, fun b z n => ?_, fun b o q => ?_, fun pu b o q => by
      have nb := hn q
      rw [upd_ne nb]
      exact T.k3 pu b o (by show (upd G.H0 a _) b = some o; rw [upd_ne nb]; exact q)⟩
    · have nb := hn q
      rw [upd_ne nb]
      exact T.k1 b o (by show (upd G.H0 a _) b = some o; rw [upd_ne nb]; exact q) n
    · have nb := hn q
      rw [upd_ne nb]
      exact T.k2 b o (by show (upd G.H0 a _) b = some o; rw [upd_ne nb]; exact q) n nt
    · have q : (upd G.H0 a (HO.frz od (.dK kvs))) b = none := T.new b z n
      by_cases hb : b = a
      · subst hb
        exact h0
      · rw [upd_ne hb] at q
        exact q
    · have nb := hn q
      obtain ⟨o', q'⟩ := T.dom b o (by show (upd G.H0 a _) b = some o; rw [upd_ne nb]; exact q)
      exact ⟨o', by rw [upd_ne nb]; exact q'⟩
  · obtain ⟨o, q, n⟩ := k.m0 b (.inl h)
    exact ⟨o, by rw [upd_ne (show b ≠ a from fun z => m0 (z ▸ h))]; exact q, n⟩
  · obtain ⟨o, ⟨h1, h1'⟩, h2, h3, h4⟩ := k.n0 b h
    have nb : b ≠ a := fun z => n0 (z ▸ h)
    have h3 : (upd G.H0 a _) b = none := h3
    rw [upd_ne nb] at h3
    exact ⟨o, ⟨by rw [upd_ne nb]; exact h1, h1'⟩, fun z => h2 (.inl z), h3, h4⟩
  · rcases at_ q with ⟨_, q2⟩ | ⟨_, q⟩
    · cases q2
    · exact ⟨q, rfl⟩
theorem reps_zip {M : Addr → Prop} : ∀ {xs : List D} {vs : List V}, xs.length = vs.length → (∀ p ∈ List.zipWith (fun x (v : V) => (Fl.c, x, v)) xs vs, Rep K M io H p.2.1 p.2.2) → Reps K M io H xs vs
  | [], [], _, _ => .nil
  | [], _ :: _, h, _ => by cases h
  | _ :: _, [], h, _ => by cases h
  | x :: xs, v :: vs, h, q => .cons (q _ (.head _)) (reps_zip (by simpa using h) fun p hp => q p (.tail _ hp))
end
noncomputable def itmK (i : Nat) (g : GM) (b : SM) (ks : List Key) (xs : List D) (r : Env) (S : Store) : SR :=
  open Classical in
  if h : ∃ p : Env × Store, i < p.1.length ∧ ∀ a : Addr, forL g b (itemsD ks xs) (r.set i (.ar .c (.cst (.ref a)))) S = .nx (p.1.set i (.ar .c (.cst (.ref a)))) p.2 then .nx (h.choose.1.set i (.own (.dic ks xs))) h.choose.2 else .no
theorem itmK_ap {i : Nat} {g : GM} {b : SM} {ks : List Key} {xs : List D} {r r' : Env} {S S' : Store} (hi : i < r'.length) (h : ∀ a : Addr, forL g b (itemsD ks xs) (r.set i (.ar .c (.cst (.ref a)))) S = .nx (r'.set i (.ar .c (.cst (.ref a)))) S') : itmK i g b ks xs r S = .nx (r'.set i (.own (.dic ks xs))) S' := by
  have ex : ∃ p : Env × Store, i < p.1.length ∧ ∀ a : Addr, forL g b (itemsD ks xs) (r.set i (.ar .c (.cst (.ref a)))) S = .nx (p.1.set i (.ar .c (.cst (.ref a)))) p.2 := ⟨(r', S'), hi, h⟩
  unfold itmK
  rw [dif_pos ex]
  have e := (ex.choose_spec.2 0).symm.trans (h 0)
  injection e with e1 e2
  have e3 := congrArg (fun z : Env => z.set i (.own (.dic ks xs))) e1
  simp only [List.set_set] at e3
  rw [e3, e2]
noncomputable def sItmK (i : Nat) (g : GM) (b : SM) : SM := fun r S => match r[i]? with
  | some (.own (.dic ks xs)) => itmK i g b ks xs r S
  | _ => .no
section
variable {X : Cx} {ct : CT} {pos : Pos}
theorem ms_itmK {i kk : Nat} {y : Str} {p apos cpos tpos : Pos} {elts : List Expr} {body : List Stmt} {ts : List Nat} {g : GM} {b : SM} (hc : X.calm = true) (hx : PE X (.Name y p) (tVar i)) (hg : MG X ct (.Tuple elts kk tpos) ts g) (hb : MSs X ct body b)
    (hbase : attributeBase (.Name y p) "items" X.env (eval (.Name y p) X.env) = eval (.Name y p) X.env := by rfl) (hline : (apos.endLine == cpos.line) = true := by rfl)
    (hs : ∀ x, foldedSetIterable (.Call (.Attribute (.Name y p) "items" apos) [] [] cpos) X.env x = pure x := by intro _; rfl) : MS X ct (.For (.Tuple elts kk tpos) (.Call (.Attribute (.Name y p) "items" apos) [] [] cpos) body [] pos) (sItmK i g b) := by
  refine ⟨fun G W tk po => (ps_lock (ps_for po hc (pi_items hx hbase hline) (PG.ex fun G' : Gx => hg.run G') (PSs.ex fun G' : Gx => hb.run G' W tk po) hs)).imp fun De s H h => ?_⟩
  obtain ⟨r, S, io, k, h⟩ := h
  unfold sItmK at h
  split at h
  · rename_i ks xs e
    obtain ⟨a, ea, ow, m0, n0, h0⟩ := k.own i _ e
    obtain ⟨kvs, hH, rfl, hr⟩ := own_dic ow
    refine ⟨a, .dK kvs, hH, trivial, fun od => ⟨.ref a, ea, a, od, kvs, rfl, upd_same, ?_⟩⟩
    have kl0 := (k.lock (od := od) e ea hH).setc (i := i) (d := .cst (.ref a)) (v := .ref a) .cst
    have hil : i < s.length := (List.getElem?_eq_some_iff.mp ea).1
    have es : s.set i (some (V.ref a)) = s := by
      refine List.ext_getElem? fun j => ?_
      by_cases c : i = j
      · subst c
        rw [List.getElem?_set_self hil, ea]
      · rw [List.getElem?_set_ne c]
    rw [List.set_set, es] at kl0
    have kl := kl0
    have ekl : (itemsD (kvs.map Prod.fst) xs).length = kvs.length := by
      rw [itemsD_len _ _ (by rw [List.length_map, hr.len, List.length_map]), List.length_map]
    -- the values of the dict are held
    have hv : ∀ p ∈ (List.zipWith (fun x (v : V) => (Fl.c, x, v)) xs (kvs.map Prod.snd)), ArgF X.K (Mall (G.lock a (.frz od (.dK kvs))) (r.set i (.ar .c (.cst (.ref a)))) s) (Mown (G.lock a (.frz od (.dK kvs))) (r.set i (.ar .c (.cst (.ref a)))) s) io (upd H a (.frz od (.dK kvs))) p.1 p.2.1 p.2.2 := fun p hp => by
      obtain ⟨j, hj⟩ := List.getElem?_of_mem hp
      rw [List.getElem?_zipWith] at hj
      have ex : ∃ x v, xs[j]? = some x ∧ (kvs.map Prod.snd)[j]? = some v ∧ p = (Fl.c, x, v) := by
        cases q1 : xs[j]? with
        | none => rw [q1] at hj; cases hj
        | some x =>
          cases q2 : (kvs.map Prod.snd)[j]? with
          | none => rw [q1, q2] at hj; cases hj
          | some v =>
            rw [q1, q2] at hj
            cases hj
            exact ⟨x, v, rfl, rfl, rfl⟩
      obtain ⟨x, v, q1, q2, rfl⟩ := ex
      obtain ⟨v', q3, q4⟩ := hr.get q1
      rw [q2] at q3
      cases q3
      -- a value of one's own dict does not hold what is one's own
      refine Rep.mono (M := Mall G r s) (fun b u q ni z => ?_) (fun b _ n z => n ?_) io_refl q4
      · rw [upd_ne]
        · exact q
        · rintro rfl
          rcases z with z | z
          · exact z (.inr (.inr ⟨i, _, e, ea⟩))
          · rw [hH] at q
            cases q
            exact not_im_dK z
      · rcases z with (z | z) | z
        · exact .inl z
        · exact .inr (.inr ⟨i, _, e, z ▸ ea⟩)
        · rcases z with z | ⟨j, u, z1, z2⟩
          · exact .inr (.inl z)
          · rcases get_set z1 with ⟨_, z1, _⟩ | ⟨_, z1⟩
            · cases z1
            · exact .inr (.inr ⟨j, u, z1, z2⟩)
    have kh := kl.hold hv
    generalize hhv : List.zipWith (fun x (v : V) => (Fl.c, x, v)) xs (kvs.map Prod.snd) = held at *
    generalize hds : itemsD (kvs.map Prod.fst) xs = ds at *
    have hfin : ∀ {r' S' s' io' H'}, Ok X.K ct { G.lock a (.frz od (.dK kvs)) with held := held ++ (G.lock a (.frz od (.dK kvs))).held } r' S' io' s' H' → H' a = some (.frz od (.dK kvs)) := fun k' => k'.stp.k1 a _ upd_same NI.frz
    have h1 : ∃ (r1 : Env) (S1 : Store), i < r1.length ∧ forL g b ds (r.set i (.ar .c (.cst (.ref a)))) S = .nx (r1.set i (.ar .c (.cst (.ref a)))) S1 ∧ SRes X.K ct G W De (.nx (r1.set i (.own (.dic (kvs.map Prod.fst) xs))) S1) := by
      unfold itmK at h
      split at h
      · rename_i ex
        refine ⟨_, _, ex.choose_spec.1, ?_, h⟩
        rw [← hds]
        exact ex.choose_spec.2 a
      · exact h.elim
    obtain ⟨r1, S1, hi1, q1, h1⟩ := h1
    have hxl : xs.length = (kvs.map Prod.snd).length := hr.len
    have h2 : SRes X.K ct { G.lock a (.frz od (.dK kvs)) with held := held ++ (G.lock a (.frz od (.dK kvs))).held } W ⟨fun σ' H' => H' a = some (.frz od (.dK kvs)) ∧ De.nx σ' (upd H' a (.dK kvs)), fun v H' => H' a = some (.frz od (.dK kvs)) ∧ De.rt v (upd H' a (.dK kvs)), fun σ' H' => H' a = some (.frz od (.dK kvs)) ∧ De.bk σ' (upd H' a (.dK kvs)), fun σ' H' => H' a = some (.frz od (.dK kvs)) ∧ De.ct σ' (upd H' a (.dK kvs))⟩ (forL g b ds (r.set i (.ar .c (.cst (.ref a)))) S) := by
      rw [q1]
      intro s' io' H' k'
      refine ⟨k'.stp.k1 a _ upd_same NI.frz, ?_⟩
      have u := k'.drop.unlockOwn h0 m0 n0 (i := i) (xs := xs) (List.getElem?_set_self hi1) (reps_zip hxl fun p hp => by
        rw [hhv] at hp
        have q := k'.held p (List.mem_append_left _ hp)
        rw [← hhv] at hp
        obtain ⟨j, hj⟩ := List.getElem?_of_mem hp
        rw [List.getElem?_zipWith] at hj
        cases q1 : xs[j]? with
        | none => rw [q1] at hj; cases hj
        | some x =>
          cases q2 : (kvs.map Prod.snd)[j]? with
          | none => rw [q1, q2] at hj; cases hj
          | some v =>
            rw [q1, q2] at hj
            cases hj
            exact q)
      rw [List.set_set] at u
      exact h1 s' io' _ u
    generalize (⟨fun σ' H' => H' a = some (.frz od (.dK kvs)) ∧ De.nx σ' (upd H' a (.dK kvs)), fun v H' => H' a = some (.frz od (.dK kvs)) ∧ De.rt v (upd H' a (.dK kvs)), fun σ' H' => H' a = some (.frz od (.dK kvs)) ∧ De.bk σ' (upd H' a (.dK kvs)), fun σ' H' => H' a = some (.frz od (.dK kvs)) ∧ De.ct σ' (upd H' a (.dK kvs))⟩ : Ends) = D1 at *
    have w := walk_items (d := a) (o := od) (kvs := kvs)
    refine ⟨fun j m s H => m = ds.length - j ∧ j ≤ ds.length ∧ ∃ r S io, Ok X.K ct { G.lock a (.frz od (.dK kvs)) with held := held ++ (G.lock a (.frz od (.dK kvs))).held } r S io s H ∧ SRes X.K ct { G.lock a (.frz od (.dK kvs)) with held := held ++ (G.lock a (.frz od (.dK kvs))).held } W D1 (forL g b (ds.drop j) r S), ⟨_, rfl, Nat.zero_le _, _, S, io, kh, h2⟩, fun j m s H ⟨hm, hj, r, S, io, k, h⟩ => ?_⟩
    by_cases hlt : j < ds.length
    · refine .inr ⟨w.goes j H (by omega) (hfin k), fun s' H' => ∃ r S io, Ok X.K ct { G.lock a (.frz od (.dK kvs)) with held := held ++ (G.lock a (.frz od (.dK kvs))).held } r S io s' H' ∧ SRes X.K ct { G.lock a (.frz od (.dK kvs)) with held := held ++ (G.lock a (.frz od (.dK kvs))).held } W D1 (forL g b (ds.drop (j + 1)) r S), fun s' H' n => ⟨ds.length - (j + 1), by omega, rfl, hlt, n⟩, fun x H' y => ?_⟩
      obtain ⟨T, kx, vx, rfl, nT, rfl, e1, e2⟩ := w.yields j H x H' (by omega) (hfin k) y
      have hjk : j < kvs.length := by omega
      dsimp only at e1 e2
      rw [List.getElem?_eq_getElem hjk] at e1 e2
      cases e1
      cases e2
      have gv : (kvs.map Prod.snd)[j]? = some kvs[j].2 := by rw [List.getElem?_map, List.getElem?_eq_getElem hjk]; rfl
      have gk : (kvs.map Prod.fst)[j]? = some kvs[j].1 := by rw [List.getElem?_map, List.getElem?_eq_getElem hjk]; rfl
      obtain ⟨d, gd, _⟩ := hr.getV gv
      have hd : ds[j]? = some (.tup [kD kvs[j].1, d]) := by
        rw [← hds]
        exact itemsD_get _ _ _ _ _ gk gd
      have rd : Rep X.K (Mall (G.lock a (.frz od (.dK kvs))) r s) io H d kvs[j].2 := k.held (Fl.c, d, kvs[j].2) (List.mem_append_left _ (by
        rw [← hhv]
        refine List.mem_of_getElem? (i := j) ?_
        rw [List.getElem?_zipWith, gd, gv]))
      have ed : ds.drop j = .tup [kD kvs[j].1, d] :: ds.drop (j + 1) := by
        rw [List.drop_eq_getElem_cons hlt]
        rw [List.getElem?_eq_getElem hlt] at hd
        rw [Option.some.inj hd]
      rw [ed] at h
      have k' := k.step (Stp.upd nT) (k.sto.upd nT (o := .tup [kV kvs[j].1, kvs[j].2]))
      have rk : Rep X.K (Mall (G.lock a (.frz od (.dK kvs))) r s) io (upd H T (.tup [kV kvs[j].1, kvs[j].2])) (kD kvs[j].1) (kV kvs[j].1) := by
        cases kvs[j].1 with
        | inl i => exact .int i
        | inr z => exact .str z
      refine ⟨{ G.lock a (.frz od (.dK kvs)) with held := held ++ (G.lock a (.frz od (.dK kvs))).held }, r, S, io, _, k', .tup (SqT.of upd_same) (.cons rk (.cons (rd.stp (Stp.upd (ct := ct) nT)) .nil)), ?_⟩
      unfold forL at h
      cases e2 : g (.tup [kD kvs[j].1, d]) r with
      | none => rw [e2] at h; exact h
      | some r1 =>
        rw [e2] at h
        intro s2 _ _ k2
        refine ⟨{ G.lock a (.frz od (.dK kvs)) with held := held ++ (G.lock a (.frz od (.dK kvs))).held }, r1, S, io, k2, ?_⟩
        have h : SRes X.K ct { G.lock a (.frz od (.dK kvs)) with held := held ++ (G.lock a (.frz od (.dK kvs))).held } W D1 (match b r1 S with
          | .nx r' S' => forL g b (ds.drop (j + 1)) r' S'
          | .ct r' S' => forL g b (ds.drop (j + 1)) r' S'
          | .bk r' S' => .nx r' S'
          | x => x) := h
        cases e3 : b r1 S with
        | nx r' S' => rw [e3] at h; exact fun s' io' H' k' => ⟨r', S', io', k', h⟩
        | ct r' S' => rw [e3] at h; exact fun s' io' H' k' => ⟨r', S', io', k', h⟩
        | bk r' S' => rw [e3] at h; exact fun s' io' H' k' => h s' io' H' k'
        | rt d f S' => rw [e3] at h; exact h
        | er c p r' S' => rw [e3] at h; exact fun dx s' io' H' k' e => h dx s' io' H' k' e
        | no => rw [e3] at h; exact h
    · have ei : j = ds.length := by omega
      subst ei
      have hs2 := w.stops H (hfin k)
      rw [← ekl] at hs2
      refine .inl ⟨hs2, ?_⟩
      rw [List.drop_length] at h
      exact h s io H k
  · exact h.elim
end
end Mv

set_option maxRecDepth 100000
set_option maxHeartbeats 2000000
/-! Mv43: list(x), x a list of plain values, whosever it is -/
namespace Mv
open PySem PySem.Spec PyProof.Rows L2
section
variable {K : PySem.W.Frag} {ct : CT} {M N : Addr → Prop} {io : List Addr} {H : Hp}
theorem reps_gnd {M M' : Addr → Prop} : ∀ {xs : List D} {vs : List V}, xs.all gnd = true → Reps K M io H xs vs → Reps K M' io H xs vs
  | _, _, _, .nil => .nil
  | _, _, g, .cons r t => by
    rw [List.all_cons, Bool.and_eq_true] at g
    exact .cons (Rep.of_gnd g.1 r) (reps_gnd g.2 t)
def gListG : List (Fl × D) → Option (D × Fl) := fun as => match as with
  | [(_, .lst xs)] => if xs.all gnd then some (.lst xs, .n) else none
  | _ => none
theorem ok_listG : CalOk K ct (fun xs H Q => ∃ p ys, xs = [.ref p] ∧ (SqL K H p ys ∨ SqT K H p ys) ∧ ∀ l, H l = none → Q (.ref l) (upd H l (.lst ys))) gListG := by
  intro M N io S H vs as res Q o q md e w
  unfold gListG at e
  split at e
  · rename_i f xs
    split at e
    · rename_i g
      cases e
      obtain ⟨v, rfl, r⟩ := args1 o
      obtain ⟨a, us, rfl, h1, h2, h3⟩ := seq_both (d := .lst xs) rfl r
      exact ⟨a, us, rfl, .inl h1, fun l hl => w _ _ (Stp.upd hl) (new_lst hl hl md q (reps_gnd g h3))⟩
    · cases e
  · cases e
end
theorem listG_ap (xs : List D) (f : Fl) (h : xs.all gnd = true) : gListG [(f, .lst xs)] = some (.lst xs, .n) := if_pos h
end Mv

set_option maxRecDepth 100000
set_option maxHeartbeats 2000000
/-! Mv44: lambdas that are kept -/
namespace L2
open PySem PySem.Spec PyProof.Rows LamX
section
variable {X : Cx} {pins : List (Addr × Obj)} {σ : L2.St} {H HZ : Hp} {s s1 : Shared}
/-- the closure of X's frame at f -/
def CloO (X : Cx) (params : Arguments) (body : Expr) (scope : Scope) (f c' : Addr) : HO := .ext fun h => ∃ pm ctv, h.get? f = some (PySem.W.kla_obj "<lambda>" (X.env.qual ++ "<lambda>") params body scope (cloFrom X.env.cells scope.names []) pm c' ctv)
theorem clo_ok {H : Hp} {h : Heap} {params : Arguments} {body : Expr} {scope : Scope} {f c' : Addr} {pm ctv : Value} (e : h.get? f = some (PySem.W.kla_obj "<lambda>" (X.env.qual ++ "<lambda>") params body scope (cloFrom X.env.cells scope.names []) pm c' ctv)) : ObjOk X.prog X.w H h f (CloO X params body scope f c') :=
  ⟨⟨pm, ctv, e⟩, ⟨_, e⟩, fun h1 h2 ⟨pm, ctv, e⟩ k => ⟨pm, ctv, k _ e⟩⟩
theorem tabs_upd {T : List (Addr × Str)} {H : Hp} {f : Addr} {o : HO} (h : Tabs T H) (nf : H f = none) : Tabs T (upd H f o) := h.ext fun b u e => by rw [upd_ne (ne_of_none e nf)]; exact e
/-- a lambda is made, and tracked -/
theorem lam_make4 {T : List (Addr × Str)} {c P : Addr} {params : Arguments} {body : Expr} {scope : Scope} {pos : Pos} {E : Value → Shared → Prop} {Q : Value → Shared → Prop}
    (I : Inv X pins σ H s) (TB : TabB X.base X.mg c P) (hcode : X.env.code = .ref c)
    (hm : (P, X.env.qual ++ "<lambda>") ∈ T) (hu : ∀ p ∈ T, p.1 = P → p.2 = X.env.qual ++ "<lambda>")
    (hT : Tabs T H) (hdef : defaultsOf params X.env = ([], [])) (hfree : ∀ y ∈ scope.names, y.2 = .free → ∃ c, X.env.cells.lookup y.1 = some c)
    (h : ∀ (f c' : Addr) (H1 : Hp) (s' : Shared), Inv X pins σ H1 s' → ExtN H H1 → (∀ b o, H b = some o → ∃ o', H1 b = some o') → Tabs T H1 →
      H f = none → H1 f = some (CloO X params body scope f c') → H1 c' = some (CodeO c' (X.env.qual ++ "<lambda>")) → Q (.ref f) s') :
    wpAny (model X.prog X.w) X.A (eval (.Lambda params body scope pos) X.env) Q E s := by
  obtain ⟨ps, hP, ht, ha⟩ := hT _ hm
  have bP : s.heap.BuiltinsAt X.mg P := TB.bm.keeps I.bk
  have hP' : s.heap.get? P = some { cls := .none, data := .fields ps } := I.hok P _ hP
  refine PySem.W.kla_eval hdef ?_
  cases hc : codeAmong pos ps.toList with
  | some cv =>
    obtain ⟨c', rfl, hco⟩ := ha pos cv hc
    refine PySem.W.kla_makeFunctionHit (mg := X.mg) (c := c) (P := P) (ps := ps) (closure_ok hfree) I.ok.glob (I.mod.glob.keeps I.bk) hcode
      (TB.code.keeps I.bk) hP' ht hc bP fun ctv h' tk hx hsz => ?_
    have nf : H h'.objs.size = none := I.hok.fresh hsz
    have cf : c' ≠ h'.objs.size := ne_of_none hco nf
    refine h h'.objs.size c' (upd H h'.objs.size (CloO X params body scope h'.objs.size c')) _
      (I.laid (t' := tk) (fun b o e => Heap.get?_push_of_some _ (hx b o e)) hsz (clo_ok (Heap.get?_push_size _ rfl))) (fun b o e n => by rw [upd_ne (ne_of_none e nf)]; exact e) (fun b o e => ⟨o, by rw [upd_ne (ne_of_none e nf)]; exact e⟩) (tabs_upd hT nf) nf upd_same (by rw [upd_ne cf]; exact hco)
  | none =>
    refine PySem.W.kla_makeFunction (mg := X.mg) (c := c) (P := P) (ps := ps) (closure_ok hfree) I.ok.glob (I.mod.glob.keeps I.bk) hcode
      (TB.code.keeps I.bk) hP' ht hc TB.gP bP fun c' ctv h' tk hx hge hlt hrec htb => ?_
    obtain ⟨c2, oc, vs, t, e2, hoc, hd, hv⟩ := hrec
    cases e2
    have nC : H c' = none := I.hok.fresh hge
    have hsz : s.heap.objs.size ≤ h'.objs.size := by omega
    have nPc : P ≠ c' := ne_of_none hP nC
    have I0 := inv_table (t' := tk) (more := #[rawInt pos.line, rawInt pos.col, .ref c'])
      (h' := h') I hP
      (fun b o hb e => hx b o hb e) htb hge
      ⟨oc, vs, t, hoc, hd, hv⟩
    generalize hH1 : upd (upd H P (.tbl (ps ++ #[rawInt pos.line, rawInt pos.col, .ref c']))) c' (CodeO c' (X.env.qual ++ "<lambda>")) = H1 at I0
    have atP : H1 P = some (.tbl (ps ++ #[rawInt pos.line, rawInt pos.col, .ref c'])) := by rw [← hH1, upd_ne nPc, upd_same]
    have atC : H1 c' = some (CodeO c' (X.env.qual ++ "<lambda>")) := by rw [← hH1, upd_same]
    have oth : ∀ b, b ≠ P → b ≠ c' → H1 b = H b := fun b h1 h2 => by rw [← hH1, upd_ne h2, upd_ne h1]
    have hE : ExtN H H1 := fun b o e n => by
      rw [oth b (fun z => n ps (Option.some.inj (e.symm.trans (by rw [z]; exact hP)))) (ne_of_none e nC)]
      exact e
    have hD : ∀ b o, H b = some o → ∃ o', H1 b = some o' := fun b o e => by
      by_cases hb : b = P
      · exact ⟨_, by rw [hb]; exact atP⟩
      · exact ⟨o, by rw [oth b hb (ne_of_none e nC)]; exact e⟩
    have eL : (ps ++ #[rawInt pos.line, rawInt pos.col, .ref c']).toList = ps.toList ++ [rawInt pos.line, rawInt pos.col, .ref c'] := by simp
    have hT1 : Tabs T H1 := fun p hp => by
      by_cases hb : p.1 = P
      · rw [hu p hp hb, hb]
        refine ⟨_, atP, by rw [eL]; exact PySem.TriplesOk_snoc _ _ _ _ ht, fun p' cv hcv => ?_⟩
        rw [eL] at hcv
        rcases among_app _ ht hcv with z | z
        · obtain ⟨c0, e1, e2⟩ := ha p' cv z
          exact ⟨c0, e1, hE _ _ e2 codeO_ne⟩
        · exact ⟨c', z, atC⟩
      · obtain ⟨ps', a1, a2, a3⟩ := hT p hp
        refine ⟨ps', by rw [oth _ hb (ne_of_none a1 nC)]; exact a1, a2, fun p' cv hcv => ?_⟩
        obtain ⟨c0, e1, e2⟩ := a3 p' cv hcv
        exact ⟨c0, e1, hE _ _ e2 codeO_ne⟩
    have nf : H1 h'.objs.size = none := by
      rw [oth _ (Nat.ne_of_gt (Nat.lt_of_lt_of_le (Heap.lt_size hP') hsz)) (Nat.ne_of_gt hlt)]
      exact I.hok.fresh hsz
    have cf : c' ≠ h'.objs.size := ne_of_none atC nf
    refine h h'.objs.size c' (upd H1 h'.objs.size (CloO X params body scope h'.objs.size c')) _
      (I0.laid (t' := tk) (fun b o e => Heap.get?_push_of_some _ e) (Nat.le_refl _) (clo_ok (Heap.get?_push_size _ rfl))) (fun b o e n => by rw [upd_ne (ne_of_none (hE b o e n) nf)]; exact hE b o e n) (fun b o e => by
        obtain ⟨o', e'⟩ := hD b o e
        exact ⟨o', by rw [upd_ne (ne_of_none e' nf)]; exact e'⟩) (tabs_upd hT1 nf) (I.hok.fresh hsz) upd_same (by rw [upd_ne cf]; exact atC)
end
end L2

set_option maxRecDepth 100000
set_option maxHeartbeats 2000000
/-! Mv45: a def handed a kept lambda -/
namespace L2
open PySem PySem.Spec PyProof.Rows LamX
section
variable {X : Cx} {pins : List (Addr × Obj)} {σ : L2.St} {H HZ : Hp} {s s1 : Shared}
/-- x(), the lambda's body read at the maker's slots -/
theorem pe_gotK {Ng : List Str} {x : Str} {sg : Scope} {g f c' : Addr} {cdg : Value} {params : Arguments} {body : Expr} {scope : Scope} {k i : Nat} {a : Str}
    {pn : List (Addr × Obj)} {xe : Value → Shared → Prop} {W : WX} {tb : XK → TE} {p1 p2 : Pos} (I : Inv X pins σ H s) (L : LamS X.env.scope scope)
    (hbind : ∀ (q : Str) (cl : List (Str × Addr)) (pm cv ctv : Value), bindArgs (PySem.W.kla_fn "<lambda>" q params body scope cl pm cv ctv) ⟨[], []⟩ = pure [])
    (tk : Takes ((gotCx X Ng x sg g cdg s H).tr pn xe) W) (hr : Room (k + 1) (X.A.deeper (envOfC x sg s.heap.objs.size g cdg)))
    (hbody : ∀ (A : Around) (outer : List Env) (s : Shared) (H : Hp) (E : XK), Room k (A.deeper (lamEnv X scope s.heap.objs.size f c')) → PE (lamCx X A outer s H E scope f c') body (tb E))
    (hN : Ng[i]? = some a) (hv : Vis sg a) (hd : (a == ("__debug__" : Str)) = false) (hcd : (a == ("__classdict__" : Str)) = false) :
    PE ((gotCx X Ng x sg g cdg s H).tr pn xe) (.Call (.Name a p1) [] [] p2)
      (fun σZ HZ Q => σZ[i]? = some (some (.ref f)) ∧ HZ f = some (CloO X params body scope f c') ∧ HZ c' = some (CodeO c' (X.env.qual ++ "<lambda>")) ∧ tb (WE W σZ) σ HZ Q) := by
  refine ⟨fun pinsZ sZ σZ HZ Q IZ ⟨hs, hf, hc, ht⟩ => ?_⟩
  refine wpAny_Call_Name_kw (thn ((pe_var (pos := p1) (i := i) hN hv hd hcd).run pinsZ sZ σZ HZ (fun v H1 => v = .ref f ∧ H1 = HZ) IZ
    ⟨.ref f, hs, rfl, rfl⟩) fun u s1 ⟨v, H1, I1, r1, ev, eH⟩ => ?_)
  subst ev eH
  obtain rfl : u = Value.ref f := r1
  obtain ⟨⟨pm, ctv, of1⟩, _, _⟩ := I1.hok f _ hf
  refine PySem.W.callWith_F0 ⟨_, _, _, _, of1⟩ (wpAny_call (codeAny_mono
    (show codeAny (model X.prog X.w) (X.A.deeper (envOfC x sg s.heap.objs.size g cdg)) (.call (.ref f) ⟨[], []⟩)
      (CR (L2.CX X.prog X.w) (envOfC x sg s.heap.objs.size g cdg :: X.stack) X.prog X.w H1 s1 Q (WE W σZ)) s1 from ?_) fun r s' hq => ?_))
  · obtain ⟨⟨oc, vs, t, hoc, hdc, hvc⟩, _, _⟩ := I1.hok c' _ hc
    refine PySem.W.kla_callFunE hr.depth of1 rfl L.co L.gen rfl ⟨c', oc, vs, t, rfl, hoc, hdc, hvc⟩ ?_
    rw [hbind]
    refine wpAny_pure (wpAny_newFunctionEnv (fun y hy => (L.own y hy).2) (fun y hy => absurd hy (by simp)) (fun h₁ hns hsb => ⟨I1.nolimit.fresh _ hsb, ?_⟩) L.kind)
    have un : Un (frs X.stack) [] H H1 s.heap s1.heap := I1.base
    have kp : ∀ b o, s1.heap.get? b = some o → h₁.get? b = some o := fun b o e => hsb.extBut b o (Nat.ne_of_lt (Heap.lt_size e)) (Heap.get?_push_of_some _ e)
    refine PySem.W.kla_codeExpr (wpAny_mono ((hbody (X.A.deeper (envOfC x sg s.heap.objs.size g cdg)) (envOfC x sg s.heap.objs.size g cdg :: X.stack) s1 H1 (WE W σZ)
      (hr.deeper _)).run [] _ _ H1 Q (lam_start2 I L I1.env0 hr.hd un hns kp) ht) (fun v s' ⟨w', H', J', rv, q⟩ => ?_) fun e s' hq => hq)
    exact ⟨w', H', J'.os, J'.bare, J'.base, J'.hok, rv, q⟩
  · cases r with
    | error e => exact passAt tk σZ pinsZ H1 s1 e s' I1 hq
    | ok fl =>
      cases fl with
      | ret u => exact I1.after hq
      | next => exact hq.elim
      | brk => exact hq.elim
      | cont => exact hq.elim
end
end L2
namespace Mv
open PySem PySem.Spec PyProof.Rows L2 LamX
section
variable {X : Cx} {ct : CT} {pos : Pos}
/-- x(y), y a slot that holds the closure f -/
def eRefAt (ka : Nat) (f : Addr) (n j : Nat) (l : List (Nat × Bool)) (mr : SM) (m : EM) : EM := fun r S => match r[ka]? with
  | some (.ar .c (.cst (.ref g))) => if g = f then eRef n j l mr m r S else .no
  | _ => .no
theorem me_refAt {x va : Str} {k n i j ka : Nat} {l : List (Nat × Bool)} {mr : SM} {m : EM} {params : Arguments} {body : Expr} {scope : Scope} {f c' : Addr} {p pv : Pos} (F : GvG X.prog X.w X.K X.mg X.base ct (k + 1) x n i j l mr)
    (hpf : (f, CloO X params body scope f c') ∈ ct.pn) (hpc : (c', CodeO c' (X.env.qual ++ "<lambda>")) ∈ ct.pn) (hr : Room (k + 2) X.A) (hg : Gl X x) (L : LamS X.env.scope scope)
    (hbind : ∀ (q : Str) (cl : List (Str × Addr)) (pm cv ctv : Value), bindArgs (PySem.W.kla_fn "<lambda>" q params body scope cl pm cv ctv) ⟨[], []⟩ = pure [])
    (hbody : ∀ (A : Around) (outer : List PySem.Env) (s : Shared) (H : Hp) (E : XK), Room k (A.deeper (lamEnv X scope s.heap.objs.size f c')) → ME (lamCx X A outer s H E scope f c') ct body m)
    (hv : PE X (.Name va pv) (tVar ka))
    (hdb : (x == ("__debug__" : Str)) = false := by decide) : ME X ct (.Call (.Name x p) [.Name va pv] [] pos) (eRefAt ka f n j l mr m) := by
  obtain ⟨g, fd, N, a, st, FF, hm, hb, Sc, hNl, hN0, hva, hd1, hd2, hG⟩ := F.ex
  obtain ⟨oc, od, kV, doc, pm, an, cdv, ctv, osl, efd, lk, hcd⟩ := FF.ex
  refine ⟨fun G W tk => ⟨fun pins s σ H Q I ⟨r, S, io, k0, h⟩ => ?_⟩⟩
  unfold eRefAt at h
  split at h
  rotate_left
  · exact h.elim
  rename_i gf eka
  split at h
  rotate_left
  · exact h.elim
  rename_i egf
  subst egf
  obtain ⟨vv, hka, hvv⟩ := k0.arg ka .c (.cst (.ref gf)) eka
  have hvv : Rep X.K (Mall G r σ) io H (.cst (.ref gf)) vv := hvv
  cases hvv
  refine wpAny_Call_Name_kw (ld_glob I hg hm ?_ hdb)
  refine PySem.W.callWith_K (h₀ := X.base) I.ok.mod.kin FF.kp ?_ (by rfl) (by rfl)
  show wpAny _ _ (spliced ((false, eval (.Name va pv) X.env) :: backTo pos (starEach [] X.env))) _ _ s
  refine Calls.spliced_cons (thn (hv.run pins s σ H (fun v H1 => v = .ref gf ∧ H1 = H) I ⟨.ref gf, hka, rfl, rfl⟩) fun u s' ⟨v, H1, I1, r1, ev, eH⟩ => ?_)
  subst ev eH
  obtain rfl : u = Value.ref gf := r1
  refine Calls.spliced_nil ⟨I1.kIn, ?_⟩
  have st1 : Stp ct io H1 io H1 := Stp.refl
  have q1 : StoOk X.K ct (Mall G r σ) io S H1 := k0.sto
  have k1 : Ok X.K ct G r S io σ H1 := k0
  have rc : codeAny (model X.prog X.w) X.A (.call (.ref g) ⟨[.ref gf], []⟩) (CR (L2.CX X.prog X.w) X.stack X.prog X.w H1 s' Q (fun _ _ _ => False)) s' := by
    subst efd
    refine run_ofS (N := N) (ps := [a]) (us := [.ref gf]) (vs := [.ref gf]) lk hcd Sc hr I1.env0 (hb s' [.ref gf] I1.kIn rfl) (.cons rfl .nil) rfl fun hr' => ?_
    have hact : ∀ (pn : List (Addr × Obj)) (xe : Value → Shared → Prop) (p1 p2 p3 : Pos), MSG ((gotCx X N x (defScope st) g cdv s' H1).tr pn xe) ct ⟨Mall G r σ, H1, io, [], fun _ => False, fun _ _ => False⟩ (.Expr (.Call (.Name a p1) [] [] p2) p3) (sGot (m r) gf) := fun pn xe p1 p2 p3 => ⟨fun WZ tkZ _ => by
      refine (ps_expr (pe_gotK (c' := c') (tb := fun E => tE X.K ct G (fun cls d _ H => E cls d H) m) I1 L hbind tkZ hr' (fun A outer s H E hr2 => (hbody A outer s H E hr2).run G _ ?_) hN0 hva hd1 hd2) (by rfl)).imp fun D σZ HZ hZ => ?_
      · exact takes_of rfl rfl rfl rfl
      · obtain ⟨rZ, SZ, ioZ, kZ, hZ⟩ := hZ
        unfold sGot at hZ
        split at hZ
        · rename_i gg rest
          split at hZ
          · rename_i hc
            obtain ⟨rfl, no⟩ := hc
            obtain ⟨v, y1, y2⟩ := kZ.arg 0 .c (.cst (.ref gg)) rfl
            cases y2
            have noM : ∀ a, Mall ⟨Mall G r σ, H1, io, [], fun _ => False, fun _ _ => False⟩ (.ar .c (.cst (.ref gg)) :: rest) σZ a → Mall G r σ a := fun a z => by
              rcases z with z | z | ⟨i, d, z, _⟩
              · exact z
              · exact z.elim
              · exact (no_own no z).elim
            refine ⟨y1, (kZ.sto.pn _ hpf).1, (kZ.sto.pn _ hpc).1, r, SZ, ioZ, k1.step kZ.stp (kZ.sto.anti fun a z => .inl z), ?_⟩
            cases e : m r SZ with
            | ok y S' =>
              rw [e] at hZ
              exact fun io' H' t q v _ => hZ σZ io' H' (kZ.step t (q.anti noM))
            | er c p S' =>
              rw [e] at hZ
              exact fun dx io' H' t q eo => hZ dx σZ io' H' (kZ.step t (q.anti noM)) eo
            | no =>
              rw [e] at hZ
              exact hZ
          · exact hZ.elim
        · exact hZ.elim⟩
    refine ⟨_, (hG cdv X.A X.stack s' H1 (fun _ _ _ => False) ⟨Mall G r σ, H1, io, [], fun _ => False, fun _ _ => False⟩ (sGot (m r) gf) hr' hact).run (fun cls d _ H => False) (takes_of rfl rfl rfl rfl) (passes_of rfl),
      startE [(.c, .cst (.ref gf))] N.length, S, io, ok_start rfl (by rw [hNl]; exact Nat.succ_le_succ (Nat.zero_le _)) (.cons Rep.cst .nil) q1 k1.mdom, ?_⟩
    obtain ⟨r0, er⟩ := gv_run (n := n) (i := i) (j := j) (l := l) (mr := mr) (x := m r) (f := gf) (S := S) F.h1 F.h2
    rw [hNl, er]
    have fin : ∀ (rr : Env) (S1 : Store) (io1 : List Addr), Res X.K ct W (Mall G r σ) σ io H1 (refEnd (mr rr S1)) (fun x S' io' H' => ∀ v, ResOk X.K ct (Mall G r σ) (Mown G r σ) H1 io' S' H' x.2 x.1 v → Q v H') →
        SRes X.K ct ⟨Mall G r σ, H1, io, [], fun _ => False, fun _ _ => False⟩ (fun cls d _ H => False) { nx := fun _ H' => Q .non H', rt := Q } (mr rr S1) := fun rr S1 io1 hh => by
      cases e : mr rr S1 with
      | rt d fl S' =>
        rw [e] at hh
        exact fun v io' H' t z => hh io' H' (st1.trans t) z.sto v (z.outf.back fun a y => st1.free y)
      | nx r' S' => rw [e] at hh; exact hh.elim
      | bk r' S' => rw [e] at hh; exact hh.elim
      | ct r' S' => rw [e] at hh; exact hh.elim
      | er c p r' S' => rw [e] at hh; exact hh.elim
      | no => rw [e] at hh; exact hh.elim
    unfold eRef at h
    cases e : m r S with
    | ok y S1 =>
      rw [e] at h
      exact fin _ S1 io h
    | er c p S1 =>
      rw [e] at h
      unfold gvRun
      dsimp only at h ⊢
      cases e2 : l.lookup c with
      | none =>
        rw [e2] at h
        exact h.elim
      | some b =>
        rw [e2] at h
        cases b with
        | true => exact fin _ _ io h
        | false => exact h.elim
    | no =>
      rw [e] at h
      exact h.elim
  refine wpAny_call (codeAny_mono rc fun z s2 hq => ?_)
  cases z with
  | ok fl =>
    cases fl with
    | ret u => exact I1.after hq
    | next => exact hq.elim
    | brk => exact hq.elim
    | cont => exact hq.elim
  | error e =>
    obtain ⟨_, _, _, _, _, _, _, _, _, _, _, _, z⟩ := hq
    exact z.elim
end
end Mv

set_option maxRecDepth 100000
set_option maxHeartbeats 2000000
/-! Mv46: every = [lambda: ..]; every.append(lambda: ..) -/
namespace Mv
open PySem PySem.Spec PyProof.Rows L2 LamX
/-- with these things pinned -/
def CT.pin (ct : CT) (L : List (Addr × HO)) : CT := { ct with pn := L ++ ct.pn }
section
variable {K : PySem.W.Frag} {ct : CT} {L : List (Addr × HO)} {M N : Addr → Prop} {io io' : List Addr} {H H' : Hp} {S S' : Store} {G : Gx} {r : Env} {s : St} {f : Fl} {d : D} {v : V}
theorem Stp.pin (h : Stp ct io H io' H') : Stp (ct.pin L) io H io' H' := ⟨h.k1, h.k2, h.pre, h.new, h.dom, h.k3⟩
theorem Stp.unpin (h : Stp (ct.pin L) io H io' H') : Stp ct io H io' H' := ⟨h.k1, h.k2, h.pre, h.new, h.dom, h.k3⟩
theorem StoOk.unpin (h : StoOk K (ct.pin L) M io S H) : StoOk K ct M io S H := ⟨h.len, h.at_, h.ax, h.nd, h.tb, fun p hp => h.pn p (List.mem_append_right _ hp)⟩
theorem StoOk.pin (h : StoOk K ct M io S H) (g : PinOk L H) : StoOk K (ct.pin L) M io S H := ⟨h.len, h.at_, h.ax, h.nd, h.tb, fun p hp => (List.mem_append.mp hp).elim (g p) (h.pn p)⟩
theorem ResOk.unpin (h : ResOk K (ct.pin L) M N H io' S' H' f d v) : ResOk K ct M N H io' S' H' f d v := by
  cases f with
  | n =>
    obtain ⟨p, e, z, n, h1, h2⟩ := h
    exact ⟨p, e, z, n, h1, h2.unpin⟩
  | c => exact ⟨h.1, h.2.unpin⟩
  | b => exact ⟨h.1, h.2.unpin⟩
  | o => exact ⟨h.1, h.2.unpin⟩
  | t => exact ⟨h.1, h.2.unpin⟩
theorem Ok.unpin (k : Ok K (ct.pin L) G r S io s H) : Ok K ct G r S io s H := ⟨k.len, k.arg, k.own, k.inj, k.sto.unpin, k.stp.unpin, k.m0, k.n0, k.held, k.dp⟩
theorem Ok.pin (k : Ok K ct G r S io s H) (g : PinOk L H) : Ok K (ct.pin L) G r S io s H := ⟨k.len, k.arg, k.own, k.inj, k.sto.pin g, k.stp.pin, k.m0, k.n0, k.held, k.dp⟩
theorem SRes.pin {W : WX} {De : Ends} {x : SR} (h : SRes K ct G W De x) : SRes K (ct.pin L) G W De x := by
  cases x with
  | nx r' S' => exact fun s' io' H' k => h s' io' H' k.unpin
  | bk r' S' => exact fun s' io' H' k => h s' io' H' k.unpin
  | ct r' S' => exact fun s' io' H' k => h s' io' H' k.unpin
  | rt d f S' => exact fun v io' H' t o => h v io' H' t.unpin o.unpin
  | er c p r' S' => exact fun dx s' io' H' k e => h dx s' io' H' k.unpin e
  | no => exact h
end
/-- what is the same for all addresses -/
noncomputable def comm (F : Addr → SR) : SR := open Classical in if h : ∃ x, ∀ f, F f = x then h.choose else .no
theorem comm_ap {F : Addr → SR} {x : SR} (h : ∀ f, F f = x) : comm F = x := by
  have e : ∃ x, ∀ f, F f = x := ⟨x, h⟩
  unfold comm
  rw [dif_pos e]
  exact (e.choose_spec 0).symm.trans (h 0)
theorem comm_res {K : PySem.W.Frag} {ct : CT} {G : Gx} {W : WX} {De : Ends} {F : Addr → SR} (h : SRes K ct G W De (comm F)) (f : Addr) : SRes K ct G W De (F f) := by
  unfold comm at h
  split at h
  · rename_i e
    rw [e.choose_spec f]
    exact h
  · exact h.elim
section
variable {X : Cx} {ct : CT} {pos : Pos}
/-- a lambda is made and kept -/
theorem pe_lamK {T : List (Addr × Str)} {c P : Addr} {params : Arguments} {body : Expr} {scope : Scope} {lpos : Pos} (TB : TabB X.base X.mg c P) (hcode : X.env.code = .ref c)
    (hm : (P, X.env.qual ++ "<lambda>") ∈ T) (hu : ∀ p ∈ T, p.1 = P → p.2 = X.env.qual ++ "<lambda>") (L : LamS X.env.scope scope) (hdef : defaultsOf params X.env = ([], [])) :
    PE X (.Lambda params body scope lpos) (fun σ H Q => Tabs T H ∧ ∀ (f c' : Addr) (H1 : Hp), ExtN H H1 → (∀ b o, H b = some o → ∃ o', H1 b = some o') → Tabs T H1 → H f = none → H1 f = some (CloO X params body scope f c') → H1 c' = some (CodeO c' (X.env.qual ++ "<lambda>")) → Q (.ref f) H1) :=
  ⟨fun pins s σ H Q I ⟨hT, h⟩ => lam_make4 I TB hcode hm hu hT hdef (L.has I.ok) fun f c' H1 s' I1 e d t nf hf hc => ⟨.ref f, H1, I1, rfl, h f c' H1 e d t nf hf hc⟩⟩
theorem lam_sto {G : Gx} {r : Env} {S : Store} {io : List Addr} {σ : St} {H H1 : Hp} (k0 : Ok X.K ct G r S io σ H) (hpu : ct.pu = false) (eN : ExtN H H1) (dm : ∀ b o, H b = some o → ∃ o', H1 b = some o') (T1 : Tabs ct.tb H1) : Stp ct io H io H1 ∧ StoOk X.K ct (Mall G r σ) io S H1 := by
  have st1 : Stp ct io H io H1 := ⟨fun a o e n => eN a o e n.2, fun a o e _ n => eN a o e n, io_refl, fun a z n => absurd z n, dm, fun z => by rw [hpu] at z; cases z⟩
  exact ⟨st1, k0.sto.len, fun n C fs e x => by
    obtain ⟨a, dx, gs, y1, y2, y3, y4⟩ := k0.sto.at_ n C fs e x
    exact ⟨a, dx, gs, y1, eN _ _ y2 (fun _ z => by cases z), y3, y4.stp st1⟩, fun n C fs e x => by
    obtain ⟨a, d, y1, y2, y3⟩ := k0.sto.ax n C fs e x
    exact ⟨a, d, y1, st1.k1 _ _ y2 NI.ext, y3.mono (M := fun _ => False) st1.kp io_refl⟩, k0.sto.nd, T1, pins_mono (M := fun _ => False) k0.sto.pn st1.kp⟩
abbrev pinsOf (X : Cx) (params : Arguments) (body : Expr) (scope : Scope) (f c' : Addr) : List (Addr × HO) := [(f, CloO X params body scope f c'), (c', CodeO c' (X.env.qual ++ "<lambda>"))]
theorem pins_at {params : Arguments} {body : Expr} {scope : Scope} {f c' : Addr} {H : Hp} (h1 : H f = some (CloO X params body scope f c')) (h2 : H c' = some (CodeO c' (X.env.qual ++ "<lambda>"))) : PinOk (pinsOf X params body scope f c') H := fun p hp => by
  simp only [List.mem_cons, List.not_mem_nil, or_false] at hp
  rcases hp with rfl | rfl
  · exact ⟨h1, _, rfl⟩
  · exact ⟨h2, _, rfl⟩
/-- x = [lambda: ..], and the rest -/
noncomputable def sLam (i : Nat) (b : Addr → SM) : SM := fun r S => if i < r.length then comm fun f => b f (r.set i (.own (.lst [.cst (.ref f)]))) S else .no
theorem mss_lam {i : Nat} {x : Str} {params : Arguments} {body : Expr} {scope : Scope} {lpos pos1 pos' : Pos} {rest : List Stmt} {b : Addr → SM} {c P : Addr} (hN : X.N.Nodup) (hi : X.N[i]? = some x) (hx : Loc X.env.scope x) (TB : TabB X.base X.mg c P) (hcode : X.env.code = .ref c)
    (hm : (P, X.env.qual ++ "<lambda>") ∈ ct.tb) (hu : ∀ p ∈ ct.tb, p.1 = P → p.2 = X.env.qual ++ "<lambda>") (L : LamS X.env.scope scope) (hdef : defaultsOf params X.env = ([], []))
    (hb : ∀ f c' : Addr, MSs X (ct.pin (pinsOf X params body scope f c')) rest (b f)) (hpu : ct.pu = false := by rfl)
    (hs : swapsWith (.List [.Lambda params body scope lpos] pos1) (some (.Name x pos')) pos.line X.env = pure false := by rfl) (hf : X.fn x = true ∨ X.env.scope.names.lookup x = some .local := by first | exact .inl rfl | exact .inr rfl | assumption)
    (hs1 : starEach [.Lambda params body scope lpos] X.env = (false, eval (.Lambda params body scope lpos) X.env) :: starEach [] X.env := by rfl) :
    MSs X ct (.Assign [.Name x pos'] (.List [.Lambda params body scope lpos] pos1) pos :: rest) (sLam i b) :=
  ⟨fun G W tk po => (pss_cons (ps_set hN hi hx (pe_lst (pa_cons (pe_lamK (T := ct.tb) TB hcode hm hu L hdef) pa_nil hs1)) hs hf) (PSs.ex fun fc : Addr × Addr => (hb fc.1 fc.2).run G W tk po)).imp fun De s H ⟨r, S, io, k, h⟩ => by
    refine ⟨k.sto.tb, fun f c' H1 eN dm T1 nf hf1 hc1 => ⟨by show 1 ≤ sizeLine; decide, fun p hp => ?_⟩⟩
    obtain ⟨st1, q1⟩ := lam_sto k hpu eN dm T1
    unfold sLam at h
    split at h
    · rename_i hil
      have np : ¬ Mall G r s p := fun z => by
        obtain ⟨o, e, _⟩ := k.mdom p z
        obtain ⟨o', e'⟩ := dm p o e
        rw [hp] at e'
        cases e'
      have k2 : Ok X.K ct G (r.set i (.own (.lst [.cst (.ref f)]))) S io (s.set i (some (.ref p))) (upd H1 p (.lst [.ref f])) :=
        k.seto (st1.trans (Stp.upd hp)) (st1.free hp) np (.inl ⟨_, _, rfl, upd_same, .cons .cst .nil⟩) ((q1.off hp).upd hp)
      refine ⟨(f, c'), _, S, io, k2.pin (pins_at (by rw [upd_ne (ne_of_none hf1 hp)]; exact hf1) (by rw [upd_ne (ne_of_none hc1 hp)]; exact hc1)), (comm_res h f).pin⟩
    · exact h.elim⟩
/-- x.append(lambda: ..), and the rest -/
noncomputable def sLamA (i : Nat) (b : Addr → SM) : SM := fun r S => match r[i]? with
  | some (.own (.lst xs)) => if xs.length < sizeLine then comm fun f => b f (r.set i (.own (.lst (xs ++ [.cst (.ref f)])))) S else .no
  | _ => .no
theorem mss_lamA {i : Nat} {x : Str} {params : Arguments} {body : Expr} {scope : Scope} {lpos p apos cpos : Pos} {rest : List Stmt} {b : Addr → SM} {c P : Addr} (hx : PE X (.Name x p) (tVar i)) (TB : TabB X.base X.mg c P) (hcode : X.env.code = .ref c)
    (hm : (P, X.env.qual ++ "<lambda>") ∈ ct.tb) (hu : ∀ p ∈ ct.tb, p.1 = P → p.2 = X.env.qual ++ "<lambda>") (L : LamS X.env.scope scope) (hdef : defaultsOf params X.env = ([], []))
    (hbb : ∀ {to : TE} {t : TA}, PE X (.Name x p) to → PA X [.Lambda params body scope lpos] t → PE X (.Call (.Attribute (.Name x p) "append" apos) [.Lambda params body scope lpos] [] cpos) (tBM X.K "list" rAppend to t))
    (hb : ∀ f c' : Addr, MSs X (ct.pin (pinsOf X params body scope f c')) rest (b f)) (hpu : ct.pu = false := by rfl)
    (hs1 : starEach [.Lambda params body scope lpos] X.env = (false, eval (.Lambda params body scope lpos) X.env) :: starEach [] X.env := by rfl) (hs : swapsWith (.Call (.Attribute (.Name x p) "append" apos) [.Lambda params body scope lpos] [] cpos) none pos.line X.env = pure false := by rfl) :
    MSs X ct (.Expr (.Call (.Attribute (.Name x p) "append" apos) [.Lambda params body scope lpos] [] cpos) pos :: rest) (sLamA i b) :=
  ⟨fun G W tk po => (pss_cons (ps_expr (hbb hx (pa_cons (pe_lamK (T := ct.tb) TB hcode hm hu L hdef) pa_nil hs1)) hs) (PSs.ex fun fc : Addr × Addr => (hb fc.1 fc.2).run G W tk po)).imp fun De s H ⟨r, S, io, k, h⟩ => by
    unfold sLamA at h
    split at h
    · rename_i xs e
      obtain ⟨a, h1, h2, h3, h4⟩ := k.own i _ e
      obtain ⟨vs, h5, h6⟩ := own_lst h2
      refine ⟨.ref a, h1, .inl ⟨rfl, _, .inl (.inl h5)⟩, k.sto.tb, fun f c' H1 eN dm T1 nf hf1 hc1 => ?_⟩
      obtain ⟨t1, q1⟩ := lam_sto k hpu eN dm T1
      split at h
      · rename_i g
        have k1 := k.step t1 q1
        have h5' := t1.k1 a _ h5 NI.lst
        have h6' := h6.stp t1
        have na : ∀ {b φ}, H1 b = some (.ext φ) → b ≠ a := fun q z => by
          rw [z, h5'] at q
          cases q
        refine ⟨a, vs, .ref f, rfl, rfl, h5', by rw [← h6.len]; exact g, ?_⟩
        have k2 := k1.mut e h1 (own_new (xs := xs) (.inr (.inr ⟨i, _, e, h1⟩)) h5' (h6'.app (.cons (d := .cst (.ref f)) .cst .nil)))
        exact ⟨(f, c'), _, S, io, k2.pin (pins_at (by rw [upd_ne (na hf1)]; exact hf1) (by rw [upd_ne (na hc1)]; exact hc1)), (comm_res h f).pin⟩
      · exact h.elim
    · exact h.elim⟩
/-- one of two readings -/
theorem me_alt {e : Expr} {m1 m2 : EM} {t : Env → Bool} (h1 : ME X ct e m1) (h2 : ME X ct e m2) : ME X ct e (fun r S => if t r = true then m1 r S else m2 r S) :=
  ⟨fun G W tk => ⟨fun pins s σ H Q I ⟨r, S, io, k, h⟩ => by
    dsimp only at h
    by_cases c : t r = true
    · rw [if_pos c] at h
      exact (h1.run G W tk).run pins s σ H Q I ⟨r, S, io, k, h⟩
    · rw [if_neg c] at h
      exact (h2.run G W tk).run pins s σ H Q I ⟨r, S, io, k, h⟩⟩⟩
end
end Mv

set_option maxRecDepth 100000
set_option maxHeartbeats 2000000
/-! Mv47: which of the kept lambdas a slot holds -/
namespace Mv
open PySem PySem.Spec PyProof.Rows L2 LamX
def isAt (ka : Nat) (f : Addr) : Env → Bool := fun r => match r[ka]? with
  | some (.ar .c (.cst (.ref g))) => decide (g = f)
  | _ => false
def eAlt (t : Env → Bool) (m1 m2 : EM) : EM := fun r S => if t r = true then m1 r S else m2 r S
theorem me_alts {X : Cx} {ct : CT} {e : Expr} {m1 m2 : EM} {t : Env → Bool} (h1 : ME X ct e m1) (h2 : ME X ct e m2) : ME X ct e (eAlt t m1 m2) := me_alt h1 h2
end Mv

set_option maxRecDepth 100000
set_option maxHeartbeats 2000000
/-! Mv48: a comprehension's tests that know the maker's frame (lc_coreV is lc_core of HandS with one premise of the tests more) -/
namespace L2
open PySem PySem.Spec PyProof.Rows
section
variable {X : Cx}
theorem lc_coreV {pins : List (Addr × Obj)} {s : Shared} {σ : St} {H : Hp} {Q : VK} {elt tg iter : Expr} {ifs : List Expr} {scope : Scope} {own : List (Str × Nat)} {pos pos' : Pos} {wi : TI} {g : TG} {tt : TT} {te : TE} {use : Option (Value → Sem Unit)} {Qf : Value → Shared → Prop}
    (hc : X.calm = true) (hN : X.N.Nodup) (I : Inv X pins σ H s) (hi : PI X tg iter wi) (ok : BlkOk X.N X.env.scope scope own)
    (hg : ∀ (s : Shared) (H : Hp) (C : Addr) (cl : List (Str × Addr)) (fp : List Addr), PG (X.blk s H scope (compEnvC scope cl C X.env) fp) tg g) (ht : ∀ (s : Shared) (H : Hp) (C : Addr) (cl : List (Str × Addr)) (fp : List Addr), Inv X pins σ H s → (∀ b ∈ fp, FpOk X pins H b ∧ b < s.heap.objs.size) →
      PTs (X.blk s H scope (compEnvC scope cl C X.env) fp) ifs (fun s2 H2 Q => wipe s2 (own.map (·.2)) = wipe σ (own.map (·.2)) ∧ tt s2 H2 Q))
    (he : ∀ (s : Shared) (H : Hp) (C : Addr) (cl : List (Str × Addr)) (fp : List Addr), PE (X.blk s H scope (compEnvC scope cl C X.env) fp) elt te) (hs : ∀ x, foldedSetIterable iter X.env x = pure x)
    (h : tLc wi g tt te (own.map (·.2)) σ H Q)
    (hRR : ∀ D C s' m H', Inv X pins σ H' s' → Q (.ref D) H' → s'.heap.Ns C m → FpOk X pins H' C → compPost (model X.prog X.w) X.A X.xe use Qf (.ref D) C (.ok .next) s') :
    wpAny (model X.prog X.w) X.A (comprehension (.ListComp elt [⟨tg, iter, ifs, 0⟩] scope pos) scope X.env pos' (newList []) false (eval iter X.env) use) Qf X.xe s := by
  have hfree : ∀ y ∈ scope.names, y.2 = .free → ∃ c, X.env.cells.lookup y.1 = some c := fun y hy e => by
    rcases ok.free y hy e with k | k
    · exact I.ok.has _ (.inl k)
    · exact I.ok.has _ (.inr k)
  refine wpAny_comprehension_free (use := use) rfl hs (closure_ok hfree) ok.kind (fun y hy e => by rw [ok.uniq y hy, e])
    (thn (hi.run pins s σ H _ I h) fun xv s1 hx => thn hx fun itv s2 h2 => ?_)
  obtain ⟨it, fp, tn, J, H2, e, I2, T, st2, f2, q⟩ := h2
  subst e
  refine wpAny_newObj_type (newEnv_comp ?_) (by show 0 ≤ sizeLine; decide)
  generalize hD : s2.heap.objs.size = D
  have hDn : H2 D = none := I2.hok.fresh (Nat.le_of_eq hD)
  obtain ⟨W, ⟨m0, w0⟩, turn⟩ := q D hDn
  -- the new list
  generalize hs3 : ({ s2 with heap := s2.heap.push { cls := .type "list", data := .seq ([] : List Value).toArray } } : Shared) = s3
  have I3 : Inv X pins σ (upd H2 D (.lst [])) s3 := by
    rw [← hs3]
    refine I2.laid (t' := s2.toks) (fun b o e => Heap.get?_push_of_some _ e) (Nat.le_of_eq hD) ⟨Nat.zero_le _, [], 0, .nil, ?_⟩
    rw [← hD]
    exact Heap.get?_push_size _ rfl
  have h3 : s3.heap = s2.heap.push { cls := .type "list", data := .seq ([] : List Value).toArray } := by rw [← hs3]
  have sz : ∀ b ∈ fp, b < s2.heap.objs.size := fun b hb => by
    obtain ⟨o, e, _⟩ := T.obj _ _ st2 b hb
    exact Heap.lt_size e
  have f3 : ∀ b ∈ fp, FpOk X pins (upd H2 D (.lst [])) b ∧ b < s3.heap.objs.size := fun b hb => by
    have hlt := sz b hb
    refine ⟨⟨?_, (f2 b hb).2⟩, by rw [h3, Heap.size_push]; exact Nat.lt_succ_of_lt hlt⟩
    rw [upd_ne (by rw [← hD]; exact Nat.ne_of_lt hlt)]
    exact (f2 b hb).1
  have st3 : tn 0 s3.heap := T.keep _ _ _ st2 fun b _ o e => by rw [h3]; exact Heap.get?_push_of_some _ e
  have I4 := block_start I3 ok hN f3
  have pg := hg s3 (upd H2 D (.lst [])) s3.heap.objs.size (cellsFrom (s3.heap.objs.size + 1) scope.names (cloFrom X.env.cells scope.names [])) fp
  have pt := ht s3 (upd H2 D (.lst [])) s3.heap.objs.size (cellsFrom (s3.heap.objs.size + 1) scope.names (cloFrom X.env.cells scope.names [])) fp I3 f3
  have pe := he s3 (upd H2 D (.lst [])) s3.heap.objs.size (cellsFrom (s3.heap.objs.size + 1) scope.names (cloFrom X.env.cells scope.names [])) fp
  show codeAny _ _ (.compStart (.ListComp elt [⟨tg, iter, ifs, 0⟩] scope pos) 0 (.ref it) (.ref D) (compEnvC scope (cellsFrom (s3.heap.objs.size + 1) scope.names (cloFrom X.env.cells scope.names [])) s3.heap.objs.size X.env)) (compPost (model X.prog X.w) X.A X.xe use Qf (.ref D) s3.heap.objs.size) { s3 with heap := pushCells (s3.heap.push { cls := .type "dict", data := .dict #[] }) scope.names }
  have nfp : ∀ b ∈ fp, (upd H2 D (.lst [])) b = none := fun b hb => (f3 b hb).1.1
  generalize hce : compEnvC scope (cellsFrom (s3.heap.objs.size + 1) scope.names (cloFrom X.env.cells scope.names [])) s3.heap.objs.size X.env = ce at I4 pg pt pe ⊢
  have cL : ce.locals = s3.heap.objs.size := by subst hce; rfl
  generalize hH3 : upd H2 D (.lst []) = H3 at I3 I4 pg pt pe w0 nfp f3
  generalize hs4 : ({ s3 with heap := pushCells (s3.heap.push { cls := .type "dict", data := .dict #[] }) scope.names } : Shared) = s4 at I4 ⊢
  have st4 : tn 0 s4.heap := T.keep _ _ _ st3 fun b _ o e => by rw [← hs4]; exact pushCells_keeps _ _ _ _ (Heap.get?_push_of_some _ e)
  have stat : ∀ {σ' : St} {H' : Hp} {s' : Shared}, Inv (X.blk s3 H3 scope ce fp) [] σ' H' s' → (∀ b ∈ fp, H' b = none) → ∀ b ∈ fp, FpOk (X.blk s3 H3 scope ce fp) [] H' b := fun {σ' H' s'} I' hn b hb =>
    ⟨hn b hb, (I'.ok.exf b hb).1, I'.ok.exfs b hb, .inl hb, fun x c e => (I'.ok.exf b hb).2 x c e, fun p hp => absurd (show p ∈ ([] : List (Addr × Obj)) ++ [] from hp) (by simp)⟩
  have loop : codeAny (model X.prog X.w) X.A (.compLoop (.ListComp elt [⟨tg, iter, ifs, 0⟩] scope pos) 0 (.ref it) (.ref D) ce) (compPost (model X.prog X.w) X.A X.xe use Qf (.ref D) s3.heap.objs.size) s4 := by
    refine compLoop_any (fun n s' => ∃ i H', Inv (X.blk s3 H3 scope ce fp) [] (wipe σ (own.map (·.2))) H' s' ∧ tn i s'.heap ∧ (∀ b ∈ fp, H' b = none) ∧ W i n H') ?_ m0 ⟨0, H3, I4, st4, nfp, w0⟩
    rintro n s5 ⟨i, H5, I5, st5, n5, w5⟩
    rcases turn i n H5 w5 with ⟨stop, qq⟩ | ⟨go, Nx, hNx, step⟩
    · have td := T.done (X.blk s3 H3 scope ce fp) rfl rfl rfl hc i [] s5 _ H5 (fun _ _ => False) I5 (stat I5 n5) st5 stop
      refine thnF td fun r s6 ⟨hr, I6⟩ => ?_
      subst hr
      -- back in the def's context
      have I7 : Inv X pins σ H5 s6 := I3.call' (ch := fp) I6.os I6.base I6.hok I6.bare fun b hb => ⟨(f3 b hb).1.2.2.2.1, (f3 b hb).1.2.1, (f3 b hb).1.2.2.2.2.1, (f3 b hb).1.2.2.2.2.2⟩
      have nC : H5 s3.heap.objs.size = none := by
        have z : H5 ce.locals = none := I6.free
        rw [cL] at z
        exact z
      obtain ⟨m, hn, _⟩ := I6.loc
      have hn : s6.heap.Ns ce.locals m := hn
      rw [cL] at hn
      exact hRR D s3.heap.objs.size s6 m H5 I7 qq hn (I3.fpOk (Nat.le_refl _) nC)
    · have ti := T.item (X.blk s3 H3 scope ce fp) rfl rfl rfl hc i [] s5 _ H5 (fun _ _ => False) I5 (stat I5 n5) st5 go
      refine thnF ti fun r s6 ⟨u, hr, h6⟩ => ?_
      subst hr
      refine thnF h6 fun _ s7 ⟨x, H7, I7, r7, y7, st7, n7⟩ => ?_
      have I7' := I7.pinned (stat I7 n7) (T.obj _ _ st7)
      refine thnF (pg.run _ s7 _ H7 x u _ I7' r7 (step x H7 y7)) fun _ s8 ⟨σ8, H8, I8, hw8, q8⟩ => ?_
      refine thnF (pt.run _ s8 σ8 H8 _ I8 ⟨hw8, q8⟩) fun b s9 ⟨H9, I9, q9⟩ => ?_
      -- the turn's end
      have fin : ∀ {s' : Shared} {H' : Hp}, Inv (X.blk s3 H3 scope ce fp) ([] ++ pinsAt fp s7.heap) σ8 H' s' → Nx H' → ∃ m, m < n ∧ ∃ i H', Inv (X.blk s3 H3 scope ce fp) [] (wipe σ (own.map (·.2))) H' s' ∧ tn i s'.heap ∧ (∀ b ∈ fp, H' b = none) ∧ W i m H' := fun {s' H'} I' nx => by
        obtain ⟨m', hm, w'⟩ := hNx H' nx
        have pin' : ∀ b ∈ fp, ∀ o, s7.heap.get? b = some o → s'.heap.get? b = some o ∧ H' b = none := fun b hb o e =>
          let z := I'.pin (b, o) (List.mem_append_right _ (List.mem_append_right _ (mem_pinsAt hb e)))
          ⟨z.1, z.2.1⟩
        have hl : (wipe σ (own.map (·.2))).length = σ8.length := by rw [← hw8, wipe_length]
        refine ⟨m', hm, i + 1, H', (I'.unpinned (pins := [])).weak hl (fun j v e => ?_), T.keep _ _ _ st7 fun b hb o e => (pin' b hb o e).1, fun b hb => ?_, w'⟩
        · rw [← hw8] at e
          exact (wipe_some e).1
        · obtain ⟨o, e, _⟩ := T.obj _ _ st7 b hb
          exact (pin' b hb o e).2
      cases b with
      | false =>
        simp only [Bool.false_eq_true, if_false] at q9 ⊢
        exact fin I9 q9
      | true =>
        simp only [if_true] at q9 ⊢
        refine thnF (pe.run _ s9 σ8 H9 _ I9 q9) fun z s10 ⟨yv, H10, I10, r10, acc, hD10, hz10, nx⟩ => ?_
        exact app_ok (X := X.blk s3 H3 scope ce fp) I10 hD10 hz10 r10 fun s11 I11 => fin I11 nx
  exact codeAny_compStart_list loop (T.self X.A 0 _ _ _ st4 loop)
theorem pe_lcV {elt tg iter : Expr} {ifs : List Expr} {scope : Scope} {own : List (Str × Nat)} {pos : Pos} {wi : TI} {g : TG} {tt : TT} {te : TE} (hc : X.calm = true) (hN : X.N.Nodup) (hi : PI X tg iter wi) (ok : BlkOk X.N X.env.scope scope own)
    (hg : ∀ (s : Shared) (H : Hp) (C : Addr) (cl : List (Str × Addr)) (fp : List Addr), PG (X.blk s H scope (compEnvC scope cl C X.env) fp) tg g)
    (ht : ∀ (pins : List (Addr × Obj)) (σ : St) (s : Shared) (H : Hp) (C : Addr) (cl : List (Str × Addr)) (fp : List Addr), Inv X pins σ H s → (∀ b ∈ fp, FpOk X pins H b ∧ b < s.heap.objs.size) →
      PTs (X.blk s H scope (compEnvC scope cl C X.env) fp) ifs (fun s2 H2 Q => wipe s2 (own.map (·.2)) = wipe σ (own.map (·.2)) ∧ tt s2 H2 Q))
    (he : ∀ (s : Shared) (H : Hp) (C : Addr) (cl : List (Str × Addr)) (fp : List Addr), PE (X.blk s H scope (compEnvC scope cl C X.env) fp) elt te) (hs : ∀ x, foldedSetIterable iter X.env x = pure x) :
    PE X (.ListComp elt [⟨tg, iter, ifs, 0⟩] scope pos) (tLc wi g tt te (own.map (·.2))) := by
  refine ⟨fun pins s σ H Q I h => ?_⟩
  rw [eval_ListComp]
  refine lc_coreV hc hN I hi ok hg (fun s H C cl fp => ht pins σ s H C cl fp) he hs h fun D C s' m H' I' q hn f => ⟨m, hn, fun h'' sb => ?_⟩
  obtain ⟨f0, f1, f2, f3, f4, f5⟩ := f
  exact ⟨.ref D, H', I'.turned (t' := s'.toks) (fun b o hb e => (sb.2 b hb).trans e) f0 f1 f3 f4 f5, rfl, q⟩
end
end L2

set_option maxRecDepth 100000
set_option maxHeartbeats 2000000
/-! Mv49: `[True for asked in every if giver(asked) != C]`, every a list of the frame's own lambdas -/
namespace Mv
open PySem PySem.Spec PyProof.Rows L2 LamX
/-- as ME, where the slots but vs are known -/
structure MEc (cd : St → Prop) (X : Cx) (ct : CT) (e : Expr) (m : EM) : Prop where
  run : ∀ (G : Gx) (W : WX), Takes X W → PE X e (fun s H Q => cd s ∧ tE X.K ct G W m s H Q)
structure MTc (cd : St → Prop) (X : Cx) (ct : CT) (e : Expr) (m : TM) : Prop where
  run : ∀ (G : Gx) (W : WX), Takes X W → PT X e (fun s H Q => cd s ∧ tT X.K ct G W m s H Q)
section
variable {X : Cx} {ct : CT} {pos : Pos} {cd : St → Prop}
theorem me_altC {e : Expr} {m1 m2 : EM} {t : Env → Bool} (h1 : MEc cd X ct e m1) (h2 : MEc cd X ct e m2) : MEc cd X ct e (eAlt t m1 m2) :=
  ⟨fun G W tk => ⟨fun pins s σ H Q I ⟨hc, r, S, io, k, h⟩ => by
    unfold eAlt at h
    by_cases c : t r = true
    · rw [if_pos c] at h
      exact (h1.run G W tk).run pins s σ H Q I ⟨hc, r, S, io, k, h⟩
    · rw [if_neg c] at h
      exact (h2.run G W tk).run pins s σ H Q I ⟨hc, r, S, io, k, h⟩⟩⟩
theorem mt_cmpC {op : CmpOp} {rd : R2} {a b : Expr} {ma mb : EM} {g : D × Fl → D × Fl → Option (D × Fl)} (ho : OpR X (compareOp op) rd) (hg : BinOk X.K ct rd g) (ha : MEc cd X ct a ma) (hb : ME X ct b mb) (hm : behindInMarks op b = false) : MTc cd X ct (.Compare a [op] [b] pos) (tVal (eBin g ma mb)) :=
  ⟨fun G W tk => (pt_cmpR ho (ha.run G W tk) (hb.run G W tk) hm).imp fun s H Q ⟨hc, h⟩ => by
    obtain ⟨r, S, io, k, h⟩ := h
    refine ⟨hc, bin_go hg ⟨r, S, io, k, Res.first h fun x S1 io1 H1 e1 t1 q1 h1 v1 o1 => ?_⟩⟩
    split at h1
    · rename_i b e
      have o2 := o1.repF
      rw [e] at o2
      exact ⟨b, bl_of o2, h1.here q1⟩
    · exact h1.elim⟩
end
/-- a comprehension's clause whose tests know the frame -/
structure MLcV (X : Cx) (ct : CT) (elt tgt iter : Expr) (ifs : List Expr) (scope : Scope) (own : List (Str × Nat)) (mi : Env → Store → Rs (List D)) (g : GM) (tt : TM) (te : EM) : Prop where
  hi : MI X ct tgt iter mi
  ok : BlkOk X.N X.env.scope scope own
  hg : ∃ ts : List Nat, (∀ j ∈ ts, j ∈ own.map (·.2)) ∧ ∀ (s : Shared) (H : Hp) (C : Addr) (cl : List (Str × Addr)) (fp : List Addr), MG (X.blk s H scope (compEnvC scope cl C X.env) fp) ct tgt ts g
  ht : ∀ (pins : List (Addr × Obj)) (σ : St) (s : Shared) (H : Hp) (C : Addr) (cl : List (Str × Addr)) (fp : List Addr), Inv X pins σ H s → (∀ b ∈ fp, FpOk X pins H b ∧ b < s.heap.objs.size) →
    ∀ G, PTs (X.blk s H scope (compEnvC scope cl C X.env) fp) ifs (fun s2 H2 Q => wipe s2 (own.map (·.2)) = wipe σ (own.map (·.2)) ∧ tT X.K ct G W0 tt s2 H2 Q)
  he : ∀ (s : Shared) (H : Hp) (C : Addr) (cl : List (Str × Addr)) (fp : List Addr), ME (X.blk s H scope (compEnvC scope cl C X.env) fp) ct elt te
section
variable {X : Cx} {ct : CT} {pos : Pos}
theorem me_lcV {elt tgt iter : Expr} {ifs : List Expr} {scope : Scope} {own : List (Str × Nat)} {mi : Env → Store → Rs (List D)} {g : GM} {tt : TM} {te : EM} (hc : X.calm = true) (hN : X.N.Nodup) (h : MLcV X ct elt tgt iter ifs scope own mi g tt te)
    (hs : ∀ x, foldedSetIterable iter X.env x = pure x := by intro _; rfl) : ME X ct (.ListComp elt [⟨tgt, iter, ifs, 0⟩] scope pos) (eLc mi (own.map (·.2)) g tt te) := by
  obtain ⟨ts, h1, h2⟩ := h.hg
  exact ⟨fun G W tk => (pe_lcV (tt := fun s H Q => ∃ G' : Gx, tT X.K ct G' W0 tt s H Q) hc hN (h.hi.run G W tk) h.ok (fun s H C cl fp => PG.ex fun G' => (h2 s H C cl fp).run G')
    (fun pins σ s H C cl fp I hf => ⟨fun pins2 s2 σ2 H2 Q I2 w => w.2.elim fun G' w2 => (h.ht pins σ s H C cl fp I hf G').run pins2 s2 σ2 H2 Q I2 ⟨w.1, w2⟩⟩) (fun s H C cl fp => PE.ex fun G' => (h.he s H C cl fp).run G' W0 takesB) hs).imp fun s H Q q => lc_go h1 q⟩
/-- giver(asked) within the comprehension -/
def eRefAtV (vs : List Nat) (ka : Nat) (f : Addr) (n j : Nat) (l : List (Nat × Bool)) (mr : SM) (m : EM) : EM := fun r S => match r[ka]? with
  | some (.ar .c (.cst (.ref g))) => if g = f ∧ freeE r vs = true then eRef n j l mr m (wipeE r vs) S else .no
  | _ => .no
theorem pts_oneC {cd : St → Prop} {G : Gx} {c : Expr} {tt : TM} {W : WX} (tk : Takes X W) (h : MTc cd X ct c tt) : PTs X [c] (fun s H Q => cd s ∧ tT X.K ct G W tt s H Q) := pts_one (h.run G W tk)
theorem me_refAtV {x va : Str} {k n i j ka : Nat} {l : List (Nat × Bool)} {mr : SM} {m : EM} {params : Arguments} {body : Expr} {scope scope0 : Scope} {f c' : Addr} {p pv : Pos} {pins0 : List (Addr × Obj)} {σ0 : St} {s0 : Shared} {H0 : Hp} {fp : List Addr} {cenv : PySem.Env} {vs : List Nat}
    (I0 : Inv X pins0 σ0 H0 s0) (hfp : ∀ b ∈ fp, FpOk X pins0 H0 b ∧ b < s0.heap.objs.size)
    (F : GvG X.prog X.w X.K X.mg X.base ct (k + 1) x n i j l mr)
    (hpf : (f, CloO X params body scope f c') ∈ ct.pn) (hpc : (c', CodeO c' (X.env.qual ++ "<lambda>")) ∈ ct.pn) (hr : Room (k + 2) X.A) (hg : Gl (X.blk s0 H0 scope0 cenv fp) x) (L : LamS X.env.scope scope)
    (hbind : ∀ (q : Str) (cl : List (Str × Addr)) (pm cv ctv : Value), bindArgs (PySem.W.kla_fn "<lambda>" q params body scope cl pm cv ctv) ⟨[], []⟩ = pure [])
    (hbody : ∀ (A : Around) (outer : List PySem.Env) (s : Shared) (H : Hp) (E : XK), Room k (A.deeper (lamEnv X scope s.heap.objs.size f c')) → ME (lamCx X A outer s H E scope f c') ct body m)
    (hv : PE (X.blk s0 H0 scope0 cenv fp) (.Name va pv) (tVar ka))
    (hdb : (x == ("__debug__" : Str)) = false := by decide) : MEc (fun s => wipe s vs = wipe σ0 vs) (X.blk s0 H0 scope0 cenv fp) ct (.Call (.Name x p) [.Name va pv] [] pos) (eRefAtV vs ka f n j l mr m) := by
  obtain ⟨g, fd, N, a, st, FF, hm, hb, Sc, hNl, hN0, hva, hd1, hd2, hG⟩ := F.ex
  obtain ⟨oc, od, kV, doc, pm, an, cdv, ctv, osl, efd, lk, hcd⟩ := FF.ex
  refine ⟨fun G W tk => ⟨fun pins s σ H Q I ⟨hw, r, S, io, k0, h⟩ => ?_⟩⟩
  unfold eRefAtV at h
  split at h
  rotate_left
  · exact h.elim
  rename_i gf eka
  split at h
  rotate_left
  · exact h.elim
  rename_i egf
  obtain ⟨egf, fr⟩ := egf
  subst egf
  obtain ⟨vv, hka, hvv⟩ := k0.arg ka .c (.cst (.ref gf)) eka
  have hvv : Rep X.K (Mall G r σ) io H (.cst (.ref gf)) vv := hvv
  cases hvv
  refine wpAny_Call_Name_kw (ld_glob I hg hm ?_ hdb)
  refine PySem.W.callWith_K (h₀ := X.base) I.ok.mod.kin FF.kp ?_ (by rfl) (by rfl)
  show wpAny _ _ (spliced ((false, eval (.Name va pv) cenv) :: backTo pos (starEach [] cenv))) _ _ s
  refine Calls.spliced_cons (thn (hv.run pins s σ H (fun v H1 => v = .ref gf ∧ H1 = H) I ⟨.ref gf, hka, rfl, rfl⟩) fun u s' ⟨v, H1, I1, r1, ev, eH⟩ => ?_)
  subst ev eH
  obtain rfl : u = Value.ref gf := r1
  refine Calls.spliced_nil ⟨I1.kIn, ?_⟩
  -- the maker's frame
  have u1 : Un (frs X.stack) fp H0 H1 s0.heap s'.heap := I1.base
  have IY : Inv X pins0 (wipe σ vs) H1 s' := by
    rw [hw]
    exact (I0.call' (ch := fp) I1.os u1 I1.hok I1.bare fun b hb => ⟨(hfp b hb).1.2.2.2.1, (hfp b hb).1.2.1, (hfp b hb).1.2.2.2.2.1, (hfp b hb).1.2.2.2.2.2⟩).weak (wipe_length σ0 vs) (fun j v e => (wipe_some e).1)
  have st1 : Stp ct io H1 io H1 := Stp.refl
  have q1 : StoOk X.K ct (Mall G r σ) io S H1 := k0.sto
  have k1 : Ok X.K ct G (wipeE r vs) S io (wipe σ vs) H1 := k0.wipe fr
  have eM : Mall G (wipeE r vs) (wipe σ vs) = Mall G r σ := mall_wipe fr
  have eN : Mown G (wipeE r vs) (wipe σ vs) = Mown G r σ := mown_wipe fr
  have rc : codeAny (model X.prog X.w) X.A (.call (.ref g) ⟨[.ref gf], []⟩) (CR (L2.CX X.prog X.w) X.stack X.prog X.w H1 s' Q (fun _ _ _ => False)) s' := by
    subst efd
    refine run_ofS (N := N) (ps := [a]) (us := [.ref gf]) (vs := [.ref gf]) lk hcd Sc hr I1.env0 (hb s' [.ref gf] I1.kIn rfl) (.cons rfl .nil) rfl fun hr' => ?_
    have hact : ∀ (pn : List (Addr × Obj)) (xe : Value → Shared → Prop) (p1 p2 p3 : Pos), MSG ((gotCx X N x (defScope st) g cdv s' H1).tr pn xe) ct ⟨Mall G r σ, H1, io, [], fun _ => False, fun _ _ => False⟩ (.Expr (.Call (.Name a p1) [] [] p2) p3) (sGot (m (wipeE r vs)) gf) := fun pn xe p1 p2 p3 => ⟨fun WZ tkZ _ => by
      refine (ps_expr (pe_gotK (c' := c') (tb := fun E => tE X.K ct G (fun cls d _ H => E cls d H) m) IY L hbind tkZ hr' (fun A outer s H E hr2 => (hbody A outer s H E hr2).run G _ ?_) hN0 hva hd1 hd2) (by rfl)).imp fun D σZ HZ hZ => ?_
      · exact takes_of rfl rfl rfl rfl
      · obtain ⟨rZ, SZ, ioZ, kZ, hZ⟩ := hZ
        unfold sGot at hZ
        split at hZ
        · rename_i gg rest
          split at hZ
          · rename_i hc
            obtain ⟨rfl, no⟩ := hc
            obtain ⟨v, y1, y2⟩ := kZ.arg 0 .c (.cst (.ref gg)) rfl
            cases y2
            have noM : ∀ a, Mall ⟨Mall G r σ, H1, io, [], fun _ => False, fun _ _ => False⟩ (.ar .c (.cst (.ref gg)) :: rest) σZ a → Mall G (wipeE r vs) (wipe σ vs) a := fun a z => by
              rw [eM]
              rcases z with z | z | ⟨i, d, z, _⟩
              · exact z
              · exact z.elim
              · exact (no_own no z).elim
            refine ⟨y1, (kZ.sto.pn _ hpf).1, (kZ.sto.pn _ hpc).1, wipeE r vs, SZ, ioZ, k1.step kZ.stp (kZ.sto.anti fun a z => .inl (by rw [eM] at z; exact z)), ?_⟩
            cases e : m (wipeE r vs) SZ with
            | ok y S' =>
              rw [e] at hZ
              exact fun io' H' t q v _ => hZ σZ io' H' (kZ.step t (q.anti noM))
            | er c p S' =>
              rw [e] at hZ
              exact fun dx io' H' t q eo => hZ dx σZ io' H' (kZ.step t (q.anti noM)) eo
            | no =>
              rw [e] at hZ
              exact hZ
          · exact hZ.elim
        · exact hZ.elim⟩
    refine ⟨_, (hG cdv X.A X.stack s' H1 (fun _ _ _ => False) ⟨Mall G r σ, H1, io, [], fun _ => False, fun _ _ => False⟩ (sGot (m (wipeE r vs)) gf) hr' hact).run (fun cls d _ H => False) (takes_of rfl rfl rfl rfl) (passes_of rfl),
      startE [(.c, .cst (.ref gf))] N.length, S, io, ok_start rfl (by rw [hNl]; exact Nat.succ_le_succ (Nat.zero_le _)) (.cons Rep.cst .nil) q1 k0.mdom, ?_⟩
    obtain ⟨r0, er⟩ := gv_run (n := n) (i := i) (j := j) (l := l) (mr := mr) (x := m (wipeE r vs)) (f := gf) (S := S) F.h1 F.h2
    rw [hNl, er]
    have fin : ∀ (rr : Env) (S1 : Store) (io1 : List Addr), Res X.K ct W (Mall G r σ) σ io H1 (refEnd (mr rr S1)) (fun x S' io' H' => ∀ v, ResOk X.K ct (Mall G r σ) (Mown G r σ) H1 io' S' H' x.2 x.1 v → Q v H') →
        SRes X.K ct ⟨Mall G r σ, H1, io, [], fun _ => False, fun _ _ => False⟩ (fun cls d _ H => False) { nx := fun _ H' => Q .non H', rt := Q } (mr rr S1) := fun rr S1 io1 hh => by
      cases e : mr rr S1 with
      | rt d fl S' =>
        rw [e] at hh
        exact fun v io' H' t z => hh io' H' (st1.trans t) z.sto v (z.outf.back fun a y => st1.free y)
      | nx r' S' => rw [e] at hh; exact hh.elim
      | bk r' S' => rw [e] at hh; exact hh.elim
      | ct r' S' => rw [e] at hh; exact hh.elim
      | er c p r' S' => rw [e] at hh; exact hh.elim
      | no => rw [e] at hh; exact hh.elim
    unfold eRef at h
    cases e : m (wipeE r vs) S with
    | ok y S1 =>
      rw [e] at h
      exact fin _ S1 io h
    | er c p S1 =>
      rw [e] at h
      unfold gvRun
      dsimp only at h ⊢
      cases e2 : l.lookup c with
      | none =>
        rw [e2] at h
        exact h.elim
      | some b =>
        rw [e2] at h
        cases b with
        | true => exact fin _ _ io h
        | false => exact h.elim
    | no =>
      rw [e] at h
      exact h.elim
  refine wpAny_call (codeAny_mono rc fun z s2 hq => ?_)
  cases z with
  | ok fl =>
    cases fl with
    | ret u => exact I1.after hq
    | next => exact hq.elim
    | brk => exact hq.elim
    | cont => exact hq.elim
  | error e =>
    obtain ⟨_, _, _, _, _, _, _, _, _, _, _, _, z⟩ := hq
    exact z.elim
end
end Mv

set_option maxRecDepth 100000
set_option maxHeartbeats 2000000
/-! Mv50: powers of great numbers -/
namespace Mv
open PySem PySem.Spec PyProof.Rows L2
variable {X : Cx} {K : PySem.W.Frag} {ct : CT}
def CPowW (i j : Int) : Prop := 0 ≤ j ∧ (Builtin.Int.intBits i : Int) * j ≤ 2 ^ 27
theorem op_powW : OpR X (binaryOp .Pow) (rI CPowW fun i j => .int (i ^ j.toNat)) := opI fun _ _ _ _ _ _ _ hc q => pow_int hc.1 hc.2 q
abbrev gPowW := gInt (fun i j => decide (0 ≤ j) && decide ((Builtin.Int.intBits i : Int) * j ≤ 2 ^ 27)) fun i j => .int (i ^ j.toNat)
theorem ok_powW : BinOk K ct (rI CPowW fun i j => .int (i ^ j.toNat)) gPowW := bin_int (fun _ _ h => by
  rw [Bool.and_eq_true, decide_eq_true_eq, decide_eq_true_eq] at h
  exact h) fun _ _ _ _ _ _ => .int _
/-! xs.index(n) of ints -/
def gIdxI (xs : List D) (as : List (Fl × D)) : Option (D × Fl) := match as with
  | [(_, .int b)] => (intsOf xs).bind fun bs => (bs.findIdx? (· == b)).map fun j => (.int (j : Nat), .c)
  | _ => none
theorem flat_is : ∀ bs : List Int, (bs.map V.int).all flatV = true
  | [] => rfl
  | _ :: bs => flat_is bs
theorem eqV_ii (b c : Int) : eqV (.int b) (.int c) = (b == c) := rfl
theorem ok_idxI {K : PySem.W.Frag} {ct : CT} : BmOk K ct (rIndex K) gIdxI := by
  intro M N io S H a vs ws xs as res Q ea ra o q e h
  unfold gIdxI at e
  split at e
  · rename_i f b
    obtain ⟨bs, e1, e⟩ := Option.bind_eq_some_iff.mp e
    obtain ⟨j, e2, rfl⟩ := Option.map_eq_some_iff.mp e
    rw [intsOf_eq e1] at ra
    have := ra.ints
    subst this
    obtain ⟨v, rfl, rv⟩ := args_one o
    rw [int_of rv]
    obtain ⟨hj, hp, hn⟩ := List.findIdx?_eq_some_iff_getElem.mp e2
    refine ⟨a, _, .int b, j, .int bs[j], rfl, rfl, .inl (.inl ea), rfl, flat_is bs, by rw [List.getElem?_map, List.getElem?_eq_getElem hj]; rfl, by rw [eqV_ii]; exact hp, fun m z' hm e => ?_, h _ H Stp.refl (ResOk.sc (f := .c) (by simp) (.int _) q)⟩
    rw [List.getElem?_map, List.getElem?_eq_getElem (Nat.lt_trans hm hj)] at e
    cases e
    rw [eqV_ii]
    exact eq_false_of_ne_true (hn m hm)
  · cases e
end Mv

set_option maxRecDepth 100000
/-! Ev: the combinators applied, with named continuations, so that simp only runs a mirror from left to right -/
namespace Ev
open Mv
open PySem (Str sizeLine sizeLine_eq)
open L2 (atI ixN)
section
variable {α β : Type}
@[simp] theorem bind_ok (a : α) (S : Store) (k : α → Store → Rs β) : (Rs.ok a S).bind k = k a S := Eq.trans rfl rfl
@[simp] theorem bind_er (c : Nat) (p : List D) (S : Store) (k : α → Store → Rs β) : (Rs.er c p S : Rs α).bind k = .er c p S := Eq.trans rfl rfl
@[simp] theorem sb_ok (a : α) (S : Store) (r : Env) (k : α → Store → SR) : (Rs.ok a S).sb r k = k a S := Eq.trans rfl rfl
@[simp] theorem sb_er (c : Nat) (p : List D) (S : Store) (r : Env) (k : α → Store → SR) : (Rs.er c p S : Rs α).sb r k = .er c p r S := Eq.trans rfl rfl
end
@[simp] theorem sr_nx (r : Env) (S : Store) (k : SM) : (SR.nx r S).bind k = k r S := Eq.trans rfl rfl
@[simp] theorem sr_rt (d : D) (f : Fl) (S : Store) (k : SM) : (SR.rt d f S).bind k = .rt d f S := Eq.trans rfl rfl
@[simp] theorem sr_bk (r : Env) (S : Store) (k : SM) : (SR.bk r S).bind k = .bk r S := Eq.trans rfl rfl
@[simp] theorem sr_ct (r : Env) (S : Store) (k : SM) : (SR.ct r S).bind k = .ct r S := Eq.trans rfl rfl
@[simp] theorem sr_er (c : Nat) (p : List D) (r : Env) (S : Store) (k : SM) : (SR.er c p r S).bind k = .er c p r S := Eq.trans rfl rfl
@[simp] theorem l0_some {α : Type} (a : α) (S : Store) : lift0 (some a) S = .ok a S := Eq.trans rfl rfl
abbrev B2 := D × Fl → D × Fl → Option (D × Fl)
variable (r : Env) (S S1 : Store) (ma mb mc m mo : EM) (t : AM) (tt ta tb : TM) (g g' : B2) (i j : Nat) (f f' f'' : Fl) (d d' : D) (a b : D × Fl)
/-! names -/
def kVar : Option Slot → Store → Rs (D × Fl)
  | some (.ar f d), S => .ok (d, inf f) S
  | some (.own d), S => .ok (d, .o) S
  | _, _ => .no
@[simp] theorem var_ap : eVar i r S = kVar r[i]? S := by
  unfold eVar kVar
  rcases r[i]? with _ | _ | _ | _ <;> rfl
@[simp] theorem kvar_ar : kVar (some (.ar f d)) S = .ok (d, inf f) S := Eq.trans rfl rfl
@[simp] theorem kvar_own : kVar (some (.own d)) S = .ok (d, .o) S := Eq.trans rfl rfl
@[simp] theorem inf_c : inf .c = .c := Eq.trans rfl rfl
@[simp] theorem inf_n : inf .n = .c := Eq.trans rfl rfl
@[simp] theorem inf_b : inf .b = .b := Eq.trans rfl rfl
@[simp] theorem inf_o : inf .o = .b := Eq.trans rfl rfl
@[simp] theorem inf_t : inf .t = .t := Eq.trans rfl rfl
@[simp] theorem outf_c : outf .c = .c := Eq.trans rfl rfl
@[simp] theorem outf_n : outf .n = .n := Eq.trans rfl rfl
@[simp] theorem outf_b : outf .b = .o := Eq.trans rfl rfl
@[simp] theorem outf_o : outf .o = .o := Eq.trans rfl rfl
@[simp] theorem outf_t : outf .t = .t := Eq.trans rfl rfl
@[simp] theorem gnd_non : gnd .non = true := Eq.trans rfl rfl
@[simp] theorem gnd_bl (x : Bool) : gnd (.bl x) = true := Eq.trans rfl rfl
@[simp] theorem gnd_int (x : Int) : gnd (.int x) = true := Eq.trans rfl rfl
@[simp] theorem gnd_str (x : Str) : gnd (.str x) = true := Eq.trans rfl rfl
@[simp] theorem gnd_ins (n : Nat) : gnd (.ins n) = true := Eq.trans rfl rfl
@[simp] theorem tyD_non : tyD .non = some "NoneType" := Eq.trans rfl rfl
@[simp] theorem tyD_bl (x : Bool) : tyD (.bl x) = some "bool" := Eq.trans rfl rfl
@[simp] theorem tyD_int (x : Int) : tyD (.int x) = some "int" := Eq.trans rfl rfl
@[simp] theorem tyD_str (x : Str) : tyD (.str x) = some "str" := Eq.trans rfl rfl
@[simp] theorem tyD_lst (x : List D) : tyD (.lst x) = some "list" := Eq.trans rfl rfl
@[simp] theorem tyD_frz (x : List D) : tyD (.frz x) = some "list" := Eq.trans rfl rfl
@[simp] theorem tyD_tup (x : List D) : tyD (.tup x) = some "tuple" := Eq.trans rfl rfl
@[simp] theorem tyD_dic (k) (x : List D) : tyD (.dic k x) = some "dict" := Eq.trans rfl rfl
@[simp] theorem isNon_non : isNon .non = true := Eq.trans rfl rfl
@[simp] theorem isNon_bl (x : Bool) : isNon (.bl x) = false := Eq.trans rfl rfl
@[simp] theorem isNon_int (x : Int) : isNon (.int x) = false := Eq.trans rfl rfl
@[simp] theorem isNon_str (x : Str) : isNon (.str x) = false := Eq.trans rfl rfl
@[simp] theorem isNon_lst (x : List D) : isNon (.lst x) = false := Eq.trans rfl rfl
@[simp] theorem isNon_tup (x : List D) : isNon (.tup x) = false := Eq.trans rfl rfl
@[simp] theorem isNon_frz (x : List D) : isNon (.frz x) = false := Eq.trans rfl rfl
@[simp] theorem isNon_dic (k) (x : List D) : isNon (.dic k x) = false := Eq.trans rfl rfl
@[simp] theorem isNon_ins (n : Nat) : isNon (.ins n) = false := Eq.trans rfl rfl
@[simp] theorem okI_c : okI .c = true := Eq.trans rfl rfl
@[simp] theorem okI_n : okI .n = true := Eq.trans rfl rfl
@[simp] theorem okI_b : okI .b = true := Eq.trans rfl rfl
@[simp] theorem isInt_non : isiInt "NoneType" = some false := Eq.trans rfl rfl
@[simp] theorem isInt_bl : isiInt "bool" = some true := Eq.trans rfl rfl
@[simp] theorem isInt_int : isiInt "int" = some true := Eq.trans rfl rfl
@[simp] theorem isInt_str : isiInt "str" = some false := Eq.trans rfl rfl
@[simp] theorem isInt_list : isiInt "list" = some false := Eq.trans rfl rfl
@[simp] theorem isInt_tuple : isiInt "tuple" = some false := Eq.trans rfl rfl
@[simp] theorem isInt_dict : isiInt "dict" = some false := Eq.trans rfl rfl
@[simp] theorem c_ap : eC d r S = .ok (d, .c) S := Eq.trans rfl rfl
/-! operators -/
def kB1 (g : B2) (mb : EM) (r : Env) (a : D × Fl) (S : Store) : Rs (D × Fl) := (mb r S).bind fun b S2 => lift0 (g a b) S2
def kB2 (g : B2) (a b : D × Fl) (S : Store) : Rs (D × Fl) := lift0 (g a b) S
@[simp] theorem bin_ap : eBin g ma mb r S = (ma r S).bind (kB1 g mb r) := Eq.trans rfl rfl
@[simp] theorem b1_ap : kB1 g mb r a S = (mb r S).bind (kB2 g a) := Eq.trans rfl rfl
@[simp] theorem b2_ap : kB2 g a b S = lift0 (g a b) S := Eq.trans rfl rfl
@[simp] theorem int_ap (c : Int → Int → Bool) (h : Int → Int → D) (x y : Int) : gInt c h (.int x, f) (.int y, f') = if c x y then some (h x y, .c) else none := Eq.trans rfl rfl
@[simp] theorem add_ii (x y : Int) : gAdd (.int x, f) (.int y, f') = some (.int (x + y), .c) := Eq.trans rfl rfl
@[simp] theorem add_ss (x y : Str) : gAdd (.str x, f) (.str y, f') = if x.length + y.length ≤ sizeLine then some (.str (x ++ y), .c) else none := Eq.trans rfl rfl
@[simp] theorem add_ll (x y : List D) : gAdd (.lst x, f) (.lst y, f') = if f ≠ .t ∧ f' ≠ .t ∧ x.length + y.length ≤ sizeLine then some (.lst (x ++ y), .n) else none := Eq.trans rfl rfl
@[simp] theorem mul_ii (x y : Int) : gMul (.int x, f) (.int y, f') = if mulOk x y then some (.int (x * y), .c) else none := Eq.trans rfl rfl
@[simp] theorem mul_li (x : List D) (y : Int) : gMul (.lst x, f) (.int y, f') = if f ≠ .t ∧ -(2 ^ 63) ≤ y ∧ y < 2 ^ 63 ∧ x.length * y.toNat ≤ sizeLine then some (.lst (List.replicate y.toNat x).flatten, .n) else none := Eq.trans rfl rfl
@[simp] theorem eq_ap (neg : Bool) : gEq neg a b = (eqO a.1 b.1).map fun k => (.bl (if neg then !k else k), .c) := Eq.trans rfl rfl
@[simp] theorem eqO_ii (x y : Int) : eqO (.int x) (.int y) = some (decide (x = y)) := Eq.trans rfl rfl
@[simp] theorem eqO_ss (x y : Str) : eqO (.str x) (.str y) = some (decide (x = y)) := Eq.trans rfl rfl
@[simp] theorem eqO_bb (x y : Bool) : eqO (.bl x) (.bl y) = some (decide (x = y)) := Eq.trans rfl rfl
@[simp] theorem isN_ap (neg : Bool) : gIsN neg (d, f) (.non, f') = some (.bl (if neg then !isNon d else isNon d), .c) := Eq.trans rfl rfl
@[simp] theorem ix_l (x : List D) (y : Int) : gIx (.lst x, f) (.int y, f') = (atI x y).map fun d => (d, if f = .t then .t else .c) := Eq.trans rfl rfl
@[simp] theorem ix_f (x : List D) (y : Int) : gIx (.frz x, f) (.int y, f') = (atI x y).map fun d => (d, if f = .t then .t else .c) := Eq.trans rfl rfl
@[simp] theorem ix_t (x : List D) (y : Int) : gIx (.tup x, f) (.int y, f') = (atI x y).map fun d => (d, if f = .t then .t else .c) := Eq.trans rfl rfl
/-! chains, unary -/
def kC1 (g g' : B2) (mb mc : EM) (r : Env) (a : D × Fl) (S : Store) : Rs (D × Fl) := (mb r S).bind fun b S2 => match g a b with
  | some (.bl true, _) => (mc r S2).bind fun c S3 => lift0 (g' b c) S3
  | some (.bl false, _) => .ok (.bl false, .c) S2
  | _ => .no
def kC2 (g g' : B2) (mc : EM) (r : Env) (a b : D × Fl) (S : Store) : Rs (D × Fl) := match g a b with
  | some (.bl true, _) => (mc r S).bind fun c S3 => lift0 (g' b c) S3
  | some (.bl false, _) => .ok (.bl false, .c) S
  | _ => .no
def kC3 (g' : B2) (mc : EM) (r : Env) (b : D × Fl) (S : Store) : Option (D × Fl) → Rs (D × Fl)
  | some (.bl true, _) => (mc r S).bind fun c S3 => lift0 (g' b c) S3
  | some (.bl false, _) => .ok (.bl false, .c) S
  | _ => .no
@[simp] theorem chain_ap : eChain g g' ma mb mc r S = (ma r S).bind (kC1 g g' mb mc r) := Eq.trans rfl rfl
@[simp] theorem c1_ap : kC1 g g' mb mc r a S = (mb r S).bind (kC2 g g' mc r a) := Eq.trans rfl rfl
@[simp] theorem c2_ap : kC2 g g' mc r a b S = kC3 g' mc r b S (g a b) := by
  unfold kC2 kC3
  rcases g a b with _ | ⟨_ | (_ | _) | _ | _ | _ | _ | _ | _ | _ | _, _⟩ <;> rfl
@[simp] theorem c3_ap (x : Bool) : kC3 g' mc r b S (some (.bl x, f)) = if x then (mc r S).bind (kB2 g' b) else .ok (.bl false, .c) S := by cases x <;> rfl
def kU (g : D → Option D) (x : D × Fl) (S : Store) : Rs (D × Fl) := lift0 ((g x.1).map fun d => (d, .c)) S
@[simp] theorem un_ap (h : D → Option D) : eUn h m r S = (m r S).bind (kU h) := Eq.trans rfl rfl
@[simp] theorem neg_i (x : Int) : kU gNeg (.int x, f) S = .ok (.int (-x), .c) S := Eq.trans rfl rfl
/-! tests -/
def kT (x : D × Fl) (S : Store) : Rs Bool := match x.1 with
  | .bl b => .ok b S
  | _ => .no
@[simp] theorem val_ap : tVal m r S = (m r S).bind kT := Eq.trans rfl rfl
@[simp] theorem kt_b (x : Bool) : kT (.bl x, f) S = .ok x S := Eq.trans rfl rfl
def kAnd (tb : TM) (r : Env) (x : Bool) (S : Store) : Rs Bool := if x then tb r S else .ok false S
def kOr (tb : TM) (r : Env) (x : Bool) (S : Store) : Rs Bool := if x then .ok true S else tb r S
def kNot (x : Bool) (S : Store) : Rs Bool := .ok (!x) S
@[simp] theorem and_ap : tAndM ta tb r S = (ta r S).bind (kAnd tb r) := Eq.trans rfl rfl
@[simp] theorem or_ap : tOrM ta tb r S = (ta r S).bind (kOr tb r) := Eq.trans rfl rfl
@[simp] theorem not_ap : tNotM ta r S = (ta r S).bind kNot := Eq.trans rfl rfl
@[simp] theorem kand_t : kAnd tb r true S = tb r S := Eq.trans rfl rfl
@[simp] theorem kand_f : kAnd tb r false S = .ok false S := Eq.trans rfl rfl
@[simp] theorem kor_t : kOr tb r true S = .ok true S := Eq.trans rfl rfl
@[simp] theorem kor_f : kOr tb r false S = tb r S := Eq.trans rfl rfl
@[simp] theorem knot_ap (x : Bool) : kNot x S = .ok (!x) S := Eq.trans rfl rfl
def kIf (ma mb : EM) (r : Env) (x : Bool) (S : Store) : Rs (D × Fl) := if x then ma r S else mb r S
@[simp] theorem if_ap : eIf tt ma mb r S = (tt r S).bind (kIf ma mb r) := Eq.trans rfl rfl
@[simp] theorem kif_t : kIf ma mb r true S = ma r S := Eq.trans rfl rfl
@[simp] theorem kif_f : kIf ma mb r false S = mb r S := Eq.trans rfl rfl
theorem bind_id (x : Rs (D × Fl)) : (x.bind fun y S2 => .ok y S2) = x := by cases x <;> rfl
def kEA (mb : EM) (r : Env) (x : D × Fl) (S : Store) : Rs (D × Fl) := match x.1 with
  | .bl true => mb r S
  | .bl false => .ok (.bl false, .c) S
  | _ => .no
def kEO (mb : EM) (r : Env) (x : D × Fl) (S : Store) : Rs (D × Fl) := match x.1 with
  | .bl false => mb r S
  | .bl true => .ok (.bl true, .c) S
  | _ => .no
def kEN (x : D × Fl) (S : Store) : Rs (D × Fl) := match x.1 with
  | .bl b => .ok (.bl (!b), .c) S
  | _ => .no
@[simp] theorem eand_ap : eAnd ma mb r S = (ma r S).bind (kEA mb r) := by
  unfold eAnd kEA
  simp only [bind_id]
  all_goals rfl
@[simp] theorem eor_ap : eOr ma mb r S = (ma r S).bind (kEO mb r) := by
  unfold eOr kEO
  simp only [bind_id]
  all_goals rfl
@[simp] theorem enot_ap : eNot ma r S = (ma r S).bind kEN := Eq.trans rfl rfl
@[simp] theorem kea_t : kEA mb r (.bl true, f) S = mb r S := Eq.trans rfl rfl
@[simp] theorem kea_f : kEA mb r (.bl false, f) S = .ok (.bl false, .c) S := Eq.trans rfl rfl
@[simp] theorem keo_t : kEO mb r (.bl true, f) S = .ok (.bl true, .c) S := Eq.trans rfl rfl
@[simp] theorem keo_f : kEO mb r (.bl false, f) S = mb r S := Eq.trans rfl rfl
@[simp] theorem ken_b (x : Bool) : kEN (.bl x, f) S = .ok (.bl (!x), .c) S := Eq.trans rfl rfl
/-! arguments, displays -/
def kA1 (t : AM) (r : Env) (x : D × Fl) (S : Store) : Rs (List (Fl × D)) := (t r S).bind fun xs S2 => .ok ((x.2, x.1) :: xs) S2
def kA2 (x : D × Fl) (xs : List (Fl × D)) (S : Store) : Rs (List (Fl × D)) := .ok ((x.2, x.1) :: xs) S
@[simp] theorem anil_ap : aNil r S = .ok [] S := Eq.trans rfl rfl
@[simp] theorem acons_ap : aCons m t r S = (m r S).bind (kA1 t r) := Eq.trans rfl rfl
@[simp] theorem ka1_ap : kA1 t r a S = (t r S).bind (kA2 a) := Eq.trans rfl rfl
@[simp] theorem ka2_ap (xs : List (Fl × D)) : kA2 (d, f) xs S = .ok ((f, d) :: xs) S := Eq.trans rfl rfl
def kL (as : List (Fl × D)) (S : Store) : Rs (D × Fl) := if as.length ≤ sizeLine then (if as.all fun x => okst x.1 x.2 then .ok (.lst (as.map Prod.snd), .n) S else .ok (.lst (as.map Prod.snd), .t) S) else .no
def kTp (as : List (Fl × D)) (S : Store) : Rs (D × Fl) := if as.length ≤ sizeLine then (if as.all fun x => okst x.1 x.2 then .ok (.tup (as.map Prod.snd), .c) S else .ok (.tup (as.map Prod.snd), .t) S) else .no
@[simp] theorem lst_ap : eLst t r S = (t r S).bind kL := Eq.trans rfl rfl
@[simp] theorem tup_ap : eTup t r S = (t r S).bind kTp := Eq.trans rfl rfl
def sm : Nat → Bool := fun n => decide (n ≤ 16777216)
@[simp] theorem kl_ap (as : List (Fl × D)) (h : sm as.length = true) (h2 : (as.all fun x => okst x.1 x.2) = true) : kL as S = .ok (.lst (as.map Prod.snd), .n) S := by
  unfold kL
  rw [if_pos (by rw [sizeLine_eq]; exact of_decide_eq_true h), if_pos h2]
@[simp] theorem ktp_ap (as : List (Fl × D)) (h : sm as.length = true) (h2 : (as.all fun x => okst x.1 x.2) = true) : kTp as S = .ok (.tup (as.map Prod.snd), .c) S := by
  unfold kTp
  rw [if_pos (by rw [sizeLine_eq]; exact of_decide_eq_true h), if_pos h2]
@[simp] theorem ok_c : okst .c d = true := Eq.trans rfl rfl
@[simp] theorem ok_n : okst .n d = true := Eq.trans rfl rfl
@[simp] theorem ok_g (h : gnd d = true) : okst f d = true := by unfold okst; rw [h, Bool.or_true]
/-! calls -/
def kK (g : List (Fl × D) → Option (D × Fl)) (as : List (Fl × D)) (S : Store) : Rs (D × Fl) := lift0 (g as) S
@[simp] theorem cal_ap (h : List (Fl × D) → Option (D × Fl)) : eCal h t r S = (t r S).bind (kK h) := Eq.trans rfl rfl
@[simp] theorem kk_ap (h : List (Fl × D) → Option (D × Fl)) (as : List (Fl × D)) : kK h as S = lift0 (h as) S := Eq.trans rfl rfl
@[simp] theorem len_l (x : List D) : gLen [(f, .lst x)] = some (.int x.length, .c) := Eq.trans rfl rfl
@[simp] theorem len_f (x : List D) : gLen [(f, .frz x)] = some (.int x.length, .c) := Eq.trans rfl rfl
@[simp] theorem len_t (x : List D) : gLen [(f, .tup x)] = some (.int x.length, .c) := Eq.trans rfl rfl
@[simp] theorem list_l (x : List D) : gList [(f, .lst x)] = some (.lst x, if f = .t then .t else .n) := Eq.trans rfl rfl
@[simp] theorem list_f (x : List D) : gList [(f, .frz x)] = some (.lst x, if f = .t then .t else .n) := Eq.trans rfl rfl
@[simp] theorem list_t (x : List D) : gList [(f, .tup x)] = if f = .t then none else some (.lst x, .n) := Eq.trans rfl rfl
@[simp] theorem intsOf_m (x : List Int) : intsOf (x.map D.int) = some x := by
  induction x with
  | nil => rfl
  | cons a x ih => rw [List.map_cons]; unfold intsOf; rw [ih]; rfl
@[simp] theorem blsOf_m (x : List Bool) : blsOf (x.map D.bl) = some x := by
  induction x with
  | nil => rfl
  | cons a x ih => rw [List.map_cons]; unfold blsOf; rw [ih]; rfl
@[simp] theorem ints_l (h : List Int → Option D) (x : List Int) : gInts h [(f, .lst (x.map D.int))] = (h x).map fun d => (d, .c) := by
  unfold gInts seqOf
  dsimp only
  rw [intsOf_m]
@[simp] theorem ints_f (h : List Int → Option D) (x : List Int) : gInts h [(f, .frz (x.map D.int))] = (h x).map fun d => (d, .c) := by
  unfold gInts seqOf
  dsimp only
  rw [intsOf_m]
@[simp] theorem bls_l (h : List Bool → Bool) (x : List Bool) : gBls h [(f, .lst (x.map D.bl))] = some (.bl (h x), .c) := by
  unfold gBls seqOf
  dsimp only
  rw [blsOf_m]
@[simp] theorem intT_i (x : Int) : gIntT [(f, .int x)] = some (.int x, .c) := Eq.trans rfl rfl
@[simp] theorem intT_b (x : Bool) : gIntT [(f, .bl x)] = some (.int (if x then 1 else 0), .c) := Eq.trans rfl rfl
@[simp] theorem isi_ap (T : String) (h : String → Option Bool) : gIsi T h [(f, d), (f', .cst (.ty T))] = (match tyD d with
    | some t => (h t).map fun b => (.bl b, .c)
    | none => none) := by
  unfold gIsi
  dsimp only
  rw [if_pos rfl]
  all_goals rfl
def kF (np : Nat) (m : FM) (as : List (Fl × D)) (S : Store) : Rs (D × Fl) := if as.length = np then (m as S).bind fun x S2 => .ok (x.1, outf x.2) S2 else .no
def kO (x : D × Fl) (S : Store) : Rs (D × Fl) := .ok (x.1, outf x.2) S
@[simp] theorem fn_ap (np : Nat) (m : FM) : eFn np m t r S = (t r S).bind (kF np m) := Eq.trans rfl rfl
@[simp] theorem kf_ap (np : Nat) (m : FM) (as : List (Fl × D)) (h : (as.length == np) = true) : kF np m as S = (m as S).bind kO := if_pos (beq_iff_eq.mp h)
@[simp] theorem ko_ap : kO (d, f) S = .ok (d, outf f) S := Eq.trans rfl rfl
def kM2 (n np : Nat) (m : FM) (as : List (Fl × D)) (S : Store) : Rs (D × Fl) := if (as.length + 1) = np then (m ((.c, .ins n) :: as) S).bind fun x S3 => .ok (x.1, outf x.2) S3 else .no
def kMc (np : Nat) (t : AM) (r : Env) (n : Nat) (S : Store) : Option FM → Rs (D × Fl)
  | some m => (t r S).bind (kM2 n np m)
  | none => .no
def kMb (np : Nat) (tab : Nat → Option FM) (t : AM) (r : Env) (n : Nat) (S : Store) : Option (Nat × List D) → Rs (D × Fl)
  | some (C, _) => kMc np t r n S (tab C)
  | none => .no
def kMa (np : Nat) (tab : Nat → Option FM) (t : AM) (r : Env) : Rs (D × Fl) → Rs (D × Fl)
  | .ok (.ins n, _) S => kMb np tab t r n S S[n]?
  | _ => .no
@[simp] theorem me_ap (np : Nat) (tab : Nat → Option FM) : eMe np tab mo t r S = kMa np tab t r (mo r S) := by
  unfold eMe kMa
  rcases mo r S with ⟨⟨_ | _ | _ | _ | _ | _ | _ | _ | n | _, _⟩, S1⟩ | _ | _ <;> try rfl
@[simp] theorem kma_ap (np n : Nat) (tab : Nat → Option FM) : kMa np tab t r (.ok (.ins n, f) S) = kMb np tab t r n S S[n]? := Eq.trans rfl rfl
@[simp] theorem kmb_ap (np n C : Nat) (tab : Nat → Option FM) (fs : List D) : kMb np tab t r n S (some (C, fs)) = kMc np t r n S (tab C) := Eq.trans rfl rfl
@[simp] theorem kmc_ap (np n : Nat) (m : FM) : kMc np t r n S (some m) = (t r S).bind (kM2 n np m) := Eq.trans rfl rfl
@[simp] theorem km2_ap (n np : Nat) (m : FM) (as : List (Fl × D)) (h : (as.length + 1 == np) = true) : kM2 n np m as S = (m ((.c, .ins n) :: as) S).bind kO := if_pos (beq_iff_eq.mp h)
def kFc (S : Store) : Option D → Rs (D × Fl)
  | some d => .ok (d, .c) S
  | none => .no
def kFb (cs : List Nat) (i : Nat) (S : Store) : Option (Nat × List D) → Rs (D × Fl)
  | some (C, vs) => if cs.contains C then kFc S vs[i]? else .no
  | none => .no
def kFa (cs : List Nat) (i : Nat) (x : D × Fl) (S : Store) : Rs (D × Fl) := match x.1 with
  | .ins n => kFb cs i S S[n]?
  | _ => .no
@[simp] theorem fld_ap (cs : List Nat) : eFld cs i mo r S = (mo r S).bind (kFa cs i) := by
  unfold eFld
  congr 1
@[simp] theorem kfa_ap (cs : List Nat) (n : Nat) : kFa cs i (.ins n, f) S = kFb cs i S S[n]? := Eq.trans rfl rfl
@[simp] theorem kfb_ap (cs : List Nat) (C : Nat) (fs : List D) (h : cs.contains C = true) : kFb cs i S (some (C, fs)) = kFc S fs[i]? := if_pos h
@[simp] theorem kfc_ap : kFc S (some d) = .ok (d, .c) S := Eq.trans rfl rfl
def kN (C np : Nat) (m : FM) (as : List (Fl × D)) (S : Store) : Rs (D × Fl) := if as.length + 1 = np then (m ((.c, .ins S.length) :: as) (S ++ [(C, [])])).bind fun x S2 => match x.1 with
  | .non => .ok (.ins S.length, .c) S2
  | _ => .no else .no
def kN2 (n : Nat) (x : D × Fl) (S : Store) : Rs (D × Fl) := match x.1 with
  | .non => .ok (.ins n, .c) S
  | _ => .no
@[simp] theorem new_ap (C np : Nat) (m : FM) : eNew C np m t r S = (t r S).bind (kN C np m) := Eq.trans rfl rfl
@[simp] theorem kn_ap (C np : Nat) (m : FM) (as : List (Fl × D)) (h : (as.length + 1 == np) = true) : kN C np m as S = (m ((.c, .ins S.length) :: as) (S ++ [(C, [])])).bind (kN2 S.length) := if_pos (beq_iff_eq.mp h)
@[simp] theorem kn2_ap (n : Nat) : kN2 n (.non, f) S = .ok (.ins n, .c) S := Eq.trans rfl rfl
def kG1 (g : D × Fl → Option (D × Fl)) (x : D × Fl) (S : Store) : Rs (D × Fl) := lift0 (g x) S
@[simp] theorem g1_ap (h : D × Fl → Option (D × Fl)) : eG1 h m r S = (m r S).bind (kG1 h) := Eq.trans rfl rfl
@[simp] theorem kg1_ap (h : D × Fl → Option (D × Fl)) : kG1 h a S = lift0 (h a) S := Eq.trans rfl rfl
@[simp] theorem tupOf_l (x : List D) : gTupOf (.lst x, f) = some (.tup x, if f = .t then .t else .c) := Eq.trans rfl rfl
@[simp] theorem dict0_ap : eDict0 r S = .ok (.dic [] [], .n) S := Eq.trans rfl rfl
def kX (l1 : List (String × Bool)) (l : List (Nat × Bool)) (x : D × Fl) (S : Store) : Rs (D × Fl) := match kindB l1 l x.1 S with
  | some b => .ok (.bl b, .c) S
  | none => .no
@[simp] theorem isx_ap (l1 : List (String × Bool)) (l : List (Nat × Bool)) : eIsx l1 l m r S = (m r S).bind (kX l1 l) := Eq.trans rfl rfl
@[simp] theorem kx_ap (l1 : List (String × Bool)) (l : List (Nat × Bool)) {b : Bool} (h : kindB l1 l d S = some b) : kX l1 l (d, f) S = .ok (.bl b, .c) S := by
  unfold kX
  dsimp only
  rw [h]
/-! slices -/
def kS1 (lo hi : OM) (r : Env) (a : D × Fl) (S : Store) : Rs (D × Fl) := (lo r S).bind fun l S2 => (hi r S2).bind fun u S3 => lift0 (gSl a l u) S3
def kS2 (hi : OM) (r : Env) (a : D × Fl) (l : Option Int) (S : Store) : Rs (D × Fl) := (hi r S).bind fun u S3 => lift0 (gSl a l u) S3
def kS3 (a : D × Fl) (l u : Option Int) (S : Store) : Rs (D × Fl) := lift0 (gSl a l u) S
@[simp] theorem sl_ap (lo hi : OM) : eSl ma lo hi r S = (ma r S).bind (kS1 lo hi r) := Eq.trans rfl rfl
@[simp] theorem ks1_ap (lo hi : OM) : kS1 lo hi r a S = (lo r S).bind (kS2 hi r a) := Eq.trans rfl rfl
@[simp] theorem ks2_ap (hi : OM) (l : Option Int) : kS2 hi r a l S = (hi r S).bind (kS3 a l) := Eq.trans rfl rfl
@[simp] theorem ks3_l (x : List D) (l u : Option Int) : kS3 (.lst x, f) l u S = .ok (.lst (cutD x l u), if f = .t then .t else .n) S := Eq.trans rfl rfl
@[simp] theorem ono_ap : oNo r S = .ok none S := Eq.trans rfl rfl
def kOs (x : D × Fl) (S : Store) : Rs (Option Int) := match x.1 with
  | .int i => .ok (some i) S
  | _ => .no
@[simp] theorem oso_ap : oSo m r S = (m r S).bind kOs := Eq.trans rfl rfl
@[simp] theorem kos_ap (x : Int) : kOs (.int x, f) S = .ok (some x) S := Eq.trans rfl rfl
/-! statements -/
@[simp] theorem seq_ap (p q : SM) : sSeq p q r S = (p r S).bind q := Eq.trans rfl rfl
@[simp] theorem nil_ap : sNil r S = .nx r S := Eq.trans rfl rfl
def kSt (i : Nat) (r : Env) (x : D × Fl) (S : Store) : SR := if okst x.2 x.1 then .nx (r.set i (.ar .c x.1)) S else if x.2 = .b then .nx (r.set i (.ar .b x.1)) S else .no
@[simp] theorem set_ap : sSet i m r S = (m r S).sb r (kSt i r) := Eq.trans rfl rfl
@[simp] theorem kst_c (h : okst f d = true) : kSt i r (d, f) S = .nx (r.set i (.ar .c d)) S := if_pos h
@[simp] theorem kst_b (h : okst .b d = false) : kSt i r (d, .b) S = .nx (r.set i (.ar .b d)) S := by
  unfold kSt
  dsimp only
  rw [h]
  rfl
def kOw (i : Nat) (r : Env) (x : D × Fl) (S : Store) : SR := if x.2 = .n then .nx (r.set i (.own x.1)) S else .no
@[simp] theorem own_ap : sOwn i m r S = (m r S).sb r (kOw i r) := Eq.trans rfl rfl
@[simp] theorem kow_ap : kOw i r (d, .n) S = .nx (r.set i (.own d)) S := Eq.trans rfl rfl
def kI (p q : SM) (r : Env) (x : Bool) (S : Store) : SR := if x then p r S else q r S
@[simp] theorem sif_ap (p q : SM) : sIf tt p q r S = (tt r S).sb r (kI p q r) := Eq.trans rfl rfl
@[simp] theorem ki_t (p q : SM) : kI p q r true S = p r S := Eq.trans rfl rfl
@[simp] theorem ki_f (p q : SM) : kI p q r false S = q r S := Eq.trans rfl rfl
def kR (x : D × Fl) (S : Store) : SR := .rt x.1 x.2 S
@[simp] theorem ret_ap : sRet m r S = (m r S).sb r kR := Eq.trans rfl rfl
@[simp] theorem kr_ap : kR (d, f) S = .rt d f S := Eq.trans rfl rfl
def kRV (S : Store) : Option Slot → SR
  | some (.own d) => .rt d .n S
  | some (.ar f d) => .rt d (inf f) S
  | _ => .no
@[simp] theorem retV_ap : sRetV i r S = kRV S r[i]? := by
  unfold sRetV kRV
  rcases r[i]? with _ | _ | _ | _ <;> rfl
@[simp] theorem krv_own : kRV S (some (.own d)) = .rt d .n S := Eq.trans rfl rfl
@[simp] theorem krv_ar : kRV S (some (.ar f d)) = .rt d (inf f) S := Eq.trans rfl rfl
@[simp] theorem retN_ap : sRetN r S = .rt .non .c S := Eq.trans rfl rfl
def kE (r : Env) (x : D × Fl) (S : Store) : SR := .nx r S
@[simp] theorem expr_ap : sExpr m r S = (m r S).sb r (kE r) := Eq.trans rfl rfl
@[simp] theorem ke_ap : kE r a S = .nx r S := Eq.trans rfl rfl
def kAs (g : GM) (r : Env) (x : D × Fl) (S : Store) : SR := if okst x.2 x.1 then (match g x.1 r with
  | some r' => .nx r' S
  | none => .no) else .no
@[simp] theorem asg_ap (g : GM) : sAsg g m r S = (m r S).sb r (kAs g r) := Eq.trans rfl rfl
def kAs2 (S : Store) : Option Env → SR
  | some r' => .nx r' S
  | none => .no
@[simp] theorem kas_ap (g : GM) (h : okst f d = true) : kAs g r (d, f) S = kAs2 S (g d r) := by
  unfold kAs kAs2
  dsimp only
  rw [if_pos h]
@[simp] theorem kas2_ap : kAs2 S (some r) = .nx r S := Eq.trans rfl rfl
@[simp] theorem gn_ap : gN i d r = some (r.set i (.ar .c d)) := Eq.trans rfl rfl
@[simp] theorem gt_ap (n : Nat) (gs : List D → Env → Option Env) (ds : List D) (h : (ds.length == n) = true) : gT n gs (.tup ds) r = gs ds r := if_pos (beq_iff_eq.mp h)
@[simp] theorem gsn_ap : gsN [] r = some r := Eq.trans rfl rfl
@[simp] theorem gsc_ap (g : GM) (gs : List D → Env → Option Env) (ds : List D) : gsC g gs (d :: ds) r = (g d r).bind (gs ds) := Eq.trans rfl rfl
def kAp (i : Nat) (r : Env) (xs : List D) (x : D × Fl) (S : Store) : SR := if okst x.2 x.1 && decide (xs.length < sizeLine) then .nx (r.set i (.own (.lst (xs ++ [x.1])))) S else .no
def kApS (i : Nat) (m : EM) (r : Env) (S : Store) : Option Slot → SR
  | some (.own (.lst xs)) => (m r S).sb r (kAp i r xs)
  | _ => .no
@[simp] theorem app_ap : sApp i m r S = kApS i m r S r[i]? := by
  unfold sApp kApS
  rcases r[i]? with _ | _ | _ | (_ | _ | _ | _ | _ | _ | _ | _ | _ | _) <;> rfl
@[simp] theorem kaps_ap (xs : List D) : kApS i m r S (some (.own (.lst xs))) = (m r S).sb r (kAp i r xs) := Eq.trans rfl rfl
@[simp] theorem kap_ap (xs : List D) (h : okst f d = true) (h2 : xs.length < 16777216) : kAp i r xs (d, f) S = .nx (r.set i (.own (.lst (xs ++ [d])))) S := by
  unfold kAp
  dsimp only
  rw [h, sizeLine_eq, decide_eq_true h2]
  rfl
def kEx (i : Nat) (r : Env) (xs : List D) (x : D × Fl) (S : Store) : SR := match x.1 with
  | .lst ys => if x.2 ≠ .t ∧ xs.length + ys.length ≤ sizeLine then .nx (r.set i (.own (.lst (xs ++ ys)))) S else .no
  | _ => .no
def kExS (i : Nat) (m : EM) (r : Env) (S : Store) : Option Slot → SR
  | some (.own (.lst xs)) => (m r S).sb r (kEx i r xs)
  | _ => .no
@[simp] theorem ext_ap : sExt i m r S = kExS i m r S r[i]? := by
  unfold sExt kExS
  rcases r[i]? with _ | _ | _ | (_ | _ | _ | _ | _ | _ | _ | _ | _ | _) <;> rfl
@[simp] theorem kexs_ap (xs : List D) : kExS i m r S (some (.own (.lst xs))) = (m r S).sb r (kEx i r xs) := Eq.trans rfl rfl
@[simp] theorem kex_ap (xs ys : List D) (h : f ≠ .t) (h2 : xs.length + ys.length ≤ 16777216) : kEx i r xs (.lst ys, f) S = .nx (r.set i (.own (.lst (xs ++ ys)))) S := by
  unfold kEx
  dsimp only
  rw [if_pos ⟨h, by rw [sizeLine_eq]; exact h2⟩]
def kClS (i : Nat) (r : Env) (S : Store) : Option Slot → SR
  | some (.own (.lst _)) => .nx (r.set i (.own (.lst []))) S
  | _ => .no
@[simp] theorem clr_ap : sClr i r S = kClS i r S r[i]? := by
  unfold sClr kClS
  rcases r[i]? with _ | _ | _ | (_ | _ | _ | _ | _ | _ | _ | _ | _ | _) <;> rfl
@[simp] theorem kcls_ap (xs : List D) : kClS i r S (some (.own (.lst xs))) = .nx (r.set i (.own (.lst []))) S := Eq.trans rfl rfl
def kDm (i : Nat) (p : SM) (r : Env) (S : Store) : Option Slot → SR
  | some (.own d) => p (r.set i (.ar .c d)) S
  | _ => p r S
@[simp] theorem dem_ap (p : SM) : sDem i p r S = kDm i p r S r[i]? := by
  unfold sDem kDm
  rcases r[i]? with _ | _ | _ | _ <;> rfl
@[simp] theorem kdm_own (p : SM) : kDm i p r S (some (.own d)) = p (r.set i (.ar .c d)) S := Eq.trans rfl rfl
@[simp] theorem kdm_ar (p : SM) : kDm i p r S (some (.ar f d)) = p r S := Eq.trans rfl rfl
@[simp] theorem kdm_no (p : SM) : kDm i p r S (some .no) = p r S := Eq.trans rfl rfl
def kAtb (cs : List Nat) (i : Nat) (r : Env) (n : Nat) (x : D × Fl) (S : Store) : Option (Nat × List D) → SR
  | some (C, vs) => if cs.contains C && okst x.2 x.1 && decide (i ≤ vs.length) then .nx r (S.set n (C, putD i x.1 vs)) else .no
  | none => .no
def kAta (cs : List Nat) (i : Nat) (r : Env) (x o : D × Fl) (S : Store) : SR := match o.1 with
  | .ins n => kAtb cs i r n x S S[n]?
  | _ => .no
def kAt (cs : List Nat) (i : Nat) (mo : EM) (r : Env) (x : D × Fl) (S : Store) : SR := (mo r S).sb r (kAta cs i r x)
@[simp] theorem at_ap (cs : List Nat) : sAt cs i mo m r S = (m r S).sb r (kAt cs i mo r) := by
  unfold sAt
  congr 1
@[simp] theorem kat_ap (cs : List Nat) : kAt cs i mo r a S = (mo r S).sb r (kAta cs i r a) := Eq.trans rfl rfl
@[simp] theorem kata_ap (cs : List Nat) (n : Nat) : kAta cs i r a (.ins n, f) S = kAtb cs i r n a S S[n]? := Eq.trans rfl rfl
@[simp] theorem katb_ap (cs : List Nat) (n C : Nat) (vs : List D) (h : cs.contains C = true) (h2 : okst f d = true) (h3 : i ≤ vs.length) : kAtb cs i r n (d, f) S (some (C, vs)) = .nx r (S.set n (C, putD i d vs)) := by
  unfold kAtb
  dsimp only
  rw [h, h2, decide_eq_true h3]
  rfl
def kInS (i : Nat) (m : EM) (r : Env) (S : Store) : Option Slot → SR
  | some (.ar _ (.int a)) => (m r S).sb r fun x S1 => match x.1 with
    | .int b => .nx (r.set i (.ar .c (.int (a + b)))) S1
    | _ => .no
  | _ => .no
def kIn2 (i : Nat) (r : Env) (a : Int) (x : D × Fl) (S : Store) : SR := match x.1 with
  | .int b => .nx (r.set i (.ar .c (.int (a + b)))) S
  | _ => .no
@[simp] theorem inc_ap : sInc i m r S = kInS i m r S r[i]? := by
  unfold sInc kInS
  rcases r[i]? with _ | _ | ⟨_, (_ | _ | _ | _ | _ | _ | _ | _ | _ | _)⟩ | _ <;> rfl
@[simp] theorem kins_ap (x : Int) : kInS i m r S (some (.ar f (.int x))) = (m r S).sb r (kIn2 i r x) := Eq.trans rfl rfl
@[simp] theorem kin2_ap (x y : Int) : kIn2 i r x (.int y, f) S = .nx (r.set i (.ar .c (.int (x + y)))) S := Eq.trans rfl rfl
def kSub (i : Nat) (mi : EM) (r : Env) (x : D × Fl) (S : Store) : SR := match r[i]? with
  | some (.own (.lst xs)) => (mi r S).sb r fun j S2 => match j.1 with
    | .int k => match ixN xs.length k with
      | some n => if okst x.2 x.1 then .nx (r.set i (.own (.lst (xs.set n x.1)))) S2 else .no
      | none => .no
    | _ => .no
  | _ => .no
def kSub3 (i : Nat) (r : Env) (xs : List D) (x : D × Fl) (S : Store) : Option Nat → SR
  | some n => if okst x.2 x.1 then .nx (r.set i (.own (.lst (xs.set n x.1)))) S else .no
  | none => .no
def kSub2 (i : Nat) (r : Env) (xs : List D) (x j : D × Fl) (S : Store) : SR := match j.1 with
  | .int k => kSub3 i r xs x S (ixN xs.length k)
  | _ => .no
def kSub1 (i : Nat) (mi : EM) (r : Env) (x : D × Fl) (S : Store) : Option Slot → SR
  | some (.own (.lst xs)) => (mi r S).sb r (kSub2 i r xs x)
  | _ => .no
@[simp] theorem sub_ap (mi : EM) : sSub i mi m r S = (m r S).sb r (kSub i mi r) := Eq.trans rfl rfl
@[simp] theorem ksub_ap (mi : EM) : kSub i mi r a S = kSub1 i mi r a S r[i]? := by
  unfold kSub kSub1
  rcases r[i]? with _ | _ | _ | (_ | _ | _ | xs | _ | _ | _ | _ | _ | _) <;> try rfl
@[simp] theorem ksub1_ap (mi : EM) (xs : List D) : kSub1 i mi r a S (some (.own (.lst xs))) = (mi r S).sb r (kSub2 i r xs a) := Eq.trans rfl rfl
@[simp] theorem ksub2_ap (xs : List D) (k : Int) : kSub2 i r xs a (.int k, f) S = kSub3 i r xs a S (ixN xs.length k) := Eq.trans rfl rfl
@[simp] theorem ksub3_ap (xs : List D) (n : Nat) (h : okst f d = true) : kSub3 i r xs (d, f) S (some n) = .nx (r.set i (.own (.lst (xs.set n d)))) S := if_pos h
def kPa1 (i j : Nat) (mb : EM) (r : Env) (x : D × Fl) (S : Store) : SR := (mb r S).sb r fun y S2 => if okst x.2 x.1 && okst y.2 y.1 then .nx ((r.set i (.ar .c x.1)).set j (.ar .c y.1)) S2 else .no
def kPa2 (i j : Nat) (r : Env) (x y : D × Fl) (S : Store) : SR := if okst x.2 x.1 && okst y.2 y.1 then .nx ((r.set i (.ar .c x.1)).set j (.ar .c y.1)) S else .no
@[simp] theorem par_ap : sPar i j ma mb r S = (ma r S).sb r (kPa1 i j mb r) := Eq.trans rfl rfl
@[simp] theorem kpa1_ap : kPa1 i j mb r a S = (mb r S).sb r (kPa2 i j r a) := Eq.trans rfl rfl
@[simp] theorem kpa2_ap (h : okst f d = true) (h2 : okst f' d' = true) : kPa2 i j r (d, f) (d', f') S = .nx ((r.set i (.ar .c d)).set j (.ar .c d')) S := by
  unfold kPa2
  dsimp only
  rw [h, h2]
  rfl
/-! try -/
def kTrS (j : Nat) (c : Nat) (p : List D) (r : Env) (S : Store) : Option Slot → SR
  | some .no => .nx (r.set j (.ar .c (.ins S.length))) (S ++ [(c, p)])
  | _ => .no
def kTrB (i j : Nat) (c : Nat) (p : List D) (r : Env) (S : Store) : Option Bool → SR
  | some true => kTrS j c p r S r[i]?
  | some false => .er c p r S
  | none => .no
def kTr (l : List (Nat × Bool)) (i j : Nat) : SR → SR
  | .er c p r S => kTrB i j c p r S (l.lookup c)
  | x => x
@[simp] theorem try_ap (l : List (Nat × Bool)) (p : SM) : sTry l i j p r S = kTr l i j (p r S) := by
  unfold sTry kTr
  rcases p r S with _ | _ | _ | _ | ⟨c, p, r', S'⟩ | _ <;> try rfl
@[simp] theorem ktr_er (l : List (Nat × Bool)) (c : Nat) (p : List D) : kTr l i j (.er c p r S) = kTrB i j c p r S (l.lookup c) := Eq.trans rfl rfl
@[simp] theorem ktr_nx (l : List (Nat × Bool)) : kTr l i j (.nx r S) = .nx r S := Eq.trans rfl rfl
@[simp] theorem ktr_rt (l : List (Nat × Bool)) : kTr l i j (.rt d f S) = .rt d f S := Eq.trans rfl rfl
@[simp] theorem ktrb_t (c : Nat) (p : List D) : kTrB i j c p r S (some true) = kTrS j c p r S r[i]? := Eq.trans rfl rfl
@[simp] theorem ktrb_f (c : Nat) (p : List D) : kTrB i j c p r S (some false) = .er c p r S := Eq.trans rfl rfl
@[simp] theorem ktrs_ap (c : Nat) (p : List D) : kTrS j c p r S (some .no) = .nx (r.set j (.ar .c (.ins S.length))) (S ++ [(c, p)]) := Eq.trans rfl rfl
def kFor (g : GM) (p : SM) (r : Env) (ds : List D) (S : Store) : SR := forL g p ds r S
@[simp] theorem for_ap (mi : Env → Store → Rs (List D)) (g : GM) (p : SM) : sFor mi g p r S = (mi r S).sb r (kFor g p r) := Eq.trans rfl rfl
@[simp] theorem kfor_ap (g : GM) (p : SM) (ds : List D) : kFor g p r ds S = forL g p ds r S := Eq.trans rfl rfl
def kQ (x : D × Fl) (S : Store) : Rs (List D) := if okI x.2 then (match x.1 with
  | .lst ds => .ok ds S
  | .frz ds => .ok ds S
  | .tup ds => .ok ds S
  | .str z => .ok (strD z) S
  | _ => .no) else .no
@[simp] theorem iseq_ap : iSeq m r S = (m r S).bind kQ := Eq.trans rfl rfl
@[simp] theorem kq_l (ds : List D) (h : okI f = true) : kQ (.lst ds, f) S = .ok ds S := if_pos h
@[simp] theorem kq_f (ds : List D) (h : okI f = true) : kQ (.frz ds, f) S = .ok ds S := if_pos h
@[simp] theorem kq_t (ds : List D) (h : okI f = true) : kQ (.tup ds, f) S = .ok ds S := if_pos h
def kIA (h : List (Fl × D) → Option (List D)) (as : List (Fl × D)) (S : Store) : Rs (List D) := lift0 (h as) S
@[simp] theorem iargs_ap (h : List (Fl × D) → Option (List D)) : iArgs h t r S = (t r S).bind (kIA h) := Eq.trans rfl rfl
@[simp] theorem kia_ap (h : List (Fl × D) → Option (List D)) (as : List (Fl × D)) : kIA h as S = lift0 (h as) S := Eq.trans rfl rfl
@[simp] theorem rng1_ap (x : Int) (h : inR x = true) : gRng1 [(f, .int x)] = some (rangeD 0 1 x.toNat) := if_pos h
@[simp] theorem rng2_ap (x y : Int) (h : (inR x && inR y) = true) : gRng2 [(f, .int x), (f', .int y)] = some (rangeD x 1 (y - x).toNat) := if_pos h
@[simp] theorem zip_ll (x y : List D) (h : (okI f && okI f') = true) : gZip [(f, .lst x), (f', .lst y)] = some (zipD x y) := if_pos h
@[simp] theorem seq1_l (h : List D → List D) (x : List D) (e : okI f = true) : gSeq1 h [(f, .lst x)] = some (h x) := if_pos e
def kCp (vs : List Nat) (g : GM) (tt : TM) (te : EM) (r : Env) (ds : List D) (S : Store) : Rs (D × Fl) := if ds.length ≤ sizeLine then (match compL g tt te (wipeE r vs) ds S with
  | .ok xs S2 => .ok (.lst xs, .n) S2
  | _ => .no) else .no
@[simp] theorem lc_ap (mi : Env → Store → Rs (List D)) (vs : List Nat) (g : GM) (tt : TM) (te : EM) (h : freeE r vs = true) : eLc mi vs g tt te r S = (mi r S).bind (kCp vs g tt te r) := if_pos h
@[simp] theorem kcp_ap (vs : List Nat) (g : GM) (tt : TM) (te : EM) (ds xs : List D) (S2 : Store) (h : ds.length ≤ 16777216) (h2 : compL g tt te (wipeE r vs) ds S = .ok xs S2) : kCp vs g tt te r ds S = .ok (.lst xs, .n) S2 := by
  unfold kCp
  rw [if_pos (by rw [sizeLine_eq]; exact h), h2]
/-- a comprehension whose parts leave the store alone -/
theorem comp_map (g : GM) (tt : TM) (te : EM) (h : D → D) : ∀ (ds : List D), (∀ d ∈ ds, ∃ r1, g d r = some r1 ∧ tt r1 S = .ok true S ∧ ∃ f, te r1 S = .ok (h d, f) S ∧ okst f (h d) = true) → compL g tt te r ds S = .ok (ds.map h) S
  | [], _ => rfl
  | d :: ds, q => by
    obtain ⟨r1, h1, h2, f, h3, h4⟩ := q d List.mem_cons_self
    unfold compL
    rw [h1]
    dsimp only
    rw [h2]
    dsimp only
    rw [h3]
    dsimp only
    rw [if_pos h4, comp_map g tt te h ds fun x hx => q x (List.mem_cons_of_mem _ hx)]
    rfl
@[simp] theorem yes_ap : tYesM r S = .ok true S := Eq.trans rfl rfl
/-- a for loop by an invariant that knows how many went by -/
theorem for_inv {P : Nat → Env → Store → Prop} {g : GM} {p : SM} : ∀ (ds : List D) (k : Nat) (r : Env) (S : Store), P k r S → (∀ (n : Nat) (d : D) (r : Env) (S : Store), ds[n]? = some d → P (k + n) r S → ∃ r1, g d r = some r1 ∧ ∃ r2 S2, p r1 S = .nx r2 S2 ∧ P (k + n + 1) r2 S2) →
    ∃ r2 S2, forL g p ds r S = .nx r2 S2 ∧ P (k + ds.length) r2 S2
  | [], k, r, S, h, _ => ⟨r, S, rfl, h⟩
  | d :: ds, k, r, S, h, q => by
    obtain ⟨r1, h1, r2, S2, h2, h3⟩ := q 0 d r S rfl h
    obtain ⟨r3, S3, h4, h5⟩ := for_inv (P := P) ds (k + 1) r2 S2 h3 fun n d' r' S' e z => by
      obtain ⟨r4, y1, r5, S5, y2, y3⟩ := q (n + 1) d' r' S' (by simpa using e) (by rw [show k + (n + 1) = k + 1 + n by omega]; exact z)
      exact ⟨r4, y1, r5, S5, y2, by rw [show k + 1 + n + 1 = k + (n + 1) + 1 by omega]; exact y3⟩
    refine ⟨r3, S3, ?_, by rw [List.length_cons, show k + (ds.length + 1) = k + 1 + ds.length by omega]; exact h5⟩
    unfold forL
    rw [h1]
    dsimp only
    rw [h2]
    exact h4
def kFr : Option Slot → Bool
  | some (.own _) => false
  | _ => true
@[simp] theorem start_ap (as : List (Fl × D)) (n : Nat) : startE as n = as.map (fun x => .ar x.1 x.2) ++ List.replicate (n - as.length) .no := Eq.trans rfl rfl
def kFn : SR → Rs (D × Fl)
  | .rt d f S => .ok (d, f) S
  | .nx _ S => .ok (.non, .c) S
  | .er c p _ S => .er c p S
  | _ => .no
@[simp] theorem fnM_ap (N : Nat) (p : SM) (as : List (Fl × D)) : fnM N p as S = kFn (p (startE as N) S) := by
  unfold fnM kFn
  rcases p (startE as N) S <;> rfl
@[simp] theorem kfn_rt : kFn (.rt d f S) = .ok (d, f) S := Eq.trans rfl rfl
@[simp] theorem kfn_nx : kFn (.nx r S) = .ok (.non, .c) S := Eq.trans rfl rfl
@[simp] theorem kfn_er (c : Nat) (p : List D) : kFn (.er c p r S) = .er c p S := Eq.trans rfl rfl
@[simp] theorem raise_ap (c : Nat) : sRaise c r S = .er c [] r S := Eq.trans rfl rfl
end Ev

namespace Ev
open Mv
open PySem (Str sizeLine sizeLine_eq PyData SeqAt.shaped)
open L2 (atI ixN)
@[simp] theorem sm_ap (n : Nat) : sm n = decide (n ≤ 16777216) := Eq.trans rfl rfl
@[simp] theorem kl_nil (S : Store) : kL [] S = .ok (.lst [], .n) S := by
  unfold kL
  rw [if_pos (by rw [sizeLine_eq]; exact Nat.zero_le _)]
  rfl
@[simp] theorem ktp_nil (S : Store) : kTp [] S = .ok (.tup [], .c) S := by
  unfold kTp
  rw [if_pos (by rw [sizeLine_eq]; exact Nat.zero_le _)]
  rfl
theorem toPys_i : ∀ xs : List Int, toPys (xs.map D.int) = some (xs.map PyData.int)
  | [] => rfl
  | x :: xs => by
    rw [List.map_cons]
    unfold toPys toPy
    rw [toPys_i xs]
    rfl
theorem lay_i : ∀ xs : List Int, PyData.canLayAll0 (xs.map PyData.int) = true
  | [] => rfl
  | x :: xs => by
    rw [List.map_cons]
    unfold PyData.canLayAll0 PyData.canLay0
    rw [lay_i xs]
    rfl
theorem dep_i : ∀ xs : List Int, PyData.depthAll (xs.map PyData.int) = 0
  | [] => rfl
  | x :: xs => by
    rw [List.map_cons]
    unfold PyData.depthAll PyData.depth
    rw [dep_i xs]
    rfl
theorem shaped_i (xs : List Int) : SeqAt.shaped (.list (xs.map PyData.int)) = true := by
  unfold SeqAt.shaped
  unfold PyData.canLay0 PyData.depth
  rw [lay_i, dep_i]
  rfl
theorem eqv_i : ∀ xs ys : List Int, PyData.eqvAll (xs.map PyData.int) (ys.map PyData.int) = decide (xs = ys)
  | [], [] => rfl
  | [], y :: ys => rfl
  | x :: xs, [] => rfl
  | x :: xs, y :: ys => by
    rw [List.map_cons, List.map_cons]
    unfold PyData.eqvAll PyData.eqv
    rw [eqv_i xs ys]
    by_cases h : x = y <;> by_cases h2 : xs = ys <;> simp [h, h2]
theorem eqO_lists {d e : D} {xs ys : List Int} (h1 : toPy d = some (.list (xs.map PyData.int))) (h2 : toPy e = some (.list (ys.map PyData.int))) (hd : ∀ i, d ≠ .int i) (hs : ∀ i, d ≠ .str i) (hb : ∀ i, d ≠ .bl i) : eqO d e = some (decide (xs = ys)) := by
  unfold eqO
  split
  · exact absurd rfl (hd _)
  · exact absurd rfl (hs _)
  · exact absurd rfl (hb _)
  · rw [h1, h2]
    dsimp only
    rw [shaped_i, shaped_i]
    unfold PyData.eqv
    rw [eqv_i]
    rfl
theorem toPy_l (xs : List Int) : toPy (.lst (xs.map D.int)) = some (.list (xs.map PyData.int)) := by
  unfold toPy
  rw [toPys_i]
  rfl
theorem toPy_f (xs : List Int) : toPy (.frz (xs.map D.int)) = some (.list (xs.map PyData.int)) := by
  unfold toPy
  rw [toPys_i]
  rfl
@[simp] theorem eqO_ll (xs ys : List Int) : eqO (.lst (xs.map D.int)) (.lst (ys.map D.int)) = some (decide (xs = ys)) := eqO_lists (toPy_l xs) (toPy_l ys) (by simp) (by simp) (by simp)
@[simp] theorem eqO_fl (xs ys : List Int) : eqO (.frz (xs.map D.int)) (.lst (ys.map D.int)) = some (decide (xs = ys)) := eqO_lists (toPy_f xs) (toPy_l ys) (by simp) (by simp) (by simp)
@[simp] theorem eqO_l0 (xs : List Int) : eqO (.lst (xs.map D.int)) (.lst []) = some (decide (xs = [])) := eqO_ll xs []
@[simp] theorem eqO_f0 (xs : List Int) : eqO (.frz (xs.map D.int)) (.lst []) = some (decide (xs = [])) := eqO_fl xs []
@[simp] theorem eqO_00 : eqO (.lst []) (.lst []) = some true := eqO_ll [] []
@[simp] theorem eqO_f00 : eqO (.frz []) (.lst []) = some true := eqO_fl [] []
theorem mulOk_l {i j : Int} (h : -(2 ^ 64) < i ∧ i < 2 ^ 64) : mulOk i j = true := by
  unfold mulOk
  rw [decide_eq_true h]
  rfl
theorem mulOk_r {i j : Int} (h : -(2 ^ 64) < j ∧ j < 2 ^ 64) : mulOk i j = true := by
  unfold mulOk
  rw [decide_eq_true h, Bool.or_true]
  rfl
/-- an item of a list of ints -/
theorem atI_i {xs : List Int} {i : Int} (h0 : 0 ≤ i) (h1 : i < xs.length) : atI (xs.map D.int) i = some (.int (xs.getD i.toNat 0)) := by
  unfold atI ixN
  rw [if_pos h0, List.length_map, if_pos h1]
  have h2 : i.toNat < xs.length := by omega
  simp [List.getElem?_eq_getElem h2]
theorem comp_rng (r : Env) (S : Store) (g : GM) (tt : TM) (te : EM) (h : Nat → D) (lo : Int) (n : Nat) (q : ∀ j < n, ∃ r1, g (.int (lo + j)) r = some r1 ∧ tt r1 S = .ok true S ∧ ∃ f, te r1 S = .ok (h j, f) S ∧ okst f (h j) = true) : compL g tt te r (rangeD lo 1 n) S = .ok ((List.range n).map h) S := by
  have e : (rangeD lo 1 n).map (fun d => match d with
      | .int x => h (x - lo).toNat
      | d => d) = (List.range n).map h := by
    unfold rangeD
    rw [List.map_map]
    refine List.map_congr_left fun j hj => ?_
    show h (lo + (j : Nat) * 1 - lo).toNat = h j
    congr 1
    omega
  rw [← e]
  refine comp_map r S g tt te _ _ fun d hd => ?_
  unfold rangeD at hd
  obtain ⟨j, hj, rfl⟩ := List.mem_map.mp hd
  have hj := List.mem_range.mp hj
  have e1 : (lo + (j : Nat) * 1 : Int) = lo + j := by omega
  have e2 : (lo + (j : Nat) * 1 - lo).toNat = j := by omega
  dsimp only
  rw [e2, e1]
  exact q j hj
theorem comp_ints (r : Env) (S : Store) (g : GM) (tt : TM) (te : EM) (h : Int → D) (xs : List Int) (q : ∀ x ∈ xs, ∃ r1, g (.int x) r = some r1 ∧ tt r1 S = .ok true S ∧ ∃ f, te r1 S = .ok (h x, f) S ∧ okst f (h x) = true) : compL g tt te r (xs.map D.int) S = .ok (xs.map h) S := by
  have e : (xs.map D.int).map (fun d => match d with
      | .int x => h x
      | d => d) = xs.map h := by
    rw [List.map_map]
    exact List.map_congr_left fun j hj => rfl
  rw [← e]
  refine comp_map r S g tt te _ _ fun d hd => ?_
  obtain ⟨j, hj, rfl⟩ := List.mem_map.mp hd
  exact q j hj
@[simp] theorem rangeD_len (lo c : Int) (n : Nat) : (rangeD lo c n).length = n := rangeD_length lo c n
/-- a for loop that carries a value along; the loop's own slot is anything -/
theorem for_acc {A : Type} (E : A → Slot → Env) (stp : A → D → A) (I : Nat → A → Prop) (S : Store) (g : GM) (p : SM) : ∀ (ds : List D) (k : Nat) (a : A) (x : Slot), I k a →
    (∀ (n : Nat) (d : D) (a : A) (x : Slot), ds[n]? = some d → I (k + n) a → ∃ r1, g d (E a x) = some r1 ∧ (∃ x', p r1 S = .nx (E (stp a d) x') S) ∧ I (k + n + 1) (stp a d)) →
    ∃ x', forL g p ds (E a x) S = .nx (E (ds.foldl stp a) x') S ∧ I (k + ds.length) (ds.foldl stp a)
  | [], k, a, x, h, _ => ⟨x, rfl, h⟩
  | d :: ds, k, a, x, h, q => by
    obtain ⟨r1, h1, ⟨x1, h2⟩, h3⟩ := q 0 d a x rfl h
    obtain ⟨x2, h4, h5⟩ := for_acc E stp I S g p ds (k + 1) (stp a d) x1 h3 fun n d' a' x' e z => by
      obtain ⟨r4, y1, y2, y3⟩ := q (n + 1) d' a' x' (by simpa using e) (by rw [show k + (n + 1) = k + 1 + n by omega]; exact z)
      exact ⟨r4, y1, y2, by rw [show k + 1 + n + 1 = k + (n + 1) + 1 by omega]; exact y3⟩
    refine ⟨x2, ?_, by rw [List.length_cons, show k + (ds.length + 1) = k + 1 + ds.length by omega]; exact h5⟩
    unfold forL
    rw [h1]
    dsimp only
    rw [h2]
    exact h4
theorem foldl_app {B : Type} (h : Int → List B) (stp : List B → D → List B) (hs : ∀ a i, stp a (.int i) = a ++ h i) : ∀ (xs : List Int) (a : List B), (xs.map D.int).foldl stp a = a ++ (xs.map h).flatten
  | [], a => by simp
  | x :: xs, a => by
    rw [List.map_cons, List.foldl_cons, hs, foldl_app h stp hs xs]
    simp
theorem for_cons {g : GM} {p : SM} {d : D} {ds : List D} {r r1 r2 : Env} {S S2 : Store} (h1 : g d r = some r1) (h2 : p r1 S = .nx r2 S2) : forL g p (d :: ds) r S = forL g p ds r2 S2 := by
  rw [forL, h1]
  dsimp only
  rw [h2]
theorem for_nil {g : GM} {p : SM} {r : Env} {S : Store} : forL g p [] r S = .nx r S := by rw [forL]
def kindC (l : List (Nat × Bool)) : Option (Nat × List D) → Option Bool
  | some (c, []) => l.lookup c
  | _ => none
@[simp] theorem kindB_ins (l1 : List (String × Bool)) (l : List (Nat × Bool)) (n : Nat) (S : Store) : kindB l1 l (.ins n) S = kindC l S[n]? := Eq.trans rfl rfl
@[simp] theorem kindC_ap (l : List (Nat × Bool)) (c : Nat) : kindC l (some (c, [])) = l.lookup c := Eq.trans rfl rfl
@[simp] theorem kindB_non (l1 : List (String × Bool)) (l : List (Nat × Bool)) (S : Store) : kindB l1 l .non S = l1.lookup "NoneType" := Eq.trans rfl rfl
def kX2 (S : Store) : Option Bool → Rs (D × Fl)
  | some b => .ok (.bl b, .c) S
  | none => .no
theorem kx_k (l1 : List (String × Bool)) (l : List (Nat × Bool)) (d : D) (f : Fl) (S : Store) : kX l1 l (d, f) S = kX2 S (kindB l1 l d S) := by
  unfold kX kX2
  dsimp only
@[simp] theorem kx2_ap (b : Bool) (S : Store) : kX2 S (some b) = .ok (.bl b, .c) S := Eq.trans rfl rfl
/-! comprehensions item by item -/
def kCm4 (d : D) : Rs (List D) → Rs (List D)
  | .ok xs S => .ok (d :: xs) S
  | _ => .no
def kCm3 (g : GM) (tt : TM) (te : EM) (r : Env) (ds : List D) : Rs (D × Fl) → Rs (List D)
  | .ok x S => if okst x.2 x.1 then kCm4 x.1 (compL g tt te r ds S) else .no
  | _ => .no
def kCm2 (g : GM) (tt : TM) (te : EM) (r r1 : Env) (ds : List D) : Rs Bool → Rs (List D)
  | .ok true S => kCm3 g tt te r ds (te r1 S)
  | .ok false S => compL g tt te r ds S
  | _ => .no
def kCm1 (g : GM) (tt : TM) (te : EM) (r : Env) (ds : List D) (S : Store) : Option Env → Rs (List D)
  | some r1 => kCm2 g tt te r r1 ds (tt r1 S)
  | none => .no
section
variable (g : GM) (tt : TM) (te : EM) (r r1 : Env) (ds : List D) (S : Store) (d : D) (f : Fl)
theorem cm_nil : compL g tt te r [] S = .ok [] S := by rw [compL]
theorem cm_cons : compL g tt te r (d :: ds) S = kCm1 g tt te r ds S (g d r) := by
  rw [compL]
  unfold kCm1
  rcases g d r with _ | r1
  · rfl
  · dsimp only
    unfold kCm2
    rcases tt r1 S with ⟨_ | _, S1⟩ | _ | _ <;> try rfl
theorem cm1_ap : kCm1 g tt te r ds S (some r1) = kCm2 g tt te r r1 ds (tt r1 S) := rfl
theorem cm2_t : kCm2 g tt te r r1 ds (.ok true S) = kCm3 g tt te r ds (te r1 S) := rfl
theorem cm2_f : kCm2 g tt te r r1 ds (.ok false S) = compL g tt te r ds S := rfl
theorem cm3_ap (h : okst f d = true) : kCm3 g tt te r ds (.ok (d, f) S) = kCm4 d (compL g tt te r ds S) := if_pos h
theorem cm4_ap (xs : List D) : kCm4 d (.ok xs S) = .ok (d :: xs) S := rfl
def kCp2 : Rs (List D) → Rs (D × Fl)
  | .ok xs S => .ok (.lst xs, .n) S
  | _ => .no
theorem cp_k (vs : List Nat) (h : sm ds.length = true) : kCp vs g tt te r ds S = kCp2 (compL g tt te (wipeE r vs) ds S) := by
  unfold kCp
  rw [if_pos (by rw [sizeLine_eq]; exact of_decide_eq_true h)]
  unfold kCp2
  rcases compL g tt te (wipeE r vs) ds S with _ | _ | _ <;> rfl
theorem cp2_ap (xs : List D) : kCp2 (.ok xs S) = .ok (.lst xs, .n) S := rfl
end
end Ev

set_option maxRecDepth 100000
set_option maxHeartbeats 4000000
/-! Ev2: a list's methods, a lambda handed over, whole numbers that are none below 0 -/
namespace Ev
open Mv
open L2 PyProof.Rows
open PySem (sizeLine sizeLine_eq)
def kBm1 (g : List D → List (Fl × D) → Option (D × Fl)) (xs : List D) (as : List (Fl × D)) (S : Store) : Rs (D × Fl) := lift0 (g xs as) S
def kBm (g : List D → List (Fl × D) → Option (D × Fl)) (t : AM) (r : Env) (x : D × Fl) (S : Store) : Rs (D × Fl) := match x.1 with
  | .lst xs => (t r S).bind (kBm1 g xs)
  | _ => .no
@[simp] theorem bm_ap (g : List D → List (Fl × D) → Option (D × Fl)) (mo : EM) (t : AM) (r : Env) (S : Store) : eBm g mo t r S = (mo r S).bind (kBm g t r) := Eq.trans rfl rfl
@[simp] theorem kbm_ap (g : List D → List (Fl × D) → Option (D × Fl)) (t : AM) (r : Env) (xs : List D) (f : Fl) (S : Store) : kBm g t r (.lst xs, f) S = (t r S).bind (kBm1 g xs) := Eq.trans rfl rfl
@[simp] theorem kbm1_ap (g : List D → List (Fl × D) → Option (D × Fl)) (xs : List D) (as : List (Fl × D)) (S : Store) : kBm1 g xs as S = lift0 (g xs as) S := Eq.trans rfl rfl
def kRfB (n j : Nat) (mr : SM) (c : Nat) (p : List D) (S : Store) : Option Bool → Rs (D × Fl)
  | some true => refEnd (mr (.no :: (List.replicate n Slot.no).set j (.ar .c (.ins S.length))) (S ++ [(c, p)]))
  | _ => .no
def kRf (n j : Nat) (l : List (Nat × Bool)) (mr : SM) : Rs (D × Fl) → Rs (D × Fl)
  | .ok _ S1 => refEnd (mr (.no :: (List.replicate n Slot.no).set j (.ar .c .non)) S1)
  | .er c p S1 => kRfB n j mr c p S1 (l.lookup c)
  | .no => .no
@[simp] theorem ref_ap (n j : Nat) (l : List (Nat × Bool)) (mr : SM) (m : EM) (r : Env) (S : Store) : eRef n j l mr m r S = kRf n j l mr (m r S) := by
  unfold eRef kRf
  cases m r S with
  | ok a S1 => rfl
  | no => rfl
  | er c p S1 =>
    dsimp only
    unfold kRfB
    rcases l.lookup c with _ | _ | _ <;> rfl
@[simp] theorem krf_ok (n j : Nat) (l : List (Nat × Bool)) (mr : SM) (a : D × Fl) (S : Store) : kRf n j l mr (.ok a S) = refEnd (mr (.no :: (List.replicate n Slot.no).set j (.ar .c .non)) S) := Eq.trans rfl rfl
@[simp] theorem krf_er (n j : Nat) (l : List (Nat × Bool)) (mr : SM) (c : Nat) (p : List D) (S : Store) : kRf n j l mr (.er c p S) = kRfB n j mr c p S (l.lookup c) := Eq.trans rfl rfl
@[simp] theorem krfb_t (n j : Nat) (mr : SM) (c : Nat) (p : List D) (S : Store) : kRfB n j mr c p S (some true) = refEnd (mr (.no :: (List.replicate n Slot.no).set j (.ar .c (.ins S.length))) (S ++ [(c, p)])) := Eq.trans rfl rfl
@[simp] theorem refEnd_rt (d : D) (f : Fl) (S : Store) : refEnd (.rt d f S) = .ok (d, outf f) S := Eq.trans rfl rfl
@[simp] theorem ks3_f (x : List D) (f : Fl) (l u : Option Int) (S : Store) : kS3 (.frz x, f) l u S = .ok (.lst (cutD x l u), if f = .t then .t else .n) S := Eq.trans rfl rfl
/-! whole numbers -/
theorem shl_n (a j : Nat) (f f' : Fl) (ha : a < 18446744073709551616) (hj : j ≤ 1000000) : gShl (.int (a : Int), f) (.int (j : Int), f') = some (.int ((a * 2 ^ j : Nat) : Int), .c) := by
  have h1 : (j : Int) ≤ 1000000 := by omega
  have h2 : (a : Int).natAbs < 2 ^ 64 := by
    rw [Int.natAbs_natCast]
    exact ha
  show (if (decide (0 ≤ (j : Int)) && decide ((j : Int) ≤ 1000000) && decide ((a : Int).natAbs < 2 ^ 64)) = true then some (D.int ((a : Int) * 2 ^ (j : Int).toNat), Fl.c) else none) = _
  rw [decide_eq_true (show 0 ≤ (j : Int) by omega), decide_eq_true h1, decide_eq_true h2, Int.toNat_natCast]
  simp
theorem shr_n (a j : Nat) (f f' : Fl) : gShr (.int (a : Int), f) (.int (j : Int), f') = some (.int ((a / 2 ^ j : Nat) : Int), .c) := by
  show (if decide (0 ≤ (j : Int)) = true then some (D.int ((a : Int) / 2 ^ (j : Int).toNat), Fl.c) else none) = _
  rw [decide_eq_true (show 0 ≤ (j : Int) by omega), Int.toNat_natCast]
  simp
theorem xor_n (a b : Nat) : PySem.Builtin.bitXor (a : Int) (b : Int) = ((a ^^^ b : Nat) : Int) := by
  exact Bits.bitXor_pp (Int.natCast_nonneg a) (Int.natCast_nonneg b)
theorem or_n (a b : Nat) : PySem.Builtin.bitOr (a : Int) (b : Int) = ((a ||| b : Nat) : Int) := by
  exact Bits.bitOr_pp (Int.natCast_nonneg a) (Int.natCast_nonneg b)
theorem and_n (a b : Nat) : PySem.Builtin.bitAnd (a : Int) (b : Int) = ((a &&& b : Nat) : Int) := by
  simp [PySem.Builtin.bitAnd, (by omega : (0 : Int) ≤ a), (by omega : (0 : Int) ≤ b)]
theorem and1_i (v : Int) (f f' : Fl) : gAnd (.int v, f) (.int 1, f') = some (.int (v % 2), .c) := by
  show some (D.int (PySem.Builtin.bitAnd v 1), Fl.c) = _
  rw [PyProof.Rows.bitAnd_m1]
theorem xor_g (a b : Nat) (f f' : Fl) : gXor (.int (a : Int), f) (.int (b : Int), f') = some (.int ((a ^^^ b : Nat) : Int), .c) := by
  show some (D.int (PySem.Builtin.bitXor a b), Fl.c) = _
  rw [xor_n]
theorem or_g (a b : Nat) (f f' : Fl) : gOr (.int (a : Int), f) (.int (b : Int), f') = some (.int ((a ||| b : Nat) : Int), .c) := by
  show some (D.int (PySem.Builtin.bitOr a b), Fl.c) = _
  rw [or_n]
theorem sub_i (a b : Int) (f f' : Fl) : gSub (.int a, f) (.int b, f') = some (.int (a - b), .c) := Eq.trans rfl rfl
theorem gt_i (a b : Int) (f f' : Fl) : gGt (.int a, f) (.int b, f') = some (.bl (decide (b < a)), .c) := Eq.trans rfl rfl
theorem ge_i (a b : Int) (f f' : Fl) : gGe (.int a, f) (.int b, f') = some (.bl (decide (b ≤ a)), .c) := Eq.trans rfl rfl
theorem mod_i (a b : Int) (f f' : Fl) (h : 0 < b) : gMod (.int a, f) (.int b, f') = some (.int (a % b), .c) := by
  show (if decide (0 < b) = true then some (D.int (a % b), Fl.c) else none) = _
  rw [decide_eq_true h]
  rfl
theorem div_i (a b : Int) (f f' : Fl) (h : 0 < b) (h2 : b.natAbs.log2 < 9000) : gDiv (.int a, f) (.int b, f') = some (.int (a / b), .c) := by
  show (if (decide (0 < b) && decide (b.natAbs.log2 < 9000)) = true then some (D.int (a / b), Fl.c) else none) = _
  rw [decide_eq_true h, decide_eq_true h2]
  rfl
theorem lt_i (a b : Int) (f f' : Fl) : gLt (.int a, f) (.int b, f') = some (.bl (decide (a < b)), .c) := Eq.trans rfl rfl
theorem le_i (a b : Int) (f f' : Fl) : gLe (.int a, f) (.int b, f') = some (.bl (decide (a ≤ b)), .c) := Eq.trans rfl rfl
theorem rangeD_succ (lo c : Int) (n : Nat) : rangeD lo c (n + 1) = .int lo :: rangeD (lo + c) c n := by
  unfold rangeD
  rw [List.range_succ_eq_map, List.map_cons, List.map_map]
  refine congr (congrArg _ (by simp)) (List.map_congr_left fun j _ => ?_)
  show D.int _ = D.int _
  congr 1
  push_cast
  rw [Int.add_mul]
  omega
theorem rangeD_zero (lo c : Int) : rangeD lo c 0 = [] := rfl
end Ev

set_option maxRecDepth 100000
/-! Ev3: the rules of Mv34 to Mv39, applied -/
namespace Ev
open Mv
open PySem (Str sizeLine sizeLine_eq)
open L2 (atI ixN Key)
variable (r : Env) (S S1 : Store) (ma mb mc m mo : EM) (t : AM) (i j n : Nat) (f f' : Fl) (d d' : D) (xs ys : List D)
def kVarD : Option Slot → Store → Rs (D × Fl)
  | some (.deep 0 d), S => .ok (d, .t) S
  | x, S => kVar x S
@[simp] theorem varD_ap : eVarD i r S = kVarD r[i]? S := by
  unfold eVarD kVarD
  rcases e : r[i]? with _ | _ | _ | _ | ⟨_ | _, _⟩ <;> simp [var_ap, e]
@[simp] theorem kvarD_d : kVarD (some (.deep 0 d)) S = .ok (d, .t) S := Eq.trans rfl rfl
@[simp] theorem kvarD_a : kVarD (some (.ar f d)) S = .ok (d, inf f) S := Eq.trans rfl rfl
def kIxD (mi : EM) (r : Env) (S : Store) : Option Slot → Rs (D × Fl)
  | some (.deep 0 d) => (mi r S).bind fun k S1 => match conL d, k.1 with
    | some xs, .int j => match atI xs j with
      | some x => .ok (x, if gnd x then .c else .o) S1
      | none => .no
    | _, _ => .no
  | _ => .no
def kIxD2 (d : D) (k : D × Fl) (S1 : Store) : Rs (D × Fl) := match conL d, k.1 with
    | some xs, .int j => match atI xs j with
      | some x => .ok (x, if gnd x then .c else .o) S1
      | none => .no
    | _, _ => .no
def kIxD3 (S : Store) : Option D → Rs (D × Fl)
  | some x => .ok (x, if gnd x then .c else .o) S
  | none => .no
@[simp] theorem ixD_ap : eIxD i m r S = kIxD m r S r[i]? := Eq.trans rfl rfl
@[simp] theorem kixD_d : kIxD m r S (some (.deep 0 d)) = (m r S).bind (kIxD2 d) := Eq.trans rfl rfl
@[simp] theorem kixD2_l (x : Int) : kIxD2 (.lst xs) (.int x, f) S = kIxD3 S (atI xs x) := by
  show (match atI xs x with
    | some x => Rs.ok (x, if gnd x then Fl.c else .o) S
    | none => .no) = _
  rcases atI xs x with _ | _ <;> rfl
@[simp] theorem kixD2_t (x : Int) : kIxD2 (.tup xs) (.int x, f) S = kIxD3 S (atI xs x) := by
  show (match atI xs x with
    | some x => Rs.ok (x, if gnd x then Fl.c else .o) S
    | none => .no) = _
  rcases atI xs x with _ | _ <;> rfl
@[simp] theorem kixD3_s : kIxD3 S (some d) = .ok (d, if gnd d then .c else .o) S := Eq.trans rfl rfl
@[simp] theorem gnd_lst : gnd (.lst xs) = false := Eq.trans rfl rfl
@[simp] theorem gnd_tup : gnd (.tup xs) = false := Eq.trans rfl rfl
@[simp] theorem gnd_frz : gnd (.frz xs) = false := Eq.trans rfl rfl
def kDeep (i : Nat) (b : SM) (r : Env) (d : D) (S : Store) : SR := if i < r.length then clr i (b (r.set i (deepS d)) S) else .no
@[simp] theorem deep_ap (me : Env → Store → Rs D) (b : SM) : sDeep i me b r S = (me r S).sb r (kDeep i b r) := Eq.trans rfl rfl
@[simp] theorem kdeep_ap (b : SM) (h : i < r.length) : kDeep i b r d S = clr i (b (r.set i (deepS d)) S) := if_pos h
@[simp] theorem deepS_l : deepS (.lst xs) = .deep 0 (.lst xs) := Eq.trans rfl rfl
@[simp] theorem deepS_t : deepS (.tup xs) = .deep 0 (.tup xs) := Eq.trans rfl rfl
@[simp] theorem deepS_n : deepS .non = .ar .c .non := Eq.trans rfl rfl
@[simp] theorem clr_nx : clr i (.nx r S) = .nx (r.set i .no) S := Eq.trans rfl rfl
@[simp] theorem clr_rt : clr i (.rt d f S) = .rt d f S := Eq.trans rfl rfl
def kAd (t : Env → Store → Rs (List D)) (r : Env) (x : D × Fl) (S : Store) : Rs (List D) := if gnd x.1 || (decide (x.2 = .n) && isLg x.1) then (t r S).bind fun ds S2 => .ok (x.1 :: ds) S2 else .no
def kAd2 (d : D) (ds : List D) (S : Store) : Rs (List D) := .ok (d :: ds) S
@[simp] theorem adnil_ap : adNil r S = .ok [] S := Eq.trans rfl rfl
@[simp] theorem adcons_ap (td : Env → Store → Rs (List D)) : adCons m td r S = (m r S).bind (kAd td r) := Eq.trans rfl rfl
@[simp] theorem kad_g (td : Env → Store → Rs (List D)) (h : gnd d = true) : kAd td r (d, f) S = (td r S).bind (kAd2 d) := by
  unfold kAd
  dsimp only
  rw [h, Bool.true_or, if_pos rfl]
  rfl
@[simp] theorem kad_l (td : Env → Store → Rs (List D)) (h : ys.all gnd = true) : kAd td r (.lst ys, .n) S = (td r S).bind (kAd2 (.lst ys)) := by
  unfold kAd
  rw [if_pos (by show (false || (decide (Fl.n = Fl.n) && ys.all gnd)) = true; rw [h]; rfl)]
  rfl
@[simp] theorem kad2_ap (ds : List D) : kAd2 d ds S = .ok (d :: ds) S := Eq.trans rfl rfl
def kLD (ds : List D) (S : Store) : Rs D := if ds.length ≤ sizeLine then .ok (.lst ds) S else .no
@[simp] theorem lstD_ap (td : Env → Store → Rs (List D)) : eLstD td r S = (td r S).bind kLD := Eq.trans rfl rfl
@[simp] theorem kld_ap (ds : List D) (h : ds.length ≤ 16777216) : kLD ds S = .ok (.lst ds) S := if_pos (by rw [sizeLine_eq]; exact h)
theorem gnd_ints (is : List Int) : (is.map D.int).all gnd = true := by simp
/-! what is written -/
def kItD : D → D → Option (List D) := itD
def kItA : Option D → Option (List D)
  | some (.lst ys) => some ys
  | _ => none
@[simp] theorem itD_l (x : Int) : itD (.lst xs) (.int x) = kItA (atI xs x) := by
  show (match atI xs x with
    | some (.lst ys) => some ys
    | _ => none) = _
  unfold kItA
  rcases atI xs x with _ | _ | _ <;> rfl
@[simp] theorem itD_t (x : Int) : itD (.tup xs) (.int x) = kItA (atI xs x) := by
  show (match atI xs x with
    | some (.lst ys) => some ys
    | _ => none) = _
  unfold kItA
  rcases atI xs x with _ | _ | _ <;> rfl
@[simp] theorem kita_ap : kItA (some (.lst ys)) = some ys := Eq.trans rfl rfl
def kApD (i : Nat) (mk mc : EM) (r : Env) (S : Store) : Option Slot → SR
  | some (.deep n d) => (mk r S).sb r fun k S1 => match itD d k.1 with
    | some ys => (mc r S1).sb r fun c S2 => if ys.length + n < sizeLine then .nx (r.set i (.deep (n + 1) d)) S2 else .no
    | none => .no
  | _ => .no
def kApD2 (i n : Nat) (d : D) (mc : EM) (r : Env) (k : D × Fl) (S1 : Store) : SR := match itD d k.1 with
    | some ys => (mc r S1).sb r fun c S2 => if ys.length + n < sizeLine then .nx (r.set i (.deep (n + 1) d)) S2 else .no
    | none => .no
def kApD3 (i n : Nat) (d : D) (mc : EM) (r : Env) (S1 : Store) : Option (List D) → SR
    | some ys => (mc r S1).sb r fun c S2 => if ys.length + n < sizeLine then .nx (r.set i (.deep (n + 1) d)) S2 else .no
    | none => .no
def kApD4 (i n : Nat) (d : D) (r : Env) (ys : List D) (c : D × Fl) (S2 : Store) : SR := if ys.length + n < sizeLine then .nx (r.set i (.deep (n + 1) d)) S2 else .no
@[simp] theorem apD_ap : sApD i ma mc r S = kApD i ma mc r S r[i]? := Eq.trans rfl rfl
@[simp] theorem kapD_d : kApD i ma mc r S (some (.deep n d)) = (ma r S).sb r (kApD2 i n d mc r) := Eq.trans rfl rfl
@[simp] theorem kapD2_ap (k : D × Fl) : kApD2 i n d mc r k S = kApD3 i n d mc r S (itD d k.1) := by
  unfold kApD2 kApD3
  rcases itD d k.1 with _ | _ <;> rfl
@[simp] theorem kapD3_s : kApD3 i n d mc r S (some ys) = (mc r S).sb r (kApD4 i n d r ys) := Eq.trans rfl rfl
@[simp] theorem kapD4_ap (c : D × Fl) (h : ys.length + n < 16777216) : kApD4 i n d r ys c S = .nx (r.set i (.deep (n + 1) d)) S := if_pos (by rw [sizeLine_eq]; exact h)
def kClD (i : Nat) (mk : EM) (r : Env) (S : Store) : Option Slot → SR
  | some (.deep n d) => (mk r S).sb r fun k S1 => match itD d k.1 with
    | some _ => .nx (r.set i (.deep (n + 1) d)) S1
    | none => .no
  | _ => .no
def kClD2 (i n : Nat) (d : D) (r : Env) (k : D × Fl) (S1 : Store) : SR := match itD d k.1 with
    | some _ => .nx (r.set i (.deep (n + 1) d)) S1
    | none => .no
def kClD3 (i n : Nat) (d : D) (r : Env) (S1 : Store) : Option (List D) → SR
    | some _ => .nx (r.set i (.deep (n + 1) d)) S1
    | none => .no
@[simp] theorem clD_ap : sClD i ma r S = kClD i ma r S r[i]? := Eq.trans rfl rfl
@[simp] theorem kclD_d : kClD i ma r S (some (.deep n d)) = (ma r S).sb r (kClD2 i n d r) := Eq.trans rfl rfl
@[simp] theorem kclD2_ap (k : D × Fl) : kClD2 i n d r k S = kClD3 i n d r S (itD d k.1) := by
  unfold kClD2 kClD3
  rcases itD d k.1 with _ | _ <;> rfl
@[simp] theorem kclD3_s : kClD3 i n d r S (some ys) = .nx (r.set i (.deep (n + 1) d)) S := Eq.trans rfl rfl
def kAp0 (i : Nat) (mc : EM) (r : Env) (S : Store) : Option Slot → SR
  | some (.deep n (.lst xs)) => (mc r S).sb r fun c S1 => if xs.length < sizeLine then .nx (r.set i .no) S1 else .no
  | _ => .no
def kAp02 (i : Nat) (xs : List D) (r : Env) (c : D × Fl) (S1 : Store) : SR := if xs.length < sizeLine then .nx (r.set i .no) S1 else .no
@[simp] theorem ap0_ap : sAp0 i mc r S = kAp0 i mc r S r[i]? := Eq.trans rfl rfl
@[simp] theorem kap0_d : kAp0 i mc r S (some (.deep n (.lst xs))) = (mc r S).sb r (kAp02 i xs r) := Eq.trans rfl rfl
@[simp] theorem kap02_ap (c : D × Fl) (h : xs.length < 16777216) : kAp02 i xs r c S = .nx (r.set i .no) S := if_pos (by rw [sizeLine_eq]; exact h)
def kCl0 (i : Nat) (r : Env) (S : Store) : Option Slot → SR
  | some (.deep _ (.lst _)) => .nx (r.set i .no) S
  | _ => .no
@[simp] theorem cl0_ap : sCl0 i r S = kCl0 i r S r[i]? := Eq.trans rfl rfl
@[simp] theorem kcl0_d : kCl0 i r S (some (.deep n (.lst xs))) = .nx (r.set i .no) S := Eq.trans rfl rfl
def kFA (i t : Nat) (r : Env) (S : Store) : Option Slot → SR
  | some (.deep n (.lst xs)) => if i ≠ t ∧ t < r.length ∧ xs.all (allL (n + xs.length)) = true then .nx ((r.set t .no).set i .no) S else .no
  | _ => .no
@[simp] theorem forAp_ap : sForAp i j r S = kFA i j r S r[i]? := Eq.trans rfl rfl
@[simp] theorem kfa_d (h : i ≠ j ∧ j < r.length ∧ xs.all (allL (n + xs.length)) = true) : kFA i j r S (some (.deep n (.lst xs))) = .nx ((r.set j .no).set i .no) S := if_pos h
/-! calls -/
noncomputable def kNC (np : Nat) (mf : FM) (as : List (Fl × D)) (S : Store) : Rs D := if as.length = np ∧ okS S = true then newR (mf as S) S else .no
@[simp] theorem newC_ap (np : Nat) (mf : FM) : eNewC np mf t r S = (t r S).bind (kNC np mf) := Eq.trans rfl rfl
@[simp] theorem knc_ap (np : Nat) (mf : FM) (as : List (Fl × D)) (h : as.length = np ∧ okS S = true) : kNC np mf as S = newR (mf as S) S := if_pos h
@[simp] theorem newR_c (h : okR d = true) : newR (.ok (d, .c) S) S = .ok d S := by
  unfold newR
  dsimp only
  rw [if_pos ⟨rfl, .inl rfl, h⟩]
@[simp] theorem newR_n (h : okR d = true) : newR (.ok (d, .n) S) S = .ok d S := by
  unfold newR
  dsimp only
  rw [if_pos ⟨rfl, .inr rfl, h⟩]
noncomputable def kNM (np : Nat) (tab : Nat → Option FM) (t : AM) (r : Env) : Rs (D × Fl) → Rs D
  | .ok (.ins n, _) S1 => match S1[n]? with
    | some (C, _) => match tab C with
      | some m => (t r S1).bind fun as S2 => if ((Fl.c, D.ins n) :: as).length = np ∧ okS S2 = true then newR (m ((.c, .ins n) :: as) S2) S2 else .no
      | none => .no
    | none => .no
  | _ => .no
noncomputable def kNM1 (np n : Nat) (tab : Nat → Option FM) (t : AM) (r : Env) (S1 : Store) : Option (Nat × List D) → Rs D
  | some (C, _) => match tab C with
      | some m => (t r S1).bind fun as S2 => if ((Fl.c, D.ins n) :: as).length = np ∧ okS S2 = true then newR (m ((.c, .ins n) :: as) S2) S2 else .no
      | none => .no
  | none => .no
noncomputable def kNM2 (np n : Nat) (t : AM) (r : Env) (S1 : Store) : Option FM → Rs D
  | some m => (t r S1).bind fun as S2 => if ((Fl.c, D.ins n) :: as).length = np ∧ okS S2 = true then newR (m ((.c, .ins n) :: as) S2) S2 else .no
  | none => .no
noncomputable def kNM3 (np n : Nat) (m : FM) (as : List (Fl × D)) (S2 : Store) : Rs D := if ((Fl.c, D.ins n) :: as).length = np ∧ okS S2 = true then newR (m ((.c, .ins n) :: as) S2) S2 else .no
@[simp] theorem newM_ap (np : Nat) (tab : Nat → Option FM) : eNewM np tab mo t r S = kNM np tab t r (mo r S) := by
  unfold eNewM kNM
  rcases mo r S with ⟨⟨_ | _ | _ | _ | _ | _ | _ | _ | _ | _, _⟩, _⟩ | _ | _ <;> rfl
@[simp] theorem knm_ap (np : Nat) (tab : Nat → Option FM) : kNM np tab t r (.ok (.ins n, f) S) = kNM1 np n tab t r S S[n]? := by
  show (match S[n]? with
    | some (C, _) => _
    | none => _) = _
  unfold kNM1
  rcases S[n]? with _ | ⟨_, _⟩ <;> rfl
@[simp] theorem knm1_ap (np : Nat) (tab : Nat → Option FM) (C : Nat) (fs : List D) : kNM1 np n tab t r S (some (C, fs)) = kNM2 np n t r S (tab C) := by
  show (match tab C with
    | some m => _
    | none => _) = _
  unfold kNM2
  rcases tab C with _ | _ <;> rfl
@[simp] theorem knm2_ap (np : Nat) (mf : FM) : kNM2 np n t r S (some mf) = (t r S).bind (kNM3 np n mf) := Eq.trans rfl rfl
@[simp] theorem knm3_ap (np : Nat) (mf : FM) (as : List (Fl × D)) (h : as.length + 1 = np ∧ okS S = true) : kNM3 np n mf as S = newR (mf ((.c, .ins n) :: as) S) S := if_pos h
def kFP (np : Nat) (mf : FM) (as : List (Fl × D)) (S : Store) : Rs (D × Fl) := if as.length = np ∧ (as.all fun x => noIns x.2) = true then pureR (mf (as.map fun x => (Fl.c, x.2)) []) S else .no
@[simp] theorem fnP_ap (np : Nat) (mf : FM) : eFnP np mf t r S = (t r S).bind (kFP np mf) := Eq.trans rfl rfl
@[simp] theorem kfp_ap (np : Nat) (mf : FM) (as : List (Fl × D)) (h : as.length = np ∧ (as.all fun x => noIns x.2) = true) : kFP np mf as S = pureR (mf (as.map fun x => (Fl.c, x.2)) []) S := if_pos h
@[simp] theorem pureR_ap (h : gnd1 d = true) : pureR (.ok (d, f) S1) S = .ok (d, .c) S := if_pos h
@[simp] theorem gnd1_bl (b : Bool) : gnd1 (.bl b) = true := Eq.trans rfl rfl
@[simp] theorem gnd1_int (b : Int) : gnd1 (.int b) = true := Eq.trans rfl rfl
theorem noInss_i : ∀ is : List Int, noInss (is.map D.int) = true
  | [] => rfl
  | i :: is => by
    show (noIns (.int i) && noInss (is.map D.int)) = true
    rw [noInss_i is]
    rfl
/-! arguments that are one's own -/
def kOG (t : AM) (r : Env) (x : D × Fl) (S : Store) : Rs (List (Fl × D)) := if gnd x.1 then (t r S).bind fun as S2 => .ok ((.c, x.1) :: as) S2 else .no
def kO2 (x : Fl × D) (as : List (Fl × D)) (S : Store) : Rs (List (Fl × D)) := .ok (x :: as) S
@[simp] theorem aog_ap : aoG m t r S = (m r S).bind (kOG t r) := Eq.trans rfl rfl
@[simp] theorem kog_ap (h : gnd d = true) : kOG t r (d, f) S = (t r S).bind (kO2 (.c, d)) := if_pos h
@[simp] theorem ko2_ap (x : Fl × D) (as : List (Fl × D)) : kO2 x as S = .ok (x :: as) S := Eq.trans rfl rfl
def kOO (t : AM) (r : Env) (S : Store) : Option Slot → Rs (List (Fl × D))
  | some (.own (.lst ys)) => if ys.all gnd then (t r S).bind fun as S2 => .ok ((.o, .lst ys) :: as) S2 else .no
  | _ => .no
@[simp] theorem aoo_ap : aoO i t r S = kOO t r S r[i]? := Eq.trans rfl rfl
@[simp] theorem koo_ap (h : ys.all gnd = true) : kOO t r S (some (.own (.lst ys))) = (t r S).bind (kO2 (.o, .lst ys)) := if_pos h
def kOD (mk : EM) (t : AM) (r : Env) (S : Store) : Option Slot → Rs (List (Fl × D))
  | some (.deep 0 d) => (mk r S).bind fun k S1 => match itD d k.1 with
    | some ys => if ys.all gnd then (t r S1).bind fun as S2 => .ok ((.o, .lst ys) :: as) S2 else .no
    | none => .no
  | _ => .no
def kOD2 (d : D) (t : AM) (r : Env) (k : D × Fl) (S1 : Store) : Rs (List (Fl × D)) := match itD d k.1 with
    | some ys => if ys.all gnd then (t r S1).bind fun as S2 => .ok ((.o, .lst ys) :: as) S2 else .no
    | none => .no
def kOD3 (t : AM) (r : Env) (S1 : Store) : Option (List D) → Rs (List (Fl × D))
    | some ys => if ys.all gnd then (t r S1).bind fun as S2 => .ok ((.o, .lst ys) :: as) S2 else .no
    | none => .no
@[simp] theorem aod_ap : aoD i m t r S = kOD m t r S r[i]? := Eq.trans rfl rfl
@[simp] theorem kod_ap : kOD m t r S (some (.deep 0 d)) = (m r S).bind (kOD2 d t r) := Eq.trans rfl rfl
@[simp] theorem kod2_ap (k : D × Fl) : kOD2 d t r k S = kOD3 t r S (itD d k.1) := by
  unfold kOD2 kOD3
  rcases itD d k.1 with _ | _ <;> rfl
@[simp] theorem kod3_ap (h : ys.all gnd = true) : kOD3 t r S (some ys) = (t r S).bind (kO2 (.o, .lst ys)) := if_pos h
/-! lists that are only read; dict displays -/
def kFz (x : D × Fl) (S1 : Store) : Rs (D × Fl) := match x.1 with
  | .lst xs => if x.2 = .c ∨ x.2 = .n then .ok (.frz xs, .c) S1 else .no
  | _ => .no
@[simp] theorem frz_ap : eFrz m r S = (m r S).bind kFz := Eq.trans rfl rfl
@[simp] theorem kfz_n : kFz (.lst xs, .n) S = .ok (.frz xs, .c) S := by
  unfold kFz
  exact if_pos (.inr rfl)
@[simp] theorem kfz_c : kFz (.lst xs, .c) S = .ok (.frz xs, .c) S := by
  unfold kFz
  exact if_pos (.inl rfl)
def kP1 (mv : EM) (t : PM) (r : Env) (k : D × Fl) (S1 : Store) : Rs (List Key × List D) := (mv r S1).bind fun v S2 => match keyD k.1 with
  | some kk => if okst v.2 v.1 then (t r S2).bind fun p S3 => .ok (kk :: p.1, v.1 :: p.2) S3 else .no
  | none => .no
def kP2 (t : PM) (r : Env) (k v : D × Fl) (S2 : Store) : Rs (List Key × List D) := match keyD k.1 with
  | some kk => if okst v.2 v.1 then (t r S2).bind fun p S3 => .ok (kk :: p.1, v.1 :: p.2) S3 else .no
  | none => .no
def kP3 (kk : Key) (d : D) (p : List Key × List D) (S3 : Store) : Rs (List Key × List D) := .ok (kk :: p.1, d :: p.2) S3
@[simp] theorem dpnil_ap : dpNil r S = .ok ([], []) S := Eq.trans rfl rfl
@[simp] theorem dpcons_ap (tp : PM) : dpCons ma mb tp r S = (ma r S).bind (kP1 mb tp r) := Eq.trans rfl rfl
@[simp] theorem kp1_ap (tp : PM) (k : D × Fl) : kP1 mb tp r k S = (mb r S).bind (kP2 tp r k) := Eq.trans rfl rfl
@[simp] theorem kp2_i (tp : PM) (x : Int) (h : okst f' d = true) : kP2 tp r (.int x, f) (d, f') S = (tp r S).bind (kP3 (.inl x) d) := if_pos h
@[simp] theorem kp2_s (tp : PM) (x : Str) (h : okst f' d = true) : kP2 tp r (.str x, f) (d, f') S = (tp r S).bind (kP3 (.inr x) d) := if_pos h
@[simp] theorem kp3_ap (kk : Key) (ks : List Key) : kP3 kk d (ks, xs) S = .ok (kk :: ks, d :: xs) S := Eq.trans rfl rfl
def kDs (p : List Key × List D) (S1 : Store) : Rs (D × Fl) := if p.1.length ≤ 15 then .ok (.dic (mgD [] [] p.1 p.2).1 (mgD [] [] p.1 p.2).2, .n) S1 else .no
@[simp] theorem disp_ap (mp : PM) : eDisp mp r S = (mp r S).bind kDs := Eq.trans rfl rfl
theorem kds_ap (ks : List Key) (h : ks.length ≤ 15) : kDs (ks, xs) S = .ok (.dic (mgD [] [] ks xs).1 (mgD [] [] ks xs).2, .n) S := if_pos h
end Ev

set_option maxRecDepth 100000
/-! Ev4: what is equal to itself -/
namespace Ev
open Mv
open PySem (Str sizeLine sizeLine_eq PyData SeqAt.shaped)
open L2 (atI ixN)
def kLend (i : Nat) (t : TM) (r : Env) (S : Store) : Option Slot → Rs Bool
  | some (.own d) => t (r.set i (.ar .b d)) S
  | _ => t r S
@[simp] theorem lend_ap (i : Nat) (t : TM) (r : Env) (S : Store) : tLend i t r S = kLend i t r S r[i]? := by
  unfold tLend kLend
  rcases r[i]? with _ | _ | _ | _ | _ <;> rfl
@[simp] theorem klend_o (i : Nat) (t : TM) (r : Env) (S : Store) (d : D) : kLend i t r S (some (.own d)) = t (r.set i (.ar .b d)) S := Eq.trans rfl rfl
@[simp] theorem klend_a (i : Nat) (t : TM) (r : Env) (S : Store) (f : Fl) (d : D) : kLend i t r S (some (.ar f d)) = t r S := Eq.trans rfl rfl
mutual
/-- data of lists and tuples, of that depth at most -/
def plD : Nat → D → Bool
  | _, .non => true
  | _, .bl _ => true
  | _, .int _ => true
  | n + 1, .lst xs => plDs n xs
  | n + 1, .frz xs => plDs n xs
  | n + 1, .tup xs => plDs n xs
  | _, _ => false
def plDs : Nat → List D → Bool
  | _, [] => true
  | n, x :: xs => plD n x && plDs n xs
end
mutual
theorem plD_py : ∀ (n : Nat) (d : D), plD n d = true → ∃ p, toPy d = some p ∧ p.canLay0 = true ∧ p.depth ≤ n ∧ PyData.eqv p p = true
  | n, .non, _ => ⟨.none, by simp [toPy], by simp [PyData.canLay0], by simp [PyData.depth], by simp [PyData.eqv]⟩
  | n, .bl b, _ => ⟨.bool b, by simp [toPy], by simp [PyData.canLay0], by simp [PyData.depth], by simp [PyData.eqv]⟩
  | n, .int i, _ => ⟨.int i, by simp [toPy], by simp [PyData.canLay0], by simp [PyData.depth], by simp [PyData.eqv]⟩
  | n + 1, .lst xs, h => by
    obtain ⟨ps, h1, h2, h3, h4⟩ := plDs_py n xs (by simpa [plD] using h)
    exact ⟨.list ps, by simp [toPy, h1], by simp [PyData.canLay0, h2], by simp [PyData.depth, h3], by simp [PyData.eqv, h4]⟩
  | n + 1, .frz xs, h => by
    obtain ⟨ps, h1, h2, h3, h4⟩ := plDs_py n xs (by simpa [plD] using h)
    exact ⟨.list ps, by simp [toPy, h1], by simp [PyData.canLay0, h2], by simp [PyData.depth, h3], by simp [PyData.eqv, h4]⟩
  | n + 1, .tup xs, h => by
    obtain ⟨ps, h1, h2, h3, h4⟩ := plDs_py n xs (by simpa [plD] using h)
    exact ⟨.tuple ps, by simp [toPy, h1], by simp [PyData.canLay0, h2], by simp [PyData.depth, h3], by simp [PyData.eqv, h4]⟩
  | 0, .lst xs, h => by simp [plD] at h
  | 0, .frz xs, h => by simp [plD] at h
  | 0, .tup xs, h => by simp [plD] at h
  | n, .str z, h => by cases n <;> simp [plD] at h
  | n, .dic _ _, h => by cases n <;> simp [plD] at h
  | n, .ins _, h => by cases n <;> simp [plD] at h
  | n, .cst _, h => by cases n <;> simp [plD] at h
theorem plDs_py : ∀ (n : Nat) (ds : List D), plDs n ds = true → ∃ ps, toPys ds = some ps ∧ PyData.canLayAll0 ps = true ∧ PyData.depthAll ps ≤ n ∧ PyData.eqvAll ps ps = true
  | n, [], _ => ⟨[], by simp [toPys], by simp [PyData.canLayAll0], by simp [PyData.depthAll], by simp [PyData.eqvAll]⟩
  | n, d :: ds, h => by
    rw [plDs, Bool.and_eq_true] at h
    obtain ⟨p, a1, a2, a3, a4⟩ := plD_py n d h.1
    obtain ⟨ps, b1, b2, b3, b4⟩ := plDs_py n ds h.2
    exact ⟨p :: ps, by simp [toPys, a1, b1], by simp [PyData.canLayAll0, a2, b2], by simp [PyData.depthAll]; omega, by simp [PyData.eqvAll, a4, b4]⟩
end
theorem eqO_self {n : Nat} {d : D} (h : plD n d = true) (hn : n ≤ 30) : eqO d d = some true := by
  obtain ⟨p, h1, h2, h3, h4⟩ := plD_py n d h
  have s : SeqAt.shaped p = true := by
    unfold SeqAt.shaped
    rw [h2]
    simp
    omega
  unfold eqO
  split
  · simp
  · simp
  · simp
  · rw [h1]
    dsimp only
    rw [s, h4]
    rfl
theorem plDs_of {n : Nat} : ∀ {ds : List D}, (∀ d ∈ ds, plD n d = true) → plDs n ds = true
  | [], _ => by simp [plDs]
  | d :: ds, h => by
    rw [plDs, h d (List.mem_cons_self ..), plDs_of fun x hx => h x (List.mem_cons_of_mem _ hx)]
    rfl
theorem plD_lst {n : Nat} {ds : List D} (h : ∀ d ∈ ds, plD n d = true) : plD (n + 1) (.lst ds) = true := by
  rw [plD]
  exact plDs_of h
theorem plD_tup {n : Nat} {ds : List D} (h : ∀ d ∈ ds, plD n d = true) : plD (n + 1) (.tup ds) = true := by
  rw [plD]
  exact plDs_of h
theorem plD_int (n : Nat) (i : Int) : plD n (.int i) = true := by simp [plD]
theorem plD_ints (n : Nat) (is : List Int) : plD (n + 1) (.lst (is.map D.int)) = true := plD_lst fun d hd => by
  obtain ⟨i, _, rfl⟩ := List.mem_map.mp hd
  exact plD_int n i
theorem eqO_row {ds : List D} (h : ∀ d ∈ ds, plD 0 d = true) : eqO (.lst ds) (.lst ds) = some true := eqO_self (n := 1) (plD_lst h) (by decide)
end Ev

set_option maxRecDepth 100000
/-! Ev5: the rules of Mv40, applied -/
namespace Ev
open Mv
theorem srtL_ap (iss : List (List Int)) (f : Fl) (h : f ≠ .t) : gSortL [(f, .lst (iss.map rL))] = some (.lst ((sortL iss).map rL), .n) := by
  unfold gSortL
  dsimp only
  rw [if_neg h, rows_of]
  rfl
theorem sortL_perm (iss : List (List Int)) : (sortL iss).Perm iss := List.mergeSort_perm ..
theorem sortL_sorted (iss : List (List Int)) : (sortL iss).Pairwise fun p q => p ≤ q := by
  have h := List.pairwise_mergeSort (le := fun p q : List Int => decide (p ≤ q)) (fun a b c h1 h2 => by
    rw [decide_eq_true_eq] at *
    exact List.le_trans h1 h2) (fun a b => by
    rw [Bool.or_eq_true, decide_eq_true_eq, decide_eq_true_eq]
    exact List.le_total a b) iss
  exact h.imp fun {p q} h => of_decide_eq_true h
end Ev

set_option maxRecDepth 100000
/-! Ev6: more rules of lists that are only read -/
namespace Ev
open Mv
@[simp] theorem seq1_fz (h : List D → List D) (x : List D) (f : Fl) (e : okI f = true) : gSeq1 h [(f, .frz x)] = some (h x) := if_pos e
end Ev

set_option maxRecDepth 100000
/-! Ev7: lists of the frame's own lambdas -/
namespace Ev
open Mv
open L2 PyProof.Rows
open PySem (sizeLine sizeLine_eq Addr)
theorem sLam_k {i : Nat} {b : Addr → SM} {r : Env} {S : Store} {x : SR} (hi : i < r.length) (h : ∀ f, b f (r.set i (.own (.lst [.cst (.ref f)]))) S = x) : sLam i b r S = x := by
  unfold sLam
  rw [if_pos hi]
  exact comm_ap h
theorem sLamA_k {i : Nat} {b : Addr → SM} {r : Env} {S : Store} {x : SR} {xs : List D} (hr : r[i]? = some (.own (.lst xs))) (hx : xs.length < 16777216) (h : ∀ f, b f (r.set i (.own (.lst (xs ++ [.cst (.ref f)])))) S = x) : sLamA i b r S = x := by
  unfold sLamA
  rw [hr]
  dsimp only
  rw [if_pos (by rw [sizeLine_eq]; exact hx)]
  exact comm_ap h
theorem alt_k {ka : Nat} {f g : Addr} {m1 m2 : EM} {r : Env} {S : Store} {x : Rs (D × Fl)} (hg : r[ka]? = some (.ar .c (.cst (.ref g)))) (h1 : g = f → m1 r S = x) (h2 : g ≠ f → m2 r S = x) : eAlt (isAt ka f) m1 m2 r S = x := by
  have e : isAt ka f r = decide (g = f) := by
    unfold isAt
    rw [hg]
  unfold eAlt
  rw [e]
  by_cases c : g = f
  · rw [if_pos (decide_eq_true c)]
    exact h1 c
  · rw [if_neg (by rw [decide_eq_false c]; decide)]
    exact h2 c
theorem refV_k {vs : List Nat} {ka : Nat} {f g : Addr} {n j : Nat} {l : List (Nat × Bool)} {mr : SM} {m : EM} {r : Env} {S : Store} {x : Rs (D × Fl)} (hg : r[ka]? = some (.ar .c (.cst (.ref g)))) (e : g = f) (fr : freeE r vs = true) (h : eRef n j l mr m (wipeE r vs) S = x) : eRefAtV vs ka f n j l mr m r S = x := by
  unfold eRefAtV
  rw [hg]
  dsimp only
  rw [if_pos ⟨e, fr⟩]
  exact h
/-- each test fails and leaves one thing more in the store -/
theorem lams_none {g : GM} {tt : TM} {te : EM} {r : Env} {c : Nat × List D} : ∀ (ds : List D) (S : Store), (∀ d ∈ ds, ∃ r1, g d r = some r1 ∧ ∀ S, tt r1 S = .ok false (S ++ [c])) → compL g tt te r ds S = .ok [] (S ++ List.replicate ds.length c)
  | [], S, _ => by simp [compL]
  | d :: ds, S, h => by
    obtain ⟨r1, e1, e2⟩ := h d (.head _)
    unfold compL
    rw [e1]
    dsimp only
    rw [e2 S]
    dsimp only
    rw [lams_none ds (S ++ [c]) fun d hd => h d (.tail _ hd)]
    simp [List.replicate_succ]
end Ev

set_option maxRecDepth 100000
/-! Ev8: a mirror stepped by hand -/
namespace Ev
open Mv
theorem seq_nx {A T : SM} {r r' : Env} {S S' : Store} (h : A r S = .nx r' S') : sSeq A T r S = T r' S' := by
  rw [seq_ap, h]
  rfl
theorem seq_rt {A T : SM} {r : Env} {S S' : Store} {d : D} {f : Fl} (h : A r S = .rt d f S') : sSeq A T r S = .rt d f S' := by
  rw [seq_ap, h]
  rfl
theorem seq_set {i : Nat} {A : EM} {T : SM} {r : Env} {S S' : Store} {d : D} {f : Fl} (h : A r S = .ok (d, f) S') (hk : okst f d = true) : sSeq (sSet i A) T r S = T (r.set i (.ar .c d)) S' := by
  rw [seq_ap, set_ap, h]
  simp [hk]
theorem seq_own {i : Nat} {A : EM} {T : SM} {r : Env} {S S' : Store} {d : D} (h : A r S = .ok (d, .n) S') : sSeq (sOwn i A) T r S = T (r.set i (.own d)) S' := by
  rw [seq_ap, own_ap, h]
  rfl
theorem if_t {t : TM} {a b : SM} {r : Env} {S S' : Store} {c : Bool} (h : t r S = .ok c S') : sIf t a b r S = if c then a r S' else b r S' := by
  rw [sif_ap, h]
  cases c <;> rfl
theorem seq_if {t : TM} {a b T : SM} {r r' : Env} {S S' S2 : Store} {c : Bool} (h : t r S = .ok c S') (h2 : (if c then a r S' else b r S') = .nx r' S2) : sSeq (sIf t a b) T r S = T r' S2 := seq_nx (by rw [if_t h, h2])
theorem seq_off {t : TM} {a T : SM} {r : Env} {S S' : Store} (h : t r S = .ok false S') : sSeq (sIf t a sNil) T r S = T r S' := seq_nx (by rw [if_t h]; rfl)
/-- a comprehension's tests that all fail, each leaving one thing more in the store -/
theorem lams_noneP {P : Store → Prop} {g : GM} {tt : TM} {te : EM} {r : Env} {c : Nat × List D} (hP : ∀ S, P S → P (S ++ [c])) : ∀ (ds : List D) (S : Store), P S → (∀ d ∈ ds, ∃ r1, g d r = some r1 ∧ ∀ S, P S → tt r1 S = .ok false (S ++ [c])) → compL g tt te r ds S = .ok [] (S ++ List.replicate ds.length c)
  | [], S, _, _ => by simp [compL]
  | d :: ds, S, p, h => by
    obtain ⟨r1, e1, e2⟩ := h d (.head _)
    unfold compL
    rw [e1]
    dsimp only
    rw [e2 S p]
    dsimp only
    rw [lams_noneP hP ds (S ++ [c]) (hP S p) fun d hd => h d (.tail _ hd)]
    simp [List.replicate_succ]
theorem app_at {i : Nat} {S : Store} {x : Nat × List D} (h : S[i]? = some x) (T : Store) : (S ++ T)[i]? = some x := by
  rw [List.getElem?_append_left (List.getElem?_eq_some_iff.mp h).1]
  exact h
end Ev

set_option maxHeartbeats 4000000
/-! the mirrors of codewright_k01_forms_by_rows_of_bits, printed by gen.py -/
namespace Mir
open PySem Mv
set_option maxRecDepth 100000
noncomputable def b__law_row : SM :=
    (sSeq (sOwn 1 (eLst aNil))
    (sSeq (sWhile (tVal (eBin gGt (eVar 0) (eC (.int 0)))) (sSeq (sApp 1 (eBin gMod (eVar 0) (eC (.int 2))))
    (sSet 0 (eBin gDiv (eVar 0) (eC (.int 2))))))
    (sRetV 1)))
noncomputable def m__law_row : FM := fnM 2 b__law_row
noncomputable def b__law_whole : SM :=
    (sRet (eAnd (eCal (gIsi "int" isiInt) (aCons (eVar 0) (aCons (eC (.cst (.ty "int"))) aNil))) (eAnd (eNot (eCal (gIsi "bool" (isiOne "bool")) (aCons (eVar 0) (aCons (eC (.cst (.ty "bool"))) aNil)))) (eBin (gEq false) (eVar 0) (eVar 1)))))
noncomputable def m__law_whole : FM := fnM 2 b__law_whole
noncomputable def b_bits_of : SM :=
    (sRet (eLc (iArgs gRng1 (aCons (eVar 1) aNil)) [2] (gN 2) tYesM (eBin gAnd (eBin gShr (eVar 0) (eVar 2)) (eC (.int 1)))))
noncomputable def m_bits_of : FM := fnM 3 b_bits_of
noncomputable def b_weight : SM :=
    (sSeq (sSet 1 (eC (.int 0)))
    (sSeq (sWhile (tVal (eBin gGt (eVar 0) (eC (.int 0)))) (sSeq (sSet 1 (eBin gAdd (eVar 1) (eBin gAnd (eVar 0) (eC (.int 1)))))
    (sSet 0 (eBin gShr (eVar 0) (eC (.int 1))))))
    (sRetV 1)))
noncomputable def m_weight : FM := fnM 2 b_weight
noncomputable def b_is_odd : SM :=
    (sRet (eBin (gEq false) (eBin gMod (eFn 1 m_weight (aCons (eVar 0) aNil)) (eC (.int 2))) (eC (.int 1))))
noncomputable def m_is_odd : FM := fnM 1 b_is_odd
noncomputable def b_number_of : SM :=
    (sSeq (sSet 1 (eC (.int 0)))
    (sSeq (sFor (iArgs (gSeq1 enumD) (aCons (eVar 0) aNil)) (gT 2 (gsC (gN 2) (gsC (gN 3) gsN))) (sSet 1 (eBin gOr (eVar 1) (eBin gShl (eVar 3) (eVar 2)))))
    (sRetV 1)))
noncomputable def m_number_of : FM := fnM 4 b_number_of
noncomputable def b__law_bits_right : SM :=
    (sSeq (sSet 2 (eFn 1 m__law_row (aCons (eVar 0) aNil)))
    (sSeq (sSet 3 (eFn 1 m_is_odd (aCons (eVar 0) aNil)))
    (sSeq (sIf (tOrM (tNotM (tVal (eFn 2 m__law_whole (aCons (eFn 1 m_weight (aCons (eVar 0) aNil)) (aCons (eCal gSum (aCons (eVar 2) aNil)) aNil))))) (tOrM (tNotM (tVal (eCal (gIsi "bool" (isiOne "bool")) (aCons (eVar 3) (aCons (eC (.cst (.ty "bool"))) aNil))))) (tVal (eBin (gEq true) (eVar 3) (eBin (gEq false) (eBin gMod (eCal gSum (aCons (eVar 2) aNil)) (eC (.int 2))) (eC (.int 1))))))) (sRet (eC (.bl false))) sNil)
    (sSeq (sSet 4 (eFn 2 m_bits_of (aCons (eVar 0) (aCons (eVar 1) aNil))))
    (sSeq (sIf (tOrM (tNotM (tVal (eCal (gIsi "list" (isiOne "list")) (aCons (eVar 4) (aCons (eC (.cst (.ty "list"))) aNil))))) (tVal (eBin (gEq true) (eVar 4) (eSl (eBin gAdd (eVar 2) (eBin gMul (eLst (aCons (eC (.int 0)) aNil)) (eVar 1))) oNo (oSo (eVar 1)))))) (sRet (eC (.bl false))) sNil)
    (sSeq (sSet 5 (eLst (aCons (eCal gList (aCons (eVar 4) aNil)) (aCons (eCal gList (aCons (eVar 2) aNil)) aNil))))
    (sSeq (sSet 6 (eAnd (eFn 2 m__law_whole (aCons (eFn 1 m_number_of (aCons (eVar 4) aNil)) (aCons (eBin gMod (eVar 0) (eBin gShl (eC (.int 1)) (eVar 1))) aNil))) (eFn 2 m__law_whole (aCons (eFn 1 m_number_of (aCons (eVar 2) aNil)) (aCons (eVar 0) aNil)))))
    (sRet (eAnd (eVar 6) (eBin (gEq false) (eLst (aCons (eVar 4) (aCons (eVar 2) aNil))) (eVar 5)))))))))))
noncomputable def m__law_bits_right : FM := fnM 7 b__law_bits_right
noncomputable def b__law_form : SM :=
    (sSeq (sSet 2 (eBin gAdd (eC (.int 1)) (eBin gMod (eVar 0) (eBin gAdd (eVar 1) (eC (.int 1))))))
    (sSeq (sSet 3 (eBin gMod (eBin gAdd (eBin gMul (eBin gDiv (eVar 0) (eC (.int 64))) (eC (.int 2862933555777941757))) (eBin gDiv (eVar 0) (eC (.int 7)))) (eBin gShl (eC (.int 1)) (eVar 2))))
    (sSeq (sSet 4 (eBin gOr (eBin gShl (eC (.int 1)) (eBin gMod (eBin gDiv (eVar 0) (eC (.int 11))) (eVar 2))) (eBin gShl (eC (.int 1)) (eBin gMod (eBin gDiv (eVar 0) (eC (.int 13))) (eVar 2)))))
    (sRet (eBin gIx (eLst (aCons (eVar 3) (aCons (eVar 4) (aCons (eBin gSub (eBin gShl (eC (.int 1)) (eVar 2)) (eC (.int 1))) (aCons (eVar 3) (aCons (eBin gMod (eBin gMod (eBin gDiv (eVar 0) (eC (.int 17))) (eC (.int 4))) (eBin gShl (eC (.int 1)) (eVar 2))) (aCons (eBin gShl (eC (.int 1)) (eBin gSub (eVar 2) (eC (.int 1)))) aNil))))))) (eBin gMod (eBin gDiv (eVar 0) (eC (.int 5))) (eC (.int 6))))))))
noncomputable def m__law_form : FM := fnM 5 b__law_form
noncomputable def b_is_whole : SM :=
    (sRet (eAnd (eCal (gIsi "int" isiInt) (aCons (eVar 0) (aCons (eC (.cst (.ty "int"))) aNil))) (eNot (eCal (gIsi "bool" (isiOne "bool")) (aCons (eVar 0) (aCons (eC (.cst (.ty "bool"))) aNil))))))
noncomputable def m_is_whole : FM := fnM 1 b_is_whole
noncomputable def b_is_among : SM :=
    (sRet (eAnd (eFn 1 m_is_whole (aCons (eVar 0) aNil)) (eChain gLe gLe (eVar 1) (eVar 0) (eVar 2))))
noncomputable def m_is_among : FM := fnM 3 b_is_among
noncomputable def b__law_looks_right : SM :=
    (sSeq (sSet 2 (eAnd (eCal (gIsi "int" isiInt) (aCons (eVar 0) (aCons (eC (.cst (.ty "int"))) aNil))) (eNot (eCal (gIsi "bool" (isiOne "bool")) (aCons (eVar 0) (aCons (eC (.cst (.ty "bool"))) aNil))))))
    (sSeq (sSet 3 (eFn 1 m_is_whole (aCons (eVar 0) aNil)))
    (sSeq (sIf (tOrM (tNotM (tVal (eCal (gIsi "bool" (isiOne "bool")) (aCons (eVar 3) (aCons (eC (.cst (.ty "bool"))) aNil))))) (tVal (eBin (gEq true) (eVar 3) (eVar 2)))) (sRet (eC (.bl false))) sNil)
    (sSeq (sFor (iSeq (eTup (aCons (eTup (aCons (eC (.int 0)) (aCons (eC (.int 3)) aNil))) (aCons (eTup (aCons (eUn gNeg (eC (.int 1))) (aCons (eBin gPow (eC (.int 10)) (eC (.int 30))) aNil))) (aCons (eTup (aCons (eVar 1) (aCons (eVar 1) aNil))) (aCons (eTup (aCons (eBin gAdd (eVar 1) (eC (.int 1))) (aCons (eBin gPow (eC (.int 10)) (eC (.int 40))) aNil))) (aCons (eTup (aCons (eC (.int 1)) (aCons (eC (.int 0)) aNil))) aNil))))))) (gT 2 (gsC (gN 4) (gsC (gN 5) gsN))) (sSeq (sSet 3 (eFn 3 m_is_among (aCons (eVar 0) (aCons (eVar 4) (aCons (eVar 5) aNil)))))
    (sIf (tOrM (tNotM (tVal (eCal (gIsi "bool" (isiOne "bool")) (aCons (eVar 3) (aCons (eC (.cst (.ty "bool"))) aNil))))) (tVal (eBin (gEq true) (eVar 3) (eAnd (eVar 2) (eChain gLe gLe (eVar 4) (eVar 0) (eVar 5)))))) (sRet (eC (.bl false))) sNil)))
    (sRet (eC (.bl true)))))))
noncomputable def m__law_looks_right : FM := fnM 6 b__law_looks_right
noncomputable def b__law_mixed : SM :=
    (sSeq (sSet 2 (eBin gMod (eBin gMul (eBin gAdd (eBin gAdd (eBin gMod (eVar 0) (eC (.int 1000000007))) (eBin gMul (eBin gMul (eC (.int 31)) (eVar 1)) (eVar 1))) (eC (.int 7))) (eC (.int 48271))) (eC (.int 2147483647))))
    (sRet (eBin gMod (eBin gMul (eVar 2) (eBin gAdd (eC (.int 16807)) (eBin gMul (eC (.int 7919)) (eVar 1)))) (eC (.int 2147483629)))))
noncomputable def m__law_mixed : FM := fnM 3 b__law_mixed
noncomputable def b__law_number : SM :=
    (sSeq (sSet 1 (eC (.int 0)))
    (sSeq (sFor (iSeq (eRevL (eVar 0))) (gN 2) (sSet 1 (eBin gAdd (eBin gMul (eC (.int 2)) (eVar 1)) (eVar 2))))
    (sRetV 1)))
noncomputable def m__law_number : FM := fnM 3 b__law_number
noncomputable def b_high_place : SM :=
    (sSeq (sSet 1 (eUn gNeg (eC (.int 1))))
    (sSeq (sWhile (tVal (eBin gGt (eVar 0) (eC (.int 0)))) (sSeq (sSet 1 (eBin gAdd (eVar 1) (eC (.int 1))))
    (sSet 0 (eBin gShr (eVar 0) (eC (.int 1))))))
    (sRetV 1)))
noncomputable def m_high_place : FM := fnM 2 b_high_place
noncomputable def b_need_form : SM :=
    (sIf (tNotM (tVal (eFn 3 m_is_among (aCons (eVar 0) (aCons (eC (.int 0)) (aCons (eC (.int 4294967295)) aNil)))))) (sRaise 1) sNil)
noncomputable def m_need_form : FM := fnM 1 b_need_form
noncomputable def b_degree : SM :=
    (sSeq (sExpr (eFn 1 m_need_form (aCons (eVar 0) aNil)))
    (sRet (eFn 1 m_high_place (aCons (eVar 0) aNil))))
noncomputable def m_degree : FM := fnM 1 b_degree
noncomputable def b_laid_rest : SM :=
    (sSeq (sSet 2 (eFn 1 m_high_place (aCons (eVar 1) aNil)))
    (sSeq (sWhile (tVal (eBin gGe (eFn 1 m_high_place (aCons (eVar 0) aNil)) (eVar 2))) (sSet 0 (eBin gXor (eVar 0) (eBin gShl (eVar 1) (eBin gSub (eFn 1 m_high_place (aCons (eVar 0) aNil)) (eVar 2))))))
    (sRetV 0)))
noncomputable def m_laid_rest : FM := fnM 3 b_laid_rest
noncomputable def b_form_common : SM :=
    (sSeq (sExpr (eFn 1 m_need_form (aCons (eVar 0) aNil)))
    (sSeq (sExpr (eFn 1 m_need_form (aCons (eVar 1) aNil)))
    (sSeq (sWhile (tVal (eBin gGt (eVar 1) (eC (.int 0)))) (sPar 0 1 (eVar 1) (eFn 2 m_laid_rest (aCons (eVar 0) (aCons (eVar 1) aNil)))))
    (sRetV 0))))
noncomputable def m_form_common : FM := fnM 2 b_form_common
noncomputable def b_form_parted : SM :=
    (sSeq (sExpr (eFn 1 m_need_form (aCons (eVar 0) aNil)))
    (sSeq (sExpr (eFn 1 m_need_form (aCons (eVar 1) aNil)))
    (sSeq (sIf (tVal (eBin (gEq false) (eVar 1) (eC (.int 0)))) (sRaise 3) sNil)
    (sSeq (sSet 2 (eFn 1 m_high_place (aCons (eVar 1) aNil)))
    (sSeq (sSet 3 (eC (.int 0)))
    (sSeq (sWhile (tVal (eBin gGe (eFn 1 m_high_place (aCons (eVar 0) aNil)) (eVar 2))) (sSeq (sSet 4 (eBin gSub (eFn 1 m_high_place (aCons (eVar 0) aNil)) (eVar 2)))
    (sSeq (sSet 3 (eBin gOr (eVar 3) (eBin gShl (eC (.int 1)) (eVar 4))))
    (sSet 0 (eBin gXor (eVar 0) (eBin gShl (eVar 1) (eVar 4)))))))
    (sRet (eTup (aCons (eVar 3) (aCons (eVar 0) aNil))))))))))
noncomputable def m_form_parted : FM := fnM 5 b_form_parted
noncomputable def b_form_product : SM :=
    (sSeq (sExpr (eFn 1 m_need_form (aCons (eVar 0) aNil)))
    (sSeq (sExpr (eFn 1 m_need_form (aCons (eVar 1) aNil)))
    (sSeq (sSet 2 (eC (.int 0)))
    (sSeq (sWhile (tVal (eBin gGt (eVar 1) (eC (.int 0)))) (sSeq (sIf (tVal (eBin (gEq false) (eBin gAnd (eVar 1) (eC (.int 1))) (eC (.int 1)))) (sSet 2 (eBin gXor (eVar 2) (eVar 0))) sNil)
    (sSeq (sSet 0 (eBin gShl (eVar 0) (eC (.int 1))))
    (sSet 1 (eBin gShr (eVar 1) (eC (.int 1)))))))
    (sRetV 2)))))
noncomputable def m_form_product : FM := fnM 3 b_form_product
noncomputable def b__law_kind : SM :=
    (sSeq (sOwn 1 (eLst (aCons (eC (.str "form")) (aCons (eC (.str "field")) (aCons (eC (.str "element")) (aCons (eC (.str "nought")) (aCons (eC (.str "row")) (aCons (eC (.str "code")) (aCons (eC (.str "word")) (aCons (eC (.str "span")) (aCons (eC (.str "none")) (aCons (eC (.str "machine")) (aCons (eC (.str "bytes")) (aCons (eC (.str "seal")) aNil))))))))))))))
    (sSeq (sApp 1 (eC (.str "road")))
    (sSeq (sOwn 2 (eLst (aCons (eIsx [("NoneType", false)] [(1, true), (3, false)] (eVar 0)) (aCons (eIsx [("NoneType", false)] [(1, false), (3, false)] (eVar 0)) (aCons (eIsx [("NoneType", false)] [(1, false), (3, false)] (eVar 0)) aNil)))))
    (sSeq (sOwn 2 (eBin gAdd (eVar 2) (eLst (aCons (eIsx [("NoneType", false)] [(1, false), (3, true)] (eVar 0)) (aCons (eIsx [("NoneType", false)] [(1, false), (3, false)] (eVar 0)) (aCons (eIsx [("NoneType", false)] [(1, false), (3, false)] (eVar 0)) aNil))))))
    (sSeq (sOwn 2 (eBin gAdd (eVar 2) (eLst (aCons (eIsx [("NoneType", false)] [(1, false), (3, false)] (eVar 0)) (aCons (eIsx [("NoneType", false)] [(1, false), (3, false)] (eVar 0)) (aCons (eIsx [("NoneType", false)] [(1, false), (3, false)] (eVar 0)) aNil))))))
    (sSeq (sOwn 2 (eBin gAdd (eVar 2) (eLst (aCons (eIsx [("NoneType", false)] [(1, false), (3, false)] (eVar 0)) (aCons (eIsx [("NoneType", false)] [(1, false), (3, false)] (eVar 0)) (aCons (eIsx [("NoneType", false)] [(1, false), (3, false)] (eVar 0)) aNil))))))
    (sSeq (sApp 2 (eIsx [("NoneType", false)] [(1, false), (3, false)] (eVar 0)))
    (sSeq (sIf (tOrM (tVal (eBin (gEq true) (eBm gCntB (eVar 2) (aCons (eC (.bl true)) aNil)) (eC (.int 1)))) (tNotM (tVal (eIsx [("NoneType", false)] [(1, true), (3, true)] (eVar 0))))) (sRet (eC (.str "other"))) sNil)
    (sRet (eBin gIx (eVar 1) (eBm gIdxB (eVar 2) (aCons (eC (.bl true)) aNil))))))))))))
noncomputable def m__law_kind : FM := fnM 3 b__law_kind
noncomputable def r__law_refused : SM :=
    (sRet (eIf (tVal (eBin (gIsN false) (eVar 1) (eC .non))) (eC (.str "")) (eFn 1 m__law_kind (aCons (eVar 1) aNil))))
noncomputable def b__law_odd_right : SM :=
    (sLam 2 fun f0 => (sLamA 2 fun f1 => (sLamA 2 fun f2 => (sLamA 2 fun f3 => (sLamA 2 fun f4 => (sLamA 2 fun f5 => (sLamA 2 fun f6 => (sDem 2 (sRet (eBin (gEq false) (eLc (iSeq (eVar 2)) [3] (gN 3) (tVal (eBin (gEq true) (eAlt (isAt 3 f0) (eRefAtV [3] 3 f0 2 0 [(1, true), (3, true)] r__law_refused (eFn 1 m_degree (aCons (eVar 1) aNil))) (eAlt (isAt 3 f1) (eRefAtV [3] 3 f1 2 0 [(1, true), (3, true)] r__law_refused (eFn 2 m_form_product (aCons (eVar 1) (aCons (eVar 0) aNil)))) (eAlt (isAt 3 f2) (eRefAtV [3] 3 f2 2 0 [(1, true), (3, true)] r__law_refused (eFn 2 m_form_product (aCons (eVar 0) (aCons (eVar 1) aNil)))) (eAlt (isAt 3 f3) (eRefAtV [3] 3 f3 2 0 [(1, true), (3, true)] r__law_refused (eFn 2 m_form_parted (aCons (eVar 1) (aCons (eC (.int 0)) aNil)))) (eAlt (isAt 3 f4) (eRefAtV [3] 3 f4 2 0 [(1, true), (3, true)] r__law_refused (eFn 2 m_form_parted (aCons (eVar 0) (aCons (eVar 1) aNil)))) (eAlt (isAt 3 f5) (eRefAtV [3] 3 f5 2 0 [(1, true), (3, true)] r__law_refused (eFn 2 m_form_common (aCons (eVar 1) (aCons (eVar 0) aNil)))) (eRefAtV [3] 3 f6 2 0 [(1, true), (3, true)] r__law_refused (eFn 2 m_form_common (aCons (eVar 0) (aCons (eVar 1) aNil)))))))))) (eC (.str "form")))) (eC (.bl true))) (eLst aNil)))))))))))
noncomputable def m__law_odd_right : FM := fnM 4 b__law_odd_right
noncomputable def b__law_parted : SM :=
    (sSeq (sOwn 2 (eCal gList (aCons (eVar 0) aNil)))
    (sSeq (sOwn 3 (eBin gMul (eLst (aCons (eC (.int 0)) aNil)) (eBin gAdd (eCal gLen (aCons (eVar 0) aNil)) (eC (.int 1)))))
    (sSeq (sWhile (tVal (eBin gGe (eCal gLen (aCons (eVar 2) aNil)) (eCal gLen (aCons (eVar 1) aNil)))) (sSeq (sSet 4 (eBin gSub (eCal gLen (aCons (eVar 2) aNil)) (eCal gLen (aCons (eVar 1) aNil))))
    (sSeq (sSub 3 (eVar 4) (eC (.int 1)))
    (sSeq (sFor (iArgs (gSeq1 enumD) (aCons (eVar 1) aNil)) (gT 2 (gsC (gN 5) (gsC (gN 6) gsN))) (sSub 2 (eBin gAdd (eVar 4) (eVar 5)) (eBin gMod (eBin gAdd (eBin gIx (eVar 2) (eBin gAdd (eVar 4) (eVar 5))) (eVar 6)) (eC (.int 2)))))
    (sOwn 2 (eFn 1 m__law_row (aCons (eFn 1 m__law_number (aCons (eVar 2) aNil)) aNil)))))))
    (sDem 2 (sRet (eTup (aCons (eFn 1 m__law_row (aCons (eFn 1 m__law_number (aCons (eVar 3) aNil)) aNil)) (aCons (eVar 2) aNil))))))))
noncomputable def m__law_parted : FM := fnM 7 b__law_parted
noncomputable def b__law_common : SM :=
    (sSeq (sWhile (tVal (eBin (gEq true) (eVar 1) (eLst aNil))) (sPar 0 1 (eVar 1) (eBin gIx (eFn 2 m__law_parted (aCons (eVar 0) (aCons (eVar 1) aNil))) (eC (.int 1)))))
    (sRetV 0))
noncomputable def m__law_common : FM := fnM 2 b__law_common
noncomputable def b__law_pair_right : SM :=
    (sSeq (sSet 2 (eTup (aCons (eFn 1 m__law_row (aCons (eVar 0) aNil)) (aCons (eFn 1 m__law_row (aCons (eVar 1) aNil)) aNil))))
    (sSeq (sIf (tNotM (tVal (eFn 2 m__law_whole (aCons (eFn 2 m_form_common (aCons (eVar 0) (aCons (eVar 1) aNil))) (aCons (eFn 1 m__law_number (aCons (eFn 2 m__law_common (aCons (eBin gIx (eVar 2) (eC (.int 0))) (aCons (eBin gIx (eVar 2) (eC (.int 1))) aNil))) aNil)) aNil))))) (sRet (eC (.bl false))) sNil)
    (sSeq (sIf (tVal (eBin (gEq false) (eVar 1) (eC (.int 0)))) (sRet (eBin (gEq false) (eRef 2 0 [(1, true), (3, true)] r__law_refused (eFn 2 m_form_parted (aCons (eVar 0) (aCons (eVar 1) aNil)))) (eC (.str "nought")))) sNil)
    (sSeq (sSet 3 (eFn 2 m_form_parted (aCons (eVar 0) (aCons (eVar 1) aNil))))
    (sSeq (sAsg (gT 2 (gsC (gN 4) (gsC (gN 5) gsN))) (eFn 2 m__law_parted (aCons (eBin gIx (eVar 2) (eC (.int 0))) (aCons (eBin gIx (eVar 2) (eC (.int 1))) aNil))))
    (sSeq (sIf (tOrM (tNotM (tVal (eCal (gIsi "tuple" (isiOne "tuple")) (aCons (eVar 3) (aCons (eC (.cst (.ty "tuple"))) aNil))))) (tVal (eBin (gEq true) (eCal gLen (aCons (eVar 3) aNil)) (eC (.int 2))))) (sRet (eC (.bl false))) sNil)
    (sRet (eAnd (eFn 2 m__law_whole (aCons (eBin gIx (eVar 3) (eC (.int 0))) (aCons (eFn 1 m__law_number (aCons (eVar 4) aNil)) aNil))) (eFn 2 m__law_whole (aCons (eBin gIx (eVar 3) (eC (.int 1))) (aCons (eFn 1 m__law_number (aCons (eVar 5) aNil)) aNil)))))))))))
noncomputable def m__law_pair_right : FM := fnM 6 b__law_pair_right
noncomputable def b__law_product : SM :=
    (sSeq (sOwn 2 (eBin gMul (eLst (aCons (eC (.int 0)) aNil)) (eBin gAdd (eCal gLen (aCons (eVar 0) aNil)) (eCal gLen (aCons (eVar 1) aNil)))))
    (sSeq (sFor (iArgs (gSeq1 enumD) (aCons (eVar 0) aNil)) (gT 2 (gsC (gN 3) (gsC (gN 4) gsN))) (sFor (iArgs (gSeq1 enumD) (aCons (eVar 1) aNil)) (gT 2 (gsC (gN 5) (gsC (gN 6) gsN))) (sSub 2 (eBin gAdd (eVar 3) (eVar 5)) (eBin gMod (eBin gAdd (eBin gIx (eVar 2) (eBin gAdd (eVar 3) (eVar 5))) (eBin gMul (eVar 4) (eVar 6))) (eC (.int 2))))))
    (sRet (eFn 1 m__law_row (aCons (eFn 1 m__law_number (aCons (eVar 2) aNil)) aNil)))))
noncomputable def m__law_product : FM := fnM 7 b__law_product
noncomputable def b_law : SM :=
    (sSeq (sFor (iArgs (gSeq1 enumD) (aCons (eBin gAdd (eSl (eVar 0) oNo (oSo (eC (.int 40)))) (eLst (aCons (eC (.int 6)) aNil))) aNil)) (gT 2 (gsC (gN 1) (gsC (gN 2) gsN))) (sSeq (sSet 3 (eFn 2 m__law_mixed (aCons (eVar 2) (aCons (eVar 1) aNil))))
    (sSeq (sSet 4 (eBin gMod (eVar 3) (eC (.int 32))))
    (sSeq (sSet 5 (eFn 2 m__law_form (aCons (eFn 2 m__law_mixed (aCons (eVar 2) (aCons (eBin gAdd (eVar 1) (eC (.int 1))) aNil))) (aCons (eVar 4) aNil))))
    (sSeq (sSet 6 (eFn 2 m__law_form (aCons (eFn 2 m__law_mixed (aCons (eVar 2) (aCons (eBin gAdd (eVar 1) (eC (.int 2))) aNil))) (aCons (eBin gSub (eC (.int 31)) (eVar 4)) aNil))))
    (sSeq (sSet 7 (eFn 2 m__law_form (aCons (eFn 2 m__law_mixed (aCons (eVar 2) (aCons (eBin gAdd (eVar 1) (eC (.int 3))) aNil))) (aCons (eC (.int 31)) aNil))))
    (sSeq (sFor (iSeq (eTup (aCons (eVar 5) (aCons (eVar 6) (aCons (eVar 7) aNil))))) (gN 8) (sIf (tOrM (tNotM (tVal (eFn 2 m__law_whole (aCons (eFn 1 m_degree (aCons (eVar 8) aNil)) (aCons (eBin gSub (eCal gLen (aCons (eFn 1 m__law_row (aCons (eVar 8) aNil)) aNil)) (eC (.int 1))) aNil))))) (tNotM (tVal (eFn 2 m__law_bits_right (aCons (eVar 8) (aCons (eBin gMod (eBin gDiv (eVar 3) (eC (.int 32))) (eC (.int 36))) aNil)))))) (sRet (eC (.bl false))) sNil))
    (sSeq (sIf (tNotM (tVal (eFn 2 m__law_whole (aCons (eFn 2 m_form_product (aCons (eVar 5) (aCons (eVar 6) aNil))) (aCons (eFn 1 m__law_number (aCons (eFn 2 m__law_product (aCons (eFn 1 m__law_row (aCons (eVar 5) aNil)) (aCons (eFn 1 m__law_row (aCons (eVar 6) aNil)) aNil))) aNil)) aNil))))) (sRet (eC (.bl false))) sNil)
    (sSeq (sFor (iSeq (eTup (aCons (eTup (aCons (eVar 5) (aCons (eVar 6) aNil))) (aCons (eTup (aCons (eVar 7) (aCons (eVar 5) aNil))) (aCons (eTup (aCons (eVar 6) (aCons (eVar 7) aNil))) (aCons (eTup (aCons (eC (.int 0)) (aCons (eVar 5) aNil))) (aCons (eTup (aCons (eVar 7) (aCons (eC (.int 0)) aNil))) aNil))))))) (gT 2 (gsC (gN 9) (gsC (gN 10) gsN))) (sIf (tNotM (tVal (eFn 2 m__law_pair_right (aCons (eVar 9) (aCons (eVar 10) aNil))))) (sRet (eC (.bl false))) sNil))
    (sSeq (sSet 11 (eBin gIx (eLst (aCons (eC .non) (aCons (eC (.bl true)) (aCons (eC (.bl false)) (aCons (eUn gNeg (eC (.int 1))) (aCons (eBin gShl (eC (.int 1)) (eC (.int 32))) (aCons (eC (.str "3")) (aCons (eLst (aCons (eC (.int 1)) aNil)) (aCons (eTup (aCons (eC (.int 1)) aNil)) (aCons eDict0 (aCons (eBin gPow (eC (.int 10)) (eC (.int 30))) aNil))))))))))) (eBin gMod (eBin gDiv (eVar 3) (eC (.int 1000))) (eC (.int 10)))))
    (sSeq (sIf (tNotM (tVal (eFn 2 m__law_odd_right (aCons (eVar 7) (aCons (eVar 11) aNil))))) (sRet (eC (.bl false))) sNil)
    (sIf (tOrM (tNotM (tVal (eFn 2 m__law_looks_right (aCons (eVar 11) (aCons (eVar 3) aNil))))) (tNotM (tVal (eFn 2 m__law_looks_right (aCons (eVar 3) (aCons (eVar 3) aNil)))))) (sRet (eC (.bl false))) sNil))))))))))))
    (sRet (eC (.bl true))))
noncomputable def m_law : FM := fnM 12 b_law
end Mir

set_option maxRecDepth 100000
set_option maxHeartbeats 4000000
namespace Fin
open Mv Mir Ev
open PySem (sizeLine sizeLine_eq)
open L2 (atI ixN)
theorem s_is_whole_int (i : Int) (f : Fl) (S : Store) : m_is_whole [(f, .int i)] S = .ok (.bl true, .c) S := by
  simp [m_is_whole, b_is_whole, isiOne]
def wholeD : D → Bool
  | .int _ => true
  | _ => false
theorem s_is_whole (d : D) (f : Fl) (S : Store) (h : (tyD d).isSome = true) : m_is_whole [(f, d)] S = .ok (.bl (wholeD d), .c) S := by
  cases d with
  | ins n => cases h
  | cst v => cases h
  | _ => simp [m_is_whole, b_is_whole, isiOne, wholeD]
def amongD (d : D) (lo hi : Int) : Bool := match d with
  | .int i => decide (lo ≤ i ∧ i ≤ hi)
  | _ => false
theorem s_is_among (d : D) (lo hi : Int) (f f1 f2 : Fl) (S : Store) (h : (tyD d).isSome = true) : m_is_among [(f, d), (f1, .int lo), (f2, .int hi)] S = .ok (.bl (amongD d lo hi), .c) S := by
  cases d with
  | ins n => cases h
  | cst v => cases h
  | int i =>
    simp [m_is_among, b_is_among, s_is_whole, wholeD, amongD]
    split <;> simp [*]
  | _ => simp [m_is_among, b_is_among, s_is_whole, wholeD, amongD]
def mixF (c k : Int) : Int := (c % 1000000007 + 31 * k * k + 7) * 48271 % 2147483647 * (16807 + 7919 * k) % 2147483629
theorem s_mixed (c k : Int) (f f2 : Fl) (S : Store) (hk : 0 ≤ k ∧ k ≤ 1000) : m__law_mixed [(f, .int c), (f2, .int k)] S = .ok (.int (mixF c k), .c) S := by
  have m1 : mulOk 31 k = true := mulOk_l (by decide)
  have m2 : mulOk (31 * k) k = true := mulOk_r (by omega)
  have m3 : ∀ x : Int, mulOk x 48271 = true := fun x => mulOk_r (by decide)
  have m4 : mulOk 7919 k = true := mulOk_l (by decide)
  have m5 : ∀ x : Int, mulOk x (16807 + 7919 * k) = true := fun x => mulOk_r (by omega)
  simp [m__law_mixed, b__law_mixed, m1, m2, m3, m4, m5, mixF]
theorem mix_nn (c k : Int) : 0 ≤ mixF c k := Int.emod_nonneg _ (by decide)
/-- how many bits -/
def bl : Nat → Nat
  | 0 => 0
  | n + 1 => bl ((n + 1) / 2) + 1
theorem bl_pos {n : Nat} (h : 0 < n) : bl n = bl (n / 2) + 1 := by
  cases n with
  | zero => omega
  | succ n => rw [bl]
theorem lt_iff : ∀ (k n : Nat), n < 2 ^ k ↔ bl n ≤ k := by
  intro k
  induction k with
  | zero =>
    intro n
    cases n with
    | zero => simp [bl]
    | succ n => rw [bl]; omega
  | succ k ih =>
    intro n
    cases n with
    | zero => simp [bl, Nat.two_pow_pos]
    | succ n =>
      rw [bl, Nat.succ_le_succ_iff, ← ih, Nat.pow_succ]
      omega
theorem bl_two {n : Nat} (h : 2 ≤ n) : 2 ≤ bl n := by
  rcases Nat.lt_or_ge (bl n) 2 with q | q
  · have := (lt_iff 1 n).mpr (by omega)
    omega
  · exact q
theorem lt_bl (n : Nat) : n < 2 ^ bl n := (lt_iff _ n).mpr (Nat.le_refl _)
theorem le_bl {n : Nat} (h : 0 < n) : 2 ^ (bl n - 1) ≤ n := by
  rcases Nat.lt_or_ge n (2 ^ (bl n - 1)) with q | q
  · have := (lt_iff _ n).mp q
    have := bl_pos h
    omega
  · exact q
theorem s_high (n : Nat) (f : Fl) (S : Store) : m_high_place [(f, .int n)] S = .ok (.int ((bl n : Int) - 1), .c) S := by
  have go : ∀ (fuel n : Nat) (g : Fl) (acc : Int), n ≤ fuel → ∃ g' , loopN (tVal (eBin gGt (eVar 0) (eC (.int 0)))) (sSeq (sSet 1 (eBin gAdd (eVar 1) (eC (.int 1))))
    (sSet 0 (eBin gShr (eVar 0) (eC (.int 1))))) (fuel + 1) [.ar g (.int n), .ar .c (.int acc)] S = .nx [.ar g' (.int 0), .ar .c (.int (acc + bl n))] S := by
    intro fuel
    induction fuel with
    | zero =>
      intro n g acc h
      have : n = 0 := by omega
      subst this
      exact ⟨g, by simp [loopN, bl]⟩
    | succ k ih =>
      intro n g acc h
      cases n with
      | zero => exact ⟨g, by simp [loopN, bl]⟩
      | succ n =>
        obtain ⟨g', q⟩ := ih ((n + 1) / 2) .c (acc + 1) (by omega)
        refine ⟨g', ?_⟩
        have e3 : (bl (n + 1) : Int) = bl ((n + 1) / 2) + 1 := by
          rw [bl]
          simp
        simp at q
        rw [loopN]
        simp
        rw [q, e3, Int.add_assoc, Int.add_comm 1]
  obtain ⟨g', q⟩ := go n n f (-1) (Nat.le_refl _)
  have q2 := sWhile_of q (by simp)
  have e : (-1 : Int) + bl n = bl n - 1 := by omega
  simp [m_high_place, b_high_place, q2, e]
end Fin

set_option maxRecDepth 100000
set_option maxHeartbeats 4000000
namespace Fin
/-! rows of bits and their numbers -/
theorem bl_sub (h p t x : Nat) (hx : bl x ≤ h + t + 1) (hp : bl p = h + 1) (hb : x / 2 ^ (h + t) % 2 = 1) : bl (x ^^^ (p * 2 ^ t)) ≤ h + t := by
  have x1 : x / 2 ^ (h + t) = 1 := by
    have := (lt_iff (h + t + 1) x).mpr (by omega)
    have := Nat.div_lt_of_lt_mul (show x < 2 ^ (h + t) * 2 by rw [← Nat.pow_succ]; exact this)
    generalize x / 2 ^ (h + t) = v at this hb
    omega
  have p1 : p * 2 ^ t / 2 ^ (h + t) = 1 := by
    rw [Nat.pow_add, Nat.mul_comm (2 ^ h), Nat.mul_comm p, Nat.mul_div_mul_left _ _ (Nat.two_pow_pos t)]
    have h1 := (lt_iff (h + 1) p).mpr (by omega)
    have h2 := le_bl (n := p) (by
      cases p with
      | zero => simp [bl] at hp
      | succ n => omega)
    rw [hp, Nat.add_sub_cancel] at h2
    have h3 := Nat.div_lt_of_lt_mul (show p < 2 ^ h * 2 by rw [← Nat.pow_succ]; exact h1)
    have h4 := Nat.div_pos h2 (Nat.two_pow_pos h)
    generalize p / 2 ^ h = v at h3 h4
    omega
  have e : (x ^^^ (p * 2 ^ t)) / 2 ^ (h + t) = 0 := by
    have q := @Nat.shiftRight_xor_distrib (h + t) x (p * 2 ^ t)
    rw [Nat.shiftRight_eq_div_pow, Nat.shiftRight_eq_div_pow, Nat.shiftRight_eq_div_pow, x1, p1] at q
    rw [q]
    rfl
  rw [← lt_iff]
  rcases Nat.lt_or_ge (x ^^^ (p * 2 ^ t)) (2 ^ (h + t)) with q | q
  · exact q
  · have := Nat.div_pos q (Nat.two_pow_pos _)
    omega
theorem bl_zero {n : Nat} : bl n = 0 ↔ n = 0 := by
  constructor
  · intro h
    rcases Nat.eq_zero_or_pos n with z | z
    · exact z
    · rw [bl_pos z] at h
      omega
  · rintro rfl
    rw [bl]
theorem bl_dec {p x : Nat} (h0 : 0 < p) (h : bl p ≤ bl x) : bl (x ^^^ (p * 2 ^ (bl x - bl p))) < bl x := by
  have p1 := bl_pos h0
  have x0 : 0 < x := by
    rcases Nat.eq_zero_or_pos x with z | z
    · rw [z, bl] at h
      omega
    · exact z
  have hb : x / 2 ^ (bl p - 1 + (bl x - bl p)) % 2 = 1 := by
    rw [show bl p - 1 + (bl x - bl p) = bl x - 1 by omega]
    have h1 := le_bl x0
    have h2 := lt_bl x
    have h3 := Nat.div_lt_of_lt_mul (show x < 2 ^ (bl x - 1) * 2 by rw [← Nat.pow_succ, show (bl x - 1).succ = bl x by omega]; exact h2)
    have h4 := Nat.div_pos h1 (Nat.two_pow_pos _)
    omega
  have := bl_sub (bl p - 1) p (bl x - bl p) x (by omega) (by omega) hb
  omega
def rowF : Nat → List Nat
  | 0 => []
  | n + 1 => (n + 1) % 2 :: rowF ((n + 1) / 2)
theorem rowF_pos {n : Nat} (h : 0 < n) : rowF n = n % 2 :: rowF (n / 2) := by
  cases n with
  | zero => omega
  | succ n => rw [rowF]
theorem rowF_len : ∀ k n, n < k → (rowF n).length = bl n
  | 0, n, h => by omega
  | k + 1, n, h => by
    rcases Nat.eq_zero_or_pos n with z | z
    · rw [z, rowF, bl]; rfl
    · rw [rowF_pos z, bl_pos z, List.length_cons, rowF_len k (n / 2) (by omega)]
theorem row_len (n : Nat) : (rowF n).length = bl n := rowF_len (n + 1) n (by omega)
abbrev Bits (L : List Nat) : Prop := ∀ b ∈ L, b < 2
theorem rowF_bits : ∀ k n, n < k → Bits (rowF n)
  | 0, n, h => by omega
  | k + 1, n, h => by
    rcases Nat.eq_zero_or_pos n with z | z
    · rw [z, rowF]; intro b hb; cases hb
    · rw [rowF_pos z]
      intro b hb
      rcases List.mem_cons.mp hb with e | e
      · rw [e]; omega
      · exact rowF_bits k (n / 2) (by omega) b e
theorem row_bits (n : Nat) : Bits (rowF n) := rowF_bits (n + 1) n (by omega)
def numF : List Nat → Nat
  | [] => 0
  | b :: bs => b + 2 * numF bs
theorem numF_row : ∀ k n, n < k → numF (rowF n) = n
  | 0, n, h => by omega
  | k + 1, n, h => by
    rcases Nat.eq_zero_or_pos n with z | z
    · rw [z, rowF]; rfl
    · rw [rowF_pos z, numF, numF_row k (n / 2) (by omega)]
      omega
theorem num_row (n : Nat) : numF (rowF n) = n := numF_row (n + 1) n (by omega)
theorem tb : ∀ (L : List Nat), Bits L → ∀ i, (numF L).testBit i = decide (L[i]? = some 1)
  | [], _, i => by simp [numF]
  | b :: bs, h, 0 => by
    have hb := h b (.head _)
    rw [numF, Nat.testBit_zero]
    simp only [List.getElem?_cons_zero, Option.some.injEq]
    congr 1
    exact propext ⟨fun z => by omega, fun z => by omega⟩
  | b :: bs, h, i + 1 => by
    have hb := h b (.head _)
    rw [numF, Nat.testBit_succ, show (b + 2 * numF bs) / 2 = numF bs by omega, tb bs (fun x hx => h x (.tail _ hx)) i]
    simp
theorem num_lt : ∀ (L : List Nat), Bits L → numF L < 2 ^ L.length
  | [], _ => by simp [numF]
  | b :: bs, h => by
    have hb := h b (.head _)
    have := num_lt bs fun x hx => h x (.tail _ hx)
    rw [numF, List.length_cons, Nat.pow_succ]
    omega
theorem bits_set {L : List Nat} (h : Bits L) (p c : Nat) (hc : c < 2) : Bits (L.set p c) := fun b hb => by
  rcases List.mem_or_eq_of_mem_set hb with e | e
  · exact h b e
  · rw [e]; exact hc
theorem bits_app {A B : List Nat} (h : Bits A) (h2 : Bits B) : Bits (A ++ B) := fun b hb => by
  rcases List.mem_append.mp hb with e | e
  · exact h b e
  · exact h2 b e
theorem bits_at {L : List Nat} (h : Bits L) {p x : Nat} (e : L[p]? = some x) : x < 2 := h x (List.mem_of_getElem? e)
theorem num_one {L : List Nat} (h : Bits L) {p x : Nat} (e : L[p]? = some x) : numF (L.set p ((x + 1) % 2)) = numF L ^^^ 2 ^ p := by
  have hx := bits_at h e
  have hp := (List.getElem?_eq_some_iff.mp e).1
  refine Nat.eq_of_testBit_eq fun i => ?_
  rw [Nat.testBit_xor, Nat.testBit_two_pow, tb _ (bits_set h p _ (by omega)), tb _ h, List.getElem?_set]
  by_cases hi : p = i
  · subst hi
    rw [if_pos rfl, if_pos hp, e]
    have : x = 0 ∨ x = 1 := by omega
    rcases this with rfl | rfl <;> simp
  · rw [if_neg hi]
    simp [hi]
theorem num_set {L : List Nat} (h : Bits L) {p x c : Nat} (e : L[p]? = some x) (hc : c < 2) : numF (L.set p ((x + c) % 2)) = numF L ^^^ (c * 2 ^ p) := by
  have hx := bits_at h e
  have : c = 0 ∨ c = 1 := by omega
  rcases this with rfl | rfl
  · rw [Nat.add_zero, Nat.mod_eq_of_lt hx, Nat.zero_mul, Nat.xor_zero]
    congr 1
    obtain ⟨h1, h2⟩ := List.getElem?_eq_some_iff.mp e
    rw [← h2]
    exact List.set_getElem_self h1
  · rw [Nat.one_mul]
    exact num_one h e
theorem num_or {L : List Nat} (h : Bits L) {p : Nat} (hp : p < L.length) : numF (L.set p 1) = numF L ||| 2 ^ p := by
  refine Nat.eq_of_testBit_eq fun i => ?_
  rw [Nat.testBit_or, Nat.testBit_two_pow, tb _ (bits_set h p _ (by omega)), tb _ h, List.getElem?_set]
  by_cases hi : p = i
  · subst hi
    rw [if_pos rfl, if_pos hp]
    simp
  · rw [if_neg hi]
    simp [hi]
theorem num_snoc {L : List Nat} (h : Bits L) {x : Nat} (hx : x < 2) : numF (L ++ [x]) = numF L ^^^ (x * 2 ^ L.length) := by
  have : x = 0 ∨ x = 1 := by omega
  refine Nat.eq_of_testBit_eq fun i => ?_
  have hb : Bits (L ++ [x]) := bits_app h (by intro b hb; rw [List.mem_singleton.mp hb]; exact hx)
  rw [tb _ hb, Nat.testBit_xor, tb _ h]
  rcases Nat.lt_trichotomy i L.length with z | z | z
  · rw [List.getElem?_append_left z]
    rcases this with rfl | rfl
    · simp
    · rw [Nat.one_mul, Nat.testBit_two_pow]
      simp [show ¬ L.length = i by omega]
  · subst z
    rw [List.getElem?_append_right (Nat.le_refl _), Nat.sub_self, List.getElem?_eq_none (Nat.le_refl L.length)]
    rcases this with rfl | rfl
    · simp
    · rw [Nat.one_mul, Nat.testBit_two_pow]
      simp
  · rw [List.getElem?_eq_none (by simp; omega), List.getElem?_eq_none (by omega)]
    rcases this with rfl | rfl
    · simp
    · rw [Nat.one_mul, Nat.testBit_two_pow]
      simp [show ¬ L.length = i by omega]
theorem num_snoc_or {L : List Nat} (h : Bits L) {x : Nat} (hx : x < 2) : numF (L ++ [x]) = numF L ||| (x * 2 ^ L.length) := by
  have : x = 0 ∨ x = 1 := by omega
  refine Nat.eq_of_testBit_eq fun i => ?_
  have hb : Bits (L ++ [x]) := bits_app h (by intro b hb; rw [List.mem_singleton.mp hb]; exact hx)
  rw [tb _ hb, Nat.testBit_or, tb _ h]
  rcases Nat.lt_trichotomy i L.length with z | z | z
  · rw [List.getElem?_append_left z]
    rcases this with rfl | rfl
    · simp
    · rw [Nat.one_mul, Nat.testBit_two_pow]
      simp [show ¬ L.length = i by omega]
  · subst z
    rw [List.getElem?_append_right (Nat.le_refl _), Nat.sub_self, List.getElem?_eq_none (Nat.le_refl L.length)]
    rcases this with rfl | rfl
    · simp
    · rw [Nat.one_mul, Nat.testBit_two_pow]
      simp
  · rw [List.getElem?_eq_none (by simp; omega), List.getElem?_eq_none (by omega)]
    rcases this with rfl | rfl
    · simp
    · rw [Nat.one_mul, Nat.testBit_two_pow]
      simp [show ¬ L.length = i by omega]
theorem take_snoc {L : List Nat} {n x : Nat} (e : L[n]? = some x) : L.take (n + 1) = L.take n ++ [x] := by
  rw [List.take_succ, e]
  rfl
theorem take_bits {L : List Nat} (h : Bits L) (n : Nat) : Bits (L.take n) := fun b hb => h b (List.mem_of_mem_take hb)
theorem take_len {L : List Nat} {n x : Nat} (e : L[n]? = some x) : (L.take n).length = n := by
  have := (List.getElem?_eq_some_iff.mp e).1
  rw [List.length_take]
  omega
/-! products without carries -/
theorem xor_mul2 (a b : Nat) : (a ^^^ b) * 2 = (a * 2) ^^^ (b * 2) := by
  have h := @Nat.shiftLeft_xor_distrib 1 a b
  simpa [Nat.shiftLeft_eq] using h
theorem xor_mulp (a b k : Nat) : (a ^^^ b) * 2 ^ k = (a * 2 ^ k) ^^^ (b * 2 ^ k) := by
  have h := @Nat.shiftLeft_xor_distrib k a b
  simpa [Nat.shiftLeft_eq] using h
theorem xor_d2 (a b : Nat) : (a ^^^ b) / 2 = (a / 2) ^^^ (b / 2) := by
  have h := @Nat.shiftRight_xor_distrib 1 a b
  simpa [Nat.shiftRight_eq_div_pow] using h
theorem x4 (a b c d : Nat) : (a ^^^ b) ^^^ (c ^^^ d) = (a ^^^ c) ^^^ (b ^^^ d) := by
  rw [Nat.xor_assoc, ← Nat.xor_assoc b, Nat.xor_comm b c, Nat.xor_assoc c, ← Nat.xor_assoc]
theorem low_x (a : Nat) (h : a % 2 = 1) : a = 1 ^^^ (a / 2 * 2) := by
  refine Nat.eq_of_testBit_eq fun i => ?_
  rw [Nat.testBit_xor]
  cases i with
  | zero => simp [Nat.testBit_zero, h]
  | succ i =>
    rw [Nat.testBit_succ, Nat.testBit_succ, Nat.testBit_succ]
    simp
def cm (a b : Nat) : Nat := if a = 0 then 0 else (a % 2) * b ^^^ (cm (a / 2) b * 2)
termination_by a
decreasing_by omega
theorem cm_zero (b : Nat) : cm 0 b = 0 := by rw [cm]; rfl
theorem cm_eq (a b : Nat) : cm a b = (a % 2) * b ^^^ (cm (a / 2) b * 2) := by
  by_cases h : a = 0
  · subst h
    rw [cm_zero]
    simp [cm_zero]
  · conv => lhs; rw [cm, if_neg h]
theorem cm_r : ∀ k a b, a < k → cm a b = (b % 2) * a ^^^ (cm a (b / 2) * 2)
  | 0, a, b, h => by omega
  | k + 1, a, b, h => by
    by_cases h0 : a = 0
    · subst h0
      simp [cm_zero]
    · rw [cm_eq a b, cm_eq a (b / 2), cm_r k (a / 2) b (by omega), xor_mul2, xor_mul2]
      rw [← Nat.xor_assoc, ← Nat.xor_assoc]
      congr 1
      rcases Nat.mod_two_eq_zero_or_one a with ha | ha <;> rcases Nat.mod_two_eq_zero_or_one b with hb | hb <;> rw [ha, hb] <;> simp only [Nat.zero_mul, Nat.one_mul, Nat.xor_zero, Nat.zero_xor]
      · omega
      · omega
      · have e1 := low_x a ha
        have e2 := low_x b hb
        generalize a / 2 * 2 = x at *
        generalize b / 2 * 2 = y at *
        rw [e1, e2, Nat.xor_assoc, Nat.xor_assoc, Nat.xor_comm y]
theorem cm_right (a b : Nat) : cm a b = (b % 2) * a ^^^ (cm a (b / 2) * 2) := cm_r (a + 1) a b (by omega)
theorem cm_dbl (a b : Nat) : cm a (b * 2) = cm a b * 2 := by
  rw [cm_right a (b * 2), show b * 2 % 2 = 0 by omega, show b * 2 / 2 = b by omega, Nat.zero_mul, Nat.zero_xor]
theorem cm_c : ∀ k a b, a < k → cm a b = cm b a
  | 0, a, b, h => by omega
  | k + 1, a, b, h => by
    by_cases h0 : a = 0
    · subst h0
      rw [cm_zero, cm_right b 0]
      have z : ∀ b, cm b 0 = 0 := fun b => by
        have h := cm_dbl b 0
        rw [Nat.zero_mul] at h
        omega
      simp [z]
    · rw [cm_eq a b, cm_right b a, cm_c k (a / 2) b (by omega)]
theorem cm_comm (a b : Nat) : cm a b = cm b a := cm_c (a + 1) a b (by omega)
theorem cm_xl (b : Nat) : ∀ k a c, a < 2 ^ k → c < 2 ^ k → cm (a ^^^ c) b = cm a b ^^^ cm c b
  | 0, a, c, h1, h2 => by
    obtain rfl : a = 0 := by simpa using h1
    obtain rfl : c = 0 := by simpa using h2
    simp [cm_zero]
  | k + 1, a, c, h1, h2 => by
    rw [Nat.pow_succ] at h1 h2
    rw [cm_eq (a ^^^ c), cm_eq a, cm_eq c, xor_d2, cm_xl b k (a / 2) (c / 2) (by omega) (by omega), xor_mul2]
    have m : (a ^^^ c) % 2 * b = (a % 2 * b) ^^^ (c % 2 * b) := by
      have e : (a ^^^ c) % 2 = (a % 2) ^^^ (c % 2) := by
        have h := @Nat.xor_mod_two_pow a c 1
        simpa using h
      rw [e]
      rcases Nat.mod_two_eq_zero_or_one a with ha | ha <;> rcases Nat.mod_two_eq_zero_or_one c with hb | hb <;> rw [ha, hb] <;> simp
    rw [m, x4]
theorem cm_pow (b : Nat) : ∀ n, cm (2 ^ n) b = b * 2 ^ n
  | 0 => by rw [cm_eq]; simp [cm_zero]
  | n + 1 => by
    rw [cm_eq, Nat.pow_succ, show 2 ^ n * 2 % 2 = 0 by omega, show 2 ^ n * 2 / 2 = 2 ^ n by omega, cm_pow b n]
    simp [Nat.mul_assoc]
theorem cm_snoc {L : List Nat} (h : Bits L) {x : Nat} (hx : x < 2) (b : Nat) : cm (numF (L ++ [x])) b = cm (numF L) b ^^^ (x * b * 2 ^ L.length) := by
  have p := Nat.two_pow_pos L.length
  rw [num_snoc h hx, cm_xl b (L.length + 1) _ _ (by have := num_lt L h; rw [Nat.pow_succ]; omega) (by
    have : x = 0 ∨ x = 1 := by omega
    rcases this with rfl | rfl <;> rw [Nat.pow_succ] <;> omega)]
  congr 1
  have : x = 0 ∨ x = 1 := by omega
  rcases this with rfl | rfl
  · simp [cm_zero]
  · rw [Nat.one_mul, Nat.one_mul, cm_pow]
/-! parting -/
def dvF (p : Nat) : Nat → Nat → Nat → Nat × Nat
  | 0, q, x => (q, x)
  | t + 1, q, x => if bl p ≤ bl x then dvF p t (q ||| 2 ^ (bl x - bl p)) (x ^^^ (p * 2 ^ (bl x - bl p))) else (q, x)
theorem dvF_lt {p : Nat} (h0 : 0 < p) : ∀ t q x, bl x ≤ t → bl (dvF p t q x).2 < bl p
  | 0, q, x, h => by
    have := bl_pos h0
    rw [dvF]
    show bl x < bl p
    omega
  | t + 1, q, x, h => by
    rw [dvF]
    split
    · rename_i z
      have := bl_dec h0 z
      exact dvF_lt h0 t _ _ (by omega)
    · show bl x < bl p
      omega
def rs (a b : Nat) : Nat := (dvF b (bl a) 0 a).2
theorem rs_lt {a b : Nat} (h : 0 < b) : bl (rs a b) < bl b := dvF_lt h _ _ _ (Nat.le_refl _)
def gcF : Nat → Nat → Nat → Nat
  | 0, a, _ => a
  | t + 1, a, b => if b = 0 then a else gcF t b (rs a b)
end Fin

set_option maxRecDepth 100000
set_option maxHeartbeats 4000000
namespace Fin
open Mv Mir Ev
open PySem (sizeLine sizeLine_eq)
open L2 (atI ixN)
def nI (bs : List Nat) : List D := bs.map fun (b : Nat) => D.int (b : Int)
theorem nI_len (bs : List Nat) : (nI bs).length = bs.length := List.length_map _
theorem nI_app (a b : List Nat) : nI (a ++ b) = nI a ++ nI b := List.map_append
theorem nI_get (bs : List Nat) {p x : Nat} (h : bs[p]? = some x) : (nI bs)[p]? = some (.int (x : Int)) := by
  unfold nI
  rw [List.getElem?_map, h]
  rfl
theorem atN {xs : List D} {p : Nat} {d : D} (h : xs[p]? = some d) : atI xs (p : Int) = some d := by
  have := (List.getElem?_eq_some_iff.mp h).1
  unfold atI ixN
  rw [if_pos (by omega), if_pos (by omega)]
  simpa using h
theorem nI_at (bs : List Nat) {p x : Nat} (h : bs[p]? = some x) : atI (nI bs) (p : Int) = some (.int (x : Int)) := atN (nI_get bs h)
theorem ixN_n {n p : Nat} (h : p < n) : ixN n (p : Int) = some p := by
  unfold ixN
  rw [if_pos (by omega), if_pos (by omega)]
  simp
theorem inR_n (n : Nat) (h : n ≤ 1000000) : inR (n : Int) = true := by
  unfold inR
  rw [Bool.and_eq_true, decide_eq_true_eq, decide_eq_true_eq]
  omega
theorem div2_n (a : Nat) (f f' : Fl) : gDiv (.int (a : Int), f) (.int 2, f') = some (.int ((a / 2 : Nat) : Int), .c) := by
  rw [div_i _ _ _ _ (by decide) (by decide +kernel)]
  rfl
theorem mod2_n (a : Nat) (f f' : Fl) : gMod (.int (a : Int), f) (.int 2, f') = some (.int ((a % 2 : Nat) : Int), .c) := by
  rw [mod_i _ _ _ _ (by decide)]
  rfl
theorem loop_go {t : TM} {b : SM} {n : Nat} {r r1 : Env} {S S1 : Store} {x : SR} (h1 : t r S = .ok true S) (h2 : b r S = .nx r1 S1) (h3 : loopN t b n r1 S1 = x) : loopN t b (n + 1) r S = x := by
  rw [loopN, h1]
  show (match b r S with
      | .nx r' S' => loopN t b n r' S'
      | .ct r' S' => loopN t b n r' S'
      | .bk r' S' => .nx r' S'
      | x => x) = x
  rw [h2]
  exact h3
theorem loop_end {t : TM} {b : SM} {n : Nat} {r : Env} {S : Store} (h1 : t r S = .ok false S) : loopN t b (n + 1) r S = .nx r S := by
  rw [loopN, h1]
  rfl
/-! the row of a number -/
noncomputable abbrev gtT (i : Nat) : TM := (tVal (eBin gGt (eVar i) (eC (.int 0))))
theorem gt0_t {i n : Nat} {f : Fl} {r : Env} {S : Store} (h : r[i]? = some (.ar f (.int (n : Int)))) (hn : 0 < n) : gtT i r S = .ok true S := by
  have : (0 : Int) < (n : Int) := by omega
  simp [h, gt_i, this, hn, -int_ap]
theorem gt0_f {i : Nat} {f : Fl} {r : Env} {S : Store} (h : r[i]? = some (.ar f (.int 0))) : gtT i r S = .ok false S := by
  simp [h, gt_i, -int_ap]
noncomputable abbrev rowB : SM := (sSeq (sApp 1 (eBin gMod (eVar 0) (eC (.int 2)))) (sSet 0 (eBin gDiv (eVar 0) (eC (.int 2)))))
theorem row_loop (S : Store) : ∀ (t n : Nat) (acc : List Nat) (g : Fl), n ≤ t → acc.length + bl n ≤ 100000 → ∃ g', loopN (gtT 0) rowB (t + 1) [.ar g (.int (n : Int)), .own (.lst (nI acc))] S = .nx [.ar g' (.int 0), .own (.lst (nI (acc ++ rowF n)))] S
  | t, 0, acc, g, h, hl => ⟨g, by rw [rowF, List.append_nil]; exact loop_end (gt0_f rfl)⟩
  | 0, n + 1, acc, g, h, hl => absurd h (by omega)
  | t + 1, n + 1, acc, g, h, hl => by
    have b := bl_pos (n := n + 1) (by omega)
    obtain ⟨g', q⟩ := row_loop S t ((n + 1) / 2) (acc ++ [(n + 1) % 2]) .c (by omega) (by rw [List.length_append, List.length_singleton]; omega)
    refine ⟨g', loop_go (gt0_t (n := n + 1) rfl (by omega)) (r1 := [.ar .c (.int (((n + 1) / 2 : Nat) : Int)), .own (.lst (nI (acc ++ [(n + 1) % 2])))]) (S1 := S) ?_ ?_⟩
    · have ll : (nI acc).length < 16777216 := by rw [nI_len]; omega
      rw [nI_app, show nI [(n + 1) % 2] = [.int (((n + 1) % 2 : Nat) : Int)] from rfl]
      have m2 := mod2_n (n + 1) (inf g) .c
      have d2 := div2_n (n + 1) (inf g) .c
      generalize nI acc = L at *
      generalize (n + 1) % 2 = x at *
      generalize (n + 1) / 2 = y at *
      generalize ((n + 1 : Nat) : Int) = z at *
      simp [m2, d2, ll, sizeLine_eq, -int_ap]
    · rw [rowF_pos (n := n + 1) (by omega)]
      rw [List.append_assoc] at q
      exact q
theorem s_row (n : Nat) (f : Fl) (S : Store) (h : bl n ≤ 100000) : m__law_row [(f, .int (n : Int))] S = .ok (.lst (nI (rowF n)), .n) S := by
  obtain ⟨g', q⟩ := row_loop S n n [] f (Nat.le_refl _) (by simpa using h)
  have q2 := sWhile_of q (by simp)
  rw [List.nil_append, show nI [] = [] from rfl] at q2
  generalize nI (rowF n) = L at *
  simp [m__law_row, b__law_row, q2]
/-! the number of a row -/
noncomputable abbrev numB : SM := (sSet 1 (eBin gAdd (eBin gMul (eC (.int 2)) (eVar 1)) (eVar 2)))
theorem num_loop (S : Store) (a0 : Slot) : ∀ (L : List Nat) (a : Nat) (s : Slot), ∃ s', forL (gN 2) numB (nI L) [a0, .ar .c (.int (a : Int)), s] S = .nx [a0, .ar .c (.int ((L.foldl (fun a b => b + 2 * a) a : Nat) : Int)), s'] S
  | [], a, s => ⟨s, for_nil⟩
  | b :: L, a, s => by
    obtain ⟨s', q⟩ := num_loop S a0 L (b + 2 * a) (.ar .c (.int (b : Int)))
    refine ⟨s', ?_⟩
    have mo : mulOk 2 (a : Int) = true := mulOk_l (by decide)
    have e : 2 * (a : Int) + (b : Int) = ((b + 2 * a : Nat) : Int) := by omega
    refine (for_cons (r1 := [a0, .ar .c (.int (a : Int)), .ar .c (.int (b : Int))]) rfl (r2 := [a0, .ar .c (.int ((b + 2 * a : Nat) : Int)), .ar .c (.int (b : Int))]) (S2 := S) ?_).trans q
    generalize b + 2 * a = z at *
    simp [mo, e, -int_ap]
theorem num_fold (L : List Nat) : L.reverse.foldl (fun a b => b + 2 * a) 0 = numF L := by
  rw [List.foldl_reverse]
  induction L with
  | nil => rfl
  | cons b L ih => rw [List.foldr_cons, ih, numF]
theorem s_number (L : List Nat) (f : Fl) (S : Store) (hf : okI (inf f) = true) (hf2 : inf f ≠ .t) (hl : L.length ≤ 100000) : m__law_number [(f, .lst (nI L))] S = .ok (.int (numF L : Nat), .c) S := by
  obtain ⟨s', q⟩ := num_loop S (.ar f (.lst (nI L))) L.reverse 0 .no
  rw [num_fold] at q
  have e : (nI L).reverse = nI L.reverse := by
    unfold nI
    rw [List.map_reverse]
  rw [← e, show ((0 : Nat) : Int) = 0 from rfl] at q
  have sr : eRevL (eVar 0) [.ar f (.lst (nI L)), .ar .c (.int 0), .no] S = .ok (.lst (nI L).reverse, .n) S := by
    show (Rs.ok (D.lst (nI L).reverse, if inf f = .t then Fl.t else .n) S) = _
    rw [if_neg hf2]
  generalize nI L = K at *
  generalize numF L = v at *
  show kFn ((sSeq (sSet 1 (eC (.int 0))) (sSeq (sFor (iSeq (eRevL (eVar 0))) (gN 2) numB) (sRetV 1))) [.ar f (.lst K), .no, .no] S) = _
  unfold numB at *
  simp [sr, q]
/-! bits -/
noncomputable abbrev wtB : SM := (sSeq (sSet 1 (eBin gAdd (eVar 1) (eBin gAnd (eVar 0) (eC (.int 1))))) (sSet 0 (eBin gShr (eVar 0) (eC (.int 1)))))
theorem shr1_n (a : Nat) (f f' : Fl) : gShr (.int (a : Int), f) (.int 1, f') = some (.int ((a / 2 : Nat) : Int), .c) := by
  have h := shr_n a 1 f f'
  rw [Nat.pow_one] at h
  exact h
theorem and1_n (a : Nat) (f f' : Fl) : gAnd (.int (a : Int), f) (.int 1, f') = some (.int ((a % 2 : Nat) : Int), .c) := by
  rw [and1_i]
  rfl
theorem wt_loop (S : Store) : ∀ (t n a : Nat) (g : Fl), n ≤ t → ∃ g', loopN (gtT 0) wtB (t + 1) [.ar g (.int (n : Int)), .ar .c (.int (a : Int))] S = .nx [.ar g' (.int 0), .ar .c (.int ((a + (rowF n).sum : Nat) : Int))] S
  | t, 0, a, g, h => ⟨g, by rw [rowF]; exact loop_end (gt0_f rfl)⟩
  | 0, n + 1, a, g, h => absurd h (by omega)
  | t + 1, n + 1, a, g, h => by
    obtain ⟨g', q⟩ := wt_loop S t ((n + 1) / 2) (a + (n + 1) % 2) .c (by omega)
    refine ⟨g', loop_go (gt0_t (n := n + 1) rfl (by omega)) (r1 := [.ar .c (.int (((n + 1) / 2 : Nat) : Int)), .ar .c (.int ((a + (n + 1) % 2 : Nat) : Int))]) (S1 := S) ?_ ?_⟩
    · have m2 := and1_n (n + 1) (inf g) .c
      have d2 := shr1_n (n + 1) (inf g) .c
      have e : (a : Int) + (((n + 1) % 2 : Nat) : Int) = ((a + (n + 1) % 2 : Nat) : Int) := by omega
      generalize a + (n + 1) % 2 = w at *
      generalize (n + 1) % 2 = x at *
      generalize (n + 1) / 2 = y at *
      generalize ((n + 1 : Nat) : Int) = z at *
      simp [m2, d2, e, -int_ap]
    · rw [rowF_pos (n := n + 1) (by omega), List.sum_cons, ← Nat.add_assoc]
      exact q
theorem s_weight (n : Nat) (f : Fl) (S : Store) : m_weight [(f, .int (n : Int))] S = .ok (.int ((rowF n).sum : Nat), .c) S := by
  obtain ⟨g', q⟩ := wt_loop S n n 0 f (Nat.le_refl _)
  have q2 := sWhile_of q (by simp)
  rw [Nat.zero_add, show ((0 : Nat) : Int) = 0 from rfl] at q2
  generalize (rowF n).sum = v at *
  unfold wtB at *
  simp [m_weight, b_weight, q2]
theorem s_is_odd (n : Nat) (f : Fl) (S : Store) : m_is_odd [(f, .int (n : Int))] S = .ok (.bl (decide ((rowF n).sum % 2 = 1)), .c) S := by
  have w := s_weight n (inf f) S
  have m2 := mod2_n (rowF n).sum .c .c
  have e : decide ((((rowF n).sum % 2 : Nat) : Int) = 1) = decide ((rowF n).sum % 2 = 1) := by
    congr 1
    exact propext ⟨fun z => by omega, fun z => by omega⟩
  generalize (rowF n).sum % 2 = y at *
  generalize (rowF n).sum = v at *
  generalize decide (y = 1) = b at *
  simp [m_is_odd, b_is_odd, w, m2, e, -int_ap]
noncomputable abbrev noB : SM := (sSet 1 (eBin gOr (eVar 1) (eBin gShl (eVar 3) (eVar 2))))
theorem enum_inv {xs : List D} {n : Nat} {d : D} (h : (enumD xs)[n]? = some d) : ∃ x, xs[n]? = some x ∧ d = .tup [.int (n : Nat), x] := by
  have hl := (List.getElem?_eq_some_iff.mp h).1
  rw [enumD_length] at hl
  have e := enumD_get (List.getElem?_eq_getElem hl)
  rw [h] at e
  exact ⟨_, List.getElem?_eq_getElem hl, Option.some.inj e⟩
theorem nI_inv {L : List Nat} {n : Nat} {d : D} (h : (nI L)[n]? = some d) : ∃ x, L[n]? = some x ∧ d = .int (x : Int) := by
  unfold nI at h
  rw [List.getElem?_map] at h
  obtain ⟨x, h1, h2⟩ := Option.map_eq_some_iff.mp h
  exact ⟨x, h1, h2.symm⟩
theorem enumN_inv {L : List Nat} {n : Nat} {d : D} (h : (enumD (nI L))[n]? = some d) : ∃ x, L[n]? = some x ∧ d = .tup [.int (n : Int), .int (x : Int)] := by
  obtain ⟨d', h1, rfl⟩ := enum_inv h
  obtain ⟨x, h2, rfl⟩ := nI_inv h1
  exact ⟨x, h2, rfl⟩
theorem s_number_of (L : List Nat) (f : Fl) (S : Store) (hb : Bits L) (hf : okI (inf f) = true) (hl : L.length ≤ 100000) : m_number_of [(f, .lst (nI L))] S = .ok (.int (numF L : Nat), .c) S := by
  obtain ⟨r2, S2, h1, hS2, s2, s3, h2⟩ := for_inv (P := fun j r S' => S' = S ∧ ∃ s2 s3, r = [.ar f (.lst (nI L)), .ar .c (.int (numF (L.take j) : Nat)), s2, s3]) (g := gT 2 (gsC (gN 2) (gsC (gN 3) gsN))) (p := noB) (enumD (nI L)) 0 [.ar f (.lst (nI L)), .ar .c (.int 0), .no, .no] S ⟨rfl, .no, .no, rfl⟩ (fun j d r S' hd hP => by
    obtain ⟨rfl, s2, s3, rfl⟩ := hP
    obtain ⟨x, hx, rfl⟩ := enumN_inv hd
    rw [Nat.zero_add]
    refine ⟨_, rfl, [.ar f (.lst (nI L)), .ar .c (.int (numF (L.take (j + 1)) : Nat)), .ar .c (.int (j : Int)), .ar .c (.int (x : Int))], S', ?_, rfl, _, _, rfl⟩
    rw [take_snoc hx, num_snoc_or (take_bits hb j) (bits_at hb hx), take_len hx]
    have jl := (List.getElem?_eq_some_iff.mp hx).1
    have x2 := bits_at hb hx
    have s1 := shl_n x j .c .c (by omega) (by omega)
    have o1 := or_g (numF (L.take j)) (x * 2 ^ j) .c .c
    generalize x * 2 ^ j = u at *
    generalize numF (L.take j) ||| u = v at *
    generalize numF (L.take j) = w at *
    generalize (j : Int) = ji at *
    generalize (x : Int) = xi at *
    show noB [.ar f (.lst (nI L)), .ar .c (.int (w : Int)), .ar .c (.int ji), .ar .c (.int xi)] S' = _
    simp [s1, o1, -int_ap])
  rw [Nat.zero_add, enumD_length, nI_len, List.take_of_length_le (Nat.le_refl _)] at h2
  subst h2 hS2
  have sq : gSeq1 enumD [(inf f, .lst (nI L))] = some (enumD (nI L)) := if_pos hf
  generalize numF L = v at *
  generalize enumD (nI L) = Z at *
  generalize nI L = K at *
  show kFn ((sSeq (sSet 1 (eC (.int 0))) (sSeq (sFor (iArgs (gSeq1 enumD) (aCons (eVar 0) aNil)) (gT 2 (gsC (gN 2) (gsC (gN 3) gsN))) noB) (sRetV 1))) [.ar f (.lst K), .no, .no, .no] S2) = _
  generalize noB = NB at *
  simp [sq, h1]
def bitsF (n k : Nat) : List Nat := (List.range k).map fun j => n / 2 ^ j % 2
theorem s_bits_of (n k : Nat) (f f2 : Fl) (S : Store) (hk : k ≤ 100000) : m_bits_of [(f, .int (n : Int)), (f2, .int (k : Int))] S = .ok (.lst (nI (bitsF n k)), .n) S := by
  have c := comp_rng [.ar f (.int (n : Int)), .ar f2 (.int (k : Int)), .no] S (gN 2) tYesM (eBin gAnd (eBin gShr (eVar 0) (eVar 2)) (eC (.int 1))) (fun j => .int ((n / 2 ^ j % 2 : Nat) : Int)) 0 k (fun j hj => by
    refine ⟨_, rfl, rfl, .c, ?_, rfl⟩
    rw [show (0 : Int) + (j : Int) = (j : Int) by omega]
    have e1 := shr_n n j (inf f) .c
    have e2 := and1_n (n / 2 ^ j) .c .c
    generalize n / 2 ^ j % 2 = y at *
    generalize n / 2 ^ j = x at *
    show eBin gAnd (eBin gShr (eVar 0) (eVar 2)) (eC (.int 1)) [.ar f (.int (n : Int)), .ar f2 (.int (k : Int)), .ar .c (.int (j : Int))] S = _
    simp [e1, e2, -int_ap])
  have e : (List.range k).map (fun j => D.int ((n / 2 ^ j % 2 : Nat) : Int)) = nI (bitsF n k) := by
    unfold nI bitsF
    rw [List.map_map]
    rfl
  rw [e] at c
  have c2 := kcp_ap [.ar f (.int (n : Int)), .ar f2 (.int (k : Int)), .no] S [2] (gN 2) tYesM (eBin gAnd (eBin gShr (eVar 0) (eVar 2)) (eC (.int 1))) (rangeD 0 1 k) _ S (by simp; omega) c
  have rg : gRng1 [(inf f2, .int (k : Int))] = some (rangeD 0 1 k) := by
    rw [rng1_ap _ _ (inR_n k (by omega)), Int.toNat_natCast]
  have fr : freeE [.ar f (.int (n : Int)), .ar f2 (.int (k : Int)), .no] [2] = true := rfl
  generalize nI (bitsF n k) = L at *
  simp [m_bits_of, b_bits_of, rg, fr, c2, -int_ap, -rng1_ap]
end Fin

set_option maxRecDepth 100000
set_option maxHeartbeats 4000000
namespace Fin
open Mv Mir Ev
open PySem (sizeLine sizeLine_eq)
open L2 (atI ixN)
theorem nI_set (L : List Nat) (p v : Nat) : nI (L.set p v) = (nI L).set p (.int (v : Int)) := by
  unfold nI
  rw [List.map_set]
noncomputable abbrev pInB : SM := (sSub 2 (eBin gAdd (eVar 3) (eVar 5)) (eBin gMod (eBin gAdd (eBin gIx (eVar 2) (eBin gAdd (eVar 3) (eVar 5))) (eBin gMul (eVar 4) (eVar 6))) (eC (.int 2))))
theorem get_ex {L : List Nat} {p : Nat} (h : p < L.length) : ∃ x, L[p]? = some x := ⟨_, List.getElem?_eq_getElem h⟩
theorem pin_step (a0 a1 s5 s6 : Slot) (S : Store) (i j l b x : Nat) (L : List Nat) (hl : l < 2) (hb : b < 2) (e : L[i + j]? = some x) : pInB [a0, a1, .own (.lst (nI L)), .ar .c (.int (i : Int)), .ar .c (.int (l : Int)), .ar .c (.int (j : Int)), .ar .c (.int (b : Int))] S =
    .nx [a0, a1, .own (.lst (nI (L.set (i + j) ((x + l * b) % 2)))), .ar .c (.int (i : Int)), .ar .c (.int (l : Int)), .ar .c (.int (j : Int)), .ar .c (.int (b : Int))] S := by
  have hp := (List.getElem?_eq_some_iff.mp e).1
  have e1 : (i : Int) + (j : Int) = ((i + j : Nat) : Int) := by omega
  have a1' := nI_at L e
  have mo : mulOk (l : Int) (b : Int) = true := mulOk_l (by omega)
  have e2 : (x : Int) + (l : Int) * (b : Int) = ((x + l * b : Nat) : Int) := by push_cast; rfl
  have m2 := mod2_n (x + l * b) .c .c
  have ix : ixN (nI L).length ((i + j : Nat) : Int) = some (i + j) := ixN_n (by rw [nI_len]; exact hp)
  rw [nI_set]
  generalize x + l * b = v at *
  generalize v % 2 = u at *
  generalize i + j = p at *
  generalize nI L = K at *
  generalize (p : Int) = pi at *
  simp [e1, e2, a1', mo, m2, ix, -int_ap]
theorem pin_math (n l t b i j : Nat) (hl : l < 2) : (n ^^^ (l * t * 2 ^ i)) ^^^ (l * b * 2 ^ (i + j)) = n ^^^ (l * (t ^^^ (b * 2 ^ j)) * 2 ^ i) := by
  have : l = 0 ∨ l = 1 := by omega
  rcases this with rfl | rfl
  · simp
  · rw [Nat.one_mul, Nat.one_mul, Nat.one_mul, xor_mulp, Nat.xor_assoc, Nat.mul_assoc b, ← Nat.pow_add, Nat.add_comm j i]
theorem pin_loop (other : List Nat) (a0 a1 : Slot) (S : Store) (i l : Nat) (hl : l < 2) (hb : Bits other) (L : List Nat) (hL : Bits L) (hlen : i + other.length ≤ L.length) (s5 s6 : Slot) :
    ∃ L' s5' s6', Bits L' ∧ L'.length = L.length ∧ numF L' = numF L ^^^ (l * numF other * 2 ^ i) ∧ forL (gT 2 (gsC (gN 5) (gsC (gN 6) gsN))) pInB (enumD (nI other)) [a0, a1, .own (.lst (nI L)), .ar .c (.int (i : Int)), .ar .c (.int (l : Int)), s5, s6] S =
      .nx [a0, a1, .own (.lst (nI L')), .ar .c (.int (i : Int)), .ar .c (.int (l : Int)), s5', s6'] S := by
  obtain ⟨r2, S2, h1, hS2, L', s5', s6', b1, b2, b3, h2⟩ := for_inv (P := fun j r S' => S' = S ∧ ∃ L' s5 s6, Bits L' ∧ L'.length = L.length ∧ numF L' = numF L ^^^ (l * numF (other.take j) * 2 ^ i) ∧ r = [a0, a1, .own (.lst (nI L')), .ar .c (.int (i : Int)), .ar .c (.int (l : Int)), s5, s6])
    (g := gT 2 (gsC (gN 5) (gsC (gN 6) gsN))) (p := pInB) (enumD (nI other)) 0 [a0, a1, .own (.lst (nI L)), .ar .c (.int (i : Int)), .ar .c (.int (l : Int)), s5, s6] S ⟨rfl, L, s5, s6, hL, rfl, by simp [numF], rfl⟩ (fun j d r S' hd hP => by
      obtain ⟨rfl, L', s5, s6, c1, c2, c3, rfl⟩ := hP
      obtain ⟨b, hx, rfl⟩ := enumN_inv hd
      rw [Nat.zero_add] at *
      have jl := (List.getElem?_eq_some_iff.mp hx).1
      have b2 := bits_at hb hx
      obtain ⟨x, ex⟩ := get_ex (L := L') (p := i + j) (by omega)
      refine ⟨_, rfl, _, S', pin_step a0 a1 s5 s6 S' i j l b x L' hl b2 ex, rfl, _, _, _, bits_set c1 _ _ (by omega), by rw [List.length_set]; exact c2, ?_, rfl⟩
      have lb : l * b < 2 := by
        have : l = 0 ∨ l = 1 := by omega
        rcases this with rfl | rfl <;> omega
      rw [num_set c1 ex lb, c3, take_snoc hx, num_snoc (take_bits hb j) b2, take_len hx]
      exact pin_math _ _ _ _ _ _ hl)
  rw [Nat.zero_add, enumD_length, nI_len, List.take_of_length_le (Nat.le_refl _)] at b3
  subst h2 hS2
  exact ⟨L', s5', s6', b1, b2, b3, h1⟩
noncomputable abbrev pOutB : SM := (sFor (iArgs (gSeq1 enumD) (aCons (eVar 1) aNil)) (gT 2 (gsC (gN 5) (gsC (gN 6) gsN))) pInB)
theorem pout_loop (one other : List Nat) (a0 : Slot) (f1 : Fl) (S : Store) (hf : okI (inf f1) = true) (ha : Bits one) (hb : Bits other) (L : List Nat) (hL : Bits L) (h0 : numF L = 0) (hlen : one.length + other.length ≤ L.length) (s3 s4 s5 s6 : Slot) :
    ∃ L' s3' s4' s5' s6', Bits L' ∧ L'.length = L.length ∧ numF L' = cm (numF one) (numF other) ∧ forL (gT 2 (gsC (gN 3) (gsC (gN 4) gsN))) pOutB (enumD (nI one)) [a0, .ar f1 (.lst (nI other)), .own (.lst (nI L)), s3, s4, s5, s6] S =
      .nx [a0, .ar f1 (.lst (nI other)), .own (.lst (nI L')), s3', s4', s5', s6'] S := by
  obtain ⟨r2, S2, h1, hS2, L', s3', s4', s5', s6', b1, b2, b3, h2⟩ := for_inv (P := fun j r S' => S' = S ∧ ∃ L' s3 s4 s5 s6, Bits L' ∧ L'.length = L.length ∧ numF L' = cm (numF (one.take j)) (numF other) ∧ r = [a0, .ar f1 (.lst (nI other)), .own (.lst (nI L')), s3, s4, s5, s6])
    (g := gT 2 (gsC (gN 3) (gsC (gN 4) gsN))) (p := pOutB) (enumD (nI one)) 0 [a0, .ar f1 (.lst (nI other)), .own (.lst (nI L)), s3, s4, s5, s6] S ⟨rfl, L, s3, s4, s5, s6, hL, rfl, by rw [List.take_zero, numF, cm_zero, h0], rfl⟩ (fun j d r S' hd hP => by
      obtain ⟨rfl, L', s3, s4, s5, s6, c1, c2, c3, rfl⟩ := hP
      obtain ⟨l, hx, rfl⟩ := enumN_inv hd
      rw [Nat.zero_add] at *
      have jl := (List.getElem?_eq_some_iff.mp hx).1
      have l2 := bits_at ha hx
      obtain ⟨L2, s5', s6', d1, d2, d3, q⟩ := pin_loop other a0 (.ar f1 (.lst (nI other))) S' j l l2 hb L' c1 (by omega) s5 s6
      refine ⟨_, rfl, [a0, .ar f1 (.lst (nI other)), .own (.lst (nI L2)), .ar .c (.int (j : Int)), .ar .c (.int (l : Int)), s5', s6'], S', ?_, rfl, L2, _, _, _, _, d1, by omega, ?_, rfl⟩
      · have sq : gSeq1 enumD [(inf f1, .lst (nI other))] = some (enumD (nI other)) := if_pos hf
        generalize nI other = K at *
        generalize enumD K = Z at *
        show pOutB [a0, .ar f1 (.lst K), .own (.lst (nI L')), .ar .c (.int (j : Int)), .ar .c (.int (l : Int)), s5, s6] S' = _
        unfold pOutB
        generalize pInB = PB at *
        generalize nI L' = K1 at *
        generalize nI L2 = K2 at *
        simp [sq, q]
      · rw [d3, c3, take_snoc hx, cm_snoc (take_bits ha j) l2, take_len hx])
  rw [Nat.zero_add, enumD_length, nI_len, List.take_of_length_le (Nat.le_refl _)] at b3
  subst h2 hS2
  exact ⟨L', s3', s4', s5', s6', b1, b2, b3, h1⟩
theorem nI_rep (n : Nat) : nI (List.replicate n 0) = List.replicate n (.int 0) := by
  unfold nI
  rw [List.map_replicate]
  rfl
theorem bits_rep (n : Nat) : Bits (List.replicate n 0) := fun b hb => by
  rw [List.eq_of_mem_replicate hb]
  decide
theorem num_rep : ∀ n, numF (List.replicate n 0) = 0
  | 0 => rfl
  | n + 1 => by rw [List.replicate_succ, numF, num_rep n]
theorem mul_rep (n : Nat) (f f' : Fl) (hf : f ≠ .t) (h : n ≤ 100000) : gMul (.lst [.int 0], f) (.int (n : Int), f') = some (.lst (nI (List.replicate n 0)), .n) := by
  rw [mul_li, if_pos ⟨hf, by omega, by omega, by rw [Int.toNat_natCast, sizeLine_eq]; simp; omega⟩, nI_rep, Int.toNat_natCast]
  simp
theorem s_lproduct (one other : List Nat) (f0 f1 : Fl) (S : Store) (hf : okI (inf f1) = true) (hf0 : okI (inf f0) = true) (ha : Bits one) (hb : Bits other) (h1 : one.length ≤ 1000) (h2 : other.length ≤ 1000) : m__law_product [(f0, .lst (nI one)), (f1, .lst (nI other))] S = .ok (.lst (nI (rowF (cm (numF one) (numF other)))), .n) S := by
  obtain ⟨L', s3', s4', s5', s6', b1, b2, b3, q⟩ := pout_loop one other (.ar f0 (.lst (nI one))) f1 S hf ha hb (List.replicate (one.length + other.length) 0) (bits_rep _) (num_rep _) (by simp) .no .no .no .no
  rw [List.length_replicate] at b2
  have ln : (one.length : Int) + (other.length : Int) = ((one.length + other.length : Nat) : Int) := by omega
  have mr := mul_rep (one.length + other.length) .n .c (by decide) (by omega)
  have nu := s_number L' .o S rfl (by decide) (by omega)
  rw [b3] at nu
  have bb : bl (cm (numF one) (numF other)) ≤ 100000 := by
    have := num_lt L' b1
    rw [b3] at this
    have := (lt_iff _ _).mp this
    omega
  have ro := s_row (cm (numF one) (numF other)) .c S bb
  have sq : gSeq1 enumD [(inf f0, .lst (nI one))] = some (enumD (nI one)) := if_pos hf0
  have k1 : (nI one).length = one.length := nI_len _
  have k2 : (nI other).length = other.length := nI_len _
  generalize nI (rowF (cm (numF one) (numF other))) = RR at *
  generalize cm (numF one) (numF other) = c at *
  generalize nI (List.replicate (one.length + other.length) 0) = K0 at *
  generalize one.length + other.length = n at *
  generalize enumD (nI one) = Z at *
  generalize nI one = K1 at *
  generalize nI other = K2 at *
  generalize nI L' = K3 at *
  unfold pOutB pInB at q
  simp only [m__law_product, b__law_product, fnM_ap]
  simp [k1, k2, ln, mr, sq, q, nu, ro, -int_ap, -mul_li]
/-! the program's product -/
noncomputable abbrev fpB : SM := (sSeq (sIf (tVal (eBin (gEq false) (eBin gAnd (eVar 1) (eC (.int 1))) (eC (.int 1)))) (sSet 2 (eBin gXor (eVar 2) (eVar 0))) sNil)
    (sSeq (sSet 0 (eBin gShl (eVar 0) (eC (.int 1)))) (sSet 1 (eBin gShr (eVar 1) (eC (.int 1))))))
theorem shl1_n (a : Nat) (f f' : Fl) (h : a < 18446744073709551616) : gShl (.int (a : Int), f) (.int 1, f') = some (.int ((a * 2 : Nat) : Int), .c) := by
  have h := shl_n a 1 f f' h (by decide)
  rw [Nat.pow_one] at h
  exact h
theorem fp_loop (S : Store) : ∀ (t one other acc : Nat) (g0 g1 : Fl), other ≤ t → one * 2 ^ bl other < 18446744073709551616 → ∃ x0 g', loopN (gtT 1) fpB (t + 1) [.ar g0 (.int (one : Int)), .ar g1 (.int (other : Int)), .ar .c (.int (acc : Int))] S = .nx [x0, .ar g' (.int 0), .ar .c (.int ((acc ^^^ cm other one : Nat) : Int))] S
  | t, one, 0, acc, g0, g1, h, hl => ⟨_, g1, by rw [cm_zero, Nat.xor_zero]; exact loop_end (gt0_f rfl)⟩
  | 0, one, n + 1, acc, g0, g1, h, hl => absurd h (by omega)
  | t + 1, one, n + 1, acc, g0, g1, h, hl => by
    have b := bl_pos (n := n + 1) (by omega)
    rw [b, Nat.pow_succ, Nat.mul_comm (2 ^ _) 2, ← Nat.mul_assoc] at hl
    have p := Nat.two_pow_pos (bl ((n + 1) / 2))
    have h64 : one * 2 < 18446744073709551616 := Nat.lt_of_le_of_lt (Nat.le_mul_of_pos_right _ p) hl
    obtain ⟨x0, g', q⟩ := fp_loop S t (one * 2) ((n + 1) / 2) (acc ^^^ ((n + 1) % 2 * one)) .c .c (by omega) hl
    refine ⟨x0, g', loop_go (gt0_t (n := n + 1) rfl (by omega)) (r1 := [.ar .c (.int ((one * 2 : Nat) : Int)), .ar .c (.int (((n + 1) / 2 : Nat) : Int)), .ar .c (.int ((acc ^^^ ((n + 1) % 2 * one) : Nat) : Int))]) (S1 := S) ?_ ?_⟩
    · have m2 := and1_n (n + 1) (inf g1) .c
      have d2 := shr1_n (n + 1) (inf g1) .c
      have s1 := shl1_n one (inf g0) .c (by omega)
      have xg := xor_g acc one .c (inf g0)
      rcases Nat.mod_two_eq_zero_or_one (n + 1) with z | z
      · rw [z] at m2 ⊢
        rw [Nat.zero_mul, Nat.xor_zero]
        rw [show ((0 : Nat) : Int) = 0 from rfl] at m2
        generalize (n + 1) / 2 = y at *
        generalize one * 2 = o2 at *
        generalize ((n + 1 : Nat) : Int) = zi at *
        simp [m2, d2, s1, -int_ap]
      · rw [z] at m2 ⊢
        rw [Nat.one_mul]
        rw [show ((1 : Nat) : Int) = 1 from rfl] at m2
        generalize (n + 1) / 2 = y at *
        generalize acc ^^^ one = ao at *
        generalize one * 2 = o2 at *
        generalize ((n + 1 : Nat) : Int) = zi at *
        simp [m2, d2, s1, xg, -int_ap]
    · rw [cm_eq (n + 1) one, ← cm_dbl, ← Nat.xor_assoc]
      exact q
theorem s_need (x : Nat) (f : Fl) (S : Store) (h : x < 4294967296) : m_need_form [(f, .int x)] S = .ok (.non, .c) S := by
  have e := s_is_among (.int (x : Int)) 0 4294967295 (inf f) .c .c S rfl
  have t : amongD (.int (x : Int)) 0 4294967295 = true := decide_eq_true (by omega)
  rw [t] at e
  simp [m_need_form, b_need_form, e]
theorem s_product (a b : Nat) (f0 f1 : Fl) (S : Store) (ha : a < 4294967296) (hb : b < 4294967296) : m_form_product [(f0, .int (a : Int)), (f1, .int (b : Int))] S = .ok (.int ((cm b a : Nat) : Int), .c) S := by
  have n1 := s_need a (inf f0) S ha
  have n2 := s_need b (inf f1) S hb
  have b32 := (lt_iff 32 b).mp hb
  have p : 2 ^ bl b ≤ 2 ^ 32 := Nat.pow_le_pow_right (by decide) b32
  have hm : a * 2 ^ bl b < 18446744073709551616 := by
    have := Nat.mul_le_mul (Nat.le_refl a) p
    omega
  obtain ⟨x0, g', q⟩ := fp_loop S b a b 0 f0 f1 (Nat.le_refl _) hm
  have q2 := sWhile_of q (by simp)
  rw [Nat.zero_xor, show ((0 : Nat) : Int) = 0 from rfl] at q2
  generalize cm b a = v at *
  unfold fpB gtT at *
  simp [m_form_product, b_form_product, n1, n2, q2, -int_ap]
end Fin

set_option maxRecDepth 100000
set_option maxHeartbeats 4000000
namespace Fin
open Mv Mir Ev
open PySem (sizeLine sizeLine_eq)
open L2 (atI ixN)
/-! the law's parting -/
noncomputable abbrev qInB : SM := (sSub 2 (eBin gAdd (eVar 4) (eVar 5)) (eBin gMod (eBin gAdd (eBin gIx (eVar 2) (eBin gAdd (eVar 4) (eVar 5))) (eVar 6)) (eC (.int 2))))
theorem qin_step (a0 a1 a3 s5 s6 : Slot) (S : Store) (i j b x : Nat) (L : List Nat) (hb : b < 2) (e : L[i + j]? = some x) : qInB [a0, a1, .own (.lst (nI L)), a3, .ar .c (.int (i : Int)), .ar .c (.int (j : Int)), .ar .c (.int (b : Int))] S =
    .nx [a0, a1, .own (.lst (nI (L.set (i + j) ((x + b) % 2)))), a3, .ar .c (.int (i : Int)), .ar .c (.int (j : Int)), .ar .c (.int (b : Int))] S := by
  have hp := (List.getElem?_eq_some_iff.mp e).1
  have e1 : (i : Int) + (j : Int) = ((i + j : Nat) : Int) := by omega
  have a1' := nI_at L e
  have e2 : (x : Int) + (b : Int) = ((x + b : Nat) : Int) := by omega
  have m2 := mod2_n (x + b) .c .c
  have ix : ixN (nI L).length ((i + j : Nat) : Int) = some (i + j) := ixN_n (by rw [nI_len]; exact hp)
  rw [nI_set]
  generalize x + b = v at *
  generalize v % 2 = u at *
  generalize i + j = p at *
  generalize nI L = K at *
  generalize (p : Int) = pi at *
  simp [e1, e2, a1', m2, ix, -int_ap]
theorem qin_loop (other : List Nat) (a0 a1 a3 : Slot) (S : Store) (i : Nat) (hb : Bits other) (L : List Nat) (hL : Bits L) (hlen : i + other.length ≤ L.length) (s5 s6 : Slot) :
    ∃ L' s5' s6', Bits L' ∧ L'.length = L.length ∧ numF L' = numF L ^^^ (numF other * 2 ^ i) ∧ forL (gT 2 (gsC (gN 5) (gsC (gN 6) gsN))) qInB (enumD (nI other)) [a0, a1, .own (.lst (nI L)), a3, .ar .c (.int (i : Int)), s5, s6] S =
      .nx [a0, a1, .own (.lst (nI L')), a3, .ar .c (.int (i : Int)), s5', s6'] S := by
  obtain ⟨r2, S2, h1, hS2, L', s5', s6', b1, b2, b3, h2⟩ := for_inv (P := fun j r S' => S' = S ∧ ∃ L' s5 s6, Bits L' ∧ L'.length = L.length ∧ numF L' = numF L ^^^ (numF (other.take j) * 2 ^ i) ∧ r = [a0, a1, .own (.lst (nI L')), a3, .ar .c (.int (i : Int)), s5, s6])
    (g := gT 2 (gsC (gN 5) (gsC (gN 6) gsN))) (p := qInB) (enumD (nI other)) 0 [a0, a1, .own (.lst (nI L)), a3, .ar .c (.int (i : Int)), s5, s6] S ⟨rfl, L, s5, s6, hL, rfl, by simp [numF], rfl⟩ (fun j d r S' hd hP => by
      obtain ⟨rfl, L', s5, s6, c1, c2, c3, rfl⟩ := hP
      obtain ⟨b, hx, rfl⟩ := enumN_inv hd
      rw [Nat.zero_add] at *
      have jl := (List.getElem?_eq_some_iff.mp hx).1
      have b2 := bits_at hb hx
      obtain ⟨x, ex⟩ := get_ex (L := L') (p := i + j) (by omega)
      refine ⟨_, rfl, _, S', qin_step a0 a1 a3 s5 s6 S' i j b x L' b2 ex, rfl, _, _, _, bits_set c1 _ _ (by omega), by rw [List.length_set]; exact c2, ?_, rfl⟩
      rw [num_set c1 ex b2, c3, take_snoc hx, num_snoc (take_bits hb j) b2, take_len hx]
      have h := pin_math (numF L) 1 (numF (other.take j)) b i j (by decide)
      rw [Nat.one_mul, Nat.one_mul, Nat.one_mul] at h
      exact h)
  rw [Nat.zero_add, enumD_length, nI_len, List.take_of_length_le (Nat.le_refl _)] at b3
  subst h2 hS2
  exact ⟨L', s5', s6', b1, b2, b3, h1⟩
noncomputable abbrev lqT : TM := (tVal (eBin gGe (eCal gLen (aCons (eVar 2) aNil)) (eCal gLen (aCons (eVar 1) aNil))))
noncomputable abbrev lqB : SM := (sSeq (sSet 4 (eBin gSub (eCal gLen (aCons (eVar 2) aNil)) (eCal gLen (aCons (eVar 1) aNil))))
    (sSeq (sSub 3 (eVar 4) (eC (.int 1)))
    (sSeq (sFor (iArgs (gSeq1 enumD) (aCons (eVar 1) aNil)) (gT 2 (gsC (gN 5) (gsC (gN 6) gsN))) qInB)
    (sOwn 2 (eFn 1 m__law_row (aCons (eFn 1 m__law_number (aCons (eVar 2) aNil)) aNil))))))
theorem row_len' (n : Nat) : (nI (rowF n)).length = bl n := by rw [nI_len, row_len]
theorem lq_test (a0 a3 s4 s5 s6 : Slot) (S : Store) (p x : Nat) : lqT [a0, .ar .c (.lst (nI (rowF p))), .own (.lst (nI (rowF x))), a3, s4, s5, s6] S = .ok (decide (bl p ≤ bl x)) S := by
  have k1 := row_len' p
  have k2 := row_len' x
  have e := ge_i (bl x : Int) (bl p : Int) .c .c
  have d : decide ((bl p : Int) ≤ (bl x : Int)) = decide (bl p ≤ bl x) := by
    congr 1
    exact propext ⟨fun z => by omega, fun z => by omega⟩
  rw [d] at e
  generalize decide (bl p ≤ bl x) = b at *
  generalize nI (rowF p) = K1 at *
  generalize nI (rowF x) = K2 at *
  simp [k1, k2, e, -int_ap]
theorem lq_step (a0 s4 s5 s6 : Slot) (S : Store) (p x : Nat) (h0 : 0 < p) (h : bl p ≤ bl x) (hx : bl x ≤ 1000) (Lq : List Nat) (hq : Bits Lq) (hl : bl x < Lq.length) :
    ∃ s4' s5' s6', lqB [a0, .ar .c (.lst (nI (rowF p))), .own (.lst (nI (rowF x))), .own (.lst (nI Lq)), s4, s5, s6] S =
      .nx [a0, .ar .c (.lst (nI (rowF p))), .own (.lst (nI (rowF (x ^^^ (p * 2 ^ (bl x - bl p)))))), .own (.lst (nI (Lq.set (bl x - bl p) 1))), s4', s5', s6'] S := by
  obtain ⟨L', s5', s6', b1, b2, b3, q⟩ := qin_loop (rowF p) a0 (.ar .c (.lst (nI (rowF p)))) (.own (.lst (nI (Lq.set (bl x - bl p) 1)))) S (bl x - bl p) (row_bits p) (rowF x) (row_bits x) (by rw [row_len, row_len]; omega) s5 s6
  rw [num_row, num_row] at b3
  refine ⟨.ar .c (.int ((bl x - bl p : Nat) : Int)), s5', s6', ?_⟩
  have k1 := row_len' p
  have k2 := row_len' x
  have e : (bl x : Int) - (bl p : Int) = ((bl x - bl p : Nat) : Int) := by omega
  have ix : ixN (nI Lq).length ((bl x - bl p : Nat) : Int) = some (bl x - bl p) := ixN_n (by rw [nI_len]; omega)
  rw [row_len] at b2
  have nu := s_number L' .o S rfl (by decide) (by omega)
  rw [b3] at nu
  have ro := s_row (x ^^^ (p * 2 ^ (bl x - bl p))) .c S (by have := bl_dec h0 h; omega)
  have sq : gSeq1 enumD [(.c, .lst (nI (rowF p)))] = some (enumD (nI (rowF p))) := by simp
  have e1 : (nI Lq).set (bl x - bl p) (.int 1) = nI (Lq.set (bl x - bl p) 1) := (nI_set _ _ _).symm
  have e3 : nI (rowF (x ^^^ (p * 2 ^ (bl x - bl p)))) = nI (rowF (x ^^^ (p * 2 ^ (bl x - bl p)))) := rfl
  generalize x ^^^ (p * 2 ^ (bl x - bl p)) = y at *
  generalize nI (Lq.set (bl x - bl p) 1) = K3 at *
  generalize bl x - bl p = pl at *
  generalize (pl : Int) = pi at *
  generalize enumD (nI (rowF p)) = Z at *
  generalize nI (rowF p) = K1 at *
  generalize nI (rowF x) = K2 at *
  generalize nI (rowF y) = K4 at *
  generalize nI Lq = K5 at *
  generalize nI L' = K6 at *
  unfold lqB
  refine (seq_set (d := .int pi) (f := .c) (S' := S) (by simp [k1, k2, sub_i, e, -int_ap]) rfl).trans ?_
  refine (seq_nx (r' := [a0, .ar .c (.lst K1), .own (.lst K2), .own (.lst K3), .ar .c (.int pi), s5, s6]) (S' := S) (by simp [ix, e1, -int_ap])).trans ?_
  refine (seq_nx (r' := [a0, .ar .c (.lst K1), .own (.lst K6), .own (.lst K3), .ar .c (.int pi), s5', s6']) (S' := S) ?_).trans ?_
  · generalize qInB = QB at *
    simp [sq, q, -int_ap]
  · simp [nu, ro, -int_ap]
theorem lq_loop (a0 : Slot) (S : Store) (p : Nat) (h0 : 0 < p) (n : Nat) : ∀ (t q x : Nat) (Lq : List Nat) (s4 s5 s6 : Slot), bl x ≤ t → bl x ≤ 1000 → numF Lq = q → Bits Lq → Lq.length = n → bl x < n →
    ∃ Lq' s4' s5' s6', numF Lq' = (dvF p t q x).1 ∧ Bits Lq' ∧ Lq'.length = n ∧ loopN lqT lqB (t + 1) [a0, .ar .c (.lst (nI (rowF p))), .own (.lst (nI (rowF x))), .own (.lst (nI Lq)), s4, s5, s6] S =
      .nx [a0, .ar .c (.lst (nI (rowF p))), .own (.lst (nI (rowF (dvF p t q x).2))), .own (.lst (nI Lq')), s4', s5', s6'] S
  | 0, q, x, Lq, s4, s5, s6, h, h3, h4, h5, h6, h7 => by
    have b := bl_pos h0
    refine ⟨Lq, s4, s5, s6, h4, h5, h6, loop_end ?_⟩
    rw [lq_test, decide_eq_false (by omega)]
  | t + 1, q, x, Lq, s4, s5, s6, h, h3, h4, h5, h6, h7 => by
    have b := bl_pos h0
    by_cases c : bl p ≤ bl x
    · have d := bl_dec h0 c
      obtain ⟨y4, y5, y6, st⟩ := lq_step a0 s4 s5 s6 S p x h0 c h3 Lq h5 (by omega)
      obtain ⟨Lq', s4', s5', s6', c1, c2, c3, q'⟩ := lq_loop a0 S p h0 n t (q ||| 2 ^ (bl x - bl p)) (x ^^^ (p * 2 ^ (bl x - bl p))) (Lq.set (bl x - bl p) 1) y4 y5 y6 (by omega) (by omega) (by rw [num_or h5 (by omega), h4]) (bits_set h5 _ _ (by decide)) (by rw [List.length_set]; exact h6) (by omega)
      rw [dvF, if_pos c]
      refine ⟨Lq', s4', s5', s6', c1, c2, c3, loop_go ?_ st q'⟩
      rw [lq_test, decide_eq_true c]
    · rw [dvF, if_neg c]
      refine ⟨Lq, s4, s5, s6, h4, h5, h6, loop_end ?_⟩
      rw [lq_test, decide_eq_false c]
theorem dv_q_lt {p : Nat} (h0 : 0 < p) (m : Nat) : ∀ t q x, bl x ≤ m → q < 2 ^ m → (dvF p t q x).1 < 2 ^ m
  | 0, q, x, h, hq => hq
  | t + 1, q, x, h, hq => by
    have b := bl_pos h0
    rw [dvF]
    split
    · rename_i c
      have d := bl_dec h0 c
      refine dv_q_lt h0 m t _ _ (by omega) (Nat.or_lt_two_pow hq ?_)
      exact Nat.pow_lt_pow_right (by decide) (by omega)
    · exact hq
theorem dv_r_le {p : Nat} (h0 : 0 < p) : ∀ t q x, bl (dvF p t q x).2 ≤ bl x
  | 0, q, x => Nat.le_refl _
  | t + 1, q, x => by
    rw [dvF]
    split
    · rename_i c
      have d := bl_dec h0 c
      have := dv_r_le h0 t (q ||| 2 ^ (bl x - bl p)) (x ^^^ (p * 2 ^ (bl x - bl p)))
      omega
    · exact Nat.le_refl _
theorem s_lparted (x p : Nat) (S : Store) (h0 : 0 < p) (hx : bl x ≤ 900) : m__law_parted [(.c, .lst (nI (rowF x))), (.c, .lst (nI (rowF p)))] S = .ok (.tup [.lst (nI (rowF (dvF p (bl x) 0 x).1)), .lst (nI (rowF (dvF p (bl x) 0 x).2))], .c) S := by
  obtain ⟨Lq', s4', s5', s6', c1, c2, c3, q⟩ := lq_loop (.ar .c (.lst (nI (rowF x)))) S p h0 (bl x + 1) (bl x) 0 x (List.replicate (bl x + 1) 0) .no .no .no (Nat.le_refl _) (by omega) (num_rep _) (bits_rep _) (by simp) (by omega)
  have q2 := sWhile_of q (by simp)
  have k2 := row_len' x
  have ln : (bl x : Int) + 1 = ((bl x + 1 : Nat) : Int) := by omega
  have mr := mul_rep (bl x + 1) .n .c (by decide) (by omega)
  have nu := s_number Lq' .o S rfl (by decide) (by omega)
  rw [c1] at nu
  have ro := s_row (dvF p (bl x) 0 x).1 .c S (by
    have := dv_q_lt h0 (bl x) (bl x) 0 x (Nat.le_refl _) (Nat.two_pow_pos _)
    have := (lt_iff _ _).mp this
    omega)
  generalize nI (rowF (dvF p (bl x) 0 x).1) = R1 at *
  generalize nI (rowF (dvF p (bl x) 0 x).2) = R2 at *
  generalize (dvF p (bl x) 0 x).1 = v at *
  generalize nI (List.replicate (bl x + 1) 0) = K0 at *
  generalize bl x + 1 = n at *
  generalize nI (rowF p) = K1 at *
  generalize nI (rowF x) = K2 at *
  generalize nI Lq' = K3 at *
  unfold lqT lqB qInB at q2
  simp only [m__law_parted, b__law_parted, fnM_ap]
  simp [k2, ln, mr, q2, nu, ro, -int_ap, -mul_li]
/-! the program's parting -/
noncomputable abbrev lrT : TM := (tVal (eBin gGe (eFn 1 m_high_place (aCons (eVar 0) aNil)) (eVar 2)))
theorem lr_test (g : Fl) (a1 : Slot) (rest : List Slot) (S : Store) (p x : Nat) : lrT (.ar g (.int (x : Int)) :: a1 :: .ar .c (.int ((bl p : Int) - 1)) :: rest) S = .ok (decide (bl p ≤ bl x)) S := by
  have hp := s_high x (inf g) S
  have e := ge_i ((bl x : Int) - 1) ((bl p : Int) - 1) .c .c
  have d : decide ((bl p : Int) - 1 ≤ (bl x : Int) - 1) = decide (bl p ≤ bl x) := by
    congr 1
    exact propext ⟨fun z => by omega, fun z => by omega⟩
  rw [d] at e
  generalize decide (bl p ≤ bl x) = b at *
  generalize (bl p : Int) - 1 = v at *
  generalize (bl x : Int) - 1 = u at *
  simp [hp, e, -int_ap]
noncomputable abbrev lrB : SM := (sSet 0 (eBin gXor (eVar 0) (eBin gShl (eVar 1) (eBin gSub (eFn 1 m_high_place (aCons (eVar 0) aNil)) (eVar 2)))))
theorem lr_loop (S : Store) (p : Nat) (f1 : Fl) (h0 : 0 < p) (hp : p < 18446744073709551616) : ∀ (t q x : Nat) (g : Fl), bl x ≤ t → bl x ≤ 1000 → ∃ g', loopN lrT lrB (t + 1) [.ar g (.int (x : Int)), .ar f1 (.int (p : Int)), .ar .c (.int ((bl p : Int) - 1))] S = .nx [.ar g' (.int (((dvF p t q x).2 : Nat) : Int)), .ar f1 (.int (p : Int)), .ar .c (.int ((bl p : Int) - 1))] S
  | 0, q, x, g, h, h3 => by
    have b := bl_pos h0
    refine ⟨g, loop_end ?_⟩
    rw [lr_test, decide_eq_false (by omega)]
  | t + 1, q, x, g, h, h3 => by
    by_cases c : bl p ≤ bl x
    · have d := bl_dec h0 c
      obtain ⟨g', q'⟩ := lr_loop S p f1 h0 hp t (q ||| 2 ^ (bl x - bl p)) (x ^^^ (p * 2 ^ (bl x - bl p))) .c (by omega) (by omega)
      rw [dvF, if_pos c]
      refine ⟨g', loop_go (by rw [lr_test, decide_eq_true c]) (S1 := S) (r1 := [.ar .c (.int ((x ^^^ (p * 2 ^ (bl x - bl p)) : Nat) : Int)), .ar f1 (.int (p : Int)), .ar .c (.int ((bl p : Int) - 1))]) ?_ q'⟩
      have hh := s_high x (inf g) S
      have e : (bl x : Int) - 1 - ((bl p : Int) - 1) = ((bl x - bl p : Nat) : Int) := by omega
      have sh := shl_n p (bl x - bl p) (inf f1) .c hp (by omega)
      have xg := xor_g x (p * 2 ^ (bl x - bl p)) (inf g) .c
      generalize x ^^^ (p * 2 ^ (bl x - bl p)) = y at *
      generalize p * 2 ^ (bl x - bl p) = z at *
      generalize ((bl x - bl p : Nat) : Int) = pl at *
      generalize (bl p : Int) - 1 = v at *
      generalize (bl x : Int) - 1 = u at *
      simp [hh, sub_i, e, sh, xg, -int_ap]
    · rw [dvF, if_neg c]
      refine ⟨g, loop_end ?_⟩
      rw [lr_test, decide_eq_false c]
theorem s_laid (x p : Nat) (f f2 : Fl) (S : Store) (h0 : 0 < p) (h1 : x < 4294967296) (h2 : p < 4294967296) : ∃ g, m_laid_rest [(f, .int (x : Int)), (f2, .int (p : Int))] S = .ok (.int ((rs x p : Nat) : Int), g) S := by
  have b1 := (lt_iff 32 x).mp h1
  obtain ⟨g', q⟩ := lr_loop S p f2 h0 (by omega) (bl x) 0 x f (Nat.le_refl _) (by omega)
  have q2 := sWhile_of q (by simp)
  have hh := s_high p (inf f2) S
  refine ⟨inf g', ?_⟩
  unfold rs
  generalize (dvF p (bl x) 0 x).2 = y at *
  generalize (bl p : Int) - 1 = v at *
  unfold lrT lrB at *
  simp [m_laid_rest, b_laid_rest, hh, q2]
noncomputable abbrev fqB : SM := (sSeq (sSet 4 (eBin gSub (eFn 1 m_high_place (aCons (eVar 0) aNil)) (eVar 2)))
    (sSeq (sSet 3 (eBin gOr (eVar 3) (eBin gShl (eC (.int 1)) (eVar 4))))
    (sSet 0 (eBin gXor (eVar 0) (eBin gShl (eVar 1) (eVar 4))))))
theorem fq_loop (S : Store) (p : Nat) (f1 : Fl) (h0 : 0 < p) (hp : p < 18446744073709551616) : ∀ (t q x : Nat) (g : Fl) (s4 : Slot), bl x ≤ t → bl x ≤ 1000 → ∃ g' s4', loopN lrT fqB (t + 1) [.ar g (.int (x : Int)), .ar f1 (.int (p : Int)), .ar .c (.int ((bl p : Int) - 1)), .ar .c (.int (q : Int)), s4] S = .nx [.ar g' (.int (((dvF p t q x).2 : Nat) : Int)), .ar f1 (.int (p : Int)), .ar .c (.int ((bl p : Int) - 1)), .ar .c (.int (((dvF p t q x).1 : Nat) : Int)), s4'] S
  | 0, q, x, g, s4, h, h3 => by
    have b := bl_pos h0
    refine ⟨g, s4, loop_end ?_⟩
    rw [lr_test, decide_eq_false (by omega)]
  | t + 1, q, x, g, s4, h, h3 => by
    by_cases c : bl p ≤ bl x
    · have d := bl_dec h0 c
      obtain ⟨g', s4', q'⟩ := fq_loop S p f1 h0 hp t (q ||| 2 ^ (bl x - bl p)) (x ^^^ (p * 2 ^ (bl x - bl p))) .c (.ar .c (.int ((bl x - bl p : Nat) : Int))) (by omega) (by omega)
      rw [dvF, if_pos c]
      refine ⟨g', s4', loop_go (by rw [lr_test, decide_eq_true c]) (S1 := S) ?_ q'⟩
      have hh := s_high x (inf g) S
      have e : (bl x : Int) - 1 - ((bl p : Int) - 1) = ((bl x - bl p : Nat) : Int) := by omega
      have sh := shl_n p (bl x - bl p) (inf f1) .c hp (by omega)
      have s1 := shl_n 1 (bl x - bl p) .c .c (by decide) (by omega)
      rw [Nat.one_mul] at s1
      have xg := xor_g x (p * 2 ^ (bl x - bl p)) (inf g) .c
      have og := or_g q (2 ^ (bl x - bl p)) .c .c
      have s1' : gShl (.int 1, .c) (.int ((bl x - bl p : Nat) : Int), .c) = some (.int ((2 ^ (bl x - bl p) : Nat) : Int), .c) := s1
      clear s1
      generalize x ^^^ (p * 2 ^ (bl x - bl p)) = y at *
      generalize p * 2 ^ (bl x - bl p) = z at *
      generalize q ||| 2 ^ (bl x - bl p) = q2 at *
      generalize 2 ^ (bl x - bl p) = tw at *
      generalize ((bl x - bl p : Nat) : Int) = pl at *
      generalize (bl p : Int) - 1 = v at *
      generalize (bl x : Int) - 1 = u at *
      simp [hh, sub_i, e, sh, s1', xg, og, -int_ap]
    · rw [dvF, if_neg c]
      refine ⟨g, s4, loop_end ?_⟩
      rw [lr_test, decide_eq_false c]
theorem s_fparted (x p : Nat) (f f2 : Fl) (S : Store) (h0 : 0 < p) (h1 : x < 4294967296) (h2 : p < 4294967296) : m_form_parted [(f, .int (x : Int)), (f2, .int (p : Int))] S = .ok (.tup [.int (((dvF p (bl x) 0 x).1 : Nat) : Int), .int (((dvF p (bl x) 0 x).2 : Nat) : Int)], .c) S := by
  have b1 := (lt_iff 32 x).mp h1
  obtain ⟨g', s4', q⟩ := fq_loop S p f2 h0 (by omega) (bl x) 0 x f .no (Nat.le_refl _) (by omega)
  have q2 := sWhile_of q (by simp)
  have hh := s_high p (inf f2) S
  have n1 := s_need x (inf f) S h1
  have n2 := s_need p (inf f2) S h2
  have hp : ¬ p = 0 := by omega
  rw [show ((0 : Nat) : Int) = 0 from rfl] at q2
  generalize (dvF p (bl x) 0 x).2 = y at *
  generalize (dvF p (bl x) 0 x).1 = y1 at *
  generalize (bl p : Int) - 1 = v at *
  unfold lrT fqB at *
  simp [m_form_parted, b_form_parted, n1, n2, hh, q2, hp, -int_ap]
/-! the greatest common ones -/
theorem nI_ints (L : List Nat) : nI L = (L.map fun (b : Nat) => (b : Int)).map D.int := by
  unfold nI
  rw [List.map_map]
  rfl
theorem row_nil (n : Nat) : rowF n = [] ↔ n = 0 := by
  constructor
  · intro h
    have := row_len n
    rw [h] at this
    exact bl_zero.mp this.symm
  · rintro rfl
    rw [rowF]
noncomputable abbrev lcT : TM := (tVal (eBin (gEq true) (eVar 1) (eLst aNil)))
noncomputable abbrev lcB : SM := (sPar 0 1 (eVar 1) (eBin gIx (eFn 2 m__law_parted (aCons (eVar 0) (aCons (eVar 1) aNil))) (eC (.int 1))))
theorem lc_test (a0 : Slot) (S : Store) (b : Nat) : lcT [a0, .ar .c (.lst (nI (rowF b)))] S = .ok (!decide (b = 0)) S := by
  have e : eqO (.lst (nI (rowF b))) (.lst []) = some (decide (b = 0)) := by
    rw [nI_ints, eqO_l0]
    congr 2
    rw [List.map_eq_nil_iff, row_nil]
  generalize decide (b = 0) = c at *
  generalize nI (rowF b) = K at *
  simp [e]
theorem lc_loop (S : Store) : ∀ (t a b : Nat), bl b ≤ t → bl a ≤ 900 → bl b ≤ 900 → ∃ s, loopN lcT lcB (t + 1) [.ar .c (.lst (nI (rowF a))), .ar .c (.lst (nI (rowF b)))] S = .nx [.ar .c (.lst (nI (rowF (gcF t a b)))), s] S
  | 0, a, b, h, h1, h2 => by
    have : b = 0 := bl_zero.mp (by omega)
    subst this
    exact ⟨_, loop_end (by rw [lc_test]; rfl)⟩
  | t + 1, a, b, h, h1, h2 => by
    by_cases c : b = 0
    · subst c
      rw [gcF, if_pos rfl]
      exact ⟨_, loop_end (by rw [lc_test]; rfl)⟩
    · have h0 : 0 < b := by omega
      have lt := rs_lt (a := a) h0
      obtain ⟨s, q⟩ := lc_loop S t b (rs a b) (by omega) h2 (by omega)
      rw [gcF, if_neg c]
      refine ⟨s, loop_go (by rw [lc_test, decide_eq_false c]; rfl) (S1 := S) ?_ q⟩
      have lp := s_lparted a b S h0 h1
      unfold rs
      generalize nI (rowF (dvF b (bl a) 0 a).1) = R1 at *
      generalize nI (rowF (dvF b (bl a) 0 a).2) = R2 at *
      generalize nI (rowF a) = K1 at *
      generalize nI (rowF b) = K2 at *
      have at1 : atI [D.lst R1, D.lst R2] 1 = some (.lst R2) := rfl
      simp [lp, at1]
theorem s_lcommon (a b : Nat) (S : Store) (h1 : bl a ≤ 900) (h2 : bl b ≤ 900) : m__law_common [(.c, .lst (nI (rowF a))), (.c, .lst (nI (rowF b)))] S = .ok (.lst (nI (rowF (gcF (bl b) a b))), .c) S := by
  obtain ⟨s, q⟩ := lc_loop S (bl b) a b (Nat.le_refl _) h1 h2
  have q2 := sWhile_of q (by simp)
  generalize nI (rowF (gcF (bl b) a b)) = R at *
  generalize nI (rowF a) = K1 at *
  generalize nI (rowF b) = K2 at *
  unfold lcT lcB at *
  simp [m__law_common, b__law_common, q2]
theorem bl_lt32 {x : Nat} : x < 4294967296 ↔ bl x ≤ 32 := lt_iff 32 x
noncomputable abbrev fcB : SM := (sPar 0 1 (eVar 1) (eFn 2 m_laid_rest (aCons (eVar 0) (aCons (eVar 1) aNil))))
theorem fc_loop (S : Store) : ∀ (t a b : Nat) (g1 g2 : Fl), bl b ≤ t → bl a ≤ 32 → bl b ≤ 32 → ∃ g s, loopN (gtT 1) fcB (t + 1) [.ar g1 (.int (a : Int)), .ar g2 (.int (b : Int))] S = .nx [.ar g (.int ((gcF t a b : Nat) : Int)), s] S
  | 0, a, b, g1, g2, h, h1, h2 => by
    have : b = 0 := bl_zero.mp (by omega)
    subst this
    exact ⟨_, _, loop_end (gt0_f rfl)⟩
  | t + 1, a, b, g1, g2, h, h1, h2 => by
    by_cases c : b = 0
    · subst c
      rw [gcF, if_pos rfl]
      exact ⟨_, _, loop_end (gt0_f rfl)⟩
    · have h0 : 0 < b := by omega
      have lt := rs_lt (a := a) h0
      obtain ⟨g, s, q⟩ := fc_loop S t b (rs a b) .c .c (by omega) h2 (by omega)
      rw [gcF, if_neg c]
      refine ⟨g, s, loop_go (gt0_t (n := b) rfl h0) (S1 := S) ?_ q⟩
      obtain ⟨g', lr⟩ := s_laid a b (inf g1) (inf g2) S h0 (bl_lt32.mpr h1) (bl_lt32.mpr h2)
      generalize rs a b = y at *
      simp [lr, -int_ap]
theorem s_fcommon (a b : Nat) (f f2 : Fl) (S : Store) (h1 : a < 4294967296) (h2 : b < 4294967296) : ∃ g, m_form_common [(f, .int (a : Int)), (f2, .int (b : Int))] S = .ok (.int ((gcF (bl b) a b : Nat) : Int), g) S := by
  obtain ⟨g, s, q⟩ := fc_loop S (bl b) a b f f2 (Nat.le_refl _) (bl_lt32.mp h1) (bl_lt32.mp h2)
  have q2 := sWhile_of q (by simp)
  have n1 := s_need a (inf f) S h1
  have n2 := s_need b (inf f2) S h2
  refine ⟨inf g, ?_⟩
  generalize gcF (bl b) a b = y at *
  unfold gtT fcB at *
  simp [m_form_common, b_form_common, n1, n2, q2]
end Fin

set_option maxRecDepth 100000
set_option maxHeartbeats 4000000
namespace Fin
open Mv Mir Ev
open PySem (sizeLine sizeLine_eq Addr)
open L2 (atI ixN)
theorem s_lwhole (v : Int) (f1 f2 : Fl) (S : Store) : m__law_whole [(f1, .int v), (f2, .int v)] S = .ok (.bl true, .c) S := by
  simp [m__law_whole, b__law_whole, isiOne]
theorem kind1 (n : Nat) (S : Store) (hS : S[n]? = some (1, [])) : m__law_kind [(.c, .ins n)] S = .ok (.str "form", .c) S := by
  have c1 : gCntB [D.bl true, D.bl false, D.bl false, D.bl false, D.bl false, D.bl false, D.bl false, D.bl false, D.bl false, D.bl false, D.bl false, D.bl false, D.bl false] [(.c, .bl true)] = some (.int 1, .c) := rfl
  have c2 : gIdxB [D.bl true, D.bl false, D.bl false, D.bl false, D.bl false, D.bl false, D.bl false, D.bl false, D.bl false, D.bl false, D.bl false, D.bl false, D.bl false] [(.c, .bl true)] = some (.int 0, .c) := rfl
  simp [m__law_kind, b__law_kind, kx_k, hS, c1, c2, List.lookup, sizeLine_eq]
  rfl
theorem kind3 (n : Nat) (S : Store) (hS : S[n]? = some (3, [])) : m__law_kind [(.c, .ins n)] S = .ok (.str "nought", .c) S := by
  have c1 : gCntB [D.bl false, D.bl false, D.bl false, D.bl true, D.bl false, D.bl false, D.bl false, D.bl false, D.bl false, D.bl false, D.bl false, D.bl false, D.bl false] [(.c, .bl true)] = some (.int 1, .c) := rfl
  have c2 : gIdxB [D.bl false, D.bl false, D.bl false, D.bl true, D.bl false, D.bl false, D.bl false, D.bl false, D.bl false, D.bl false, D.bl false, D.bl false, D.bl false] [(.c, .bl true)] = some (.int 3, .c) := rfl
  simp [m__law_kind, b__law_kind, kx_k, hS, c1, c2, List.lookup, sizeLine_eq]
  rfl
theorem ref_form {n : EM} {r : Env} {S : Store} (h : n r S = .er 1 [] S) : eRef 2 0 [(1, true), (3, true)] r__law_refused n r S = .ok (.str "form", .c) (S ++ [(1, [])]) := by
  have k := kind1 S.length (S ++ [(1, [])]) (by simp)
  simp [h, r__law_refused, k, List.lookup]
theorem ref_nought {n : EM} {r : Env} {S : Store} (h : n r S = .er 3 [] S) : eRef 2 0 [(1, true), (3, true)] r__law_refused n r S = .ok (.str "nought", .c) (S ++ [(3, [])]) := by
  have k := kind3 S.length (S ++ [(3, [])]) (by simp)
  simp [h, r__law_refused, k, List.lookup]
/-! two forms -/
theorem e_parted0 (a : Nat) (f0 f1 : Fl) (S : Store) (h : a < 4294967296) : m_form_parted [(f0, .int (a : Int)), (f1, .int 0)] S = .er 3 [] S := by
  have n1 := s_need a (inf f0) S h
  have n2 : m_need_form [(inf f1, .int 0)] S = .ok (.non, .c) S := s_need 0 (inf f1) S (by decide)
  simp [m_form_parted, b_form_parted, n1, n2, -int_ap]
theorem s_lpair (a b : Nat) (S : Store) (ha : a < 4294967296) (hb : b < 4294967296) : ∃ S', m__law_pair_right [(.c, .int (a : Int)), (.c, .int (b : Int))] S = .ok (.bl true, .c) S' := by
  have ba := bl_lt32.mp ha
  have bb := bl_lt32.mp hb
  have ra := s_row a .c S (by omega)
  have rb := s_row b .c S (by omega)
  obtain ⟨g, fc⟩ := s_fcommon a b .c .c S ha hb
  have lc := s_lcommon a b S (by omega) (by omega)
  have lg : ∀ t x y, bl x ≤ 32 → bl y ≤ 32 → bl (gcF t x y) ≤ 32 := by
    intro t
    induction t with
    | zero => intro x y h1 h2; exact h1
    | succ t ih =>
      intro x y h1 h2
      rw [gcF]
      split
      · exact h1
      · refine ih _ _ h2 ?_
        have := rs_lt (a := x) (b := y) (by omega)
        omega
  have lg := lg (bl b) a b ba bb
  have nc := s_number (rowF (gcF (bl b) a b)) .c S rfl (by decide) (by rw [row_len]; omega)
  rw [num_row] at nc
  have w1 := fun v f1 f2 => s_lwhole v f1 f2 S
  have at0 : ∀ x y : D, atI [x, y] 0 = some x := fun _ _ => rfl
  have at1 : ∀ x y : D, atI [x, y] 1 = some y := fun _ _ => rfl
  by_cases h0 : b = 0
  · subst h0
    have ref := ref_nought (S := S) (n := eFn 2 m_form_parted (aCons (eVar 0) (aCons (eVar 1) aNil))) (r := [.ar .c (.int (a : Int)), .ar .c (.int 0), .ar .c (.tup [.lst (nI (rowF a)), .lst (nI (rowF 0))]), .no, .no, .no]) (by
      have e := e_parted0 a .c .c S ha
      simp [e, -int_ap])
    refine ⟨S ++ [(3, [])], ?_⟩
    rw [show ((0 : Nat) : Int) = 0 from rfl] at rb fc ⊢
    generalize gcF (bl 0) a 0 = y at *
    generalize nI (rowF y) = KY at *
    generalize nI (rowF a) = KA at *
    generalize nI (rowF 0) = KB at *
    simp [m__law_pair_right, b__law_pair_right, ra, rb, fc, lc, nc, w1, at0, at1, ref, -int_ap, -ref_ap]
  · have h1 : 0 < b := by omega
    have fp := s_fparted a b .c .c S h1 ha hb
    have lp := s_lparted a b S h1 (by omega)
    have q1 := (lt_iff _ _).mp (dv_q_lt h1 (bl a) (bl a) 0 a (Nat.le_refl _) (Nat.two_pow_pos _))
    have q2 := dv_r_le h1 (bl a) 0 a
    have n1 := s_number (rowF (dvF b (bl a) 0 a).1) .c S rfl (by decide) (by rw [row_len]; omega)
    have n2 := s_number (rowF (dvF b (bl a) 0 a).2) .c S rfl (by decide) (by rw [row_len]; omega)
    rw [num_row] at n1 n2
    refine ⟨S, ?_⟩
    generalize gcF (bl b) a b = y at *
    generalize (dvF b (bl a) 0 a).1 = y1 at *
    generalize (dvF b (bl a) 0 a).2 = y2 at *
    generalize nI (rowF y) = KY at *
    generalize nI (rowF y1) = KY1 at *
    generalize nI (rowF y2) = KY2 at *
    generalize nI (rowF a) = KA at *
    generalize nI (rowF b) = KB at *
    simp [m__law_pair_right, b__law_pair_right, ra, rb, fc, lc, nc, w1, at0, at1, h0, fp, lp, n1, n2, isiOne, sizeLine_eq, -int_ap]
/-! bits -/
theorem tb2 (x k : Nat) : x / 2 ^ k % 2 = (if x.testBit k then 1 else 0) := by
  rw [Nat.testBit_eq_decide_div_mod_eq]
  have : x / 2 ^ k % 2 = 0 ∨ x / 2 ^ k % 2 = 1 := by omega
  rcases this with h | h <;> simp [h]
theorem row_bit (n j : Nat) : n / 2 ^ j % 2 = ((rowF n)[j]?).getD 0 := by
  rw [tb2]
  have h := tb (rowF n) (row_bits n) j
  rw [num_row] at h
  rw [h]
  cases e : (rowF n)[j]? with
  | none => simp
  | some x =>
    have := bits_at (row_bits n) e
    have : x = 0 ∨ x = 1 := by omega
    rcases this with rfl | rfl <;> simp
theorem bits_take (n k : Nat) : (rowF n ++ List.replicate k 0).take k = bitsF n k := by
  refine List.ext_getElem? fun j => ?_
  unfold bitsF
  rw [List.getElem?_take, List.getElem?_map]
  by_cases h : j < k
  · rw [if_pos h, List.getElem?_range h]
    show _ = some (n / 2 ^ j % 2)
    rw [row_bit]
    by_cases h2 : j < (rowF n).length
    · rw [List.getElem?_append_left h2, List.getElem?_eq_getElem h2]
      rfl
    · rw [List.getElem?_append_right (by omega), List.getElem?_replicate, if_pos (by omega), List.getElem?_eq_none (show (rowF n).length ≤ j by omega)]
      rfl
  · rw [if_neg h, List.getElem?_eq_none (by simpa using h)]
    rfl
theorem bitsF_bits (n k : Nat) : Bits (bitsF n k) := fun b hb => by
  unfold bitsF at hb
  obtain ⟨j, _, rfl⟩ := List.mem_map.mp hb
  omega
theorem num_bits (n k : Nat) : numF (bitsF n k) = n % 2 ^ k := by
  refine Nat.eq_of_testBit_eq fun i => ?_
  rw [tb _ (bitsF_bits n k), Nat.testBit_mod_two_pow]
  unfold bitsF
  rw [List.getElem?_map]
  by_cases h : i < k
  · rw [List.getElem?_range h]
    show decide (some (n / 2 ^ i % 2) = some 1) = _
    rw [Nat.testBit_eq_decide_div_mod_eq]
    simp [h]
  · rw [List.getElem?_eq_none (by simpa using h)]
    simp [h]
theorem bitsF_len (n k : Nat) : (bitsF n k).length = k := by
  unfold bitsF
  rw [List.length_map, List.length_range]
theorem sumI : ∀ L : List Nat, (L.map fun (b : Nat) => (b : Int)).sum = ((L.sum : Nat) : Int)
  | [] => rfl
  | b :: L => by rw [List.map_cons, List.sum_cons, List.sum_cons, sumI L]; omega
theorem sum_nI (L : List Nat) (f : Fl) : gSum [(f, .lst (nI L))] = some (.int ((L.sum : Nat) : Int), .c) := by
  rw [nI_ints]
  unfold gSum
  rw [ints_l]
  show some (D.int (L.map fun (b : Nat) => (b : Int)).sum, Fl.c) = _
  rw [sumI]
theorem cut_to (xs : List D) (i : Nat) : cutD xs none (some (i : Int)) = xs.take i := by
  unfold cutD
  rw [HT.sIx_none, HT.sIx_nat, Nat.sub_zero, List.drop_zero]
  rcases Nat.le_total i xs.length with h | h
  · rw [Nat.min_eq_left h]
  · rw [Nat.min_eq_right h, List.take_of_length_le (Nat.le_refl _), List.take_of_length_le h]
theorem eq_nI (A : List Nat) : eqO (.lst (nI A)) (.lst (nI A)) = some true := by
  rw [nI_ints, eqO_ll]
  simp
theorem eq_two (A B : List Nat) : eqO (.lst [.lst (nI A), .lst (nI B)]) (.lst [.lst (nI A), .lst (nI B)]) = some true := by
  refine eqO_self (n := 2) (plD_lst fun d hd => ?_) (by decide)
  simp only [List.mem_cons, List.not_mem_nil, or_false] at hd
  rcases hd with rfl | rfl <;> rw [nI_ints] <;> exact plD_ints 0 _
theorem s_lbits (n k : Nat) (f1 f2 : Fl) (S : Store) (hn : n < 4294967296) (hk : k ≤ 100) : m__law_bits_right [(f1, .int (n : Int)), (f2, .int (k : Int))] S = .ok (.bl true, .c) S := by
  have bn := bl_lt32.mp hn
  have rn := s_row n (inf f1) S (by omega)
  have od := s_is_odd n (inf f1) S
  have wt := s_weight n (inf f1) S
  have sm := fun f => sum_nI (rowF n) f
  have m2 := mod2_n (rowF n).sum .c .c
  have dd : decide ((((rowF n).sum % 2 : Nat) : Int) = 1) = decide ((rowF n).sum % 2 = 1) := by
    congr 1
    exact propext ⟨fun z => by omega, fun z => by omega⟩
  have bo := s_bits_of n k (inf f1) (inf f2) S (by omega)
  have mr := mul_rep k .n (inf f2) (by decide) (by omega)
  have ct : cutD (nI (rowF n) ++ nI (List.replicate k 0)) none (some (k : Int)) = nI (bitsF n k) := by
    rw [cut_to, ← nI_app, ← bits_take]
    unfold nI
    rw [List.map_take]
  have e1 := eq_nI (bitsF n k)
  have e2 := eq_two (bitsF n k) (rowF n)
  have nb := s_number_of (bitsF n k) .c S (bitsF_bits n k) rfl (by rw [bitsF_len]; omega)
  have nr := s_number_of (rowF n) .c S (row_bits n) rfl (by rw [row_len]; omega)
  rw [num_bits] at nb
  rw [num_row] at nr
  have sh := shl_n 1 k .c (inf f2) (by decide) (by omega)
  rw [Nat.one_mul] at sh
  have sh' : gShl (.int 1, .c) (.int (k : Int), inf f2) = some (.int ((2 ^ k : Nat) : Int), .c) := sh
  have mk : gMod (.int (n : Int), inf f1) (.int ((2 ^ k : Nat) : Int), .c) = some (.int ((n % 2 ^ k : Nat) : Int), .c) := by
    rw [mod_i _ _ _ _ (by have := Nat.two_pow_pos k; omega)]
    rfl
  have w1 := fun v f1 f2 => s_lwhole v f1 f2 S
  have l1 : (nI (rowF n)).length + (nI (List.replicate k 0)).length ≤ 16777216 := by
    rw [row_len', nI_len, List.length_replicate]
    omega
  generalize n % 2 ^ k = nk at *
  generalize 2 ^ k = P at *
  generalize nI (bitsF n k) = KB at *
  generalize nI (rowF n) = KR at *
  generalize nI (List.replicate k 0) = K0 at *
  generalize (rowF n).sum % 2 = u at *
  generalize (rowF n).sum = v at *
  generalize decide (u = 1) = bb at *
  simp [m__law_bits_right, b__law_bits_right, rn, od, wt, sm, m2, dd, bo, mr, ct, e1, e2, nb, nr, sh', mk, w1, l1, isiOne, sizeLine_eq, -int_ap, -mul_li]
end Fin

set_option maxRecDepth 100000
set_option maxHeartbeats 4000000
namespace Fin
open Mv Mir Ev
open PySem (sizeLine sizeLine_eq Addr)
open L2 (atI ixN)
/-! looks -/
noncomputable abbrev lkB : SM := (sSeq (sSet 3 (eFn 3 m_is_among (aCons (eVar 0) (aCons (eVar 4) (aCons (eVar 5) aNil)))))
    (sIf (tOrM (tNotM (tVal (eCal (gIsi "bool" (isiOne "bool")) (aCons (eVar 3) (aCons (eC (.cst (.ty "bool"))) aNil))))) (tVal (eBin (gEq true) (eVar 3) (eAnd (eVar 2) (eChain gLe gLe (eVar 4) (eVar 0) (eVar 5)))))) (sRet (eC (.bl false))) sNil))
theorem lk_step (d : D) (h : (tyD d).isSome = true) (f : Fl) (a1 s3 : Slot) (lo hi : Int) (S : Store) : ∃ s3', lkB [.ar f d, a1, .ar .c (.bl (wholeD d)), s3, .ar .c (.int lo), .ar .c (.int hi)] S = .nx [.ar f d, a1, .ar .c (.bl (wholeD d)), s3', .ar .c (.int lo), .ar .c (.int hi)] S := by
  have e := s_is_among d lo hi (inf f) .c .c S h
  refine ⟨.ar .c (.bl (amongD d lo hi)), ?_⟩
  generalize hz : amongD d lo hi = z at *
  cases d with
  | int i =>
    have l1 := le_i lo i .c (inf f)
    have l2 := le_i i hi (inf f) .c
    by_cases c1 : lo ≤ i
    · by_cases c2 : i ≤ hi
      · obtain rfl : z = true := by rw [← hz]; exact decide_eq_true ⟨c1, c2⟩
        rw [decide_eq_true c1] at l1
        rw [decide_eq_true c2] at l2
        simp [e, wholeD, l1, l2, isiOne, -int_ap]
      · obtain rfl : z = false := by rw [← hz]; exact decide_eq_false fun x => c2 x.2
        rw [decide_eq_true c1] at l1
        rw [decide_eq_false c2] at l2
        simp [e, wholeD, l1, l2, isiOne, -int_ap]
    · obtain rfl : z = false := by rw [← hz]; exact decide_eq_false fun x => c1 x.1
      rw [decide_eq_false c1] at l1
      simp [e, wholeD, l1, isiOne, -int_ap]
  | _ =>
    obtain rfl : z = false := hz.symm
    simp [e, wholeD, isiOne, -int_ap]
theorem lk_loop (d : D) (h : (tyD d).isSome = true) (f : Fl) (a1 : Slot) (S : Store) : ∀ (ps : List (Int × Int)) (s3 s4 s5 : Slot), ∃ s3' s4' s5', forL (gT 2 (gsC (gN 4) (gsC (gN 5) gsN))) lkB (ps.map fun p => .tup [.int p.1, .int p.2]) [.ar f d, a1, .ar .c (.bl (wholeD d)), s3, s4, s5] S = .nx [.ar f d, a1, .ar .c (.bl (wholeD d)), s3', s4', s5'] S
  | [], s3, s4, s5 => ⟨s3, s4, s5, for_nil⟩
  | p :: ps, s3, s4, s5 => by
    obtain ⟨x3, st⟩ := lk_step d h f a1 s3 p.1 p.2 S
    obtain ⟨s3', s4', s5', q⟩ := lk_loop d h f a1 S ps x3 (.ar .c (.int p.1)) (.ar .c (.int p.2))
    exact ⟨s3', s4', s5', (for_cons rfl st).trans q⟩
theorem p10 (n : Nat) (hn : n ≤ 1000) : ∃ t : Int, ∀ f f' : Fl, gPow (.int 10, f) (.int (n : Int), f') = some (.int t, .c) := ⟨10 ^ n, fun _ _ => by
  show (if (decide (0 ≤ (n : Int)) && decide ((n : Int) ≤ 1000000) && decide ((10 : Int).natAbs < 2 ^ 64)) = true then some (D.int ((10 : Int) ^ (n : Int).toNat), Fl.c) else none) = _
  rw [decide_eq_true (show 0 ≤ (n : Int) by omega), decide_eq_true (show (n : Int) ≤ 1000000 by omega), Int.toNat_natCast]
  rfl⟩
theorem s_looks (d : D) (h : (tyD d).isSome = true) (f f2 : Fl) (m : Int) (S : Store) : m__law_looks_right [(f, d), (f2, .int m)] S = .ok (.bl true, .c) S := by
  obtain ⟨t30, e30⟩ := p10 30 (by decide)
  obtain ⟨t40, e40⟩ := p10 40 (by decide)
  have e30' : ∀ f f' : Fl, gPow (.int 10, f) (.int 30, f') = some (.int t30, .c) := e30
  have e40' : ∀ f f' : Fl, gPow (.int 10, f) (.int 40, f') = some (.int t40, .c) := e40
  obtain ⟨s3, s4, s5, q⟩ := lk_loop d h f (.ar f2 (.int m)) S [(0, 3), (-1, t30), (m, m), (m + 1, t40), (1, 0)] (.ar .c (.bl (wholeD d))) .no .no
  have w := s_is_whole d (inf f) S h
  have q' : forL (gT 2 (gsC (gN 4) (gsC (gN 5) gsN))) lkB [.tup [.int 0, .int 3], .tup [.int (-1), .int t30], .tup [.int m, .int m], .tup [.int (m + 1), .int t40], .tup [.int 1, .int 0]] [.ar f d, .ar f2 (.int m), .ar .c (.bl (wholeD d)), .ar .c (.bl (wholeD d)), .no, .no] S = _ := q
  have ew : (eAnd (eCal (gIsi "int" isiInt) (aCons (eVar 0) (aCons (eC (.cst (.ty "int"))) aNil))) (eNot (eCal (gIsi "bool" (isiOne "bool")) (aCons (eVar 0) (aCons (eC (.cst (.ty "bool"))) aNil))))) [.ar f d, .ar f2 (.int m), .no, .no, .no, .no] S = .ok (.bl (wholeD d), .c) S := by
    cases d with
    | ins n => cases h
    | cst v => cases h
    | _ => simp [isiOne, wholeD]
  clear q
  generalize wholeD d = wd at *
  unfold lkB at q'
  show kFn (b__law_looks_right [.ar f d, .ar f2 (.int m), .no, .no, .no, .no] S) = _
  unfold b__law_looks_right
  rw [seq_set ew rfl]
  have d1 : decide (wd = wd) = true := decide_eq_true rfl
  simp [w, isiOne, e30', e40', q', -int_ap]
/-! what is no form -/
def BadD (d : D) : Prop := (tyD d).isSome = true ∧ amongD d 0 4294967295 = false
theorem e_need (d : D) (h : BadD d) (f : Fl) (S : Store) : m_need_form [(f, d)] S = .er 1 [] S := by
  have e := s_is_among d 0 4294967295 (inf f) .c .c S h.1
  rw [h.2] at e
  simp [m_need_form, b_need_form, e]
section
variable (d : D) (h : BadD d) (f f2 : Fl) (S : Store)
include h
theorem e_degree : m_degree [(f, d)] S = .er 1 [] S := by
  have e := e_need d h (inf f) S
  simp [m_degree, b_degree, e]
theorem e_prod1 (a : Nat) : m_form_product [(f, d), (f2, .int (a : Int))] S = .er 1 [] S := by
  have e := e_need d h (inf f) S
  simp [m_form_product, b_form_product, e]
theorem e_prod2 (a : Nat) (ha : a < 4294967296) : m_form_product [(f2, .int (a : Int)), (f, d)] S = .er 1 [] S := by
  have e := e_need d h (inf f) S
  have n := s_need a (inf f2) S ha
  simp [m_form_product, b_form_product, e, n]
theorem e_part1 (a : Int) : m_form_parted [(f, d), (f2, .int a)] S = .er 1 [] S := by
  have e := e_need d h (inf f) S
  simp [m_form_parted, b_form_parted, e]
theorem e_part2 (a : Nat) (ha : a < 4294967296) : m_form_parted [(f2, .int (a : Int)), (f, d)] S = .er 1 [] S := by
  have e := e_need d h (inf f) S
  have n := s_need a (inf f2) S ha
  simp [m_form_parted, b_form_parted, e, n]
theorem e_com1 (a : Nat) : m_form_common [(f, d), (f2, .int (a : Int))] S = .er 1 [] S := by
  have e := e_need d h (inf f) S
  simp [m_form_common, b_form_common, e]
theorem e_com2 (a : Nat) (ha : a < 4294967296) : m_form_common [(f2, .int (a : Int)), (f, d)] S = .er 1 [] S := by
  have e := e_need d h (inf f) S
  have n := s_need a (inf f2) S ha
  simp [m_form_common, b_form_common, e, n]
end
noncomputable abbrev L1 : List (Nat × Bool) := [(1, true), (3, true)]
noncomputable abbrev odA (f0 f1 f2 f3 f4 f5 f6 : Addr) : EM := (eAlt (isAt 3 f0) (eRefAtV [3] 3 f0 2 0 [(1, true), (3, true)] r__law_refused (eFn 1 m_degree (aCons (eVar 1) aNil))) (eAlt (isAt 3 f1) (eRefAtV [3] 3 f1 2 0 [(1, true), (3, true)] r__law_refused (eFn 2 m_form_product (aCons (eVar 1) (aCons (eVar 0) aNil)))) (eAlt (isAt 3 f2) (eRefAtV [3] 3 f2 2 0 [(1, true), (3, true)] r__law_refused (eFn 2 m_form_product (aCons (eVar 0) (aCons (eVar 1) aNil)))) (eAlt (isAt 3 f3) (eRefAtV [3] 3 f3 2 0 [(1, true), (3, true)] r__law_refused (eFn 2 m_form_parted (aCons (eVar 1) (aCons (eC (.int 0)) aNil)))) (eAlt (isAt 3 f4) (eRefAtV [3] 3 f4 2 0 [(1, true), (3, true)] r__law_refused (eFn 2 m_form_parted (aCons (eVar 0) (aCons (eVar 1) aNil)))) (eAlt (isAt 3 f5) (eRefAtV [3] 3 f5 2 0 [(1, true), (3, true)] r__law_refused (eFn 2 m_form_common (aCons (eVar 1) (aCons (eVar 0) aNil)))) (eRefAtV [3] 3 f6 2 0 [(1, true), (3, true)] r__law_refused (eFn 2 m_form_common (aCons (eVar 0) (aCons (eVar 1) aNil))))))))))
noncomputable abbrev odT (f0 f1 f2 f3 f4 f5 f6 : Addr) : TM := (tVal (eBin (gEq true) (odA f0 f1 f2 f3 f4 f5 f6) (eC (.str "form"))))
theorem od_alt (d : D) (h : BadD d) (a : Nat) (ha : a < 4294967296) (f : Fl) (S : Store) (f0 f1 f2 f3 f4 f5 f6 g : Addr) (L : List D) (hg : g = f0 ∨ g = f1 ∨ g = f2 ∨ g = f3 ∨ g = f4 ∨ g = f5 ∨ g = f6) :
    odA f0 f1 f2 f3 f4 f5 f6 [.ar .c (.int (a : Int)), .ar f d, .ar .c (.lst L), .ar .c (.cst (.ref g))] S = .ok (.str "form", .c) (S ++ [(1, [])]) := by
  have e1 := e_degree d h (inf f) S
  have e2 := e_prod1 d h (inf f) .c S a
  have e3 := e_prod2 d h (inf f) .c S a ha
  have e4 := e_part1 d h (inf f) .c S 0
  have e5 := e_part2 d h (inf f) .c S a ha
  have e6 := e_com1 d h (inf f) .c S a
  have e7 := e_com2 d h (inf f) .c S a ha
  have fr : freeE [.ar .c (.int (a : Int)), .ar f d, .ar .c (.lst L), .ar .c (.cst (.ref g))] [3] = true := rfl
  refine alt_k rfl (fun q => refV_k rfl q fr (ref_form (by simp [wipeE, e1]))) fun n0 => ?_
  refine alt_k rfl (fun q => refV_k rfl q fr (ref_form (by simp [wipeE, e2]))) fun n1 => ?_
  refine alt_k rfl (fun q => refV_k rfl q fr (ref_form (by simp [wipeE, e3]))) fun n2 => ?_
  refine alt_k rfl (fun q => refV_k rfl q fr (ref_form (by simp [wipeE, e4]))) fun n3 => ?_
  refine alt_k rfl (fun q => refV_k rfl q fr (ref_form (by simp [wipeE, e5]))) fun n4 => ?_
  refine alt_k rfl (fun q => refV_k rfl q fr (ref_form (by simp [wipeE, e6]))) fun n5 => ?_
  refine refV_k rfl ?_ fr (ref_form (by simp [wipeE, e7]))
  rcases hg with h | h | h | h | h | h | h
  · exact absurd h n0
  · exact absurd h n1
  · exact absurd h n2
  · exact absurd h n3
  · exact absurd h n4
  · exact absurd h n5
  · exact h
theorem s_lodd (d : D) (h : BadD d) (a : Nat) (ha : a < 4294967296) (f : Fl) (S : Store) : m__law_odd_right [(.c, .int (a : Int)), (f, d)] S = .ok (.bl true, .c) (S ++ List.replicate 7 (1, [])) := by
  show kFn (b__law_odd_right [.ar .c (.int (a : Int)), .ar f d, .no, .no] S) = _
  have go : b__law_odd_right [.ar .c (.int (a : Int)), .ar f d, .no, .no] S = .rt (.bl true) .c (S ++ List.replicate 7 (1, [])) := by
    unfold b__law_odd_right
    refine sLam_k (by simp) fun f0 => sLamA_k rfl (by simp) fun f1 => sLamA_k rfl (by simp) fun f2 => sLamA_k rfl (by simp) fun f3 => sLamA_k rfl (by simp) fun f4 => sLamA_k rfl (by simp) fun f5 => sLamA_k rfl (by simp) fun f6 => ?_
    have c : compL (gN 3) (odT f0 f1 f2 f3 f4 f5 f6) (eC (.bl true)) (wipeE [.ar .c (.int (a : Int)), .ar f d, .ar .c (.lst [.cst (.ref f0), .cst (.ref f1), .cst (.ref f2), .cst (.ref f3), .cst (.ref f4), .cst (.ref f5), .cst (.ref f6)]), .no] [3]) [.cst (.ref f0), .cst (.ref f1), .cst (.ref f2), .cst (.ref f3), .cst (.ref f4), .cst (.ref f5), .cst (.ref f6)] S = .ok [] (S ++ List.replicate 7 (1, [])) := by
      refine lams_none _ S fun x hx => ?_
      have hx' : ∃ q, x = .cst (.ref q) ∧ (q = f0 ∨ q = f1 ∨ q = f2 ∨ q = f3 ∨ q = f4 ∨ q = f5 ∨ q = f6) := by
        simp only [List.mem_cons, List.not_mem_nil, or_false] at hx
        rcases hx with rfl | rfl | rfl | rfl | rfl | rfl | rfl
        · exact ⟨_, rfl, .inl rfl⟩
        · exact ⟨_, rfl, .inr (.inl rfl)⟩
        · exact ⟨_, rfl, .inr (.inr (.inl rfl))⟩
        · exact ⟨_, rfl, .inr (.inr (.inr (.inl rfl)))⟩
        · exact ⟨_, rfl, .inr (.inr (.inr (.inr (.inl rfl))))⟩
        · exact ⟨_, rfl, .inr (.inr (.inr (.inr (.inr (.inl rfl)))))⟩
        · exact ⟨_, rfl, .inr (.inr (.inr (.inr (.inr (.inr rfl)))))⟩
      obtain ⟨q, rfl, hq⟩ := hx'
      refine ⟨_, rfl, fun S => ?_⟩
      have b := od_alt d h a ha f S f0 f1 f2 f3 f4 f5 f6 q [.cst (.ref f0), .cst (.ref f1), .cst (.ref f2), .cst (.ref f3), .cst (.ref f4), .cst (.ref f5), .cst (.ref f6)] hq
      show tVal (eBin (gEq true) (odA f0 f1 f2 f3 f4 f5 f6) (eC (.str "form"))) [.ar .c (.int (a : Int)), .ar f d, .ar .c (.lst [.cst (.ref f0), .cst (.ref f1), .cst (.ref f2), .cst (.ref f3), .cst (.ref f4), .cst (.ref f5), .cst (.ref f6)]), .ar .c (.cst (.ref q))] S = _
      generalize odA f0 f1 f2 f3 f4 f5 f6 = M at *
      simp [b]
    have c2 := kcp_ap [.ar .c (.int (a : Int)), .ar f d, .ar .c (.lst [.cst (.ref f0), .cst (.ref f1), .cst (.ref f2), .cst (.ref f3), .cst (.ref f4), .cst (.ref f5), .cst (.ref f6)]), .no] S [3] (gN 3) (odT f0 f1 f2 f3 f4 f5 f6) (eC (.bl true)) [.cst (.ref f0), .cst (.ref f1), .cst (.ref f2), .cst (.ref f3), .cst (.ref f4), .cst (.ref f5), .cst (.ref f6)] _ _ (by simp) c
    show (sDem 2 (sRet (eBin (gEq false) (eLc (iSeq (eVar 2)) [3] (gN 3) (odT f0 f1 f2 f3 f4 f5 f6) (eC (.bl true))) (eLst aNil)))) [.ar .c (.int (a : Int)), .ar f d, .own (.lst [.cst (.ref f0), .cst (.ref f1), .cst (.ref f2), .cst (.ref f3), .cst (.ref f4), .cst (.ref f5), .cst (.ref f6)]), .no] S = _
    generalize odT f0 f1 f2 f3 f4 f5 f6 = M at *
    have fr : freeE [.ar .c (.int (a : Int)), .ar f d, .ar .c (.lst [.cst (.ref f0), .cst (.ref f1), .cst (.ref f2), .cst (.ref f3), .cst (.ref f4), .cst (.ref f5), .cst (.ref f6)]), .no] [3] = true := rfl
    generalize S ++ List.replicate 7 (1, []) = S' at *
    simp [fr, c2]
  rw [go]
  rfl
end Fin

set_option maxRecDepth 100000
set_option maxHeartbeats 4000000
namespace Fin
open Mv Mir Ev
open PySem (sizeLine sizeLine_eq Addr)
open L2 (atI ixN)
theorem pick6 {B x0 x1 x2 x3 x4 x5 : Nat} (h0 : x0 < B) (h1 : x1 < B) (h2 : x2 < B) (h3 : x3 < B) (h4 : x4 < B) (h5 : x5 < B) (q : Int) (hq : 0 ≤ q ∧ q < 6) : ∃ a, a < B ∧ atI [D.int (x0 : Int), .int (x1 : Int), .int (x2 : Int), .int (x3 : Int), .int (x4 : Int), .int (x5 : Int)] q = some (.int (a : Int)) := by
  have : q = 0 ∨ q = 1 ∨ q = 2 ∨ q = 3 ∨ q = 4 ∨ q = 5 := by omega
  rcases this with rfl | rfl | rfl | rfl | rfl | rfl
  · exact ⟨_, h0, rfl⟩
  · exact ⟨_, h1, rfl⟩
  · exact ⟨_, h2, rfl⟩
  · exact ⟨_, h3, rfl⟩
  · exact ⟨_, h4, rfl⟩
  · exact ⟨_, h5, rfl⟩
theorem n_mod (m b : Nat) : (m : Int) % (b : Int) = ((m % b : Nat) : Int) := by omega
theorem sh1_n (w : Nat) (hw : w ≤ 1000) (f f' : Fl) : gShl (.int 1, f) (.int (w : Int), f') = some (.int ((2 ^ w : Nat) : Int), .c) := by
  have h := shl_n 1 w f f' (by decide) (by omega)
  rw [Nat.one_mul] at h
  exact h
theorem s_lform (c most : Nat) (hm : most ≤ 31) (f f2 : Fl) (S : Store) : ∃ x : Nat, x < 4294967296 ∧ m__law_form [(f, .int (c : Int)), (f2, .int (most : Int))] S = .ok (.int (x : Int), .c) S := by
  obtain ⟨w, hw, w1, w2⟩ : ∃ w : Nat, 1 + (c : Int) % ((most : Int) + 1) = (w : Int) ∧ 1 ≤ w ∧ w ≤ 32 := by
    have h0 := Int.emod_nonneg (c : Int) (show (most : Int) + 1 ≠ 0 by omega)
    have h1 := Int.emod_lt_of_pos (c : Int) (show (0 : Int) < (most : Int) + 1 by omega)
    exact ⟨(1 + (c : Int) % ((most : Int) + 1)).toNat, by omega, by omega, by omega⟩
  have pw : 2 ^ w ≤ 4294967296 := Nat.pow_le_pow_right (n := 2) (by decide) w2
  have p0 := Nat.two_pow_pos w
  obtain ⟨x3, h3, l3⟩ : ∃ x : Nat, ((c : Int) / 64 * 2862933555777941757 + (c : Int) / 7) % ((2 ^ w : Nat) : Int) = (x : Int) ∧ x < 2 ^ w := by
    have h0 := Int.emod_nonneg ((c : Int) / 64 * 2862933555777941757 + (c : Int) / 7) (show ((2 ^ w : Nat) : Int) ≠ 0 by omega)
    have h1 := Int.emod_lt_of_pos ((c : Int) / 64 * 2862933555777941757 + (c : Int) / 7) (show (0 : Int) < ((2 ^ w : Nat) : Int) by omega)
    exact ⟨_, (Int.toNat_of_nonneg h0).symm, by omega⟩
  obtain ⟨i1, hi1, j1⟩ : ∃ i : Nat, (c : Int) / 11 % (w : Int) = (i : Int) ∧ i < w := ⟨c / 11 % w, by rw [show (c : Int) / 11 = ((c / 11 : Nat) : Int) by omega, n_mod], Nat.mod_lt _ (by omega)⟩
  obtain ⟨i2, hi2, j2⟩ : ∃ i : Nat, (c : Int) / 13 % (w : Int) = (i : Int) ∧ i < w := ⟨c / 13 % w, by rw [show (c : Int) / 13 = ((c / 13 : Nat) : Int) by omega, n_mod], Nat.mod_lt _ (by omega)⟩
  obtain ⟨x5, h5, l5⟩ : ∃ x : Nat, (c : Int) / 17 % 4 % ((2 ^ w : Nat) : Int) = (x : Int) ∧ x < 2 ^ w := ⟨c / 17 % 4 % 2 ^ w, by rw [show (c : Int) / 17 % 4 = ((c / 17 % 4 : Nat) : Int) by omega, n_mod], Nat.mod_lt _ p0⟩
  have l4 : 2 ^ i1 ||| 2 ^ i2 < 2 ^ w := Nat.or_lt_two_pow (Nat.pow_lt_pow_right (by decide) j1) (Nat.pow_lt_pow_right (by decide) j2)
  have l6 : 2 ^ (w - 1) < 2 ^ w := Nat.pow_lt_pow_right (by decide) (by omega)
  obtain ⟨a, ha, ea⟩ := pick6 l3 l4 (show 2 ^ w - 1 < 2 ^ w by omega) l3 l5 l6 ((c : Int) / 5 % 6) (by omega)
  refine ⟨a, by omega, ?_⟩
  have jm := fun v => mod_i v ((most : Int) + 1) (inf f) .c (by omega)
  have d64 := fun v => div_i v 64 (inf f) .c (by decide) (by decide +kernel)
  have d7 := fun v => div_i v 7 (inf f) .c (by decide) (by decide +kernel)
  have d11 := fun v => div_i v 11 (inf f) .c (by decide) (by decide +kernel)
  have d13 := fun v => div_i v 13 (inf f) .c (by decide) (by decide +kernel)
  have d17 := fun v => div_i v 17 (inf f) .c (by decide) (by decide +kernel)
  have d5 := fun v => div_i v 5 (inf f) .c (by decide) (by decide +kernel)
  have j6 := fun v => mod_i v 6 .c .c (by decide)
  have j4 := fun v => mod_i v 4 .c .c (by decide)
  have jw := fun v => mod_i v (w : Int) .c .c (by omega)
  have jP := fun v => mod_i v ((2 ^ w : Nat) : Int) .c .c (by omega)
  have mo : ∀ v : Int, mulOk v 2862933555777941757 = true := fun v => mulOk_r (by decide)
  have sw := sh1_n w (by omega) .c .c
  have s1 := sh1_n i1 (by omega) .c .c
  have s2 := sh1_n i2 (by omega) .c .c
  have s3 := sh1_n (w - 1) (by omega) .c .c
  have og := or_g (2 ^ i1) (2 ^ i2) .c .c
  have ew : (w : Int) - 1 = ((w - 1 : Nat) : Int) := by omega
  have eP : ((2 ^ w : Nat) : Int) - 1 = ((2 ^ w - 1 : Nat) : Int) := by omega
  generalize 2 ^ i1 ||| 2 ^ i2 = x4 at *
  generalize 2 ^ i1 = y1 at *
  generalize 2 ^ i2 = y2 at *
  generalize 2 ^ (w - 1) = y3 at *
  generalize 2 ^ w - 1 = y4 at *
  generalize 2 ^ w = P at *
  generalize ((w - 1 : Nat) : Int) = w' at *
  generalize q0 : (c : Int) / 5 % 6 = q at *
  simp only [m__law_form, b__law_form, fnM_ap]
  simp [jm, d64, d7, d11, d13, d17, d5, j6, j4, jw, jP, mo, sw, s1, s2, s3, og, hw, h3, hi1, hi2, h5, ew, eP, sub_i, ea, q0, -int_ap]
end Fin

set_option maxRecDepth 100000
set_option maxHeartbeats 4000000
namespace Fin
open Mv Mir Ev
open PySem (sizeLine sizeLine_eq Addr)
open L2 (atI ixN)
noncomputable abbrev fB1 : SM := (sIf (tOrM (tNotM (tVal (eFn 2 m__law_whole (aCons (eFn 1 m_degree (aCons (eVar 8) aNil)) (aCons (eBin gSub (eCal gLen (aCons (eFn 1 m__law_row (aCons (eVar 8) aNil)) aNil)) (eC (.int 1))) aNil))))) (tNotM (tVal (eFn 2 m__law_bits_right (aCons (eVar 8) (aCons (eBin gMod (eBin gDiv (eVar 3) (eC (.int 32))) (eC (.int 36))) aNil)))))) (sRet (eC (.bl false))) sNil)
noncomputable abbrev pB1 : SM := (sIf (tNotM (tVal (eFn 2 m__law_pair_right (aCons (eVar 9) (aCons (eVar 10) aNil))))) (sRet (eC (.bl false))) sNil)
noncomputable abbrev oE1 : EM := (eBin gIx (eLst (aCons (eC .non) (aCons (eC (.bl true)) (aCons (eC (.bl false)) (aCons (eUn gNeg (eC (.int 1))) (aCons (eBin gShl (eC (.int 1)) (eC (.int 32))) (aCons (eC (.str "3")) (aCons (eLst (aCons (eC (.int 1)) aNil)) (aCons (eTup (aCons (eC (.int 1)) aNil)) (aCons eDict0 (aCons (eBin gPow (eC (.int 10)) (eC (.int 30))) aNil))))))))))) (eBin gMod (eBin gDiv (eVar 3) (eC (.int 1000))) (eC (.int 10))))
noncomputable abbrev outB1 : SM := (sSeq (sSet 3 (eFn 2 m__law_mixed (aCons (eVar 2) (aCons (eVar 1) aNil)))) (sSeq (sSet 4 (eBin gMod (eVar 3) (eC (.int 32)))) (sSeq (sSet 5 (eFn 2 m__law_form (aCons (eFn 2 m__law_mixed (aCons (eVar 2) (aCons (eBin gAdd (eVar 1) (eC (.int 1))) aNil))) (aCons (eVar 4) aNil)))) (sSeq (sSet 6 (eFn 2 m__law_form (aCons (eFn 2 m__law_mixed (aCons (eVar 2) (aCons (eBin gAdd (eVar 1) (eC (.int 2))) aNil))) (aCons (eBin gSub (eC (.int 31)) (eVar 4)) aNil)))) (sSeq (sSet 7 (eFn 2 m__law_form (aCons (eFn 2 m__law_mixed (aCons (eVar 2) (aCons (eBin gAdd (eVar 1) (eC (.int 3))) aNil))) (aCons (eC (.int 31)) aNil)))) (sSeq (sFor (iSeq (eTup (aCons (eVar 5) (aCons (eVar 6) (aCons (eVar 7) aNil))))) (gN 8) fB1) (sSeq (sIf (tNotM (tVal (eFn 2 m__law_whole (aCons (eFn 2 m_form_product (aCons (eVar 5) (aCons (eVar 6) aNil))) (aCons (eFn 1 m__law_number (aCons (eFn 2 m__law_product (aCons (eFn 1 m__law_row (aCons (eVar 5) aNil)) (aCons (eFn 1 m__law_row (aCons (eVar 6) aNil)) aNil))) aNil)) aNil))))) (sRet (eC (.bl false))) sNil) (sSeq (sFor (iSeq (eTup (aCons (eTup (aCons (eVar 5) (aCons (eVar 6) aNil))) (aCons (eTup (aCons (eVar 7) (aCons (eVar 5) aNil))) (aCons (eTup (aCons (eVar 6) (aCons (eVar 7) aNil))) (aCons (eTup (aCons (eC (.int 0)) (aCons (eVar 5) aNil))) (aCons (eTup (aCons (eVar 7) (aCons (eC (.int 0)) aNil))) aNil))))))) (gT 2 (gsC (gN 9) (gsC (gN 10) gsN))) pB1) (sSeq (sSet 11 oE1) (sSeq (sIf (tNotM (tVal (eFn 2 m__law_odd_right (aCons (eVar 7) (aCons (eVar 11) aNil))))) (sRet (eC (.bl false))) sNil) (sIf (tOrM (tNotM (tVal (eFn 2 m__law_looks_right (aCons (eVar 11) (aCons (eVar 3) aNil))))) (tNotM (tVal (eFn 2 m__law_looks_right (aCons (eVar 3) (aCons (eVar 3) aNil)))))) (sRet (eC (.bl false))) sNil)))))))))))
theorem s_degree (x : Nat) (f : Fl) (S : Store) (h : x < 4294967296) : m_degree [(f, .int (x : Int))] S = .ok (.int ((bl x : Int) - 1), .c) S := by
  have n := s_need x (inf f) S h
  have hh := s_high x (inf f) S
  simp [m_degree, b_degree, n, hh, -int_ap]
theorem f1_step (x m k : Nat) (hx : x < 4294967296) (hm : (m : Int) / 32 % 36 = (k : Int)) (hk : k ≤ 100) (r : Env) (S : Store) (h8 : r[8]? = some (.ar .c (.int (x : Int)))) (h3 : r[3]? = some (.ar .c (.int (m : Int)))) : fB1 r S = .nx r S := by
  have dg := s_degree x .c S hx
  have bx := bl_lt32.mp hx
  have rw' := s_row x .c S (by omega)
  have ll := row_len' x
  have lb := s_lbits x k .c .c S hx hk
  have w1 := fun v f1 f2 => s_lwhole v f1 f2 S
  have d32 := fun v => div_i v 32 .c .c (by decide) (by decide +kernel)
  have j36 := fun v => mod_i v 36 .c .c (by decide)
  have lz : (nI (rowF x)).length ≤ 16777216 := by omega
  generalize nI (rowF x) = K at *
  simp [h8, h3, dg, rw', ll, lb, w1, d32, j36, hm, sub_i, lz, sizeLine_eq, -int_ap]
theorem f1_loop (m k : Nat) (hm : (m : Int) / 32 % 36 = (k : Int)) (hk : k ≤ 100) (S : Store) (a0 a1 a2 a4 a5 a6 a7 a9 a10 a11 : Slot) : ∀ (L : List Nat) (s : Slot), (∀ x ∈ L, x < 4294967296) → ∃ s', forL (gN 8) fB1 (nI L) [a0, a1, a2, .ar .c (.int (m : Int)), a4, a5, a6, a7, s, a9, a10, a11] S = .nx [a0, a1, a2, .ar .c (.int (m : Int)), a4, a5, a6, a7, s', a9, a10, a11] S
  | [], s, _ => ⟨s, for_nil⟩
  | x :: L, s, h => by
    obtain ⟨s', q⟩ := f1_loop m k hm hk S a0 a1 a2 a4 a5 a6 a7 a9 a10 a11 L (.ar .c (.int (x : Int))) fun y hy => h y (.tail _ hy)
    exact ⟨s', (for_cons (r1 := [a0, a1, a2, .ar .c (.int (m : Int)), a4, a5, a6, a7, .ar .c (.int (x : Int)), a9, a10, a11]) rfl (f1_step x m k (h x (.head _)) hm hk _ S rfl rfl)).trans q⟩
theorem p1_loop (a0 a1 a2 a3 a4 a5 a6 a7 a8 a11 : Slot) : ∀ (ps : List (Nat × Nat)) (S : Store) (s9 s10 : Slot), (∀ p ∈ ps, p.1 < 4294967296 ∧ p.2 < 4294967296) → ∃ s9' s10' S', forL (gT 2 (gsC (gN 9) (gsC (gN 10) gsN))) pB1 (ps.map fun p => .tup [.int (p.1 : Int), .int (p.2 : Int)]) [a0, a1, a2, a3, a4, a5, a6, a7, a8, s9, s10, a11] S = .nx [a0, a1, a2, a3, a4, a5, a6, a7, a8, s9', s10', a11] S'
  | [], S, s9, s10, _ => ⟨s9, s10, S, for_nil⟩
  | p :: ps, S, s9, s10, h => by
    obtain ⟨S1, e⟩ := s_lpair p.1 p.2 S (h p (.head _)).1 (h p (.head _)).2
    obtain ⟨s9', s10', S', q⟩ := p1_loop a0 a1 a2 a3 a4 a5 a6 a7 a8 a11 ps S1 (.ar .c (.int (p.1 : Int))) (.ar .c (.int (p.2 : Int))) fun y hy => h y (.tail _ hy)
    refine ⟨s9', s10', S', (for_cons (r1 := [a0, a1, a2, a3, a4, a5, a6, a7, a8, .ar .c (.int (p.1 : Int)), .ar .c (.int (p.2 : Int)), a11]) rfl ?_).trans q⟩
    simp [e, -int_ap]
theorem p30 : ∃ t : Int, 4294967295 < t ∧ ∀ f f' : Fl, gPow (.int 10, f) (.int 30, f') = some (.int t, .c) := ⟨10 ^ 30, by decide, fun _ _ => rfl⟩
theorem thing_at (t : Int) (ht : 4294967295 < t) (q : Int) (hq : 0 ≤ q ∧ q < 10) : ∃ d, atI [D.non, .bl true, .bl false, .int (-1), .int 4294967296, .str "3", .lst [.int 1], .tup [.int 1], .dic [] [], .int t] q = some d ∧ BadD d := by
  have : q = 0 ∨ q = 1 ∨ q = 2 ∨ q = 3 ∨ q = 4 ∨ q = 5 ∨ q = 6 ∨ q = 7 ∨ q = 8 ∨ q = 9 := by omega
  rcases this with rfl | rfl | rfl | rfl | rfl | rfl | rfl | rfl | rfl | rfl
  · exact ⟨_, rfl, rfl, rfl⟩
  · exact ⟨_, rfl, rfl, rfl⟩
  · exact ⟨_, rfl, rfl, rfl⟩
  · exact ⟨_, rfl, rfl, by unfold amongD; exact decide_eq_false (by omega)⟩
  · exact ⟨_, rfl, rfl, by unfold amongD; exact decide_eq_false (by omega)⟩
  · exact ⟨_, rfl, rfl, rfl⟩
  · exact ⟨_, rfl, rfl, rfl⟩
  · exact ⟨_, rfl, rfl, rfl⟩
  · exact ⟨_, rfl, rfl, rfl⟩
  · exact ⟨_, rfl, rfl, by unfold amongD; exact decide_eq_false (by omega)⟩
theorem o1_ok (m : Nat) (r : Env) (S : Store) (h3 : r[3]? = some (.ar .c (.int (m : Int)))) : ∃ d, BadD d ∧ oE1 r S = .ok (d, .c) S := by
  obtain ⟨t, t0, tp⟩ := p30
  obtain ⟨d, e, hd⟩ := thing_at t t0 ((m : Int) / 1000 % 10) (by omega)
  have d1 := fun v => div_i v 1000 .c .c (by decide) (by decide +kernel)
  have j1 := fun v => mod_i v 10 .c .c (by decide)
  have s32 : gShl (.int 1, .c) (.int 32, .c) = some (.int 4294967296, .c) := rfl
  refine ⟨d, hd, ?_⟩
  generalize hq : (m : Int) / 1000 % 10 = q at *
  simp [h3, d1, j1, s32, tp, hq, e, sizeLine_eq, -int_ap]
theorem s_mixN (c : Int) (k : Int) (S : Store) (hk : 0 ≤ k ∧ k ≤ 1000) : ∃ m : Nat, m__law_mixed [(.c, .int c), (.c, .int k)] S = .ok (.int (m : Int), .c) S := by
  have m1 := s_mixed c k .c .c S hk
  have m0 := mix_nn c k
  generalize mixF c k = u at m1 m0
  obtain ⟨m, rfl⟩ := Int.eq_ofNat_of_zero_le m0
  exact ⟨m, m1⟩
theorem out1 (j : Nat) (hj : j ≤ 100) (c : Int) (a0 : Slot) (S : Store) (x3 x4 x5 x6 x7 x8 x9 x10 x11 : Slot) : ∃ y3 y4 y5 y6 y7 y8 y9 y10 y11 S', outB1 [a0, .ar .c (.int (j : Int)), .ar .c (.int c), x3, x4, x5, x6, x7, x8, x9, x10, x11] S = .nx [a0, .ar .c (.int (j : Int)), .ar .c (.int c), y3, y4, y5, y6, y7, y8, y9, y10, y11] S' := by
  obtain ⟨m, e0⟩ := s_mixN c (j : Int) S (by omega)
  obtain ⟨m1, e1⟩ := s_mixN c ((j : Int) + 1) S (by omega)
  obtain ⟨m2, e2⟩ := s_mixN c ((j : Int) + 2) S (by omega)
  obtain ⟨m3, e3⟩ := s_mixN c ((j : Int) + 3) S (by omega)
  obtain ⟨h, hh, h31⟩ : ∃ h : Nat, (m : Int) % 32 = (h : Int) ∧ h ≤ 31 := ⟨m % 32, by omega, by omega⟩
  obtain ⟨h2, hh2⟩ : ∃ h2 : Nat, 31 - (h : Int) = (h2 : Int) := ⟨31 - h, by omega⟩
  obtain ⟨a, ha, ea⟩ := s_lform m1 h h31 .c .c S
  obtain ⟨b, hb, eb⟩ := s_lform m2 h2 (by omega) .c .c S
  obtain ⟨t, ht, et⟩ := s_lform m3 31 (by omega) .c .c S
  obtain ⟨k, hk, hk2⟩ : ∃ k : Nat, (m : Int) / 32 % 36 = (k : Int) ∧ k ≤ 100 := ⟨m / 32 % 36, by omega, by omega⟩
  obtain ⟨s8, fl⟩ := f1_loop m k hk hk2 S a0 (.ar .c (.int (j : Int))) (.ar .c (.int c)) (.ar .c (.int (h : Int))) (.ar .c (.int (a : Int))) (.ar .c (.int (b : Int))) (.ar .c (.int (t : Int))) x9 x10 x11 [a, b, t] x8 (by
    intro x hx
    simp only [List.mem_cons, List.not_mem_nil, or_false] at hx
    rcases hx with rfl | rfl | rfl <;> assumption)
  obtain ⟨s9, s10, S1, pl⟩ := p1_loop a0 (.ar .c (.int (j : Int))) (.ar .c (.int c)) (.ar .c (.int (m : Int))) (.ar .c (.int (h : Int))) (.ar .c (.int (a : Int))) (.ar .c (.int (b : Int))) (.ar .c (.int (t : Int))) s8 x11 [(a, b), (t, a), (b, t), (0, a), (t, 0)] S x9 x10 (by
    intro x hx
    simp only [List.mem_cons, List.not_mem_nil, or_false] at hx
    rcases hx with rfl | rfl | rfl | rfl | rfl <;> exact ⟨by first | assumption | (show (0 : Nat) < 4294967296; decide), by first | assumption | (show (0 : Nat) < 4294967296; decide)⟩)
  obtain ⟨d, hd, eo⟩ := o1_ok m [a0, .ar .c (.int (j : Int)), .ar .c (.int c), .ar .c (.int (m : Int)), .ar .c (.int (h : Int)), .ar .c (.int (a : Int)), .ar .c (.int (b : Int)), .ar .c (.int (t : Int)), s8, s9, s10, x11] S1 rfl
  have od := s_lodd d hd t ht .c S1
  have l1 := s_looks d hd.1 .c .c (m : Int) (S1 ++ List.replicate 7 (1, []))
  have l2 := s_looks (.int (m : Int)) rfl .c .c (m : Int) (S1 ++ List.replicate 7 (1, []))
  have fl' : forL (gN 8) fB1 [.int (a : Int), .int (b : Int), .int (t : Int)] [a0, .ar .c (.int (j : Int)), .ar .c (.int c), .ar .c (.int (m : Int)), .ar .c (.int (h : Int)), .ar .c (.int (a : Int)), .ar .c (.int (b : Int)), .ar .c (.int (t : Int)), x8, x9, x10, x11] S = _ := fl
  have pl' : forL (gT 2 (gsC (gN 9) (gsC (gN 10) gsN))) pB1 [.tup [.int (a : Int), .int (b : Int)], .tup [.int (t : Int), .int (a : Int)], .tup [.int (b : Int), .int (t : Int)], .tup [.int 0, .int (a : Int)], .tup [.int (t : Int), .int 0]] [a0, .ar .c (.int (j : Int)), .ar .c (.int c), .ar .c (.int (m : Int)), .ar .c (.int (h : Int)), .ar .c (.int (a : Int)), .ar .c (.int (b : Int)), .ar .c (.int (t : Int)), s8, x9, x10, x11] S = _ := pl
  have ab := bl_lt32.mp ha
  have bb := bl_lt32.mp hb
  have ra := s_row a .c S (by omega)
  have rb := s_row b .c S (by omega)
  have pr := s_lproduct (rowF a) (rowF b) .n .n S rfl rfl (row_bits a) (row_bits b) (by rw [row_len]; omega) (by rw [row_len]; omega)
  rw [num_row, num_row] at pr
  have cl : (rowF (cm a b)).length ≤ 100000 := by
    rw [row_len]
    have h1 : ∀ n x y, bl x ≤ n → bl (cm x y) ≤ n + bl y := by
      intro n
      induction n with
      | zero =>
        intro x y hx
        rw [bl_zero.mp (show bl x = 0 by omega), cm_zero, bl]
        omega
      | succ n ih =>
        intro x y hx
        rw [cm_eq, ← lt_iff]
        have i1 := ih (x / 2) y (by
          rcases Nat.eq_zero_or_pos x with z | z
          · subst z; simp [bl]
          · have := bl_pos z; omega)
        rw [← lt_iff] at i1
        refine Nat.xor_lt_two_pow ?_ ?_
        · have hy := lt_bl y
          have : x % 2 * y ≤ y := by
            rcases Nat.mod_two_eq_zero_or_one x with z | z <;> rw [z] <;> omega
          exact Nat.lt_of_lt_of_le (Nat.lt_of_le_of_lt this hy) (Nat.pow_le_pow_right (by decide) (by omega))
        · rw [show n + 1 + bl y = n + bl y + 1 by omega, Nat.pow_succ]
          omega
    have := h1 (bl a) a b (Nat.le_refl _)
    omega
  have nu := s_number (rowF (cm a b)) .n S rfl (by decide) cl
  rw [num_row] at nu
  have fp := s_product a b .c .c S ha hb
  rw [cm_comm b a] at fp
  have w1 := fun v f1 f2 => s_lwhole v f1 f2 S
  have j32 := fun v => mod_i v 32 .c .c (by decide)
  refine ⟨.ar .c (.int (m : Int)), .ar .c (.int (h : Int)), .ar .c (.int (a : Int)), .ar .c (.int (b : Int)), .ar .c (.int (t : Int)), s8, s9, s10, .ar .c d, S1 ++ List.replicate 7 (1, []), ?_⟩
  have et' : m__law_form [(.c, .int (m3 : Int)), (.c, .int 31)] S = .ok (.int (t : Int), .c) S := et
  clear et fl pl
  generalize S1 ++ List.replicate 7 (1, []) = S2 at *
  generalize nI (rowF (cm a b)) = KC at *
  generalize nI (rowF a) = KA at *
  generalize nI (rowF b) = KB at *
  generalize cm a b = cc at *
  unfold outB1
  refine (seq_set (d := .int (m : Int)) (f := .c) (S' := S) (by simp [e0, -int_ap]) rfl).trans ?_
  refine (seq_set (d := .int (h : Int)) (f := .c) (S' := S) (by simp [j32, hh, -int_ap]) rfl).trans ?_
  refine (seq_set (d := .int (a : Int)) (f := .c) (S' := S) (by simp [e1, ea, -int_ap]) rfl).trans ?_
  refine (seq_set (d := .int (b : Int)) (f := .c) (S' := S) (by simp [e2, hh2, sub_i, eb, -int_ap]) rfl).trans ?_
  refine (seq_set (d := .int (t : Int)) (f := .c) (S' := S) (by simp [e3, et', -int_ap]) rfl).trans ?_
  refine (seq_nx (r' := [a0, .ar .c (.int (j : Int)), .ar .c (.int c), .ar .c (.int (m : Int)), .ar .c (.int (h : Int)), .ar .c (.int (a : Int)), .ar .c (.int (b : Int)), .ar .c (.int (t : Int)), s8, x9, x10, x11]) (S' := S) ?_).trans ?_
  · generalize fB1 = FB at *
    simp [fl', -int_ap]
  refine (seq_off (S' := S) ?_).trans ?_
  · simp [fp, ra, rb, pr, nu, w1, -int_ap]
  refine (seq_nx (r' := [a0, .ar .c (.int (j : Int)), .ar .c (.int c), .ar .c (.int (m : Int)), .ar .c (.int (h : Int)), .ar .c (.int (a : Int)), .ar .c (.int (b : Int)), .ar .c (.int (t : Int)), s8, s9, s10, x11]) (S' := S1) ?_).trans ?_
  · generalize pB1 = PB at *
    simp [pl', -int_ap]
  refine (seq_set (d := d) (f := .c) (S' := S1) eo rfl).trans ?_
  refine (seq_off (S' := S2) ?_).trans ?_
  · simp [od, -int_ap]
  · rw [if_t (c := false) (S' := S2) (by simp [l1, l2, -int_ap])]
    rfl
theorem math : ∀ ns : List Int, ns.length ≤ 63 → ∃ S f, m_law [(.c, .frz (ns.map D.int))] [] = .ok (.bl true, f) S := by
  intro ns hns
  have cu := cut_to (ns.map D.int) 40
  rw [← List.map_take] at cu
  have hL : ((ns.take 40).map D.int ++ [D.int 6]) = (ns.take 40 ++ [6]).map D.int := by simp
  obtain ⟨r2, S2, h1, x1, x2, x3, x4, x5, x6, x7, x8, x9, x10, x11, h2⟩ := for_inv (P := fun j r S' => ∃ x1 x2 x3 x4 x5 x6 x7 x8 x9 x10 x11, r = [.ar .c (.frz (ns.map D.int)), x1, x2, x3, x4, x5, x6, x7, x8, x9, x10, x11])
    (g := gT 2 (gsC (gN 1) (gsC (gN 2) gsN))) (p := outB1) (enumD ((ns.take 40 ++ [6]).map D.int)) 0 [.ar .c (.frz (ns.map D.int)), .no, .no, .no, .no, .no, .no, .no, .no, .no, .no, .no] [] ⟨.no, .no, .no, .no, .no, .no, .no, .no, .no, .no, .no, rfl⟩ (fun j d r S' hd hP => by
      obtain ⟨x1, x2, x3, x4, x5, x6, x7, x8, x9, x10, x11, rfl⟩ := hP
      obtain ⟨x, hx, rfl⟩ := enum_inv hd
      have hj : j ≤ 100 := by
        have := (List.getElem?_eq_some_iff.mp hx).1
        simp at this
        omega
      rw [List.getElem?_map] at hx
      obtain ⟨c, _, rfl⟩ := Option.map_eq_some_iff.mp hx
      obtain ⟨y3, y4, y5, y6, y7, y8, y9, y10, y11, S2, q⟩ := out1 j hj c (.ar .c (.frz (ns.map D.int))) S' x3 x4 x5 x6 x7 x8 x9 x10 x11
      exact ⟨_, rfl, _, _, q, _, _, y3, y4, y5, y6, y7, y8, y9, y10, y11, rfl⟩)
  refine ⟨S2, .c, ?_⟩
  subst h2
  have c40 : cutD (ns.map D.int) none (some 40) = (ns.take 40).map D.int := cu
  rw [← hL] at h1
  have le : ((ns.take 40).map D.int).length + 1 ≤ sizeLine := by
    rw [sizeLine_eq]
    simp
    omega
  have h3 := congrArg (fun z : SR => kFn (z.bind (sRet (eC (.bl true))))) h1
  generalize (ns.take 40).map D.int = X at *
  generalize hZ : enumD (X ++ [D.int 6]) = Z at *
  generalize ns.map D.int = Y at *
  refine Eq.trans ?_ (h3.trans rfl)
  show kFn ((sSeq (sFor (iArgs (gSeq1 enumD) (aCons (eBin gAdd (eSl (eVar 0) oNo (oSo (eC (.int 40)))) (eLst (aCons (eC (.int 6)) aNil))) aNil)) (gT 2 (gsC (gN 1) (gsC (gN 2) gsN))) outB1) (sRet (eC (.bl true)))) [.ar .c (.frz Y), .no, .no, .no, .no, .no, .no, .no, .no, .no, .no, .no] []) = _
  generalize outB1 = OB at *
  simp [c40, le, hZ, -int_ap]
end Fin

set_option maxHeartbeats 4000000
/-! the walks of codewright_k01_forms_by_rows_of_bits, printed by gen.py -/
namespace Wlk
open PySem PySem.Spec PyProof.Rows L2 Mv Mir
set_option maxRecDepth 100000
abbrev topS (i : Nat) : Stmt := PySem.Challenge.pw_codewright_k01_forms_by_rows_of_bits.main.body.getD i (.Pass ⟨0, 0, 0, 0⟩)
abbrev qn__law_odd_right : Str := (envOfC "_law_odd_right" (defScope (topS 45)) 0 0 .none).qual ++ "<lambda>"
abbrev qn__law_pair_right : Str := (envOfC "_law_pair_right" (defScope (topS 42)) 0 0 .none).qual ++ "<lambda>"
def fdt : Nat → List Str := fun n => ([[], [], [], [], [], [], [], [], [], [], [], [], ["part"], ["block"]] : List (List Str)).getD n []
abbrev ctOf (pu : Bool) (pn : List (Addr × HO)) (A0 A1 A2 A3 A4 A5 A6 A7 A8 A9 A10 A11 A12 A13 cc__law_odd_right pp__law_odd_right cc__law_pair_right pp__law_pair_right cc_law : Addr) : CT := ⟨fun n => [A0, A1, A2, A3, A4, A5, A6, A7, A8, A9, A10, A11, A12, A13].getD n 0, fdt, fun n => ([true, true, true, true, true, true, true, true, true, true, true, true, true, true] : List Bool).getD n false, [(pp__law_odd_right, qn__law_odd_right), (pp__law_pair_right, qn__law_pair_right)], pu, pn⟩
theorem sc__law_row : FnScope ["number", "found"] ["number"] (defScope (topS 36)) := ⟨rfl, rfl, rfl, by decide +kernel, rfl, by decide +kernel, by decide +kernel⟩
theorem sc__law_whole : FnScope ["found", "due"] ["found", "due"] (defScope (topS 41)) := ⟨rfl, rfl, rfl, by decide +kernel, rfl, by decide +kernel, by decide +kernel⟩
theorem sc_bits_of : FnScope ["number", "many", "place"] ["number", "many"] (defScope (topS 5)) := ⟨rfl, rfl, rfl, by decide +kernel, rfl, by decide +kernel, by decide +kernel⟩
theorem sc_weight : FnScope ["number", "found"] ["number"] (defScope (topS 3)) := ⟨rfl, rfl, rfl, by decide +kernel, rfl, by decide +kernel, by decide +kernel⟩
theorem sc_is_odd : FnScope ["number"] ["number"] (defScope (topS 4)) := ⟨rfl, rfl, rfl, by decide +kernel, rfl, by decide +kernel, by decide +kernel⟩
theorem sc_number_of : FnScope ["bits", "found", "place", "bit"] ["bits"] (defScope (topS 6)) := ⟨rfl, rfl, rfl, by decide +kernel, rfl, by decide +kernel, by decide +kernel⟩
theorem sc__law_bits_right : FnScope ["number", "many", "row", "odd", "found", "kept", "told"] ["number", "many"] (defScope (topS 43)) := ⟨rfl, rfl, rfl, by decide +kernel, rfl, by decide +kernel, by decide +kernel⟩
theorem sc__law_form : FnScope ["cell", "most", "wide", "whole", "few"] ["cell", "most"] (defScope (topS 35)) := ⟨rfl, rfl, rfl, by decide +kernel, rfl, by decide +kernel, by decide +kernel⟩
theorem sc_is_whole : FnScope ["thing"] ["thing"] (defScope (topS 1)) := ⟨rfl, rfl, rfl, by decide +kernel, rfl, by decide +kernel, by decide +kernel⟩
theorem sc_is_among : FnScope ["thing", "least", "most"] ["thing", "least", "most"] (defScope (topS 2)) := ⟨rfl, rfl, rfl, by decide +kernel, rfl, by decide +kernel, by decide +kernel⟩
theorem sc__law_looks_right : FnScope ["thing", "number", "whole", "found", "least", "most"] ["thing", "number"] (defScope (topS 44)) := ⟨rfl, rfl, rfl, by decide +kernel, rfl, by decide +kernel, by decide +kernel⟩
theorem sc__law_mixed : FnScope ["cell", "k", "number"] ["cell", "k"] (defScope (topS 32)) := ⟨rfl, rfl, rfl, by decide +kernel, rfl, by decide +kernel, by decide +kernel⟩
theorem sc__law_number : FnScope ["row", "found", "bit"] ["row"] (defScope (topS 37)) := ⟨rfl, rfl, rfl, by decide +kernel, rfl, by decide +kernel, by decide +kernel⟩
theorem sc_high_place : FnScope ["form", "found"] ["form"] (defScope (topS 25)) := ⟨rfl, rfl, rfl, by decide +kernel, rfl, by decide +kernel, by decide +kernel⟩
theorem sc_need_form : FnScope ["thing"] ["thing"] (defScope (topS 24)) := ⟨rfl, rfl, rfl, by decide +kernel, rfl, by decide +kernel, by decide +kernel⟩
theorem sc_degree : FnScope ["form"] ["form"] (defScope (topS 27)) := ⟨rfl, rfl, rfl, by decide +kernel, rfl, by decide +kernel, by decide +kernel⟩
theorem sc_laid_rest : FnScope ["form", "other", "high"] ["form", "other"] (defScope (topS 26)) := ⟨rfl, rfl, rfl, by decide +kernel, rfl, by decide +kernel, by decide +kernel⟩
theorem sc_form_common : FnScope ["one", "other"] ["one", "other"] (defScope (topS 30)) := ⟨rfl, rfl, rfl, by decide +kernel, rfl, by decide +kernel, by decide +kernel⟩
theorem sc_form_parted : FnScope ["one", "other", "high", "quotient", "place"] ["one", "other"] (defScope (topS 29)) := ⟨rfl, rfl, rfl, by decide +kernel, rfl, by decide +kernel, by decide +kernel⟩
theorem sc_form_product : FnScope ["one", "other", "found"] ["one", "other"] (defScope (topS 28)) := ⟨rfl, rfl, rfl, by decide +kernel, rfl, by decide +kernel, by decide +kernel⟩
theorem sc__law_kind : FnScope ["error", "words", "found"] ["error"] (defScope (topS 33)) := ⟨rfl, rfl, rfl, by decide +kernel, rfl, by decide +kernel, by decide +kernel⟩
theorem sc__law_refused : FnScope ["asked", "wrong", "e"] ["asked"] (defScope (topS 34)) := ⟨rfl, rfl, rfl, by decide +kernel, rfl, by decide +kernel, by decide +kernel⟩
theorem sc__law_odd_right : FnScope ["one", "odd", "every", "asked"] ["one", "odd"] (defScope (topS 45)) := ⟨rfl, rfl, rfl, by decide +kernel, rfl, by decide +kernel, by decide +kernel⟩
theorem sc__law_parted : FnScope ["one", "other", "rest", "quotient", "place", "k", "bit"] ["one", "other"] (defScope (topS 39)) := ⟨rfl, rfl, rfl, by decide +kernel, rfl, by decide +kernel, by decide +kernel⟩
theorem sc__law_common : FnScope ["one", "other"] ["one", "other"] (defScope (topS 40)) := ⟨rfl, rfl, rfl, by decide +kernel, rfl, by decide +kernel, by decide +kernel⟩
theorem sc__law_pair_right : FnScope ["one", "other", "rows", "found", "quotient", "rest"] ["one", "other"] (defScope (topS 42)) := ⟨rfl, rfl, rfl, by decide +kernel, rfl, by decide +kernel, by decide +kernel⟩
theorem sc__law_product : FnScope ["one", "other", "found", "i", "left", "j", "right"] ["one", "other"] (defScope (topS 38)) := ⟨rfl, rfl, rfl, by decide +kernel, rfl, by decide +kernel, by decide +kernel⟩
theorem sc_law : FnScope ["script", "k", "cell", "number", "high", "one", "other", "third", "form", "left", "right", "odd"] ["script"] (defScope (topS 46)) := ⟨rfl, rfl, rfl, by decide +kernel, rfl, by decide +kernel, by decide +kernel⟩
structure Txt (K : PySem.W.Frag) (mg : Str → Option Value) (A0 A1 A2 A3 A4 A5 A6 A7 A8 A9 A10 A11 A12 A13 cc__law_odd_right pp__law_odd_right cc__law_pair_right pp__law_pair_right cc_law : Addr) : Prop where
  fn__law_row : FunO K mg "_law_row" (topS 36) ["number"]
  fn__law_whole : FunO K mg "_law_whole" (topS 41) ["found", "due"]
  fn_bits_of : FunO K mg "bits_of" (topS 5) ["number", "many"]
  fn_weight : FunO K mg "weight" (topS 3) ["number"]
  fn_is_odd : FunO K mg "is_odd" (topS 4) ["number"]
  fn_number_of : FunO K mg "number_of" (topS 6) ["bits"]
  fn__law_bits_right : FunO K mg "_law_bits_right" (topS 43) ["number", "many"]
  fn__law_form : FunO K mg "_law_form" (topS 35) ["cell", "most"]
  fn_is_whole : FunO K mg "is_whole" (topS 1) ["thing"]
  fn_is_among : FunO K mg "is_among" (topS 2) ["thing", "least", "most"]
  fn__law_looks_right : FunO K mg "_law_looks_right" (topS 44) ["thing", "number"]
  fn__law_mixed : FunO K mg "_law_mixed" (topS 32) ["cell", "k"]
  fn__law_number : FunO K mg "_law_number" (topS 37) ["row"]
  fn_high_place : FunO K mg "high_place" (topS 25) ["form"]
  fn_need_form : FunO K mg "need_form" (topS 24) ["thing"]
  fn_degree : FunO K mg "degree" (topS 27) ["form"]
  fn_laid_rest : FunO K mg "laid_rest" (topS 26) ["form", "other"]
  fn_form_common : FunO K mg "form_common" (topS 30) ["one", "other"]
  fn_form_parted : FunO K mg "form_parted" (topS 29) ["one", "other"]
  fn_form_product : FunO K mg "form_product" (topS 28) ["one", "other"]
  fn__law_kind : FunO K mg "_law_kind" (topS 33) ["error"]
  fn__law_refused : FunO K mg "_law_refused" (topS 34) ["asked"]
  fn__law_odd_right : FunOC K mg "_law_odd_right" (topS 45) ["one", "odd"] cc__law_odd_right
  fn__law_parted : FunO K mg "_law_parted" (topS 39) ["one", "other"]
  fn__law_common : FunO K mg "_law_common" (topS 40) ["one", "other"]
  fn__law_pair_right : FunOC K mg "_law_pair_right" (topS 42) ["one", "other"] cc__law_pair_right
  fn__law_product : FunO K mg "_law_product" (topS 38) ["one", "other"]
  fn_law : FunOC K mg "law" (topS 46) ["script"] cc_law
  ti__law_odd_right : PySem.W.tabIn K "_law_odd_right" = some (cc__law_odd_right, pp__law_odd_right)
  tk__law_odd_right : K.lookup pp__law_odd_right = none
  ti__law_pair_right : PySem.W.tabIn K "_law_pair_right" = some (cc__law_pair_right, pp__law_pair_right)
  tk__law_pair_right : K.lookup pp__law_pair_right = none
  tu : TabU [(pp__law_odd_right, qn__law_odd_right), (pp__law_pair_right, qn__law_pair_right)]
  g_MOST_FORM : ∃ t, mg "MOST_FORM" = some (.int 4294967295 t)
  z_ValueError : mg "ValueError" = none
  z_bool : mg "bool" = none
  z_enumerate : mg "enumerate" = none
  z_int : mg "int" = none
  z_isinstance : mg "isinstance" = none
  z_len : mg "len" = none
  z_list : mg "list" = none
  z_range : mg "range" = none
  z_sum : mg "sum" = none
  z_tuple : mg "tuple" = none
  ra_BadForm : RaC K mg A1 "BadForm"
  ra_ByNought : RaC K mg A3 "ByNought"
  gc_BadForm : mg "BadForm" = some (.ref A1)
  gc_BadField : mg "BadField" = some (.ref A12)
  gc_BadElement : mg "BadElement" = some (.ref A2)
  gc_ByNought : mg "ByNought" = some (.ref A3)
  gc_BadRow : mg "BadRow" = some (.ref A4)
  gc_BadCode : mg "BadCode" = some (.ref A5)
  gc_BadWord : mg "BadWord" = some (.ref A6)
  gc_BadSpan : mg "BadSpan" = some (.ref A7)
  gc_NoWord : mg "NoWord" = some (.ref A13)
  gc_BadMachine : mg "BadMachine" = some (.ref A8)
  gc_BadBytes : mg "BadBytes" = some (.ref A9)
  gc_BadSeal : mg "BadSeal" = some (.ref A10)
  gc_BadRoad : mg "BadRoad" = some (.ref A11)
  gc_CodeError : mg "CodeError" = some (.ref A0)
  ex_CodeError_BadForm : PySem.W.exmOne K (.ref A1) (.ref A0) = some true
  ex_CodeError_ByNought : PySem.W.exmOne K (.ref A3) (.ref A0) = some true
  xc_BadForm : ExcC K A1
  xc_ByNought : ExcC K A3
  kn_BadForm : PySem.W.kitOne K (.type "NoneType") (.ref A1) = some false
  ko_BadForm_BadForm : PySem.W.kitOne K (.ref A1) (.ref A1) = some true
  ko_BadForm_ByNought : PySem.W.kitOne K (.ref A3) (.ref A1) = some false
  kn_BadField : PySem.W.kitOne K (.type "NoneType") (.ref A12) = some false
  ko_BadField_BadForm : PySem.W.kitOne K (.ref A1) (.ref A12) = some false
  ko_BadField_ByNought : PySem.W.kitOne K (.ref A3) (.ref A12) = some false
  kn_BadElement : PySem.W.kitOne K (.type "NoneType") (.ref A2) = some false
  ko_BadElement_BadForm : PySem.W.kitOne K (.ref A1) (.ref A2) = some false
  ko_BadElement_ByNought : PySem.W.kitOne K (.ref A3) (.ref A2) = some false
  kn_ByNought : PySem.W.kitOne K (.type "NoneType") (.ref A3) = some false
  ko_ByNought_BadForm : PySem.W.kitOne K (.ref A1) (.ref A3) = some false
  ko_ByNought_ByNought : PySem.W.kitOne K (.ref A3) (.ref A3) = some true
  kn_BadRow : PySem.W.kitOne K (.type "NoneType") (.ref A4) = some false
  ko_BadRow_BadForm : PySem.W.kitOne K (.ref A1) (.ref A4) = some false
  ko_BadRow_ByNought : PySem.W.kitOne K (.ref A3) (.ref A4) = some false
  kn_BadCode : PySem.W.kitOne K (.type "NoneType") (.ref A5) = some false
  ko_BadCode_BadForm : PySem.W.kitOne K (.ref A1) (.ref A5) = some false
  ko_BadCode_ByNought : PySem.W.kitOne K (.ref A3) (.ref A5) = some false
  kn_BadWord : PySem.W.kitOne K (.type "NoneType") (.ref A6) = some false
  ko_BadWord_BadForm : PySem.W.kitOne K (.ref A1) (.ref A6) = some false
  ko_BadWord_ByNought : PySem.W.kitOne K (.ref A3) (.ref A6) = some false
  kn_BadSpan : PySem.W.kitOne K (.type "NoneType") (.ref A7) = some false
  ko_BadSpan_BadForm : PySem.W.kitOne K (.ref A1) (.ref A7) = some false
  ko_BadSpan_ByNought : PySem.W.kitOne K (.ref A3) (.ref A7) = some false
  kn_NoWord : PySem.W.kitOne K (.type "NoneType") (.ref A13) = some false
  ko_NoWord_BadForm : PySem.W.kitOne K (.ref A1) (.ref A13) = some false
  ko_NoWord_ByNought : PySem.W.kitOne K (.ref A3) (.ref A13) = some false
  kn_BadMachine : PySem.W.kitOne K (.type "NoneType") (.ref A8) = some false
  ko_BadMachine_BadForm : PySem.W.kitOne K (.ref A1) (.ref A8) = some false
  ko_BadMachine_ByNought : PySem.W.kitOne K (.ref A3) (.ref A8) = some false
  kn_BadBytes : PySem.W.kitOne K (.type "NoneType") (.ref A9) = some false
  ko_BadBytes_BadForm : PySem.W.kitOne K (.ref A1) (.ref A9) = some false
  ko_BadBytes_ByNought : PySem.W.kitOne K (.ref A3) (.ref A9) = some false
  kn_BadSeal : PySem.W.kitOne K (.type "NoneType") (.ref A10) = some false
  ko_BadSeal_BadForm : PySem.W.kitOne K (.ref A1) (.ref A10) = some false
  ko_BadSeal_ByNought : PySem.W.kitOne K (.ref A3) (.ref A10) = some false
  kn_BadRoad : PySem.W.kitOne K (.type "NoneType") (.ref A11) = some false
  ko_BadRoad_BadForm : PySem.W.kitOne K (.ref A1) (.ref A11) = some false
  ko_BadRoad_ByNought : PySem.W.kitOne K (.ref A3) (.ref A11) = some false
  kn_ValueError : PySem.W.kitOne K (.type "NoneType") (.type "ValueError") = some false
  ko_ValueError_BadForm : PySem.W.kitOne K (.ref A1) (.type "ValueError") = some true
  ko_ValueError_ByNought : PySem.W.kitOne K (.ref A3) (.type "ValueError") = some true
section
variable {P : Program} {w : World} {K : PySem.W.Frag} {mg : Str → Option Value} {base : Heap} {A0 A1 A2 A3 A4 A5 A6 A7 A8 A9 A10 A11 A12 A13 cc__law_odd_right pp__law_odd_right cc__law_pair_right pp__law_pair_right cc_law : Addr} {pu : Bool} {pn : List (Addr × HO)}
theorem Txt.tx_CodeError (T : Txt K mg A0 A1 A2 A3 A4 A5 A6 A7 A8 A9 A10 A11 A12 A13 cc__law_odd_right pp__law_odd_right cc__law_pair_right pp__law_pair_right cc_law) : TabX K (ctOf pu pn A0 A1 A2 A3 A4 A5 A6 A7 A8 A9 A10 A11 A12 A13 cc__law_odd_right pp__law_odd_right cc__law_pair_right pp__law_pair_right cc_law) (.ref A0) [(1, true), (3, true)] := (List.forall_mem_cons.mpr ⟨⟨T.ex_CodeError_BadForm, rfl⟩, (List.forall_mem_cons.mpr ⟨⟨T.ex_CodeError_ByNought, rfl⟩, (fun _ h => nomatch h)⟩)⟩)
theorem Txt.is_BadForm (T : Txt K mg A0 A1 A2 A3 A4 A5 A6 A7 A8 A9 A10 A11 A12 A13 cc__law_odd_right pp__law_odd_right cc__law_pair_right pp__law_pair_right cc_law) : IsC K (ctOf pu pn A0 A1 A2 A3 A4 A5 A6 A7 A8 A9 A10 A11 A12 A13 cc__law_odd_right pp__law_odd_right cc__law_pair_right pp__law_pair_right cc_law) (fun t => PySem.W.kitOne K t (.ref A1)) [("NoneType", false)] [(1, true), (3, false)] := ⟨(List.forall_mem_cons.mpr ⟨T.kn_BadForm, (fun _ h => nomatch h)⟩), (List.forall_mem_cons.mpr ⟨⟨T.ko_BadForm_BadForm, rfl, T.xc_BadForm⟩, (List.forall_mem_cons.mpr ⟨⟨T.ko_BadForm_ByNought, rfl, T.xc_ByNought⟩, (fun _ h => nomatch h)⟩)⟩)⟩
theorem Txt.is_BadField (T : Txt K mg A0 A1 A2 A3 A4 A5 A6 A7 A8 A9 A10 A11 A12 A13 cc__law_odd_right pp__law_odd_right cc__law_pair_right pp__law_pair_right cc_law) : IsC K (ctOf pu pn A0 A1 A2 A3 A4 A5 A6 A7 A8 A9 A10 A11 A12 A13 cc__law_odd_right pp__law_odd_right cc__law_pair_right pp__law_pair_right cc_law) (fun t => PySem.W.kitOne K t (.ref A12)) [("NoneType", false)] [(1, false), (3, false)] := ⟨(List.forall_mem_cons.mpr ⟨T.kn_BadField, (fun _ h => nomatch h)⟩), (List.forall_mem_cons.mpr ⟨⟨T.ko_BadField_BadForm, rfl, T.xc_BadForm⟩, (List.forall_mem_cons.mpr ⟨⟨T.ko_BadField_ByNought, rfl, T.xc_ByNought⟩, (fun _ h => nomatch h)⟩)⟩)⟩
theorem Txt.is_BadElement (T : Txt K mg A0 A1 A2 A3 A4 A5 A6 A7 A8 A9 A10 A11 A12 A13 cc__law_odd_right pp__law_odd_right cc__law_pair_right pp__law_pair_right cc_law) : IsC K (ctOf pu pn A0 A1 A2 A3 A4 A5 A6 A7 A8 A9 A10 A11 A12 A13 cc__law_odd_right pp__law_odd_right cc__law_pair_right pp__law_pair_right cc_law) (fun t => PySem.W.kitOne K t (.ref A2)) [("NoneType", false)] [(1, false), (3, false)] := ⟨(List.forall_mem_cons.mpr ⟨T.kn_BadElement, (fun _ h => nomatch h)⟩), (List.forall_mem_cons.mpr ⟨⟨T.ko_BadElement_BadForm, rfl, T.xc_BadForm⟩, (List.forall_mem_cons.mpr ⟨⟨T.ko_BadElement_ByNought, rfl, T.xc_ByNought⟩, (fun _ h => nomatch h)⟩)⟩)⟩
theorem Txt.is_ByNought (T : Txt K mg A0 A1 A2 A3 A4 A5 A6 A7 A8 A9 A10 A11 A12 A13 cc__law_odd_right pp__law_odd_right cc__law_pair_right pp__law_pair_right cc_law) : IsC K (ctOf pu pn A0 A1 A2 A3 A4 A5 A6 A7 A8 A9 A10 A11 A12 A13 cc__law_odd_right pp__law_odd_right cc__law_pair_right pp__law_pair_right cc_law) (fun t => PySem.W.kitOne K t (.ref A3)) [("NoneType", false)] [(1, false), (3, true)] := ⟨(List.forall_mem_cons.mpr ⟨T.kn_ByNought, (fun _ h => nomatch h)⟩), (List.forall_mem_cons.mpr ⟨⟨T.ko_ByNought_BadForm, rfl, T.xc_BadForm⟩, (List.forall_mem_cons.mpr ⟨⟨T.ko_ByNought_ByNought, rfl, T.xc_ByNought⟩, (fun _ h => nomatch h)⟩)⟩)⟩
theorem Txt.is_BadRow (T : Txt K mg A0 A1 A2 A3 A4 A5 A6 A7 A8 A9 A10 A11 A12 A13 cc__law_odd_right pp__law_odd_right cc__law_pair_right pp__law_pair_right cc_law) : IsC K (ctOf pu pn A0 A1 A2 A3 A4 A5 A6 A7 A8 A9 A10 A11 A12 A13 cc__law_odd_right pp__law_odd_right cc__law_pair_right pp__law_pair_right cc_law) (fun t => PySem.W.kitOne K t (.ref A4)) [("NoneType", false)] [(1, false), (3, false)] := ⟨(List.forall_mem_cons.mpr ⟨T.kn_BadRow, (fun _ h => nomatch h)⟩), (List.forall_mem_cons.mpr ⟨⟨T.ko_BadRow_BadForm, rfl, T.xc_BadForm⟩, (List.forall_mem_cons.mpr ⟨⟨T.ko_BadRow_ByNought, rfl, T.xc_ByNought⟩, (fun _ h => nomatch h)⟩)⟩)⟩
theorem Txt.is_BadCode (T : Txt K mg A0 A1 A2 A3 A4 A5 A6 A7 A8 A9 A10 A11 A12 A13 cc__law_odd_right pp__law_odd_right cc__law_pair_right pp__law_pair_right cc_law) : IsC K (ctOf pu pn A0 A1 A2 A3 A4 A5 A6 A7 A8 A9 A10 A11 A12 A13 cc__law_odd_right pp__law_odd_right cc__law_pair_right pp__law_pair_right cc_law) (fun t => PySem.W.kitOne K t (.ref A5)) [("NoneType", false)] [(1, false), (3, false)] := ⟨(List.forall_mem_cons.mpr ⟨T.kn_BadCode, (fun _ h => nomatch h)⟩), (List.forall_mem_cons.mpr ⟨⟨T.ko_BadCode_BadForm, rfl, T.xc_BadForm⟩, (List.forall_mem_cons.mpr ⟨⟨T.ko_BadCode_ByNought, rfl, T.xc_ByNought⟩, (fun _ h => nomatch h)⟩)⟩)⟩
theorem Txt.is_BadWord (T : Txt K mg A0 A1 A2 A3 A4 A5 A6 A7 A8 A9 A10 A11 A12 A13 cc__law_odd_right pp__law_odd_right cc__law_pair_right pp__law_pair_right cc_law) : IsC K (ctOf pu pn A0 A1 A2 A3 A4 A5 A6 A7 A8 A9 A10 A11 A12 A13 cc__law_odd_right pp__law_odd_right cc__law_pair_right pp__law_pair_right cc_law) (fun t => PySem.W.kitOne K t (.ref A6)) [("NoneType", false)] [(1, false), (3, false)] := ⟨(List.forall_mem_cons.mpr ⟨T.kn_BadWord, (fun _ h => nomatch h)⟩), (List.forall_mem_cons.mpr ⟨⟨T.ko_BadWord_BadForm, rfl, T.xc_BadForm⟩, (List.forall_mem_cons.mpr ⟨⟨T.ko_BadWord_ByNought, rfl, T.xc_ByNought⟩, (fun _ h => nomatch h)⟩)⟩)⟩
theorem Txt.is_BadSpan (T : Txt K mg A0 A1 A2 A3 A4 A5 A6 A7 A8 A9 A10 A11 A12 A13 cc__law_odd_right pp__law_odd_right cc__law_pair_right pp__law_pair_right cc_law) : IsC K (ctOf pu pn A0 A1 A2 A3 A4 A5 A6 A7 A8 A9 A10 A11 A12 A13 cc__law_odd_right pp__law_odd_right cc__law_pair_right pp__law_pair_right cc_law) (fun t => PySem.W.kitOne K t (.ref A7)) [("NoneType", false)] [(1, false), (3, false)] := ⟨(List.forall_mem_cons.mpr ⟨T.kn_BadSpan, (fun _ h => nomatch h)⟩), (List.forall_mem_cons.mpr ⟨⟨T.ko_BadSpan_BadForm, rfl, T.xc_BadForm⟩, (List.forall_mem_cons.mpr ⟨⟨T.ko_BadSpan_ByNought, rfl, T.xc_ByNought⟩, (fun _ h => nomatch h)⟩)⟩)⟩
theorem Txt.is_NoWord (T : Txt K mg A0 A1 A2 A3 A4 A5 A6 A7 A8 A9 A10 A11 A12 A13 cc__law_odd_right pp__law_odd_right cc__law_pair_right pp__law_pair_right cc_law) : IsC K (ctOf pu pn A0 A1 A2 A3 A4 A5 A6 A7 A8 A9 A10 A11 A12 A13 cc__law_odd_right pp__law_odd_right cc__law_pair_right pp__law_pair_right cc_law) (fun t => PySem.W.kitOne K t (.ref A13)) [("NoneType", false)] [(1, false), (3, false)] := ⟨(List.forall_mem_cons.mpr ⟨T.kn_NoWord, (fun _ h => nomatch h)⟩), (List.forall_mem_cons.mpr ⟨⟨T.ko_NoWord_BadForm, rfl, T.xc_BadForm⟩, (List.forall_mem_cons.mpr ⟨⟨T.ko_NoWord_ByNought, rfl, T.xc_ByNought⟩, (fun _ h => nomatch h)⟩)⟩)⟩
theorem Txt.is_BadMachine (T : Txt K mg A0 A1 A2 A3 A4 A5 A6 A7 A8 A9 A10 A11 A12 A13 cc__law_odd_right pp__law_odd_right cc__law_pair_right pp__law_pair_right cc_law) : IsC K (ctOf pu pn A0 A1 A2 A3 A4 A5 A6 A7 A8 A9 A10 A11 A12 A13 cc__law_odd_right pp__law_odd_right cc__law_pair_right pp__law_pair_right cc_law) (fun t => PySem.W.kitOne K t (.ref A8)) [("NoneType", false)] [(1, false), (3, false)] := ⟨(List.forall_mem_cons.mpr ⟨T.kn_BadMachine, (fun _ h => nomatch h)⟩), (List.forall_mem_cons.mpr ⟨⟨T.ko_BadMachine_BadForm, rfl, T.xc_BadForm⟩, (List.forall_mem_cons.mpr ⟨⟨T.ko_BadMachine_ByNought, rfl, T.xc_ByNought⟩, (fun _ h => nomatch h)⟩)⟩)⟩
theorem Txt.is_BadBytes (T : Txt K mg A0 A1 A2 A3 A4 A5 A6 A7 A8 A9 A10 A11 A12 A13 cc__law_odd_right pp__law_odd_right cc__law_pair_right pp__law_pair_right cc_law) : IsC K (ctOf pu pn A0 A1 A2 A3 A4 A5 A6 A7 A8 A9 A10 A11 A12 A13 cc__law_odd_right pp__law_odd_right cc__law_pair_right pp__law_pair_right cc_law) (fun t => PySem.W.kitOne K t (.ref A9)) [("NoneType", false)] [(1, false), (3, false)] := ⟨(List.forall_mem_cons.mpr ⟨T.kn_BadBytes, (fun _ h => nomatch h)⟩), (List.forall_mem_cons.mpr ⟨⟨T.ko_BadBytes_BadForm, rfl, T.xc_BadForm⟩, (List.forall_mem_cons.mpr ⟨⟨T.ko_BadBytes_ByNought, rfl, T.xc_ByNought⟩, (fun _ h => nomatch h)⟩)⟩)⟩
theorem Txt.is_BadSeal (T : Txt K mg A0 A1 A2 A3 A4 A5 A6 A7 A8 A9 A10 A11 A12 A13 cc__law_odd_right pp__law_odd_right cc__law_pair_right pp__law_pair_right cc_law) : IsC K (ctOf pu pn A0 A1 A2 A3 A4 A5 A6 A7 A8 A9 A10 A11 A12 A13 cc__law_odd_right pp__law_odd_right cc__law_pair_right pp__law_pair_right cc_law) (fun t => PySem.W.kitOne K t (.ref A10)) [("NoneType", false)] [(1, false), (3, false)] := ⟨(List.forall_mem_cons.mpr ⟨T.kn_BadSeal, (fun _ h => nomatch h)⟩), (List.forall_mem_cons.mpr ⟨⟨T.ko_BadSeal_BadForm, rfl, T.xc_BadForm⟩, (List.forall_mem_cons.mpr ⟨⟨T.ko_BadSeal_ByNought, rfl, T.xc_ByNought⟩, (fun _ h => nomatch h)⟩)⟩)⟩
theorem Txt.is_BadRoad (T : Txt K mg A0 A1 A2 A3 A4 A5 A6 A7 A8 A9 A10 A11 A12 A13 cc__law_odd_right pp__law_odd_right cc__law_pair_right pp__law_pair_right cc_law) : IsC K (ctOf pu pn A0 A1 A2 A3 A4 A5 A6 A7 A8 A9 A10 A11 A12 A13 cc__law_odd_right pp__law_odd_right cc__law_pair_right pp__law_pair_right cc_law) (fun t => PySem.W.kitOne K t (.ref A11)) [("NoneType", false)] [(1, false), (3, false)] := ⟨(List.forall_mem_cons.mpr ⟨T.kn_BadRoad, (fun _ h => nomatch h)⟩), (List.forall_mem_cons.mpr ⟨⟨T.ko_BadRoad_BadForm, rfl, T.xc_BadForm⟩, (List.forall_mem_cons.mpr ⟨⟨T.ko_BadRoad_ByNought, rfl, T.xc_ByNought⟩, (fun _ h => nomatch h)⟩)⟩)⟩
theorem Txt.is_ValueError (T : Txt K mg A0 A1 A2 A3 A4 A5 A6 A7 A8 A9 A10 A11 A12 A13 cc__law_odd_right pp__law_odd_right cc__law_pair_right pp__law_pair_right cc_law) : IsC K (ctOf pu pn A0 A1 A2 A3 A4 A5 A6 A7 A8 A9 A10 A11 A12 A13 cc__law_odd_right pp__law_odd_right cc__law_pair_right pp__law_pair_right cc_law) (fun t => PySem.W.kitOne K t (.type "ValueError")) [("NoneType", false)] [(1, true), (3, true)] := ⟨(List.forall_mem_cons.mpr ⟨T.kn_ValueError, (fun _ h => nomatch h)⟩), (List.forall_mem_cons.mpr ⟨⟨T.ko_ValueError_BadForm, rfl, T.xc_BadForm⟩, (List.forall_mem_cons.mpr ⟨⟨T.ko_ValueError_ByNought, rfl, T.xc_ByNought⟩, (fun _ h => nomatch h)⟩)⟩)⟩
theorem w__law_row (T : Txt K mg A0 A1 A2 A3 A4 A5 A6 A7 A8 A9 A10 A11 A12 A13 cc__law_odd_right pp__law_odd_right cc__law_pair_right pp__law_pair_right cc_law) : FnG P w K mg base (ctOf pu pn A0 A1 A2 A3 A4 A5 A6 A7 A8 A9 A10 A11 A12 A13 cc__law_odd_right pp__law_odd_right cc__law_pair_right pp__law_pair_right cc_law) 1 "_law_row" 1 m__law_row :=
  fn_g (b := b__law_row) T.fn__law_row sc__law_row rfl rfl fun f cdv A outer s H E hr =>
    (ms_cons (ms_own (i := 1) sc__law_row.nd rfl (by first | exact Or.inl rfl | exact Or.inr rfl) (me_lst ma_nil))
    (ms_cons (ms_while (mt_cmp op_gt ok_gt (me_var (pv 0)) me_int (nomark _)) (ms_cons (ms_app (i := 1) (pv 1) (me_op op_mod ok_mod (me_var (pv 0)) me_int) (fun h1 h2 => pe_bm PySem.F.plainAttrs_list PySem.F.slot_list_append PySem.F.type_list_append mt_append h1 h2))
    (ms_one (ms_set (i := 0) sc__law_row.nd rfl (by first | exact Or.inl rfl | exact Or.inr rfl) (me_op op_fdivW ok_div (me_var (pv 0)) me_int)))))
    (ms_one (ms_retV (pv 1)))))
theorem w__law_whole (T : Txt K mg A0 A1 A2 A3 A4 A5 A6 A7 A8 A9 A10 A11 A12 A13 cc__law_odd_right pp__law_odd_right cc__law_pair_right pp__law_pair_right cc_law) : FnG P w K mg base (ctOf pu pn A0 A1 A2 A3 A4 A5 A6 A7 A8 A9 A10 A11 A12 A13 cc__law_odd_right pp__law_odd_right cc__law_pair_right pp__law_pair_right cc_law) 1 "_law_whole" 2 m__law_whole :=
  fn_g (b := b__law_whole) T.fn__law_whole sc__law_whole rfl rfl fun f cdv A outer s H E hr =>
    (ms_one (ms_ret (me_and (me_callB call_isi (ok_isi (g := isiInt) isi_int) (by rfl) T.z_isinstance (by decide +kernel) (ma_cons (me_var (pv 0)) (ma_cons (me_ty (by rfl) T.z_int (by decide +kernel)) ma_nil))) (me_and (me_not (me_callB call_isi (ok_isi (g := (isiOne "bool")) isi_bool) (by rfl) T.z_isinstance (by decide +kernel) (ma_cons (me_var (pv 0)) (ma_cons (me_ty (by rfl) T.z_bool (by decide +kernel)) ma_nil)))) (me_one (me_cmp (op_eqA hr.units) ok_eq (me_var (pv 0)) (me_var (pv 1)) (nomark _)))))))
theorem w_bits_of (T : Txt K mg A0 A1 A2 A3 A4 A5 A6 A7 A8 A9 A10 A11 A12 A13 cc__law_odd_right pp__law_odd_right cc__law_pair_right pp__law_pair_right cc_law) : FnG P w K mg base (ctOf pu pn A0 A1 A2 A3 A4 A5 A6 A7 A8 A9 A10 A11 A12 A13 cc__law_odd_right pp__law_odd_right cc__law_pair_right pp__law_pair_right cc_law) 1 "bits_of" 2 m_bits_of :=
  fn_g (b := b_bits_of) T.fn_bits_of sc_bits_of rfl rfl fun f cdv A outer s H E hr =>
    (ms_one (ms_ret (me_lc rfl sc_bits_of.nd (MLc.mk (own := [("place", 2)]) (mi_range1 (by rfl) T.z_range (ma_cons (me_var (pv 1)) ma_nil)) (blkOk_by (N := ["number", "many", "place"]) (sc := defScope (topS 5)) (own := [("place", 2)]) (by decide +kernel)) ⟨[2], by decide, fun _ _ _ _ _ => (mg_name (i := 2) sc_bits_of.nd rfl (by first | exact Or.inl rfl | exact Or.inr rfl))⟩ (fun _ _ _ _ _ _ => pts_nilM) (fun _ _ _ _ _ => (me_op op_and ok_and (me_op op_shr ok_shr (me_var (pv 0)) (me_var (pv 2))) me_int))))))
theorem w_weight (T : Txt K mg A0 A1 A2 A3 A4 A5 A6 A7 A8 A9 A10 A11 A12 A13 cc__law_odd_right pp__law_odd_right cc__law_pair_right pp__law_pair_right cc_law) : FnG P w K mg base (ctOf pu pn A0 A1 A2 A3 A4 A5 A6 A7 A8 A9 A10 A11 A12 A13 cc__law_odd_right pp__law_odd_right cc__law_pair_right pp__law_pair_right cc_law) 1 "weight" 1 m_weight :=
  fn_g (b := b_weight) T.fn_weight sc_weight rfl rfl fun f cdv A outer s H E hr =>
    (ms_cons (ms_set (i := 1) sc_weight.nd rfl (by first | exact Or.inl rfl | exact Or.inr rfl) me_int)
    (ms_cons (ms_while (mt_cmp op_gt ok_gt (me_var (pv 0)) me_int (nomark _)) (ms_cons (ms_set (i := 1) sc_weight.nd rfl (by first | exact Or.inl rfl | exact Or.inr rfl) (me_op op_addA ok_add (me_var (pv 1)) (me_op op_and ok_and (me_var (pv 0)) me_int)))
    (ms_one (ms_set (i := 0) sc_weight.nd rfl (by first | exact Or.inl rfl | exact Or.inr rfl) (me_op op_shr ok_shr (me_var (pv 0)) me_int)))))
    (ms_one (ms_retV (pv 1)))))
theorem w_is_odd (T : Txt K mg A0 A1 A2 A3 A4 A5 A6 A7 A8 A9 A10 A11 A12 A13 cc__law_odd_right pp__law_odd_right cc__law_pair_right pp__law_pair_right cc_law) : FnG P w K mg base (ctOf pu pn A0 A1 A2 A3 A4 A5 A6 A7 A8 A9 A10 A11 A12 A13 cc__law_odd_right pp__law_odd_right cc__law_pair_right pp__law_pair_right cc_law) 2 "is_odd" 1 m_is_odd :=
  fn_g (b := b_is_odd) T.fn_is_odd sc_is_odd rfl rfl fun f cdv A outer s H E hr =>
    (ms_one (ms_ret (me_cmp (op_eqA hr.units) ok_eq (me_op op_mod ok_mod (me_call (w_weight T) (hr.mono (by decide)) (by rfl) (ma_cons (me_var (pv 0)) ma_nil)) me_int) me_int (nomark _))))
theorem w_number_of (T : Txt K mg A0 A1 A2 A3 A4 A5 A6 A7 A8 A9 A10 A11 A12 A13 cc__law_odd_right pp__law_odd_right cc__law_pair_right pp__law_pair_right cc_law) : FnG P w K mg base (ctOf pu pn A0 A1 A2 A3 A4 A5 A6 A7 A8 A9 A10 A11 A12 A13 cc__law_odd_right pp__law_odd_right cc__law_pair_right pp__law_pair_right cc_law) 1 "number_of" 1 m_number_of :=
  fn_g (b := b_number_of) T.fn_number_of sc_number_of rfl rfl fun f cdv A outer s H E hr =>
    (ms_cons (ms_set (i := 1) sc_number_of.nd rfl (by first | exact Or.inl rfl | exact Or.inr rfl) me_int)
    (ms_cons (ms_for rfl (mi_enum (by rfl) T.z_enumerate (ma_cons (me_var (pv 0)) ma_nil)) (mg_tup rfl (mgs_cons (mg_name (i := 2) sc_number_of.nd rfl (by first | exact Or.inl rfl | exact Or.inr rfl)) (mgs_cons (mg_name (i := 3) sc_number_of.nd rfl (by first | exact Or.inl rfl | exact Or.inr rfl)) mgs_nil))) (ms_one (ms_set (i := 1) sc_number_of.nd rfl (by first | exact Or.inl rfl | exact Or.inr rfl) (me_op op_or ok_or (me_var (pv 1)) (me_op op_shl ok_shl (me_var (pv 3)) (me_var (pv 2)))))))
    (ms_one (ms_retV (pv 1)))))
theorem w__law_bits_right (T : Txt K mg A0 A1 A2 A3 A4 A5 A6 A7 A8 A9 A10 A11 A12 A13 cc__law_odd_right pp__law_odd_right cc__law_pair_right pp__law_pair_right cc_law) : FnG P w K mg base (ctOf pu pn A0 A1 A2 A3 A4 A5 A6 A7 A8 A9 A10 A11 A12 A13 cc__law_odd_right pp__law_odd_right cc__law_pair_right pp__law_pair_right cc_law) 3 "_law_bits_right" 2 m__law_bits_right :=
  fn_g (b := b__law_bits_right) T.fn__law_bits_right sc__law_bits_right rfl rfl fun f cdv A outer s H E hr =>
    (ms_cons (ms_set (i := 2) sc__law_bits_right.nd rfl (by first | exact Or.inl rfl | exact Or.inr rfl) (me_call (w__law_row T) (hr.mono (by decide)) (by rfl) (ma_cons (me_var (pv 0)) ma_nil)))
    (ms_cons (ms_set (i := 3) sc__law_bits_right.nd rfl (by first | exact Or.inl rfl | exact Or.inr rfl) (me_call (w_is_odd T) (hr.mono (by decide)) (by rfl) (ma_cons (me_var (pv 0)) ma_nil)))
    (ms_cons (ms_if (MW.mt (mw_or (mt_not (mt_val (me_call (w__law_whole T) (hr.mono (by decide)) (by rfl) (ma_cons (me_call (w_weight T) (hr.mono (by decide)) (by rfl) (ma_cons (me_var (pv 0)) ma_nil)) (ma_cons (me_callB (cr_sum rfl) ok_sum (by rfl) T.z_sum (by decide +kernel) (ma_cons (me_var (pv 2)) ma_nil)) ma_nil))))) (mw_or (mt_not (mt_val (me_callB call_isi (ok_isi (g := (isiOne "bool")) isi_bool) (by rfl) T.z_isinstance (by decide +kernel) (ma_cons (me_var (pv 3)) (ma_cons (me_ty (by rfl) T.z_bool (by decide +kernel)) ma_nil))))) (mw_or1 (mt_cmp (op_neA hr.units) ok_ne (me_var (pv 3)) (me_cmp (op_eqA hr.units) ok_eq (me_op op_mod ok_mod (me_callB (cr_sum rfl) ok_sum (by rfl) T.z_sum (by decide +kernel) (ma_cons (me_var (pv 2)) ma_nil)) me_int) me_int (nomark _)) (nomark _)))))) (ms_one (ms_ret me_bl)) ms_nil)
    (ms_cons (ms_set (i := 4) sc__law_bits_right.nd rfl (by first | exact Or.inl rfl | exact Or.inr rfl) (me_call (w_bits_of T) (hr.mono (by decide)) (by rfl) (ma_cons (me_var (pv 0)) (ma_cons (me_var (pv 1)) ma_nil))))
    (ms_cons (ms_if (MW.mt (mw_or (mt_not (mt_val (me_callB call_isi (ok_isi (g := (isiOne "list")) isi_list) (by rfl) T.z_isinstance (by decide +kernel) (ma_cons (me_var (pv 4)) (ma_cons (me_ty (by rfl) T.z_list (by decide +kernel)) ma_nil))))) (mw_or1 (mt_cmp (op_neA hr.units) ok_ne (me_var (pv 4)) (me_sl (me_op op_addA ok_add (me_var (pv 2)) (me_op op_mulA ok_mul (me_lst (ma_cons me_int ma_nil)) (me_var (pv 1)))) mo_no (mo_so (me_var (pv 1)))) (nomark _))))) (ms_one (ms_ret me_bl)) ms_nil)
    (ms_cons (ms_set (i := 5) sc__law_bits_right.nd rfl (by first | exact Or.inl rfl | exact Or.inr rfl) (me_lst (ma_cons (me_callTy call_list_of ok_list (by rfl) T.z_list (by decide +kernel) (ma_cons (me_var (pv 4)) ma_nil)) (ma_cons (me_callTy call_list_of ok_list (by rfl) T.z_list (by decide +kernel) (ma_cons (me_var (pv 2)) ma_nil)) ma_nil))))
    (ms_cons (ms_set (i := 6) sc__law_bits_right.nd rfl (by first | exact Or.inl rfl | exact Or.inr rfl) (me_and (me_call (w__law_whole T) (hr.mono (by decide)) (by rfl) (ma_cons (me_call (w_number_of T) (hr.mono (by decide)) (by rfl) (ma_cons (me_var (pv 4)) ma_nil)) (ma_cons (me_op op_mod ok_mod (me_var (pv 0)) (me_op op_shl ok_shl me_int (me_var (pv 1)))) ma_nil))) (me_one (me_call (w__law_whole T) (hr.mono (by decide)) (by rfl) (ma_cons (me_call (w_number_of T) (hr.mono (by decide)) (by rfl) (ma_cons (me_var (pv 2)) ma_nil)) (ma_cons (me_var (pv 0)) ma_nil))))))
    (ms_one (ms_ret (me_and (me_var (pv 6)) (me_one (me_cmp (op_eqA hr.units) ok_eq (me_lst (ma_cons (me_var (pv 4)) (ma_cons (me_var (pv 2)) ma_nil))) (me_var (pv 5)) (nomark _)))))))))))))
theorem w__law_form (T : Txt K mg A0 A1 A2 A3 A4 A5 A6 A7 A8 A9 A10 A11 A12 A13 cc__law_odd_right pp__law_odd_right cc__law_pair_right pp__law_pair_right cc_law) : FnG P w K mg base (ctOf pu pn A0 A1 A2 A3 A4 A5 A6 A7 A8 A9 A10 A11 A12 A13 cc__law_odd_right pp__law_odd_right cc__law_pair_right pp__law_pair_right cc_law) 1 "_law_form" 2 m__law_form :=
  fn_g (b := b__law_form) T.fn__law_form sc__law_form rfl rfl fun f cdv A outer s H E hr =>
    (ms_cons (ms_set (i := 2) sc__law_form.nd rfl (by first | exact Or.inl rfl | exact Or.inr rfl) (me_op op_addA ok_add me_int (me_op op_mod ok_mod (me_var (pv 0)) (me_op op_addA ok_add (me_var (pv 1)) me_int))))
    (ms_cons (ms_set (i := 3) sc__law_form.nd rfl (by first | exact Or.inl rfl | exact Or.inr rfl) (me_op op_mod ok_mod (me_op op_addA ok_add (me_op op_mulA ok_mul (me_op op_fdivW ok_div (me_var (pv 0)) me_int) me_int) (me_op op_fdivW ok_div (me_var (pv 0)) me_int)) (me_op op_shl ok_shl me_int (me_var (pv 2)))))
    (ms_cons (ms_set (i := 4) sc__law_form.nd rfl (by first | exact Or.inl rfl | exact Or.inr rfl) (me_op op_or ok_or (me_op op_shl ok_shl me_int (me_op op_mod ok_mod (me_op op_fdivW ok_div (me_var (pv 0)) me_int) (me_var (pv 2)))) (me_op op_shl ok_shl me_int (me_op op_mod ok_mod (me_op op_fdivW ok_div (me_var (pv 0)) me_int) (me_var (pv 2))))))
    (ms_one (ms_ret (me_ix (me_lst (ma_cons (me_var (pv 3)) (ma_cons (me_var (pv 4)) (ma_cons (me_op op_sub ok_sub (me_op op_shl ok_shl me_int (me_var (pv 2))) me_int) (ma_cons (me_var (pv 3)) (ma_cons (me_op op_mod ok_mod (me_op op_mod ok_mod (me_op op_fdivW ok_div (me_var (pv 0)) me_int) me_int) (me_op op_shl ok_shl me_int (me_var (pv 2)))) (ma_cons (me_op op_shl ok_shl me_int (me_op op_sub ok_sub (me_var (pv 2)) me_int)) ma_nil))))))) (me_op op_mod ok_mod (me_op op_fdivW ok_div (me_var (pv 0)) me_int) me_int)))))))
theorem w_is_whole (T : Txt K mg A0 A1 A2 A3 A4 A5 A6 A7 A8 A9 A10 A11 A12 A13 cc__law_odd_right pp__law_odd_right cc__law_pair_right pp__law_pair_right cc_law) : FnG P w K mg base (ctOf pu pn A0 A1 A2 A3 A4 A5 A6 A7 A8 A9 A10 A11 A12 A13 cc__law_odd_right pp__law_odd_right cc__law_pair_right pp__law_pair_right cc_law) 1 "is_whole" 1 m_is_whole :=
  fn_g (b := b_is_whole) T.fn_is_whole sc_is_whole rfl rfl fun f cdv A outer s H E hr =>
    (ms_one (ms_ret (me_and (me_callB call_isi (ok_isi (g := isiInt) isi_int) (by rfl) T.z_isinstance (by decide +kernel) (ma_cons (me_var (pv 0)) (ma_cons (me_ty (by rfl) T.z_int (by decide +kernel)) ma_nil))) (me_one (me_not (me_callB call_isi (ok_isi (g := (isiOne "bool")) isi_bool) (by rfl) T.z_isinstance (by decide +kernel) (ma_cons (me_var (pv 0)) (ma_cons (me_ty (by rfl) T.z_bool (by decide +kernel)) ma_nil))))))))
theorem w_is_among (T : Txt K mg A0 A1 A2 A3 A4 A5 A6 A7 A8 A9 A10 A11 A12 A13 cc__law_odd_right pp__law_odd_right cc__law_pair_right pp__law_pair_right cc_law) : FnG P w K mg base (ctOf pu pn A0 A1 A2 A3 A4 A5 A6 A7 A8 A9 A10 A11 A12 A13 cc__law_odd_right pp__law_odd_right cc__law_pair_right pp__law_pair_right cc_law) 2 "is_among" 3 m_is_among :=
  fn_g (b := b_is_among) T.fn_is_among sc_is_among rfl rfl fun f cdv A outer s H E hr =>
    (ms_one (ms_ret (me_and (me_call (w_is_whole T) (hr.mono (by decide)) (by rfl) (ma_cons (me_var (pv 0)) ma_nil)) (me_one (me_chain op_le ok_le op_le ok_le (me_var (pv 1)) (me_var (pv 0)) (me_var (pv 2)))))))
theorem w__law_looks_right (T : Txt K mg A0 A1 A2 A3 A4 A5 A6 A7 A8 A9 A10 A11 A12 A13 cc__law_odd_right pp__law_odd_right cc__law_pair_right pp__law_pair_right cc_law) : FnG P w K mg base (ctOf pu pn A0 A1 A2 A3 A4 A5 A6 A7 A8 A9 A10 A11 A12 A13 cc__law_odd_right pp__law_odd_right cc__law_pair_right pp__law_pair_right cc_law) 3 "_law_looks_right" 2 m__law_looks_right :=
  fn_g (b := b__law_looks_right) T.fn__law_looks_right sc__law_looks_right rfl rfl fun f cdv A outer s H E hr =>
    (ms_cons (ms_set (i := 2) sc__law_looks_right.nd rfl (by first | exact Or.inl rfl | exact Or.inr rfl) (me_and (me_callB call_isi (ok_isi (g := isiInt) isi_int) (by rfl) T.z_isinstance (by decide +kernel) (ma_cons (me_var (pv 0)) (ma_cons (me_ty (by rfl) T.z_int (by decide +kernel)) ma_nil))) (me_one (me_not (me_callB call_isi (ok_isi (g := (isiOne "bool")) isi_bool) (by rfl) T.z_isinstance (by decide +kernel) (ma_cons (me_var (pv 0)) (ma_cons (me_ty (by rfl) T.z_bool (by decide +kernel)) ma_nil)))))))
    (ms_cons (ms_set (i := 3) sc__law_looks_right.nd rfl (by first | exact Or.inl rfl | exact Or.inr rfl) (me_call (w_is_whole T) (hr.mono (by decide)) (by rfl) (ma_cons (me_var (pv 0)) ma_nil)))
    (ms_cons (ms_if (MW.mt (mw_or (mt_not (mt_val (me_callB call_isi (ok_isi (g := (isiOne "bool")) isi_bool) (by rfl) T.z_isinstance (by decide +kernel) (ma_cons (me_var (pv 3)) (ma_cons (me_ty (by rfl) T.z_bool (by decide +kernel)) ma_nil))))) (mw_or1 (mt_cmp (op_neA hr.units) ok_ne (me_var (pv 3)) (me_var (pv 2)) (nomark _))))) (ms_one (ms_ret me_bl)) ms_nil)
    (ms_cons (ms_for rfl (mi_seq (me_tup (ma_cons (me_tup (ma_cons me_int (ma_cons me_int ma_nil))) (ma_cons (me_tup (ma_cons (me_neg me_int) (ma_cons (me_op op_pow ok_pow me_int me_int) ma_nil))) (ma_cons (me_tup (ma_cons (me_var (pv 1)) (ma_cons (me_var (pv 1)) ma_nil))) (ma_cons (me_tup (ma_cons (me_op op_addA ok_add (me_var (pv 1)) me_int) (ma_cons (me_op op_pow ok_pow me_int me_int) ma_nil))) (ma_cons (me_tup (ma_cons me_int (ma_cons me_int ma_nil))) ma_nil))))))) (mg_tup rfl (mgs_cons (mg_name (i := 4) sc__law_looks_right.nd rfl (by first | exact Or.inl rfl | exact Or.inr rfl)) (mgs_cons (mg_name (i := 5) sc__law_looks_right.nd rfl (by first | exact Or.inl rfl | exact Or.inr rfl)) mgs_nil))) (ms_cons (ms_set (i := 3) sc__law_looks_right.nd rfl (by first | exact Or.inl rfl | exact Or.inr rfl) (me_call (w_is_among T) (hr.mono (by decide)) (by rfl) (ma_cons (me_var (pv 0)) (ma_cons (me_var (pv 4)) (ma_cons (me_var (pv 5)) ma_nil)))))
    (ms_one (ms_if (MW.mt (mw_or (mt_not (mt_val (me_callB call_isi (ok_isi (g := (isiOne "bool")) isi_bool) (by rfl) T.z_isinstance (by decide +kernel) (ma_cons (me_var (pv 3)) (ma_cons (me_ty (by rfl) T.z_bool (by decide +kernel)) ma_nil))))) (mw_or1 (mt_cmp (op_neA hr.units) ok_ne (me_var (pv 3)) (me_and (me_var (pv 2)) (me_one (me_chain op_le ok_le op_le ok_le (me_var (pv 4)) (me_var (pv 0)) (me_var (pv 5))))) (nomark _))))) (ms_one (ms_ret me_bl)) ms_nil))))
    (ms_one (ms_ret me_bl))))))
theorem w__law_mixed (T : Txt K mg A0 A1 A2 A3 A4 A5 A6 A7 A8 A9 A10 A11 A12 A13 cc__law_odd_right pp__law_odd_right cc__law_pair_right pp__law_pair_right cc_law) : FnG P w K mg base (ctOf pu pn A0 A1 A2 A3 A4 A5 A6 A7 A8 A9 A10 A11 A12 A13 cc__law_odd_right pp__law_odd_right cc__law_pair_right pp__law_pair_right cc_law) 1 "_law_mixed" 2 m__law_mixed :=
  fn_g (b := b__law_mixed) T.fn__law_mixed sc__law_mixed rfl rfl fun f cdv A outer s H E hr =>
    (ms_cons (ms_set (i := 2) sc__law_mixed.nd rfl (by first | exact Or.inl rfl | exact Or.inr rfl) (me_op op_mod ok_mod (me_op op_mulA ok_mul (me_op op_addA ok_add (me_op op_addA ok_add (me_op op_mod ok_mod (me_var (pv 0)) me_int) (me_op op_mulA ok_mul (me_op op_mulA ok_mul me_int (me_var (pv 1))) (me_var (pv 1)))) me_int) me_int) me_int))
    (ms_one (ms_ret (me_op op_mod ok_mod (me_op op_mulA ok_mul (me_var (pv 2)) (me_op op_addA ok_add me_int (me_op op_mulA ok_mul me_int (me_var (pv 1))))) me_int))))
theorem w__law_number (T : Txt K mg A0 A1 A2 A3 A4 A5 A6 A7 A8 A9 A10 A11 A12 A13 cc__law_odd_right pp__law_odd_right cc__law_pair_right pp__law_pair_right cc_law) : FnG P w K mg base (ctOf pu pn A0 A1 A2 A3 A4 A5 A6 A7 A8 A9 A10 A11 A12 A13 cc__law_odd_right pp__law_odd_right cc__law_pair_right pp__law_pair_right cc_law) 1 "_law_number" 1 m__law_number :=
  fn_g (b := b__law_number) T.fn__law_number sc__law_number rfl rfl fun f cdv A outer s H E hr =>
    (ms_cons (ms_set (i := 1) sc__law_number.nd rfl (by first | exact Or.inl rfl | exact Or.inr rfl) me_int)
    (ms_cons (ms_for rfl (mi_seq (me_revL (me_var (pv 0)))) (mg_name (i := 2) sc__law_number.nd rfl (by first | exact Or.inl rfl | exact Or.inr rfl)) (ms_one (ms_set (i := 1) sc__law_number.nd rfl (by first | exact Or.inl rfl | exact Or.inr rfl) (me_op op_addA ok_add (me_op op_mulA ok_mul me_int (me_var (pv 1))) (me_var (pv 2))))))
    (ms_one (ms_retV (pv 1)))))
theorem w_high_place (T : Txt K mg A0 A1 A2 A3 A4 A5 A6 A7 A8 A9 A10 A11 A12 A13 cc__law_odd_right pp__law_odd_right cc__law_pair_right pp__law_pair_right cc_law) : FnG P w K mg base (ctOf pu pn A0 A1 A2 A3 A4 A5 A6 A7 A8 A9 A10 A11 A12 A13 cc__law_odd_right pp__law_odd_right cc__law_pair_right pp__law_pair_right cc_law) 1 "high_place" 1 m_high_place :=
  fn_g (b := b_high_place) T.fn_high_place sc_high_place rfl rfl fun f cdv A outer s H E hr =>
    (ms_cons (ms_set (i := 1) sc_high_place.nd rfl (by first | exact Or.inl rfl | exact Or.inr rfl) (me_neg me_int))
    (ms_cons (ms_while (mt_cmp op_gt ok_gt (me_var (pv 0)) me_int (nomark _)) (ms_cons (ms_set (i := 1) sc_high_place.nd rfl (by first | exact Or.inl rfl | exact Or.inr rfl) (me_op op_addA ok_add (me_var (pv 1)) me_int))
    (ms_one (ms_set (i := 0) sc_high_place.nd rfl (by first | exact Or.inl rfl | exact Or.inr rfl) (me_op op_shr ok_shr (me_var (pv 0)) me_int)))))
    (ms_one (ms_retV (pv 1)))))
theorem w_need_form (T : Txt K mg A0 A1 A2 A3 A4 A5 A6 A7 A8 A9 A10 A11 A12 A13 cc__law_odd_right pp__law_odd_right cc__law_pair_right pp__law_pair_right cc_law) : FnG P w K mg base (ctOf pu pn A0 A1 A2 A3 A4 A5 A6 A7 A8 A9 A10 A11 A12 A13 cc__law_odd_right pp__law_odd_right cc__law_pair_right pp__law_pair_right cc_law) 3 "need_form" 1 m_need_form :=
  fn_g (b := b_need_form) T.fn_need_form sc_need_form rfl rfl fun f cdv A outer s H E hr =>
    (ms_one (ms_if (mt_not (mt_val (me_call (w_is_among T) (hr.mono (by decide)) (by rfl) (ma_cons (me_var (pv 0)) (ma_cons me_int (ma_cons (me_gint (by rfl) T.g_MOST_FORM) ma_nil)))))) (ms_one (ms_raise rfl T.ra_BadForm (by rfl))) ms_nil))
theorem w_degree (T : Txt K mg A0 A1 A2 A3 A4 A5 A6 A7 A8 A9 A10 A11 A12 A13 cc__law_odd_right pp__law_odd_right cc__law_pair_right pp__law_pair_right cc_law) : FnG P w K mg base (ctOf pu pn A0 A1 A2 A3 A4 A5 A6 A7 A8 A9 A10 A11 A12 A13 cc__law_odd_right pp__law_odd_right cc__law_pair_right pp__law_pair_right cc_law) 4 "degree" 1 m_degree :=
  fn_g (b := b_degree) T.fn_degree sc_degree rfl rfl fun f cdv A outer s H E hr =>
    (ms_cons (ms_expr (me_call (w_need_form T) (hr.mono (by decide)) (by rfl) (ma_cons (me_var (pv 0)) ma_nil)))
    (ms_one (ms_ret (me_call (w_high_place T) (hr.mono (by decide)) (by rfl) (ma_cons (me_var (pv 0)) ma_nil)))))
theorem w_laid_rest (T : Txt K mg A0 A1 A2 A3 A4 A5 A6 A7 A8 A9 A10 A11 A12 A13 cc__law_odd_right pp__law_odd_right cc__law_pair_right pp__law_pair_right cc_law) : FnG P w K mg base (ctOf pu pn A0 A1 A2 A3 A4 A5 A6 A7 A8 A9 A10 A11 A12 A13 cc__law_odd_right pp__law_odd_right cc__law_pair_right pp__law_pair_right cc_law) 2 "laid_rest" 2 m_laid_rest :=
  fn_g (b := b_laid_rest) T.fn_laid_rest sc_laid_rest rfl rfl fun f cdv A outer s H E hr =>
    (ms_cons (ms_set (i := 2) sc_laid_rest.nd rfl (by first | exact Or.inl rfl | exact Or.inr rfl) (me_call (w_high_place T) (hr.mono (by decide)) (by rfl) (ma_cons (me_var (pv 1)) ma_nil)))
    (ms_cons (ms_while (mt_cmp op_ge ok_ge (me_call (w_high_place T) (hr.mono (by decide)) (by rfl) (ma_cons (me_var (pv 0)) ma_nil)) (me_var (pv 2)) (nomark _)) (ms_one (ms_set (i := 0) sc_laid_rest.nd rfl (by first | exact Or.inl rfl | exact Or.inr rfl) (me_op op_xor ok_xor (me_var (pv 0)) (me_op op_shl ok_shl (me_var (pv 1)) (me_op op_sub ok_sub (me_call (w_high_place T) (hr.mono (by decide)) (by rfl) (ma_cons (me_var (pv 0)) ma_nil)) (me_var (pv 2))))))))
    (ms_one (ms_retV (pv 0)))))
theorem w_form_common (T : Txt K mg A0 A1 A2 A3 A4 A5 A6 A7 A8 A9 A10 A11 A12 A13 cc__law_odd_right pp__law_odd_right cc__law_pair_right pp__law_pair_right cc_law) : FnG P w K mg base (ctOf pu pn A0 A1 A2 A3 A4 A5 A6 A7 A8 A9 A10 A11 A12 A13 cc__law_odd_right pp__law_odd_right cc__law_pair_right pp__law_pair_right cc_law) 4 "form_common" 2 m_form_common :=
  fn_g (b := b_form_common) T.fn_form_common sc_form_common rfl rfl fun f cdv A outer s H E hr =>
    (ms_cons (ms_expr (me_call (w_need_form T) (hr.mono (by decide)) (by rfl) (ma_cons (me_var (pv 0)) ma_nil)))
    (ms_cons (ms_expr (me_call (w_need_form T) (hr.mono (by decide)) (by rfl) (ma_cons (me_var (pv 1)) ma_nil)))
    (ms_cons (ms_while (mt_cmp op_gt ok_gt (me_var (pv 1)) me_int (nomark _)) (ms_one (ms_par (i := 0) (j := 1) rfl sc_form_common.nd rfl rfl (by decide) rfl rfl (me_var (pv 1)) (me_call (w_laid_rest T) (hr.mono (by decide)) (by rfl) (ma_cons (me_var (pv 0)) (ma_cons (me_var (pv 1)) ma_nil))) (by rfl) (by rfl) (by rfl))))
    (ms_one (ms_retV (pv 0))))))
theorem w_form_parted (T : Txt K mg A0 A1 A2 A3 A4 A5 A6 A7 A8 A9 A10 A11 A12 A13 cc__law_odd_right pp__law_odd_right cc__law_pair_right pp__law_pair_right cc_law) : FnG P w K mg base (ctOf pu pn A0 A1 A2 A3 A4 A5 A6 A7 A8 A9 A10 A11 A12 A13 cc__law_odd_right pp__law_odd_right cc__law_pair_right pp__law_pair_right cc_law) 4 "form_parted" 2 m_form_parted :=
  fn_g (b := b_form_parted) T.fn_form_parted sc_form_parted rfl rfl fun f cdv A outer s H E hr =>
    (ms_cons (ms_expr (me_call (w_need_form T) (hr.mono (by decide)) (by rfl) (ma_cons (me_var (pv 0)) ma_nil)))
    (ms_cons (ms_expr (me_call (w_need_form T) (hr.mono (by decide)) (by rfl) (ma_cons (me_var (pv 1)) ma_nil)))
    (ms_cons (ms_if (mt_cmp (op_eqA hr.units) ok_eq (me_var (pv 1)) me_int (nomark _)) (ms_one (ms_raise rfl T.ra_ByNought (by rfl))) ms_nil)
    (ms_cons (ms_set (i := 2) sc_form_parted.nd rfl (by first | exact Or.inl rfl | exact Or.inr rfl) (me_call (w_high_place T) (hr.mono (by decide)) (by rfl) (ma_cons (me_var (pv 1)) ma_nil)))
    (ms_cons (ms_set (i := 3) sc_form_parted.nd rfl (by first | exact Or.inl rfl | exact Or.inr rfl) me_int)
    (ms_cons (ms_while (mt_cmp op_ge ok_ge (me_call (w_high_place T) (hr.mono (by decide)) (by rfl) (ma_cons (me_var (pv 0)) ma_nil)) (me_var (pv 2)) (nomark _)) (ms_cons (ms_set (i := 4) sc_form_parted.nd rfl (by first | exact Or.inl rfl | exact Or.inr rfl) (me_op op_sub ok_sub (me_call (w_high_place T) (hr.mono (by decide)) (by rfl) (ma_cons (me_var (pv 0)) ma_nil)) (me_var (pv 2))))
    (ms_cons (ms_set (i := 3) sc_form_parted.nd rfl (by first | exact Or.inl rfl | exact Or.inr rfl) (me_op op_or ok_or (me_var (pv 3)) (me_op op_shl ok_shl me_int (me_var (pv 4)))))
    (ms_one (ms_set (i := 0) sc_form_parted.nd rfl (by first | exact Or.inl rfl | exact Or.inr rfl) (me_op op_xor ok_xor (me_var (pv 0)) (me_op op_shl ok_shl (me_var (pv 1)) (me_var (pv 4)))))))))
    (ms_one (ms_ret (me_tup (ma_cons (me_var (pv 3)) (ma_cons (me_var (pv 0)) ma_nil)))))))))))
theorem w_form_product (T : Txt K mg A0 A1 A2 A3 A4 A5 A6 A7 A8 A9 A10 A11 A12 A13 cc__law_odd_right pp__law_odd_right cc__law_pair_right pp__law_pair_right cc_law) : FnG P w K mg base (ctOf pu pn A0 A1 A2 A3 A4 A5 A6 A7 A8 A9 A10 A11 A12 A13 cc__law_odd_right pp__law_odd_right cc__law_pair_right pp__law_pair_right cc_law) 4 "form_product" 2 m_form_product :=
  fn_g (b := b_form_product) T.fn_form_product sc_form_product rfl rfl fun f cdv A outer s H E hr =>
    (ms_cons (ms_expr (me_call (w_need_form T) (hr.mono (by decide)) (by rfl) (ma_cons (me_var (pv 0)) ma_nil)))
    (ms_cons (ms_expr (me_call (w_need_form T) (hr.mono (by decide)) (by rfl) (ma_cons (me_var (pv 1)) ma_nil)))
    (ms_cons (ms_set (i := 2) sc_form_product.nd rfl (by first | exact Or.inl rfl | exact Or.inr rfl) me_int)
    (ms_cons (ms_while (mt_cmp op_gt ok_gt (me_var (pv 1)) me_int (nomark _)) (ms_cons (ms_if (mt_cmp (op_eqA hr.units) ok_eq (me_op op_and ok_and (me_var (pv 1)) me_int) me_int (nomark _)) (ms_one (ms_set (i := 2) sc_form_product.nd rfl (by first | exact Or.inl rfl | exact Or.inr rfl) (me_op op_xor ok_xor (me_var (pv 2)) (me_var (pv 0))))) ms_nil)
    (ms_cons (ms_set (i := 0) sc_form_product.nd rfl (by first | exact Or.inl rfl | exact Or.inr rfl) (me_op op_shl ok_shl (me_var (pv 0)) me_int))
    (ms_one (ms_set (i := 1) sc_form_product.nd rfl (by first | exact Or.inl rfl | exact Or.inr rfl) (me_op op_shr ok_shr (me_var (pv 1)) me_int))))))
    (ms_one (ms_retV (pv 2)))))))
theorem w__law_kind (T : Txt K mg A0 A1 A2 A3 A4 A5 A6 A7 A8 A9 A10 A11 A12 A13 cc__law_odd_right pp__law_odd_right cc__law_pair_right pp__law_pair_right cc_law) : FnG P w K mg base (ctOf pu pn A0 A1 A2 A3 A4 A5 A6 A7 A8 A9 A10 A11 A12 A13 cc__law_odd_right pp__law_odd_right cc__law_pair_right pp__law_pair_right cc_law) 1 "_law_kind" 1 m__law_kind :=
  fn_g (b := b__law_kind) T.fn__law_kind sc__law_kind rfl rfl fun f cdv A outer s H E hr =>
    (ms_cons (ms_own (i := 1) sc__law_kind.nd rfl (by first | exact Or.inl rfl | exact Or.inr rfl) (me_lst (ma_cons me_str (ma_cons me_str (ma_cons me_str (ma_cons me_str (ma_cons me_str (ma_cons me_str (ma_cons me_str (ma_cons me_str (ma_cons me_str (ma_cons me_str (ma_cons me_str (ma_cons me_str ma_nil))))))))))))))
    (ms_cons (ms_app (i := 1) (pv 1) me_str (fun h1 h2 => pe_bm PySem.F.plainAttrs_list PySem.F.slot_list_append PySem.F.type_list_append mt_append h1 h2))
    (ms_cons (ms_own (i := 2) sc__law_kind.nd rfl (by first | exact Or.inl rfl | exact Or.inr rfl) (me_lst (ma_cons (me_isx (tt := [("NoneType", false)]) (l := [(1, true), (3, false)]) (me_var (pv 0)) (pe_cls (by rfl) T.gc_BadForm) (.own _) T.is_BadForm (by rfl) T.z_isinstance (by decide +kernel)) (ma_cons (me_isx (tt := [("NoneType", false)]) (l := [(1, false), (3, false)]) (me_var (pv 0)) (pe_cls (by rfl) T.gc_BadField) (.own _) T.is_BadField (by rfl) T.z_isinstance (by decide +kernel)) (ma_cons (me_isx (tt := [("NoneType", false)]) (l := [(1, false), (3, false)]) (me_var (pv 0)) (pe_cls (by rfl) T.gc_BadElement) (.own _) T.is_BadElement (by rfl) T.z_isinstance (by decide +kernel)) ma_nil)))))
    (ms_cons (ms_own (i := 2) sc__law_kind.nd rfl (by first | exact Or.inl rfl | exact Or.inr rfl) (me_op op_addA ok_add (me_var (pv 2)) (me_lst (ma_cons (me_isx (tt := [("NoneType", false)]) (l := [(1, false), (3, true)]) (me_var (pv 0)) (pe_cls (by rfl) T.gc_ByNought) (.own _) T.is_ByNought (by rfl) T.z_isinstance (by decide +kernel)) (ma_cons (me_isx (tt := [("NoneType", false)]) (l := [(1, false), (3, false)]) (me_var (pv 0)) (pe_cls (by rfl) T.gc_BadRow) (.own _) T.is_BadRow (by rfl) T.z_isinstance (by decide +kernel)) (ma_cons (me_isx (tt := [("NoneType", false)]) (l := [(1, false), (3, false)]) (me_var (pv 0)) (pe_cls (by rfl) T.gc_BadCode) (.own _) T.is_BadCode (by rfl) T.z_isinstance (by decide +kernel)) ma_nil))))))
    (ms_cons (ms_own (i := 2) sc__law_kind.nd rfl (by first | exact Or.inl rfl | exact Or.inr rfl) (me_op op_addA ok_add (me_var (pv 2)) (me_lst (ma_cons (me_isx (tt := [("NoneType", false)]) (l := [(1, false), (3, false)]) (me_var (pv 0)) (pe_cls (by rfl) T.gc_BadWord) (.own _) T.is_BadWord (by rfl) T.z_isinstance (by decide +kernel)) (ma_cons (me_isx (tt := [("NoneType", false)]) (l := [(1, false), (3, false)]) (me_var (pv 0)) (pe_cls (by rfl) T.gc_BadSpan) (.own _) T.is_BadSpan (by rfl) T.z_isinstance (by decide +kernel)) (ma_cons (me_isx (tt := [("NoneType", false)]) (l := [(1, false), (3, false)]) (me_var (pv 0)) (pe_cls (by rfl) T.gc_NoWord) (.own _) T.is_NoWord (by rfl) T.z_isinstance (by decide +kernel)) ma_nil))))))
    (ms_cons (ms_own (i := 2) sc__law_kind.nd rfl (by first | exact Or.inl rfl | exact Or.inr rfl) (me_op op_addA ok_add (me_var (pv 2)) (me_lst (ma_cons (me_isx (tt := [("NoneType", false)]) (l := [(1, false), (3, false)]) (me_var (pv 0)) (pe_cls (by rfl) T.gc_BadMachine) (.own _) T.is_BadMachine (by rfl) T.z_isinstance (by decide +kernel)) (ma_cons (me_isx (tt := [("NoneType", false)]) (l := [(1, false), (3, false)]) (me_var (pv 0)) (pe_cls (by rfl) T.gc_BadBytes) (.own _) T.is_BadBytes (by rfl) T.z_isinstance (by decide +kernel)) (ma_cons (me_isx (tt := [("NoneType", false)]) (l := [(1, false), (3, false)]) (me_var (pv 0)) (pe_cls (by rfl) T.gc_BadSeal) (.own _) T.is_BadSeal (by rfl) T.z_isinstance (by decide +kernel)) ma_nil))))))
    (ms_cons (ms_app (i := 2) (pv 2) (me_isx (tt := [("NoneType", false)]) (l := [(1, false), (3, false)]) (me_var (pv 0)) (pe_cls (by rfl) T.gc_BadRoad) (.own _) T.is_BadRoad (by rfl) T.z_isinstance (by decide +kernel)) (fun h1 h2 => pe_bm PySem.F.plainAttrs_list PySem.F.slot_list_append PySem.F.type_list_append mt_append h1 h2))
    (ms_cons (ms_if (MW.mt (mw_or (mt_cmp (op_neA hr.units) ok_ne (me_bm PySem.F.slot_list_count PySem.F.type_list_count mt_cntF ok_cntB (me_var (pv 2)) (ma_cons me_bl ma_nil)) me_int (nomark _)) (mw_or1 (mt_not (mt_val (me_isx (tt := [("NoneType", false)]) (l := [(1, true), (3, true)]) (me_var (pv 0)) (pe_bcls (by rfl) T.z_ValueError (by decide +kernel)) (.ty _) T.is_ValueError (by rfl) T.z_isinstance (by decide +kernel))))))) (ms_one (ms_ret me_str)) ms_nil)
    (ms_one (ms_ret (me_ix (me_var (pv 1)) (me_bm PySem.F.slot_list_index PySem.F.type_list_index mt_index ok_idxB (me_var (pv 2)) (ma_cons me_bl ma_nil)))))))))))))
theorem w__law_refused (T : Txt K mg A0 A1 A2 A3 A4 A5 A6 A7 A8 A9 A10 A11 A12 A13 cc__law_odd_right pp__law_odd_right cc__law_pair_right pp__law_pair_right cc_law) {k : Nat} (hk : 1 ≤ k) : GvG P w K mg base (ctOf false pn A0 A1 A2 A3 A4 A5 A6 A7 A8 A9 A10 A11 A12 A13 cc__law_odd_right pp__law_odd_right cc__law_pair_right pp__law_pair_right cc_law) k "_law_refused" 2 1 0 [(1, true), (3, true)] r__law_refused :=
  gv_g T.fn__law_refused sc__law_refused rfl rfl (by exact Or.inl rfl) (by rfl) (by rfl) fun f cdv A outer s H E G act hr0 hact =>
    have hr := hr0.mono hk
    (msg_cons (MS.gh (ms_set (i := 1) sc__law_refused.nd rfl (by first | exact Or.inl rfl | exact Or.inr rfl) me_non)) (msg_cons (msg_try (i := 2) (j := 1) (l := [(1, true), (3, true)]) rfl rfl rfl sc__law_refused.nd rfl rfl rfl rfl (by decide) ⟨by rfl, by decide, Or.inl T.gc_CodeError⟩ T.tx_CodeError (fun _ _ => pv 2) (fun _ _ _ h => ps_set (i := 1) sc__law_refused.nd rfl (by first | exact Or.inl rfl | exact Or.inr rfl) h) (fun pn xe => msg_one (hact pn xe _ _ _))) (MSs.gh (mss_for0 (ms_one (ms_ret (me_if (mt_cmp op_isN ok_isN (me_var (pv 1)) me_non (nomark _)) me_str (me_call (w__law_kind T) (hr.mono (by decide)) (by rfl) (ma_cons (me_var (pv 1)) ma_nil)))))))))
theorem w__law_odd_right (T : Txt K mg A0 A1 A2 A3 A4 A5 A6 A7 A8 A9 A10 A11 A12 A13 cc__law_odd_right pp__law_odd_right cc__law_pair_right pp__law_pair_right cc_law) (TB : ∀ p ∈ [(cc__law_odd_right, pp__law_odd_right), (cc__law_pair_right, pp__law_pair_right)], LamX.TabB base mg p.1 p.2) : FnG P w K mg base (ctOf false pn A0 A1 A2 A3 A4 A5 A6 A7 A8 A9 A10 A11 A12 A13 cc__law_odd_right pp__law_odd_right cc__law_pair_right pp__law_pair_right cc_law) 7 "_law_odd_right" 2 m__law_odd_right :=
  fn_gC (b := b__law_odd_right) T.fn__law_odd_right sc__law_odd_right rfl rfl fun f A outer s H E hr =>
    (mss_lam (i := 2) sc__law_odd_right.nd rfl (by first | exact Or.inl rfl | exact Or.inr rfl) (TB _ (.head _)) rfl (.head _) (fun p hp e => T.tu p hp _ (.head _) e) (LamX.lamS_by (show LamX.lamSB (defScope (topS 45)) _ = true by decide +kernel)) rfl (fun f0 c0 =>
    (mss_lamA (i := 2) (pv 2) (TB _ (.head _)) rfl (.head _) (fun p hp e => T.tu p hp _ (.head _) e) (LamX.lamS_by (show LamX.lamSB (defScope (topS 45)) _ = true by decide +kernel)) rfl (fun h1 h2 => pe_bm PySem.F.plainAttrs_list PySem.F.slot_list_append PySem.F.type_list_append mt_append h1 h2) (fun f1 c1 =>
    (mss_lamA (i := 2) (pv 2) (TB _ (.head _)) rfl (.head _) (fun p hp e => T.tu p hp _ (.head _) e) (LamX.lamS_by (show LamX.lamSB (defScope (topS 45)) _ = true by decide +kernel)) rfl (fun h1 h2 => pe_bm PySem.F.plainAttrs_list PySem.F.slot_list_append PySem.F.type_list_append mt_append h1 h2) (fun f2 c2 =>
    (mss_lamA (i := 2) (pv 2) (TB _ (.head _)) rfl (.head _) (fun p hp e => T.tu p hp _ (.head _) e) (LamX.lamS_by (show LamX.lamSB (defScope (topS 45)) _ = true by decide +kernel)) rfl (fun h1 h2 => pe_bm PySem.F.plainAttrs_list PySem.F.slot_list_append PySem.F.type_list_append mt_append h1 h2) (fun f3 c3 =>
    (mss_lamA (i := 2) (pv 2) (TB _ (.head _)) rfl (.head _) (fun p hp e => T.tu p hp _ (.head _) e) (LamX.lamS_by (show LamX.lamSB (defScope (topS 45)) _ = true by decide +kernel)) rfl (fun h1 h2 => pe_bm PySem.F.plainAttrs_list PySem.F.slot_list_append PySem.F.type_list_append mt_append h1 h2) (fun f4 c4 =>
    (mss_lamA (i := 2) (pv 2) (TB _ (.head _)) rfl (.head _) (fun p hp e => T.tu p hp _ (.head _) e) (LamX.lamS_by (show LamX.lamSB (defScope (topS 45)) _ = true by decide +kernel)) rfl (fun h1 h2 => pe_bm PySem.F.plainAttrs_list PySem.F.slot_list_append PySem.F.type_list_append mt_append h1 h2) (fun f5 c5 =>
    (mss_lamA (i := 2) (pv 2) (TB _ (.head _)) rfl (.head _) (fun p hp e => T.tu p hp _ (.head _) e) (LamX.lamS_by (show LamX.lamSB (defScope (topS 45)) _ = true by decide +kernel)) rfl (fun h1 h2 => pe_bm PySem.F.plainAttrs_list PySem.F.slot_list_append PySem.F.type_list_append mt_append h1 h2) (fun f6 c6 =>
    (ms_one (ms_dem (i := 2) (ms_ret (me_cmp (op_eqA hr.units) ok_eq (me_lcV rfl sc__law_odd_right.nd (MLcV.mk (own := [("asked", 3)]) (mi_seq (me_var (pv 2))) (blkOk_by (N := ["one", "odd", "every", "asked"]) (sc := defScope (topS 45)) (own := [("asked", 3)]) (by decide +kernel)) ⟨[3], by decide, fun _ _ _ _ _ => (mg_name (i := 3) sc__law_odd_right.nd rfl (by first | exact Or.inl rfl | exact Or.inr rfl))⟩ (fun pins0 σ0 _ _ _ _ _ I0 hfp _ => (pts_oneC takesB (mt_cmpC (op_neA hr.units) ok_ne (by exact (me_altC (t := isAt 3 f0) (me_refAtV (vs := [3]) I0 hfp (k := 4) (ka := 3) (f := f0) (c' := c0) (w__law_refused T (by decide)) (List.mem_append_right _ (List.mem_append_right _ (List.mem_append_right _ (List.mem_append_right _ (List.mem_append_right _ (List.mem_append_right _ (List.mem_append_left _ (.head _)))))))) (List.mem_append_right _ (List.mem_append_right _ (List.mem_append_right _ (List.mem_append_right _ (List.mem_append_right _ (List.mem_append_right _ (List.mem_append_left _ (.tail _ (.head _))))))))) (hr.mono (by decide)) (by rfl) (LamX.lamS_by (show LamX.lamSB (defScope (topS 45)) _ = true by decide +kernel)) (fun _ _ _ _ _ => rfl) (fun A outer s H E hr => (me_call (w_degree T) (hr.mono (by decide)) (by rfl) (ma_cons (me_var (pv 1)) ma_nil))) (pv 3))
    (me_altC (t := isAt 3 f1) (me_refAtV (vs := [3]) I0 hfp (k := 4) (ka := 3) (f := f1) (c' := c1) (w__law_refused T (by decide)) (List.mem_append_right _ (List.mem_append_right _ (List.mem_append_right _ (List.mem_append_right _ (List.mem_append_right _ (List.mem_append_left _ (.head _))))))) (List.mem_append_right _ (List.mem_append_right _ (List.mem_append_right _ (List.mem_append_right _ (List.mem_append_right _ (List.mem_append_left _ (.tail _ (.head _)))))))) (hr.mono (by decide)) (by rfl) (LamX.lamS_by (show LamX.lamSB (defScope (topS 45)) _ = true by decide +kernel)) (fun _ _ _ _ _ => rfl) (fun A outer s H E hr => (me_call (w_form_product T) (hr.mono (by decide)) (by rfl) (ma_cons (me_var (pv 1)) (ma_cons (me_var (pv 0)) ma_nil)))) (pv 3))
    (me_altC (t := isAt 3 f2) (me_refAtV (vs := [3]) I0 hfp (k := 4) (ka := 3) (f := f2) (c' := c2) (w__law_refused T (by decide)) (List.mem_append_right _ (List.mem_append_right _ (List.mem_append_right _ (List.mem_append_right _ (List.mem_append_left _ (.head _)))))) (List.mem_append_right _ (List.mem_append_right _ (List.mem_append_right _ (List.mem_append_right _ (List.mem_append_left _ (.tail _ (.head _))))))) (hr.mono (by decide)) (by rfl) (LamX.lamS_by (show LamX.lamSB (defScope (topS 45)) _ = true by decide +kernel)) (fun _ _ _ _ _ => rfl) (fun A outer s H E hr => (me_call (w_form_product T) (hr.mono (by decide)) (by rfl) (ma_cons (me_var (pv 0)) (ma_cons (me_var (pv 1)) ma_nil)))) (pv 3))
    (me_altC (t := isAt 3 f3) (me_refAtV (vs := [3]) I0 hfp (k := 4) (ka := 3) (f := f3) (c' := c3) (w__law_refused T (by decide)) (List.mem_append_right _ (List.mem_append_right _ (List.mem_append_right _ (List.mem_append_left _ (.head _))))) (List.mem_append_right _ (List.mem_append_right _ (List.mem_append_right _ (List.mem_append_left _ (.tail _ (.head _)))))) (hr.mono (by decide)) (by rfl) (LamX.lamS_by (show LamX.lamSB (defScope (topS 45)) _ = true by decide +kernel)) (fun _ _ _ _ _ => rfl) (fun A outer s H E hr => (me_call (w_form_parted T) (hr.mono (by decide)) (by rfl) (ma_cons (me_var (pv 1)) (ma_cons me_int ma_nil)))) (pv 3))
    (me_altC (t := isAt 3 f4) (me_refAtV (vs := [3]) I0 hfp (k := 4) (ka := 3) (f := f4) (c' := c4) (w__law_refused T (by decide)) (List.mem_append_right _ (List.mem_append_right _ (List.mem_append_left _ (.head _)))) (List.mem_append_right _ (List.mem_append_right _ (List.mem_append_left _ (.tail _ (.head _))))) (hr.mono (by decide)) (by rfl) (LamX.lamS_by (show LamX.lamSB (defScope (topS 45)) _ = true by decide +kernel)) (fun _ _ _ _ _ => rfl) (fun A outer s H E hr => (me_call (w_form_parted T) (hr.mono (by decide)) (by rfl) (ma_cons (me_var (pv 0)) (ma_cons (me_var (pv 1)) ma_nil)))) (pv 3))
    (me_altC (t := isAt 3 f5) (me_refAtV (vs := [3]) I0 hfp (k := 4) (ka := 3) (f := f5) (c' := c5) (w__law_refused T (by decide)) (List.mem_append_right _ (List.mem_append_left _ (.head _))) (List.mem_append_right _ (List.mem_append_left _ (.tail _ (.head _)))) (hr.mono (by decide)) (by rfl) (LamX.lamS_by (show LamX.lamSB (defScope (topS 45)) _ = true by decide +kernel)) (fun _ _ _ _ _ => rfl) (fun A outer s H E hr => (me_call (w_form_common T) (hr.mono (by decide)) (by rfl) (ma_cons (me_var (pv 1)) (ma_cons (me_var (pv 0)) ma_nil)))) (pv 3))
    (me_refAtV (vs := [3]) I0 hfp (k := 4) (ka := 3) (f := f6) (c' := c6) (w__law_refused T (by decide)) (List.mem_append_left _ (.head _)) (List.mem_append_left _ (.tail _ (.head _))) (hr.mono (by decide)) (by rfl) (LamX.lamS_by (show LamX.lamSB (defScope (topS 45)) _ = true by decide +kernel)) (fun _ _ _ _ _ => rfl) (fun A outer s H E hr => (me_call (w_form_common T) (hr.mono (by decide)) (by rfl) (ma_cons (me_var (pv 0)) (ma_cons (me_var (pv 1)) ma_nil)))) (pv 3))))))))) me_str (nomark _)))) (fun _ _ _ _ _ => me_bl))) (me_lst ma_nil) (nomark _)))))))))))))))))))
theorem w__law_parted (T : Txt K mg A0 A1 A2 A3 A4 A5 A6 A7 A8 A9 A10 A11 A12 A13 cc__law_odd_right pp__law_odd_right cc__law_pair_right pp__law_pair_right cc_law) : FnG P w K mg base (ctOf pu pn A0 A1 A2 A3 A4 A5 A6 A7 A8 A9 A10 A11 A12 A13 cc__law_odd_right pp__law_odd_right cc__law_pair_right pp__law_pair_right cc_law) 2 "_law_parted" 2 m__law_parted :=
  fn_g (b := b__law_parted) T.fn__law_parted sc__law_parted rfl rfl fun f cdv A outer s H E hr =>
    (ms_cons (ms_own (i := 2) sc__law_parted.nd rfl (by first | exact Or.inl rfl | exact Or.inr rfl) (me_callTy call_list_of ok_list (by rfl) T.z_list (by decide +kernel) (ma_cons (me_var (pv 0)) ma_nil)))
    (ms_cons (ms_own (i := 3) sc__law_parted.nd rfl (by first | exact Or.inl rfl | exact Or.inr rfl) (me_op op_mulA ok_mul (me_lst (ma_cons me_int ma_nil)) (me_op op_addA ok_add (me_callB call_lenA ok_len (by rfl) T.z_len (by decide +kernel) (ma_cons (me_var (pv 0)) ma_nil)) me_int)))
    (ms_cons (ms_while (mt_cmp op_ge ok_ge (me_callB call_lenA ok_len (by rfl) T.z_len (by decide +kernel) (ma_cons (me_var (pv 2)) ma_nil)) (me_callB call_lenA ok_len (by rfl) T.z_len (by decide +kernel) (ma_cons (me_var (pv 1)) ma_nil)) (nomark _)) (ms_cons (ms_set (i := 4) sc__law_parted.nd rfl (by first | exact Or.inl rfl | exact Or.inr rfl) (me_op op_sub ok_sub (me_callB call_lenA ok_len (by rfl) T.z_len (by decide +kernel) (ma_cons (me_var (pv 2)) ma_nil)) (me_callB call_lenA ok_len (by rfl) T.z_len (by decide +kernel) (ma_cons (me_var (pv 1)) ma_nil))))
    (ms_cons (ms_sub (i := 3) (pv 3) (me_var (pv 4)) me_int)
    (ms_cons (ms_for rfl (mi_enum (by rfl) T.z_enumerate (ma_cons (me_var (pv 1)) ma_nil)) (mg_tup rfl (mgs_cons (mg_name (i := 5) sc__law_parted.nd rfl (by first | exact Or.inl rfl | exact Or.inr rfl)) (mgs_cons (mg_name (i := 6) sc__law_parted.nd rfl (by first | exact Or.inl rfl | exact Or.inr rfl)) mgs_nil))) (ms_one (ms_sub (i := 2) (pv 2) (me_op op_addA ok_add (me_var (pv 4)) (me_var (pv 5))) (me_op op_mod ok_mod (me_op op_addA ok_add (me_ix (me_var (pv 2)) (me_op op_addA ok_add (me_var (pv 4)) (me_var (pv 5)))) (me_var (pv 6))) me_int))))
    (ms_one (ms_own (i := 2) sc__law_parted.nd rfl (by first | exact Or.inl rfl | exact Or.inr rfl) (me_call (w__law_row T) (hr.mono (by decide)) (by rfl) (ma_cons (me_call (w__law_number T) (hr.mono (by decide)) (by rfl) (ma_cons (me_var (pv 2)) ma_nil)) ma_nil))))))))
    (ms_one (ms_dem (i := 2) (ms_ret (me_tup (ma_cons (me_call (w__law_row T) (hr.mono (by decide)) (by rfl) (ma_cons (me_call (w__law_number T) (hr.mono (by decide)) (by rfl) (ma_cons (me_var (pv 3)) ma_nil)) ma_nil)) (ma_cons (me_var (pv 2)) ma_nil)))))))))
theorem w__law_common (T : Txt K mg A0 A1 A2 A3 A4 A5 A6 A7 A8 A9 A10 A11 A12 A13 cc__law_odd_right pp__law_odd_right cc__law_pair_right pp__law_pair_right cc_law) : FnG P w K mg base (ctOf pu pn A0 A1 A2 A3 A4 A5 A6 A7 A8 A9 A10 A11 A12 A13 cc__law_odd_right pp__law_odd_right cc__law_pair_right pp__law_pair_right cc_law) 3 "_law_common" 2 m__law_common :=
  fn_g (b := b__law_common) T.fn__law_common sc__law_common rfl rfl fun f cdv A outer s H E hr =>
    (ms_cons (ms_while (mt_cmp (op_neA hr.units) ok_ne (me_var (pv 1)) (me_lst ma_nil) (nomark _)) (ms_one (ms_par (i := 0) (j := 1) rfl sc__law_common.nd rfl rfl (by decide) rfl rfl (me_var (pv 1)) (me_ix (me_call (w__law_parted T) (hr.mono (by decide)) (by rfl) (ma_cons (me_var (pv 0)) (ma_cons (me_var (pv 1)) ma_nil))) me_int) (by rfl) (by rfl) (by rfl))))
    (ms_one (ms_retV (pv 0))))
theorem w__law_pair_right (T : Txt K mg A0 A1 A2 A3 A4 A5 A6 A7 A8 A9 A10 A11 A12 A13 cc__law_odd_right pp__law_odd_right cc__law_pair_right pp__law_pair_right cc_law) (TB : ∀ p ∈ [(cc__law_odd_right, pp__law_odd_right), (cc__law_pair_right, pp__law_pair_right)], LamX.TabB base mg p.1 p.2) : FnG P w K mg base (ctOf false pn A0 A1 A2 A3 A4 A5 A6 A7 A8 A9 A10 A11 A12 A13 cc__law_odd_right pp__law_odd_right cc__law_pair_right pp__law_pair_right cc_law) 7 "_law_pair_right" 2 m__law_pair_right :=
  fn_gC (b := b__law_pair_right) T.fn__law_pair_right sc__law_pair_right rfl rfl fun f A outer s H E hr =>
    (ms_cons (ms_set (i := 2) sc__law_pair_right.nd rfl (by first | exact Or.inl rfl | exact Or.inr rfl) (me_tup (ma_cons (me_call (w__law_row T) (hr.mono (by decide)) (by rfl) (ma_cons (me_var (pv 0)) ma_nil)) (ma_cons (me_call (w__law_row T) (hr.mono (by decide)) (by rfl) (ma_cons (me_var (pv 1)) ma_nil)) ma_nil))))
    (ms_cons (ms_if (mt_not (mt_val (me_call (w__law_whole T) (hr.mono (by decide)) (by rfl) (ma_cons (me_call (w_form_common T) (hr.mono (by decide)) (by rfl) (ma_cons (me_var (pv 0)) (ma_cons (me_var (pv 1)) ma_nil))) (ma_cons (me_call (w__law_number T) (hr.mono (by decide)) (by rfl) (ma_cons (me_call (w__law_common T) (hr.mono (by decide)) (by rfl) (ma_cons (me_ix (me_var (pv 2)) me_int) (ma_cons (me_ix (me_var (pv 2)) me_int) ma_nil))) ma_nil)) ma_nil))))) (ms_one (ms_ret me_bl)) ms_nil)
    (ms_cons (ms_if (mt_cmp (op_eqA hr.units) ok_eq (me_var (pv 1)) me_int (nomark _)) (ms_one (ms_ret (me_cmp (op_eqA hr.units) ok_eq (me_lam (k := 4) (w__law_refused T (by decide)) (TB _ (.tail _ (.head _))) rfl (.tail _ (.head _)) (fun p hp e => T.tu p hp _ (.tail _ (.head _)) e) (hr.mono (by decide)) (by rfl) (LamX.lamS_by (show LamX.lamSB (defScope (topS 42)) _ = true by decide +kernel)) rfl (fun _ _ _ _ _ => rfl) (fun A outer s H E f c' hr => (me_call (w_form_parted T) (hr.mono (by decide)) (by rfl) (ma_cons (me_var (pv 0)) (ma_cons (me_var (pv 1)) ma_nil))))) me_str (nomark _)))) ms_nil)
    (ms_cons (ms_set (i := 3) sc__law_pair_right.nd rfl (by first | exact Or.inl rfl | exact Or.inr rfl) (me_call (w_form_parted T) (hr.mono (by decide)) (by rfl) (ma_cons (me_var (pv 0)) (ma_cons (me_var (pv 1)) ma_nil))))
    (ms_cons (ms_asg (me_call (w__law_parted T) (hr.mono (by decide)) (by rfl) (ma_cons (me_ix (me_var (pv 2)) me_int) (ma_cons (me_ix (me_var (pv 2)) me_int) ma_nil))) (mg_tup rfl (mgs_cons (mg_name (i := 4) sc__law_pair_right.nd rfl (by first | exact Or.inl rfl | exact Or.inr rfl)) (mgs_cons (mg_name (i := 5) sc__law_pair_right.nd rfl (by first | exact Or.inl rfl | exact Or.inr rfl)) mgs_nil))))
    (ms_cons (ms_if (MW.mt (mw_or (mt_not (mt_val (me_callB call_isi (ok_isi (g := (isiOne "tuple")) isi_tuple) (by rfl) T.z_isinstance (by decide +kernel) (ma_cons (me_var (pv 3)) (ma_cons (me_ty (by rfl) T.z_tuple (by decide +kernel)) ma_nil))))) (mw_or1 (mt_cmp (op_neA hr.units) ok_ne (me_callB call_lenA ok_len (by rfl) T.z_len (by decide +kernel) (ma_cons (me_var (pv 3)) ma_nil)) me_int (nomark _))))) (ms_one (ms_ret me_bl)) ms_nil)
    (ms_one (ms_ret (me_and (me_call (w__law_whole T) (hr.mono (by decide)) (by rfl) (ma_cons (me_ix (me_var (pv 3)) me_int) (ma_cons (me_call (w__law_number T) (hr.mono (by decide)) (by rfl) (ma_cons (me_var (pv 4)) ma_nil)) ma_nil))) (me_one (me_call (w__law_whole T) (hr.mono (by decide)) (by rfl) (ma_cons (me_ix (me_var (pv 3)) me_int) (ma_cons (me_call (w__law_number T) (hr.mono (by decide)) (by rfl) (ma_cons (me_var (pv 5)) ma_nil)) ma_nil)))))))))))))
theorem w__law_product (T : Txt K mg A0 A1 A2 A3 A4 A5 A6 A7 A8 A9 A10 A11 A12 A13 cc__law_odd_right pp__law_odd_right cc__law_pair_right pp__law_pair_right cc_law) : FnG P w K mg base (ctOf pu pn A0 A1 A2 A3 A4 A5 A6 A7 A8 A9 A10 A11 A12 A13 cc__law_odd_right pp__law_odd_right cc__law_pair_right pp__law_pair_right cc_law) 2 "_law_product" 2 m__law_product :=
  fn_g (b := b__law_product) T.fn__law_product sc__law_product rfl rfl fun f cdv A outer s H E hr =>
    (ms_cons (ms_own (i := 2) sc__law_product.nd rfl (by first | exact Or.inl rfl | exact Or.inr rfl) (me_op op_mulA ok_mul (me_lst (ma_cons me_int ma_nil)) (me_op op_addA ok_add (me_callB call_lenA ok_len (by rfl) T.z_len (by decide +kernel) (ma_cons (me_var (pv 0)) ma_nil)) (me_callB call_lenA ok_len (by rfl) T.z_len (by decide +kernel) (ma_cons (me_var (pv 1)) ma_nil)))))
    (ms_cons (ms_for rfl (mi_enum (by rfl) T.z_enumerate (ma_cons (me_var (pv 0)) ma_nil)) (mg_tup rfl (mgs_cons (mg_name (i := 3) sc__law_product.nd rfl (by first | exact Or.inl rfl | exact Or.inr rfl)) (mgs_cons (mg_name (i := 4) sc__law_product.nd rfl (by first | exact Or.inl rfl | exact Or.inr rfl)) mgs_nil))) (ms_one (ms_for rfl (mi_enum (by rfl) T.z_enumerate (ma_cons (me_var (pv 1)) ma_nil)) (mg_tup rfl (mgs_cons (mg_name (i := 5) sc__law_product.nd rfl (by first | exact Or.inl rfl | exact Or.inr rfl)) (mgs_cons (mg_name (i := 6) sc__law_product.nd rfl (by first | exact Or.inl rfl | exact Or.inr rfl)) mgs_nil))) (ms_one (ms_sub (i := 2) (pv 2) (me_op op_addA ok_add (me_var (pv 3)) (me_var (pv 5))) (me_op op_mod ok_mod (me_op op_addA ok_add (me_ix (me_var (pv 2)) (me_op op_addA ok_add (me_var (pv 3)) (me_var (pv 5)))) (me_op op_mulA ok_mul (me_var (pv 4)) (me_var (pv 6)))) me_int))))))
    (ms_one (ms_ret (me_call (w__law_row T) (hr.mono (by decide)) (by rfl) (ma_cons (me_call (w__law_number T) (hr.mono (by decide)) (by rfl) (ma_cons (me_var (pv 2)) ma_nil)) ma_nil))))))
theorem law_ok (T : Txt K mg A0 A1 A2 A3 A4 A5 A6 A7 A8 A9 A10 A11 A12 A13 cc__law_odd_right pp__law_odd_right cc__law_pair_right pp__law_pair_right cc_law) {fa : Addr} (hfa : mg "law" = some (.ref fa)) (math : ∀ ns : List Int, ns.length ≤ 63 → ∃ S f, m_law [(.c, .frz (ns.map D.int))] [] = .ok (.bl true, f) S) :
    ∃ (fd : FuncData) (cs : List (Addr × Addr)), (∀ p ∈ cs, ∃ x ∈ (["_law_odd_right", "_law_pair_right"] : List Str), PySem.W.tabIn K x = some p) ∧ (∀ p ∈ cs, K.lookup p.2 = none) ∧ (∀ (s : Shared) (u : Value), BindsTo s fd ⟨[u], []⟩ [("script", u)]) ∧
      ∀ base : Heap, K.In base → base.Ns mainGlobals mg → (∀ p ∈ cs, LamX.TabB base mg p.1 p.2) → FnOk P w K mg base (L2.CX P w) 8 fa fd ["script"] (spLawT K (cs.map (·.2))) :=
  law_endT (cs := [(cc__law_odd_right, pp__law_odd_right), (cc__law_pair_right, pp__law_pair_right)]) (xs := (["_law_odd_right", "_law_pair_right"] : List Str)) (ct := (ctOf false [] A0 A1 A2 A3 A4 A5 A6 A7 A8 A9 A10 A11 A12 A13 cc__law_odd_right pp__law_odd_right cc__law_pair_right pp__law_pair_right cc_law)) (m := b_law) T.fn_law hfa sc_law rfl (List.forall_mem_cons.mpr ⟨(.head _), (List.forall_mem_cons.mpr ⟨(.tail _ (.head _)), (fun _ h => nomatch h)⟩)⟩) (List.forall_mem_cons.mpr ⟨⟨"_law_odd_right", (.head _), T.ti__law_odd_right⟩, (List.forall_mem_cons.mpr ⟨⟨"_law_pair_right", (.tail _ (.head _)), T.ti__law_pair_right⟩, (fun _ h => nomatch h)⟩)⟩) (List.forall_mem_cons.mpr ⟨T.tk__law_odd_right, (List.forall_mem_cons.mpr ⟨T.tk__law_pair_right, (fun _ h => nomatch h)⟩)⟩) (fun base TB f A outer s H E hr =>
    (ms_cons (ms_for rfl (mi_enum (by rfl) T.z_enumerate (ma_cons (me_op op_addA ok_add (me_sl (me_var (pv 0)) mo_no (mo_so me_int)) (me_lst (ma_cons me_int ma_nil))) ma_nil)) (mg_tup rfl (mgs_cons (mg_name (i := 1) sc_law.nd rfl (by first | exact Or.inl rfl | exact Or.inr rfl)) (mgs_cons (mg_name (i := 2) sc_law.nd rfl (by first | exact Or.inl rfl | exact Or.inr rfl)) mgs_nil))) (ms_cons (ms_set (i := 3) sc_law.nd rfl (by first | exact Or.inl rfl | exact Or.inr rfl) (me_call (w__law_mixed T) (hr.mono (by decide)) (by rfl) (ma_cons (me_var (pv 2)) (ma_cons (me_var (pv 1)) ma_nil))))
    (ms_cons (ms_set (i := 4) sc_law.nd rfl (by first | exact Or.inl rfl | exact Or.inr rfl) (me_op op_mod ok_mod (me_var (pv 3)) me_int))
    (ms_cons (ms_set (i := 5) sc_law.nd rfl (by first | exact Or.inl rfl | exact Or.inr rfl) (me_call (w__law_form T) (hr.mono (by decide)) (by rfl) (ma_cons (me_call (w__law_mixed T) (hr.mono (by decide)) (by rfl) (ma_cons (me_var (pv 2)) (ma_cons (me_op op_addA ok_add (me_var (pv 1)) me_int) ma_nil))) (ma_cons (me_var (pv 4)) ma_nil))))
    (ms_cons (ms_set (i := 6) sc_law.nd rfl (by first | exact Or.inl rfl | exact Or.inr rfl) (me_call (w__law_form T) (hr.mono (by decide)) (by rfl) (ma_cons (me_call (w__law_mixed T) (hr.mono (by decide)) (by rfl) (ma_cons (me_var (pv 2)) (ma_cons (me_op op_addA ok_add (me_var (pv 1)) me_int) ma_nil))) (ma_cons (me_op op_sub ok_sub me_int (me_var (pv 4))) ma_nil))))
    (ms_cons (ms_set (i := 7) sc_law.nd rfl (by first | exact Or.inl rfl | exact Or.inr rfl) (me_call (w__law_form T) (hr.mono (by decide)) (by rfl) (ma_cons (me_call (w__law_mixed T) (hr.mono (by decide)) (by rfl) (ma_cons (me_var (pv 2)) (ma_cons (me_op op_addA ok_add (me_var (pv 1)) me_int) ma_nil))) (ma_cons me_int ma_nil))))
    (ms_cons (ms_for rfl (mi_seq (me_tup (ma_cons (me_var (pv 5)) (ma_cons (me_var (pv 6)) (ma_cons (me_var (pv 7)) ma_nil))))) (mg_name (i := 8) sc_law.nd rfl (by first | exact Or.inl rfl | exact Or.inr rfl)) (ms_one (ms_if (MW.mt (mw_or (mt_not (mt_val (me_call (w__law_whole T) (hr.mono (by decide)) (by rfl) (ma_cons (me_call (w_degree T) (hr.mono (by decide)) (by rfl) (ma_cons (me_var (pv 8)) ma_nil)) (ma_cons (me_op op_sub ok_sub (me_callB call_lenA ok_len (by rfl) T.z_len (by decide +kernel) (ma_cons (me_call (w__law_row T) (hr.mono (by decide)) (by rfl) (ma_cons (me_var (pv 8)) ma_nil)) ma_nil)) me_int) ma_nil))))) (mw_or1 (mt_not (mt_val (me_call (w__law_bits_right T) (hr.mono (by decide)) (by rfl) (ma_cons (me_var (pv 8)) (ma_cons (me_op op_mod ok_mod (me_op op_fdivW ok_div (me_var (pv 3)) me_int) me_int) ma_nil)))))))) (ms_one (ms_ret me_bl)) ms_nil)))
    (ms_cons (ms_if (mt_not (mt_val (me_call (w__law_whole T) (hr.mono (by decide)) (by rfl) (ma_cons (me_call (w_form_product T) (hr.mono (by decide)) (by rfl) (ma_cons (me_var (pv 5)) (ma_cons (me_var (pv 6)) ma_nil))) (ma_cons (me_call (w__law_number T) (hr.mono (by decide)) (by rfl) (ma_cons (me_call (w__law_product T) (hr.mono (by decide)) (by rfl) (ma_cons (me_call (w__law_row T) (hr.mono (by decide)) (by rfl) (ma_cons (me_var (pv 5)) ma_nil)) (ma_cons (me_call (w__law_row T) (hr.mono (by decide)) (by rfl) (ma_cons (me_var (pv 6)) ma_nil)) ma_nil))) ma_nil)) ma_nil))))) (ms_one (ms_ret me_bl)) ms_nil)
    (ms_cons (ms_for rfl (mi_seq (me_tup (ma_cons (me_tup (ma_cons (me_var (pv 5)) (ma_cons (me_var (pv 6)) ma_nil))) (ma_cons (me_tup (ma_cons (me_var (pv 7)) (ma_cons (me_var (pv 5)) ma_nil))) (ma_cons (me_tup (ma_cons (me_var (pv 6)) (ma_cons (me_var (pv 7)) ma_nil))) (ma_cons (me_tup (ma_cons me_int (ma_cons (me_var (pv 5)) ma_nil))) (ma_cons (me_tup (ma_cons (me_var (pv 7)) (ma_cons me_int ma_nil))) ma_nil))))))) (mg_tup rfl (mgs_cons (mg_name (i := 9) sc_law.nd rfl (by first | exact Or.inl rfl | exact Or.inr rfl)) (mgs_cons (mg_name (i := 10) sc_law.nd rfl (by first | exact Or.inl rfl | exact Or.inr rfl)) mgs_nil))) (ms_one (ms_if (mt_not (mt_val (me_call (w__law_pair_right T TB) (hr.mono (by decide)) (by rfl) (ma_cons (me_var (pv 9)) (ma_cons (me_var (pv 10)) ma_nil))))) (ms_one (ms_ret me_bl)) ms_nil)))
    (ms_cons (ms_set (i := 11) sc_law.nd rfl (by first | exact Or.inl rfl | exact Or.inr rfl) (me_ix (me_lst (ma_cons me_non (ma_cons me_bl (ma_cons me_bl (ma_cons (me_neg me_int) (ma_cons (me_op op_shl ok_shl me_int me_int) (ma_cons me_str (ma_cons (me_lst (ma_cons me_int ma_nil)) (ma_cons (me_tup (ma_cons me_int ma_nil)) (ma_cons me_dict0 (ma_cons (me_op op_pow ok_pow me_int me_int) ma_nil))))))))))) (me_op op_mod ok_mod (me_op op_fdivW ok_div (me_var (pv 3)) me_int) me_int)))
    (ms_cons (ms_if (mt_not (mt_val (me_call (w__law_odd_right T TB) (hr.mono (by decide)) (by rfl) (ma_cons (me_var (pv 7)) (ma_cons (me_var (pv 11)) ma_nil))))) (ms_one (ms_ret me_bl)) ms_nil)
    (ms_one (ms_if (MW.mt (mw_or (mt_not (mt_val (me_call (w__law_looks_right T) (hr.mono (by decide)) (by rfl) (ma_cons (me_var (pv 11)) (ma_cons (me_var (pv 3)) ma_nil))))) (mw_or1 (mt_not (mt_val (me_call (w__law_looks_right T) (hr.mono (by decide)) (by rfl) (ma_cons (me_var (pv 3)) (ma_cons (me_var (pv 3)) ma_nil)))))))) (ms_one (ms_ret me_bl)) ms_nil)))))))))))))
    (ms_one (ms_ret me_bl)))) math
end
end Wlk

open PySem PySem.W PyProof.Rows
set_option maxRecDepth 100000 in
set_option maxHeartbeats 0 in
theorem PySem.Challenge.cw_codewright_k01_forms_by_rows_of_bits_holds : PySem.Challenge.rw_codewright_k01_forms_by_rows_of_bits.Holds := by
  w_on; o_law; k_head; (case hw => w_witness2)
  k_fill
  refine Mv.law_walkT (k := 8) (l := PySem.Challenge.rw_codewright_k01_forms_by_rows_of_bits) ["_law_odd_right", "_law_pair_right"] rfl rfl ⟨rfl, by decide, by decide⟩ (fun w h Y => PySem.W.km_in_of Y) (by decide +kernel) ?F
  case F =>
    intro w mg fa h KX G hmg
    refine' Wlk.law_ok (Wlk.Txt.mk (K := _) (mg := mg)  (Mv.FunO.mk' KX G ?a_fn__law_row ?l_fn__law_row ?c_fn__law_row ?k_fn__law_row fun _ _ _ _ _ _ us hl => match us, hl with | [_], _ => rfl) (Mv.FunO.mk' KX G ?a_fn__law_whole ?l_fn__law_whole ?c_fn__law_whole ?k_fn__law_whole fun _ _ _ _ _ _ us hl => match us, hl with | [_, _], _ => rfl) (Mv.FunO.mk' KX G ?a_fn_bits_of ?l_fn_bits_of ?c_fn_bits_of ?k_fn_bits_of fun _ _ _ _ _ _ us hl => match us, hl with | [_, _], _ => rfl) (Mv.FunO.mk' KX G ?a_fn_weight ?l_fn_weight ?c_fn_weight ?k_fn_weight fun _ _ _ _ _ _ us hl => match us, hl with | [_], _ => rfl) (Mv.FunO.mk' KX G ?a_fn_is_odd ?l_fn_is_odd ?c_fn_is_odd ?k_fn_is_odd fun _ _ _ _ _ _ us hl => match us, hl with | [_], _ => rfl) (Mv.FunO.mk' KX G ?a_fn_number_of ?l_fn_number_of ?c_fn_number_of ?k_fn_number_of fun _ _ _ _ _ _ us hl => match us, hl with | [_], _ => rfl) (Mv.FunO.mk' KX G ?a_fn__law_bits_right ?l_fn__law_bits_right ?c_fn__law_bits_right ?k_fn__law_bits_right fun _ _ _ _ _ _ us hl => match us, hl with | [_, _], _ => rfl) (Mv.FunO.mk' KX G ?a_fn__law_form ?l_fn__law_form ?c_fn__law_form ?k_fn__law_form fun _ _ _ _ _ _ us hl => match us, hl with | [_, _], _ => rfl) (Mv.FunO.mk' KX G ?a_fn_is_whole ?l_fn_is_whole ?c_fn_is_whole ?k_fn_is_whole fun _ _ _ _ _ _ us hl => match us, hl with | [_], _ => rfl) (Mv.FunO.mk' KX G ?a_fn_is_among ?l_fn_is_among ?c_fn_is_among ?k_fn_is_among fun _ _ _ _ _ _ us hl => match us, hl with | [_, _, _], _ => rfl) (Mv.FunO.mk' KX G ?a_fn__law_looks_right ?l_fn__law_looks_right ?c_fn__law_looks_right ?k_fn__law_looks_right fun _ _ _ _ _ _ us hl => match us, hl with | [_, _], _ => rfl) (Mv.FunO.mk' KX G ?a_fn__law_mixed ?l_fn__law_mixed ?c_fn__law_mixed ?k_fn__law_mixed fun _ _ _ _ _ _ us hl => match us, hl with | [_, _], _ => rfl) (Mv.FunO.mk' KX G ?a_fn__law_number ?l_fn__law_number ?c_fn__law_number ?k_fn__law_number fun _ _ _ _ _ _ us hl => match us, hl with | [_], _ => rfl) (Mv.FunO.mk' KX G ?a_fn_high_place ?l_fn_high_place ?c_fn_high_place ?k_fn_high_place fun _ _ _ _ _ _ us hl => match us, hl with | [_], _ => rfl) (Mv.FunO.mk' KX G ?a_fn_need_form ?l_fn_need_form ?c_fn_need_form ?k_fn_need_form fun _ _ _ _ _ _ us hl => match us, hl with | [_], _ => rfl) (Mv.FunO.mk' KX G ?a_fn_degree ?l_fn_degree ?c_fn_degree ?k_fn_degree fun _ _ _ _ _ _ us hl => match us, hl with | [_], _ => rfl) (Mv.FunO.mk' KX G ?a_fn_laid_rest ?l_fn_laid_rest ?c_fn_laid_rest ?k_fn_laid_rest fun _ _ _ _ _ _ us hl => match us, hl with | [_, _], _ => rfl) (Mv.FunO.mk' KX G ?a_fn_form_common ?l_fn_form_common ?c_fn_form_common ?k_fn_form_common fun _ _ _ _ _ _ us hl => match us, hl with | [_, _], _ => rfl) (Mv.FunO.mk' KX G ?a_fn_form_parted ?l_fn_form_parted ?c_fn_form_parted ?k_fn_form_parted fun _ _ _ _ _ _ us hl => match us, hl with | [_, _], _ => rfl) (Mv.FunO.mk' KX G ?a_fn_form_product ?l_fn_form_product ?c_fn_form_product ?k_fn_form_product fun _ _ _ _ _ _ us hl => match us, hl with | [_, _], _ => rfl) (Mv.FunO.mk' KX G ?a_fn__law_kind ?l_fn__law_kind ?c_fn__law_kind ?k_fn__law_kind fun _ _ _ _ _ _ us hl => match us, hl with | [_], _ => rfl) (Mv.FunO.mk' KX G ?a_fn__law_refused ?l_fn__law_refused ?c_fn__law_refused ?k_fn__law_refused fun _ _ _ _ _ _ us hl => match us, hl with | [_], _ => rfl) (Mv.FunOC.mk' KX G ?a_fn__law_odd_right ?l_fn__law_odd_right ?c_fn__law_odd_right ?k_fn__law_odd_right fun _ _ _ _ _ _ us hl => match us, hl with | [_, _], _ => rfl) (Mv.FunO.mk' KX G ?a_fn__law_parted ?l_fn__law_parted ?c_fn__law_parted ?k_fn__law_parted fun _ _ _ _ _ _ us hl => match us, hl with | [_, _], _ => rfl) (Mv.FunO.mk' KX G ?a_fn__law_common ?l_fn__law_common ?c_fn__law_common ?k_fn__law_common fun _ _ _ _ _ _ us hl => match us, hl with | [_, _], _ => rfl) (Mv.FunOC.mk' KX G ?a_fn__law_pair_right ?l_fn__law_pair_right ?c_fn__law_pair_right ?k_fn__law_pair_right fun _ _ _ _ _ _ us hl => match us, hl with | [_, _], _ => rfl) (Mv.FunO.mk' KX G ?a_fn__law_product ?l_fn__law_product ?c_fn__law_product ?k_fn__law_product fun _ _ _ _ _ _ us hl => match us, hl with | [_, _], _ => rfl) (Mv.FunOC.mk' KX G ?a_fn_law ?l_fn_law ?c_fn_law ?k_fn_law fun _ _ _ _ _ _ us hl => match us, hl with | [_], _ => rfl) (Mv.tab_mk ?a_ti__law_odd_right ?b_ti__law_odd_right ?c_ti__law_odd_right ?d_ti__law_odd_right ?e_ti__law_odd_right) ?tk__law_odd_right (Mv.tab_mk ?a_ti__law_pair_right ?b_ti__law_pair_right ?c_ti__law_pair_right ?d_ti__law_pair_right ?e_ti__law_pair_right) ?tk__law_pair_right (Mv.TabU.of ?tu) (Mv.ex_int (PySem.W.mg_of KX G ?v_g_MOST_FORM)) (PySem.W.mg_none_of KX G ?z_z_ValueError) (PySem.W.mg_none_of KX G ?z_z_bool) (PySem.W.mg_none_of KX G ?z_z_enumerate) (PySem.W.mg_none_of KX G ?z_z_int) (PySem.W.mg_none_of KX G ?z_z_isinstance) (PySem.W.mg_none_of KX G ?z_z_len) (PySem.W.mg_none_of KX G ?z_z_list) (PySem.W.mg_none_of KX G ?z_z_range) (PySem.W.mg_none_of KX G ?z_z_sum) (PySem.W.mg_none_of KX G ?z_z_tuple) ⟨?e_ra_BadForm, PySem.W.mg_of KX G ?g_ra_BadForm, ?k_ra_BadForm, ?s_ra_BadForm, ?t_ra_BadForm⟩ ⟨?e_ra_ByNought, PySem.W.mg_of KX G ?g_ra_ByNought, ?k_ra_ByNought, ?s_ra_ByNought, ?t_ra_ByNought⟩ (PySem.W.mg_of KX G ?g_gc_BadForm) (PySem.W.mg_of KX G ?g_gc_BadField) (PySem.W.mg_of KX G ?g_gc_BadElement) (PySem.W.mg_of KX G ?g_gc_ByNought) (PySem.W.mg_of KX G ?g_gc_BadRow) (PySem.W.mg_of KX G ?g_gc_BadCode) (PySem.W.mg_of KX G ?g_gc_BadWord) (PySem.W.mg_of KX G ?g_gc_BadSpan) (PySem.W.mg_of KX G ?g_gc_NoWord) (PySem.W.mg_of KX G ?g_gc_BadMachine) (PySem.W.mg_of KX G ?g_gc_BadBytes) (PySem.W.mg_of KX G ?g_gc_BadSeal) (PySem.W.mg_of KX G ?g_gc_BadRoad) (PySem.W.mg_of KX G ?g_gc_CodeError) (PySem.W.exm_ref ?b_ex_CodeError_BadForm ?d_ex_CodeError_BadForm ?t_ex_CodeError_BadForm ?s_ex_CodeError_BadForm) (PySem.W.exm_ref ?b_ex_CodeError_ByNought ?d_ex_CodeError_ByNought ?t_ex_CodeError_ByNought ?s_ex_CodeError_ByNought) ⟨?x0_xc_BadForm, ?x1_xc_BadForm, ?x2_xc_BadForm, ?x3_xc_BadForm, ?x4_xc_BadForm, ?x5_xc_BadForm, ?x6_xc_BadForm, ?x7_xc_BadForm⟩ ⟨?x0_xc_ByNought, ?x1_xc_ByNought, ?x2_xc_ByNought, ?x3_xc_ByNought, ?x4_xc_ByNought, ?x5_xc_ByNought, ?x6_xc_ByNought, ?x7_xc_ByNought⟩ ?r_kn_BadForm ?r_ko_BadForm_BadForm ?r_ko_BadForm_ByNought ?r_kn_BadField ?r_ko_BadField_BadForm ?r_ko_BadField_ByNought ?r_kn_BadElement ?r_ko_BadElement_BadForm ?r_ko_BadElement_ByNought ?r_kn_ByNought ?r_ko_ByNought_BadForm ?r_ko_ByNought_ByNought ?r_kn_BadRow ?r_ko_BadRow_BadForm ?r_ko_BadRow_ByNought ?r_kn_BadCode ?r_ko_BadCode_BadForm ?r_ko_BadCode_ByNought ?r_kn_BadWord ?r_ko_BadWord_BadForm ?r_ko_BadWord_ByNought ?r_kn_BadSpan ?r_ko_BadSpan_BadForm ?r_ko_BadSpan_ByNought ?r_kn_NoWord ?r_ko_NoWord_BadForm ?r_ko_NoWord_ByNought ?r_kn_BadMachine ?r_ko_BadMachine_BadForm ?r_ko_BadMachine_ByNought ?r_kn_BadBytes ?r_ko_BadBytes_BadForm ?r_ko_BadBytes_ByNought ?r_kn_BadSeal ?r_ko_BadSeal_BadForm ?r_ko_BadSeal_ByNought ?r_kn_BadRoad ?r_ko_BadRoad_BadForm ?r_ko_BadRoad_ByNought ?r_kn_ValueError ?r_ko_ValueError_BadForm ?r_ko_ValueError_ByNought) hmg Fin.math
    (case a_ti__law_odd_right => k_is)
    (case b_ti__law_odd_right => k_is)
    (case c_ti__law_odd_right => rfl)
    (case d_ti__law_odd_right => k_is)
    (case e_ti__law_odd_right => rfl)
    (case a_ti__law_pair_right => k_is)
    (case b_ti__law_pair_right => k_is)
    (case c_ti__law_pair_right => rfl)
    (case d_ti__law_pair_right => k_is)
    (case e_ti__law_pair_right => rfl)
    (case g_ra_BadForm => k_is)
    (case g_ra_ByNought => k_is)
    (case g_gc_BadForm => k_is)
    (case g_gc_BadField => k_is)
    (case g_gc_BadElement => k_is)
    (case g_gc_ByNought => k_is)
    (case g_gc_BadRow => k_is)
    (case g_gc_BadCode => k_is)
    (case g_gc_BadWord => k_is)
    (case g_gc_BadSpan => k_is)
    (case g_gc_NoWord => k_is)
    (case g_gc_BadMachine => k_is)
    (case g_gc_BadBytes => k_is)
    (case g_gc_BadSeal => k_is)
    (case g_gc_BadRoad => k_is)
    (case g_gc_CodeError => k_is)
    (case a_fn__law_row => k_is)
    (case l_fn__law_row => k_is)
    (case c_fn__law_row => k_is)
    (case k_fn__law_row => k_is)
    (case a_fn__law_whole => k_is)
    (case l_fn__law_whole => k_is)
    (case c_fn__law_whole => k_is)
    (case k_fn__law_whole => k_is)
    (case a_fn_bits_of => k_is)
    (case l_fn_bits_of => k_is)
    (case c_fn_bits_of => k_is)
    (case k_fn_bits_of => k_is)
    (case a_fn_weight => k_is)
    (case l_fn_weight => k_is)
    (case c_fn_weight => k_is)
    (case k_fn_weight => k_is)
    (case a_fn_is_odd => k_is)
    (case l_fn_is_odd => k_is)
    (case c_fn_is_odd => k_is)
    (case k_fn_is_odd => k_is)
    (case a_fn_number_of => k_is)
    (case l_fn_number_of => k_is)
    (case c_fn_number_of => k_is)
    (case k_fn_number_of => k_is)
    (case a_fn__law_bits_right => k_is)
    (case l_fn__law_bits_right => k_is)
    (case c_fn__law_bits_right => k_is)
    (case k_fn__law_bits_right => k_is)
    (case a_fn__law_form => k_is)
    (case l_fn__law_form => k_is)
    (case c_fn__law_form => k_is)
    (case k_fn__law_form => k_is)
    (case a_fn_is_whole => k_is)
    (case l_fn_is_whole => k_is)
    (case c_fn_is_whole => k_is)
    (case k_fn_is_whole => k_is)
    (case a_fn_is_among => k_is)
    (case l_fn_is_among => k_is)
    (case c_fn_is_among => k_is)
    (case k_fn_is_among => k_is)
    (case a_fn__law_looks_right => k_is)
    (case l_fn__law_looks_right => k_is)
    (case c_fn__law_looks_right => k_is)
    (case k_fn__law_looks_right => k_is)
    (case a_fn__law_mixed => k_is)
    (case l_fn__law_mixed => k_is)
    (case c_fn__law_mixed => k_is)
    (case k_fn__law_mixed => k_is)
    (case a_fn__law_number => k_is)
    (case l_fn__law_number => k_is)
    (case c_fn__law_number => k_is)
    (case k_fn__law_number => k_is)
    (case a_fn_high_place => k_is)
    (case l_fn_high_place => k_is)
    (case c_fn_high_place => k_is)
    (case k_fn_high_place => k_is)
    (case a_fn_need_form => k_is)
    (case l_fn_need_form => k_is)
    (case c_fn_need_form => k_is)
    (case k_fn_need_form => k_is)
    (case a_fn_degree => k_is)
    (case l_fn_degree => k_is)
    (case c_fn_degree => k_is)
    (case k_fn_degree => k_is)
    (case a_fn_laid_rest => k_is)
    (case l_fn_laid_rest => k_is)
    (case c_fn_laid_rest => k_is)
    (case k_fn_laid_rest => k_is)
    (case a_fn_form_common => k_is)
    (case l_fn_form_common => k_is)
    (case c_fn_form_common => k_is)
    (case k_fn_form_common => k_is)
    (case a_fn_form_parted => k_is)
    (case l_fn_form_parted => k_is)
    (case c_fn_form_parted => k_is)
    (case k_fn_form_parted => k_is)
    (case a_fn_form_product => k_is)
    (case l_fn_form_product => k_is)
    (case c_fn_form_product => k_is)
    (case k_fn_form_product => k_is)
    (case a_fn__law_kind => k_is)
    (case l_fn__law_kind => k_is)
    (case c_fn__law_kind => k_is)
    (case k_fn__law_kind => k_is)
    (case a_fn__law_refused => k_is)
    (case l_fn__law_refused => k_is)
    (case c_fn__law_refused => k_is)
    (case k_fn__law_refused => k_is)
    (case a_fn__law_odd_right => k_is)
    (case l_fn__law_odd_right => k_is)
    (case c_fn__law_odd_right => k_is)
    (case k_fn__law_odd_right => k_is)
    (case a_fn__law_parted => k_is)
    (case l_fn__law_parted => k_is)
    (case c_fn__law_parted => k_is)
    (case k_fn__law_parted => k_is)
    (case a_fn__law_common => k_is)
    (case l_fn__law_common => k_is)
    (case c_fn__law_common => k_is)
    (case k_fn__law_common => k_is)
    (case a_fn__law_pair_right => k_is)
    (case l_fn__law_pair_right => k_is)
    (case c_fn__law_pair_right => k_is)
    (case k_fn__law_pair_right => k_is)
    (case a_fn__law_product => k_is)
    (case l_fn__law_product => k_is)
    (case c_fn__law_product => k_is)
    (case k_fn__law_product => k_is)
    (case a_fn_law => k_is)
    (case l_fn_law => k_is)
    (case c_fn_law => k_is)
    (case k_fn_law => k_is)
    (case tk__law_odd_right => first | kernel_rfl | rfl)
    (case tk__law_pair_right => first | kernel_rfl | rfl)
    (case v_g_MOST_FORM => k_is)
    (case z_z_ValueError => k_is)
    (case z_z_bool => k_is)
    (case z_z_enumerate => k_is)
    (case z_z_int => k_is)
    (case z_z_isinstance => k_is)
    (case z_z_len => k_is)
    (case z_z_list => k_is)
    (case z_z_range => k_is)
    (case z_z_sum => k_is)
    (case z_z_tuple => k_is)
    (case e_ra_BadForm => k_exc)
    (case k_ra_BadForm => k_is)
    (case s_ra_BadForm => k_is)
    (case t_ra_BadForm => k_is)
    (case e_ra_ByNought => k_exc)
    (case k_ra_ByNought => k_is)
    (case s_ra_ByNought => k_is)
    (case t_ra_ByNought => k_is)
    (case b_ex_CodeError_BadForm => k_is)
    (case d_ex_CodeError_BadForm => k_is)
    (case t_ex_CodeError_BadForm => k_is)
    (case s_ex_CodeError_BadForm => k_is)
    (case b_ex_CodeError_ByNought => k_is)
    (case d_ex_CodeError_ByNought => k_is)
    (case t_ex_CodeError_ByNought => k_is)
    (case s_ex_CodeError_ByNought => k_is)
    (case x0_xc_BadForm => k_is)
    (case x1_xc_BadForm => k_is)
    (case x2_xc_BadForm => k_is)
    (case x3_xc_BadForm => k_is)
    (case x4_xc_BadForm => k_is)
    (case x5_xc_BadForm => k_is)
    (case x6_xc_BadForm => k_is)
    (case x7_xc_BadForm => k_is)
    (case x0_xc_ByNought => k_is)
    (case x1_xc_ByNought => k_is)
    (case x2_xc_ByNought => k_is)
    (case x3_xc_ByNought => k_is)
    (case x4_xc_ByNought => k_is)
    (case x5_xc_ByNought => k_is)
    (case x6_xc_ByNought => k_is)
    (case x7_xc_ByNought => k_is)
    (case r_kn_BadForm => kit_is)
    (case r_ko_BadForm_BadForm => kit_is)
    (case r_ko_BadForm_ByNought => kit_is)
    (case r_kn_BadField => kit_is)
    (case r_ko_BadField_BadForm => kit_is)
    (case r_ko_BadField_ByNought => kit_is)
    (case r_kn_BadElement => kit_is)
    (case r_ko_BadElement_BadForm => kit_is)
    (case r_ko_BadElement_ByNought => kit_is)
    (case r_kn_ByNought => kit_is)
    (case r_ko_ByNought_BadForm => kit_is)
    (case r_ko_ByNought_ByNought => kit_is)
    (case r_kn_BadRow => kit_is)
    (case r_ko_BadRow_BadForm => kit_is)
    (case r_ko_BadRow_ByNought => kit_is)
    (case r_kn_BadCode => kit_is)
    (case r_ko_BadCode_BadForm => kit_is)
    (case r_ko_BadCode_ByNought => kit_is)
    (case r_kn_BadWord => kit_is)
    (case r_ko_BadWord_BadForm => kit_is)
    (case r_ko_BadWord_ByNought => kit_is)
    (case r_kn_BadSpan => kit_is)
    (case r_ko_BadSpan_BadForm => kit_is)
    (case r_ko_BadSpan_ByNought => kit_is)
    (case r_kn_NoWord => kit_is)
    (case r_ko_NoWord_BadForm => kit_is)
    (case r_ko_NoWord_ByNought => kit_is)
    (case r_kn_BadMachine => kit_is)
    (case r_ko_BadMachine_BadForm => kit_is)
    (case r_ko_BadMachine_ByNought => kit_is)
    (case r_kn_BadBytes => kit_is)
    (case r_ko_BadBytes_BadForm => kit_is)
    (case r_ko_BadBytes_ByNought => kit_is)
    (case r_kn_BadSeal => kit_is)
    (case r_ko_BadSeal_BadForm => kit_is)
    (case r_ko_BadSeal_ByNought => kit_is)
    (case r_kn_BadRoad => kit_is)
    (case r_ko_BadRoad_BadForm => kit_is)
    (case r_ko_BadRoad_ByNought => kit_is)
    (case r_kn_ValueError => kit_is)
    (case r_ko_ValueError_BadForm => kit_is)
    (case r_ko_ValueError_ByNought => kit_is)
    (case tu => decide)
