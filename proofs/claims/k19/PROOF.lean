import PyProof.Rows.All
import Wide.All
import OpenK.AllK
import Wide.FinOn
import HandS.ForMost
import HandS.ForExc
import HandS.Walk
import HandS.Lambda
import HandS.EndTab
import HandS.CallSlots
import HandS.RevRange
import HandS.SortInts
import HandS.Wide
import HandS.Style
import HandS.IsInst
import HandS.ExcIs
import HandS.ExcOwn
import HandS.ExcValue
import HandS.TryOnly
import HandS.Conv
import HandS.Small
import HandS.DictComp
import HandS.NoneIn
import HandS.SortRule
import HandS.Iter
import PyProof.MinMaxWalk
import PyProof.WalkInts
import HandS.DeepEq
import KE.BitLaws
import HandS.Text
import PySem.Challenge.RW_codewright_k19_whole_spans
set_option Elab.async false
set_option linter.all false
set_option maxRecDepth 100000
set_option maxHeartbeats 4000000
set_option maxRecDepth 100000
/-! Mv: program values as plain data over the hand layer -/
namespace Mv
open PySem PySem.Spec PyProof.Rows L2

/-- plain data: what a value says, without addresses; ins n: the n-th instance of the store -/
inductive D where
  | non | bl (b : Bool) | int (i : Int) | str (z : Str)
  | lst (xs : List D) | tup (xs : List D) | dic (ks : List Key) (xs : List D) | frz (xs : List D)
  | ins (n : Nat) | cst (v : V)

/-- flags of a value: clean, new, on top lent, on top one's own, tainted -/
inductive Fl where
  | c | n | b | o | t
  deriving DecidableEq

inductive Slot where
  | no | ar (f : Fl) (d : D) | own (d : D)

abbrev Env := List Slot
/-- the store: each instance's class number and fields -/
abbrev Store := List (Nat × List D)
/-- the classes: where each stands, its fields in order -/
structure CT where
  ad : Nat → Addr
  fd : Nat → List Str
  ex : Nat → Bool := fun _ => false
  tb : List (Addr × Str) := []

inductive Rs (α : Type) where
  | ok (a : α) (S : Store) | er (c : Nat) (p : List D) (S : Store) | no
def Rs.bind {α β : Type} (r : Rs α) (k : α → Store → Rs β) : Rs β :=
  match r with
  | .ok a S => k a S
  | .er c p S => .er c p S
  | .no => .no

abbrev EM := Env → Store → Rs (D × Fl)
abbrev TM := Env → Store → Rs Bool
abbrev AM := Env → Store → Rs (List (Fl × D))

inductive SR where
  | nx (r : Env) (S : Store) | rt (d : D) (f : Fl) (S : Store) | bk (r : Env) (S : Store) | ct (r : Env) (S : Store)
  | er (c : Nat) (p : List D) (r : Env) (S : Store) | no
abbrev SM := Env → Store → SR

/-! ### what a value stands for -/
def ConL (K : PySem.W.Frag) (a : Addr) (xs : List V) : Prop :=
  ∃ (o : Obj) (its : Array Value) (n : Nat), K.lookup a = some o ∧ o.cls = .type "list" ∧ o.dict = none ∧ o.data = .seq its n ∧ its.size ≤ sizeLine ∧ Vals xs its.toList
def SqM (K : PySem.W.Frag) (M : Addr → Prop) (H : Hp) (a : Addr) (xs : List V) : Prop := (Rd H a (.lst xs) ∧ ¬ M a) ∨ ConL K a xs
theorem SqM.sq {K : PySem.W.Frag} {M : Addr → Prop} {H : Hp} {a : Addr} {xs : List V} (h : SqM K M H a xs) : SqL K H a xs := by
  rcases h with h | h
  · exact .inl h.1
  · exact .inr h

mutual
inductive Rep (K : PySem.W.Frag) (M : Addr → Prop) (io : List Addr) (H : Hp) : D → V → Prop
  | non : Rep K M io H .non .non
  | bl (b : Bool) : Rep K M io H (.bl b) (.bl b)
  | int (i : Int) : Rep K M io H (.int i) (.int i)
  | str (z : Str) : Rep K M io H (.str z) (.str z)
  | lst {a : Addr} {vs : List V} {xs : List D} : H a = some (.lst vs) → ¬ M a → Reps K M io H xs vs → Rep K M io H (.lst xs) (.ref a)
  | frz {a : Addr} {vs : List V} {xs : List D} : SqM K M H a vs → Reps K M io H xs vs → Rep K M io H (.frz xs) (.ref a)
  | tup {a : Addr} {vs : List V} {xs : List D} : SqT K H a vs → Reps K M io H xs vs → Rep K M io H (.tup xs) (.ref a)
  | dic {a : Addr} {kvs : List (Key × V)} {ks : List Key} {xs : List D} : H a = some (.dK kvs) → ¬ M a → kvs.map Prod.fst = ks → Reps K M io H xs (kvs.map Prod.snd) → Rep K M io H (.dic ks xs) (.ref a)
  | ins {n : Nat} {a : Addr} : io[n]? = some a → Rep K M io H (.ins n) (.ref a)
  | cst {v : V} : Rep K M io H (.cst v) v
inductive Reps (K : PySem.W.Frag) (M : Addr → Prop) (io : List Addr) (H : Hp) : List D → List V → Prop
  | nil : Reps K M io H [] []
  | cons {d : D} {ds : List D} {v : V} {vs : List V} : Rep K M io H d v → Reps K M io H ds vs → Reps K M io H (d :: ds) (v :: vs)
end

/-- no instance, no table -/
def NI (o : HO) : Prop := (∀ C dx fs, o ≠ .ins C dx fs) ∧ ∀ ps, o ≠ .tbl ps
theorem NI.lst {xs : List V} : NI (.lst xs) := ⟨fun _ _ _ h => by (cases h), fun _ h => by (cases h)⟩
theorem NI.tup {xs : List V} : NI (.tup xs) := ⟨fun _ _ _ h => by (cases h), fun _ h => by (cases h)⟩
theorem NI.dK {xs : List (Key × V)} : NI (.dK xs) := ⟨fun _ _ _ h => by (cases h), fun _ h => by (cases h)⟩
theorem NI.frz {o : Obj} {u : HO} : NI (.frz o u) := ⟨fun _ _ _ h => by (cases h), fun _ h => by (cases h)⟩
theorem NI.own {a : Addr} : NI (.own a) := ⟨fun _ _ _ h => by (cases h), fun _ h => by (cases h)⟩
theorem NI.ext {φ : Heap → Prop} : NI (.ext φ) := ⟨fun _ _ _ h => by (cases h), fun _ h => by (cases h)⟩
theorem NI.xd {fs : List (Str × V)} : NI (.xd fs) := ⟨fun _ _ _ h => by (cases h), fun _ h => by (cases h)⟩
/-- what never changes -/
def Im (o : HO) : Prop := (∃ xs, o = .tup xs) ∨ (∃ ob xs, o = .frz ob (.tup xs)) ∨ (∃ φ, o = .ext φ) ∨ ∃ fs, o = .xd fs
theorem not_im_lst {xs : List V} : ¬ Im (.lst xs) := fun h => by rcases h with ⟨_, h⟩ | ⟨_, _, h⟩ | ⟨_, h⟩ | ⟨_, h⟩ <;> cases h
theorem not_im_dK {xs : List (Key × V)} : ¬ Im (.dK xs) := fun h => by rcases h with ⟨_, h⟩ | ⟨_, _, h⟩ | ⟨_, h⟩ | ⟨_, h⟩ <;> cases h
/-- what is not own (or never changes) stays -/
def Kp (M : Addr → Prop) (H H' : Hp) : Prop := ∀ a o, H a = some o → NI o → (¬ M a ∨ Im o) → H' a = some o
section
variable {K : PySem.W.Frag} {M M' : Addr → Prop} {io io' : List Addr} {H H' : Hp} {a : Addr}
theorem SqM.mono {xs : List V} (k : Kp M H H') (m : ∀ a, (∃ o, H a = some o) → ¬ M a → ¬ M' a) (h : SqM K M H a xs) : SqM K M' H' a xs := by
  rcases h with ⟨h | ⟨o, h⟩, n⟩ | h
  · exact .inl ⟨.inl (k _ _ h NI.lst (.inl n)), m a ⟨_, h⟩ n⟩
  · exact .inl ⟨.inr ⟨o, k _ _ h NI.frz (.inl n)⟩, m a ⟨_, h⟩ n⟩
  · exact .inr h
theorem SqT.mono {xs : List V} (k : Kp M H H') (h : SqT K H a xs) : SqT K H' a xs := by
  rcases h with (h | ⟨o, h⟩) | h
  · exact .inl (.inl (k _ _ h NI.tup (.inr (.inl ⟨xs, rfl⟩))))
  · exact .inl (.inr ⟨o, k _ _ h NI.frz (.inr (.inr (.inl ⟨o, xs, rfl⟩)))⟩)
  · exact .inr h
theorem io_get {n : Nat} (p : ∃ l, io' = io ++ l) (h : io[n]? = some a) : io'[n]? = some a := by
  obtain ⟨l, rfl⟩ := p
  rw [List.getElem?_append_left (List.getElem?_eq_some_iff.mp h).1]
  exact h
mutual
theorem Rep.mono (k : Kp M H H') (m : ∀ a, (∃ o, H a = some o) → ¬ M a → ¬ M' a) (p : ∃ l, io' = io ++ l) : ∀ {d : D} {v : V}, Rep K M io H d v → Rep K M' io' H' d v
  | _, _, .non => .non
  | _, _, .bl b => .bl b
  | _, _, .int i => .int i
  | _, _, .str z => .str z
  | _, _, .lst h n r => .lst (k _ _ h NI.lst (.inl n)) (m _ ⟨_, h⟩ n) (Reps.mono k m p r)
  | _, _, .frz h r => .frz (h.mono k m) (Reps.mono k m p r)
  | _, _, .tup h r => .tup (SqT.mono k h) (Reps.mono k m p r)
  | _, _, .dic h n e r => .dic (k _ _ h NI.dK (.inl n)) (m _ ⟨_, h⟩ n) e (Reps.mono k m p r)
  | _, _, .ins h => .ins (io_get p h)
  | _, _, .cst => .cst
theorem Reps.mono (k : Kp M H H') (m : ∀ a, (∃ o, H a = some o) → ¬ M a → ¬ M' a) (p : ∃ l, io' = io ++ l) : ∀ {ds : List D} {vs : List V}, Reps K M io H ds vs → Reps K M' io' H' ds vs
  | _, _, .nil => .nil
  | _, _, .cons r t => .cons (Rep.mono k m p r) (Reps.mono k m p t)
end
theorem Kp.refl : Kp M H H := fun _ _ h _ _ => h
theorem io_refl : ∃ l, io = io ++ l := ⟨[], by simp⟩
theorem io_trans {i1 i2 i3 : List Addr} (p : ∃ l, i2 = i1 ++ l) (q : ∃ l, i3 = i2 ++ l) : ∃ l, i3 = i1 ++ l := by
  obtain ⟨l, rfl⟩ := p
  obtain ⟨l', rfl⟩ := q
  exact ⟨l ++ l', by rw [List.append_assoc]⟩
/-- fewer own ones -/
theorem Rep.anti (m : ∀ a, M' a → M a) {d : D} {v : V} (h : Rep K M io H d v) : Rep K M' io H d v := Rep.mono Kp.refl (fun a _ n z => n (m a z)) io_refl h
theorem Reps.anti (m : ∀ a, M' a → M a) {ds : List D} {vs : List V} (h : Reps K M io H ds vs) : Reps K M' io H ds vs := Reps.mono Kp.refl (fun a _ n z => n (m a z)) io_refl h
theorem Reps.len : ∀ {ds : List D} {vs : List V}, Reps K M io H ds vs → ds.length = vs.length
  | _, _, .nil => rfl
  | _, _, .cons _ t => by rw [List.length_cons, List.length_cons, Reps.len t]
theorem Reps.get : ∀ {ds : List D} {vs : List V} {i : Nat} {d : D}, Reps K M io H ds vs → ds[i]? = some d → ∃ v, vs[i]? = some v ∧ Rep K M io H d v
  | _, _, _, _, .nil, e => by simp at e
  | _, _, 0, _, .cons r _, e => by simp at e; subst e; exact ⟨_, rfl, r⟩
  | _, _, i + 1, d, .cons _ t, e => by
    obtain ⟨v, h1, h2⟩ := Reps.get (i := i) (d := d) t (by simpa using e)
    exact ⟨v, by simpa using h1, h2⟩
theorem Reps.getV : ∀ {ds : List D} {vs : List V} {i : Nat} {v : V}, Reps K M io H ds vs → vs[i]? = some v → ∃ d, ds[i]? = some d ∧ Rep K M io H d v
  | _, _, _, _, .nil, e => by simp at e
  | _, _, 0, _, .cons r _, e => by simp at e; subst e; exact ⟨_, rfl, r⟩
  | _, _, i + 1, v, .cons _ t, e => by
    obtain ⟨d, h1, h2⟩ := Reps.getV (i := i) (v := v) t (by simpa using e)
    exact ⟨d, by simpa using h1, h2⟩
theorem Reps.app : ∀ {ds es : List D} {vs ws : List V}, Reps K M io H ds vs → Reps K M io H es ws → Reps K M io H (ds ++ es) (vs ++ ws)
  | _, _, _, _, .nil, s => s
  | _, _, _, _, .cons r t, s => .cons r (Reps.app t s)
theorem Reps.set : ∀ {ds : List D} {vs : List V} {d : D} {v : V} (i : Nat), Reps K M io H ds vs → Rep K M io H d v → Reps K M io H (ds.set i d) (vs.set i v)
  | _, _, _, _, _, .nil, _ => .nil
  | _, _, _, _, 0, .cons _ t, q => .cons q t
  | _, _, _, _, i + 1, .cons r t, q => .cons r (Reps.set i t q)
theorem Reps.take : ∀ {ds : List D} {vs : List V} (i : Nat), Reps K M io H ds vs → Reps K M io H (ds.take i) (vs.take i)
  | _, _, 0, _ => .nil
  | _, _, _ + 1, .nil => .nil
  | _, _, i + 1, .cons r t => .cons r (Reps.take i t)
theorem Reps.drop : ∀ {ds : List D} {vs : List V} (i : Nat), Reps K M io H ds vs → Reps K M io H (ds.drop i) (vs.drop i)
  | _, _, 0, r => r
  | _, _, _ + 1, .nil => .nil
  | _, _, i + 1, .cons _ t => Reps.drop i t
theorem Reps.rev : ∀ {ds : List D} {vs : List V}, Reps K M io H ds vs → Reps K M io H ds.reverse vs.reverse
  | _, _, .nil => .nil
  | _, _, .cons r t => by
    rw [List.reverse_cons, List.reverse_cons]
    exact Reps.app (Reps.rev t) (.cons r .nil)
theorem Reps.ints : ∀ {is : List Int} {vs : List V}, Reps K M io H (is.map D.int) vs → vs = is.map V.int
  | [], _, .nil => rfl
  | i :: is, _, .cons r t => by
    cases r
    rw [Reps.ints t]
    rfl
theorem Reps.ofInts : ∀ (is : List Int), Reps K M io H (is.map D.int) (is.map V.int)
  | [] => .nil
  | i :: is => .cons (.int i) (Reps.ofInts is)
theorem Reps.strs : ∀ {is : List Str} {vs : List V}, Reps K M io H (is.map D.str) vs → vs = is.map V.str
  | [], _, .nil => rfl
  | i :: is, _, .cons r t => by
    cases r
    rw [Reps.strs t]
    rfl
theorem Reps.ofStrs : ∀ (is : List Str), Reps K M io H (is.map D.str) (is.map V.str)
  | [] => .nil
  | i :: is => .cons (.str i) (Reps.ofStrs is)
theorem Reps.bls : ∀ {is : List Bool} {vs : List V}, Reps K M io H (is.map D.bl) vs → vs = is.map V.bl
  | [], _, .nil => rfl
  | i :: is, _, .cons r t => by
    cases r
    rw [Reps.bls t]
    rfl
end

/-! ### the store -/
def FldOk (K : PySem.W.Frag) (M : Addr → Prop) (io : List Addr) (H : Hp) (ns : List Str) : List D → List (Str × V) → Prop :=
  fun fs gs => gs.map Prod.fst = ns.take fs.length ∧ Reps K M io H fs (gs.map Prod.snd)
/-- an exception kept as a value: its class, its dict -/
def ExV (cls : Value) (d : Option Addr) (a : Addr) : HO := .ext fun h => ∃ (oe : Obj) (vs : Array Value), h.get? a = some oe ∧ Zc cls d oe ∧ oe.data = .fields vs
def ErrOk (K : PySem.W.Frag) (ns : List Str) (io : List Addr) (H : Hp) (p : List D) (dx : Option Addr) : Prop :=
  (p = [] ∧ dx = none) ∨ (∃ (a : Addr) (gs : List (Str × V)), dx = some a ∧ p ≠ [] ∧ H a = some (.xd gs) ∧ FldOk K (fun _ => True) io H ns p gs)
theorem ErrOk.mono {K : PySem.W.Frag} {M : Addr → Prop} {io io' : List Addr} {H H' : Hp} {ns : List Str} {p : List D} {dx : Option Addr} (k : Kp M H H') (q : ∃ l, io' = io ++ l) (h : ErrOk K ns io H p dx) : ErrOk K ns io' H' p dx := by
  rcases h with h | ⟨a, gs, e, np, h1, h2, h3⟩
  · exact .inl h
  · exact .inr ⟨a, gs, e, np, k _ _ h1 NI.xd (.inr (.inr (.inr (.inr ⟨gs, rfl⟩)))), h2, h3.mono (fun a o h1 h2 h3 => k a o h1 h2 (h3.elim (fun z => absurd trivial z) .inr)) (fun _ _ n => absurd trivial n) q⟩
structure StoOk (K : PySem.W.Frag) (ct : CT) (M : Addr → Prop) (io : List Addr) (S : Store) (H : Hp) : Prop where
  len : S.length = io.length
  at_ : ∀ (n C : Nat) (fs : List D), S[n]? = some (C, fs) → ct.ex C = false → ∃ a dx gs, io[n]? = some a ∧ H a = some (.ins (ct.ad C) dx gs) ∧ FldOk K M io H (ct.fd C) fs gs
  ax : ∀ (n C : Nat) (fs : List D), S[n]? = some (C, fs) → ct.ex C = true → ∃ a d, io[n]? = some a ∧ H a = some (ExV (.ref (ct.ad C)) d a) ∧ ErrOk K (ct.fd C) io H fs d
  nd : io.Nodup
  tb : LamX.Tabs ct.tb H
/-- from one heap to a later one: only new things, but the instances of io changed -/
structure Stp (io : List Addr) (H : Hp) (io' : List Addr) (H' : Hp) : Prop where
  k1 : ∀ a o, H a = some o → NI o → H' a = some o
  k2 : ∀ a o, H a = some o → a ∉ io → (∀ ps, o ≠ .tbl ps) → H' a = some o
  pre : ∃ l, io' = io ++ l
  new : ∀ a ∈ io', a ∉ io → H a = none
  dom : ∀ a o, H a = some o → ∃ o', H' a = some o'
section
variable {K : PySem.W.Frag} {ct : CT} {M M' : Addr → Prop} {io io' i1 i2 i3 : List Addr} {H H' H1 H2 H3 : Hp} {a : Addr} {S : Store}
theorem Stp.refl : Stp io H io H := ⟨fun _ _ h _ => h, fun _ _ h _ _ => h, io_refl, fun a h n => absurd h n, fun _ o h => ⟨o, h⟩⟩
theorem Stp.trans (a : Stp i1 H1 i2 H2) (b : Stp i2 H2 i3 H3) : Stp i1 H1 i3 H3 where
  k1 := fun x o h n => b.k1 x o (a.k1 x o h n) n
  k2 := fun x o h n nt => b.k2 x o (a.k2 x o h n nt) (fun z => by
    have q := a.new x z n
    rw [h] at q
    cases q) nt
  pre := io_trans a.pre b.pre
  new := fun x h n => by
    by_cases z : x ∈ i2
    · exact a.new x z n
    · have q := b.new x h z
      cases e : H1 x with
      | none => rfl
      | some o =>
        obtain ⟨o', e'⟩ := a.dom x o e
        rw [e'] at q
        cases q
  dom := fun x o h => by
    obtain ⟨o', h'⟩ := a.dom x o h
    exact b.dom x o' h'
theorem Stp.kp (s : Stp io H io' H') : Kp M H H' := fun a o h n _ => s.k1 a o h n
theorem Stp.free (s : Stp io H io' H') (h : H' a = none) : H a = none := by
  cases e : H a with
  | none => rfl
  | some o =>
    obtain ⟨o', e'⟩ := s.dom a o e
    rw [e'] at h
    cases h
theorem Stp.upd (h : H a = none) {o : HO} : Stp io H io (upd H a o) where
  k1 := fun b u e _ => by rw [upd_ne (ne_of_none e h)]; exact e
  k2 := fun b u e _ _ => by rw [upd_ne (ne_of_none e h)]; exact e
  pre := io_refl
  new := fun b z n => absurd z n
  dom := fun b u e => ⟨u, by rw [upd_ne (ne_of_none e h)]; exact e⟩
theorem Rep.stp {d : D} {v : V} (s : Stp io H io' H') (h : Rep K M io H d v) : Rep K M io' H' d v := Rep.mono s.kp (fun _ _ n => n) s.pre h
theorem Reps.stp {d : List D} {v : List V} (s : Stp io H io' H') (h : Reps K M io H d v) : Reps K M io' H' d v := Reps.mono s.kp (fun _ _ n => n) s.pre h
/-- beside a place that was none -/
theorem Rep.off {d : D} {v : V} (ha : H a = none) (h : Rep K M io H d v) : Rep K (fun b => M b ∨ b = a) io H d v :=
  Rep.mono Kp.refl (fun b ⟨o, e⟩ n z => z.elim n fun q => by rw [q, ha] at e; cases e) io_refl h
theorem Reps.off {d : List D} {v : List V} (ha : H a = none) (h : Reps K M io H d v) : Reps K (fun b => M b ∨ b = a) io H d v :=
  Reps.mono Kp.refl (fun b ⟨o, e⟩ n z => z.elim n fun q => by rw [q, ha] at e; cases e) io_refl h
theorem tabs_mono {T : List (Addr × Str)} (h : LamX.Tabs T H) (k : Kp M H H') (tt : ∀ a ps, H a = some (.tbl ps) → H' a = some (.tbl ps)) : LamX.Tabs T H' := fun p hp => by
  obtain ⟨ps, h1, h2, h3⟩ := h p hp
  refine ⟨ps, tt _ _ h1, h2, fun pos cv hc => ?_⟩
  obtain ⟨c, e1, e2⟩ := h3 pos cv hc
  exact ⟨c, e1, k _ _ e2 NI.ext (.inr (.inr (.inr (.inl ⟨_, rfl⟩))))⟩
theorem StoOk.mono (h : StoOk K ct M io S H) (k : Kp M H H') (m : ∀ a, (∃ o, H a = some o) → ¬ M a → ¬ M' a) (i : ∀ a C dx fs, a ∈ io → H a = some (.ins C dx fs) → H' a = some (.ins C dx fs)) (tt : ∀ a ps, H a = some (.tbl ps) → H' a = some (.tbl ps)) : StoOk K ct M' io S H' :=
  ⟨h.len, fun n C fs e x => by
    obtain ⟨a, dx, gs, h1, h2, h3, h4⟩ := h.at_ n C fs e x
    exact ⟨a, dx, gs, h1, i a _ _ _ (List.mem_of_getElem? h1) h2, h3, h4.mono k m io_refl⟩, fun n C fs e x => by
    obtain ⟨a, d, h1, h2, h3⟩ := h.ax n C fs e x
    exact ⟨a, d, h1, k _ _ h2 NI.ext (.inr (.inr (.inr (.inl ⟨_, rfl⟩)))), h3.mono k io_refl⟩, h.nd, tabs_mono h.tb k tt⟩
/-- an instance's address -/
theorem StoOk.io_at (h : StoOk K ct M io S H) {n : Nat} (hn : n < S.length) : ∃ a o, io[n]? = some a ∧ H a = some o := by
  cases x : ct.ex (S[n]'hn).1 with
  | false =>
    obtain ⟨a, dx, gs, h1, h2, _⟩ := h.at_ n _ _ (List.getElem?_eq_getElem hn) x
    exact ⟨a, _, h1, h2⟩
  | true =>
    obtain ⟨a, d, h1, h2, _⟩ := h.ax n _ _ (List.getElem?_eq_getElem hn) x
    exact ⟨a, _, h1, h2⟩
theorem StoOk.anti (h : StoOk K ct M io S H) (m : ∀ a, M' a → M a) : StoOk K ct M' io S H := h.mono Kp.refl (fun a _ n z => n (m a z)) (fun _ _ _ _ _ e => e) fun _ _ e => e
theorem StoOk.off (h : StoOk K ct M io S H) (ha : H a = none) : StoOk K ct (fun b => M b ∨ b = a) io S H :=
  h.mono Kp.refl (fun b ⟨o, e⟩ n z => z.elim n fun q => by rw [q, ha] at e; cases e) (fun _ _ _ _ _ e => e) fun _ _ e => e
theorem StoOk.upd (h : StoOk K ct M io S H) (ha : H a = none) {o : HO} : StoOk K ct M io S (upd H a o) :=
  h.mono (fun b u e _ _ => by rw [upd_ne (ne_of_none e ha)]; exact e) (fun _ _ n => n) (fun b _ _ _ _ e => by rw [upd_ne (ne_of_none e ha)]; exact e) fun b _ e => by rw [upd_ne (ne_of_none e ha)]; exact e
end

/-! ### results -/
/-- a list or a dict that is one's own at a -/
def OwnAt (K : PySem.W.Frag) (M : Addr → Prop) (io : List Addr) (H : Hp) (d : D) (a : Addr) : Prop :=
  (∃ xs vs, d = .lst xs ∧ H a = some (.lst vs) ∧ Reps K M io H xs vs) ∨ (∃ ks xs kvs, d = .dic ks xs ∧ H a = some (.dK kvs) ∧ kvs.map Prod.fst = ks ∧ Reps K M io H xs (kvs.map Prod.snd))
def RepF (K : PySem.W.Frag) (M N : Addr → Prop) (io : List Addr) (H : Hp) (f : Fl) (d : D) (v : V) : Prop :=
  match f with
  | .c => Rep K M io H d v
  | .n => Rep K M io H d v
  | .b => Rep K M io H d v ∨ ∃ a, v = .ref a ∧ OwnAt K M io H d a ∧ ¬ N a
  | .o => Rep K M io H d v ∨ ∃ a, v = .ref a ∧ OwnAt K M io H d a
  | .t => Rep K (fun _ => False) io H d v
def ResOk (K : PySem.W.Frag) (ct : CT) (M N : Addr → Prop) (H : Hp) (io' : List Addr) (S' : Store) (H' : Hp) (f : Fl) (d : D) (v : V) : Prop :=
  match f with
  | .n => ∃ p, v = .ref p ∧ H p = none ∧ ¬ M p ∧ OwnAt K (fun b => M b ∨ b = p) io' H' d p ∧ StoOk K ct (fun b => M b ∨ b = p) io' S' H'
  | f => RepF K M N io' H' f d v ∧ StoOk K ct M io' S' H'
section
variable {K : PySem.W.Frag} {ct : CT} {M M' N N' : Addr → Prop} {io io' i1 i2 i3 : List Addr} {H H' H1 H2 H3 : Hp} {a : Addr} {S S' : Store} {f : Fl} {d : D} {v : V}
theorem OwnAt.mono (k : Kp M H H') (m : ∀ a, (∃ o, H a = some o) → ¬ M a → ¬ M' a) (p : ∃ l, io' = io ++ l) (ka : ∀ o, H a = some o → NI o → H' a = some o) (h : OwnAt K M io H d a) : OwnAt K M' io' H' d a := by
  rcases h with ⟨xs, vs, e, h1, h2⟩ | ⟨ks, xs, kvs, e, h1, h2, h3⟩
  · exact .inl ⟨xs, vs, e, ka _ h1 NI.lst, h2.mono k m p⟩
  · exact .inr ⟨ks, xs, kvs, e, ka _ h1 NI.dK, h2, h3.mono k m p⟩
theorem OwnAt.stp (s : Stp io H io' H') (h : OwnAt K M io H d a) : OwnAt K M io' H' d a := h.mono s.kp (fun _ _ n => n) s.pre fun o e n => s.k1 a o e n
theorem OwnAt.anti (m : ∀ a, M' a → M a) (h : OwnAt K M io H d a) : OwnAt K M' io H d a := h.mono Kp.refl (fun a _ n z => n (m a z)) io_refl fun _ e _ => e
theorem OwnAt.rep (n : ¬ M a) (h : OwnAt K M io H d a) : Rep K M io H d (.ref a) := by
  rcases h with ⟨xs, vs, rfl, h1, h2⟩ | ⟨ks, xs, kvs, rfl, h1, h2, h3⟩
  · exact .lst h1 n h2
  · exact .dic h1 n h2 h3
theorem OwnAt.there (h : OwnAt K M io H d a) : ∃ o, H a = some o ∧ NI o := by
  rcases h with ⟨xs, vs, rfl, h1, h2⟩ | ⟨ks, xs, kvs, rfl, h1, h2, h3⟩
  · exact ⟨_, h1, NI.lst⟩
  · exact ⟨_, h1, NI.dK⟩
theorem RepF.stp (s : Stp io H io' H') (h : RepF K M N io H f d v) : RepF K M N io' H' f d v := by
  cases f with
  | c => exact Rep.stp s h
  | n => exact Rep.stp s h
  | b =>
    rcases h with h | ⟨a, e, h, z⟩
    · exact .inl (Rep.stp s h)
    · exact .inr ⟨a, e, h.stp s, z⟩
  | o =>
    rcases h with h | ⟨a, e, h⟩
    · exact .inl (Rep.stp s h)
    · exact .inr ⟨a, e, h.stp s⟩
  | t => exact Rep.stp s h
theorem RepF.weak (h : RepF K M N io H f d v) : Rep K (fun _ => False) io H d v := by
  cases f with
  | c => exact Rep.anti (fun _ z => z.elim) h
  | n => exact Rep.anti (fun _ z => z.elim) h
  | b =>
    rcases h with h | ⟨a, rfl, h, _⟩
    · exact Rep.anti (fun _ z => z.elim) h
    · exact (h.anti (M' := fun _ => False) fun _ z => z.elim).rep fun z => z
  | o =>
    rcases h with h | ⟨a, rfl, h⟩
    · exact Rep.anti (fun _ z => z.elim) h
    · exact (h.anti (M' := fun _ => False) fun _ z => z.elim).rep fun z => z
  | t => exact h
theorem ResOk.repF (h : ResOk K ct M N H io' S' H' f d v) : RepF K M N io' H' f d v := by
  cases f with
  | n =>
    obtain ⟨p, rfl, _, n, h, _⟩ := h
    exact (h.anti fun _ z => .inl z).rep n
  | c => exact h.1
  | b => exact h.1
  | o => exact h.1
  | t => exact h.1
theorem ResOk.sto (h : ResOk K ct M N H io' S' H' f d v) : StoOk K ct M io' S' H' := by
  cases f with
  | n =>
    obtain ⟨p, rfl, _, n, _, h⟩ := h
    exact h.anti fun _ z => .inl z
  | c => exact h.2
  | b => exact h.2
  | o => exact h.2
  | t => exact h.2
theorem ResOk.back (h : ResOk K ct M N H1 io' S' H' f d v) (k : ∀ a, H1 a = none → H a = none) : ResOk K ct M N H io' S' H' f d v := by
  cases f with
  | n =>
    obtain ⟨p, e, z, r⟩ := h
    exact ⟨p, e, k p z, r⟩
  | c => exact h
  | b => exact h
  | o => exact h
  | t => exact h
theorem ResOk.anti (m : ∀ a, M' a → M a) (n : ∀ a, N' a → N a) (h : ResOk K ct M N H io' S' H' f d v) : ResOk K ct M' N' H io' S' H' f d v := by
  cases f with
  | n =>
    obtain ⟨p, e, z, n, h1, h2⟩ := h
    exact ⟨p, e, z, fun q => n (m p q), h1.anti fun _ q => q.elim (fun q => .inl (m _ q)) .inr, h2.anti fun _ q => q.elim (fun q => .inl (m _ q)) .inr⟩
  | c => exact ⟨Rep.anti m h.1, h.2.anti m⟩
  | b => exact ⟨h.1.elim (fun z => .inl (Rep.anti m z)) fun ⟨a, e, z, y⟩ => .inr ⟨a, e, z.anti m, fun q => y (n a q)⟩, h.2.anti m⟩
  | o => exact ⟨h.1.elim (fun z => .inl (Rep.anti m z)) fun ⟨a, e, z⟩ => .inr ⟨a, e, z.anti m⟩, h.2.anti m⟩
  | t => exact ⟨h.1, h.2.anti m⟩
theorem ResOk.mk (nf : f ≠ .n) (h : RepF K M N io' H' f d v) (s : StoOk K ct M io' S' H') : ResOk K ct M N H io' S' H' f d v := by
  cases f with
  | n => exact absurd rfl nf
  | c => exact ⟨h, s⟩
  | b => exact ⟨h, s⟩
  | o => exact ⟨h, s⟩
  | t => exact ⟨h, s⟩
/-- a call's result: what was lent may be one's own -/
def outf : Fl → Fl
  | .b => .o
  | f => f
theorem ResOk.outf (h : ResOk K ct M N H io' S' H' f d v) : ResOk K ct M N' H io' S' H' (outf f) d v := by
  cases f with
  | n => exact h
  | c => exact h
  | b => exact ⟨h.1.elim .inl fun ⟨a, e, z, _⟩ => .inr ⟨a, e, z⟩, h.2⟩
  | o => exact h
  | t => exact h
end
end Mv

set_option maxRecDepth 100000
namespace L2
open PySem PySem.Spec PyProof.Rows
theorem PE.imp {X : Cx} {e : Expr} {t t' : TE} (h : PE X e t) (q : ∀ s H Q, t' s H Q → t s H Q) : PE X e t' := ⟨fun pins s σ H Q I w => h.run pins s σ H Q I (q _ _ _ w)⟩
theorem PT.imp {X : Cx} {e : Expr} {t t' : TT} (h : PT X e t) (q : ∀ s H Q, t' s H Q → t s H Q) : PT X e t' := ⟨fun pins s σ H Q I w => h.run pins s σ H Q I (q _ _ _ w)⟩
theorem PW.imp {X : Cx} {e : Expr} {t t' : TT} (h : PW X e t) (q : ∀ s H Q, t' s H Q → t s H Q) : PW X e t' := ⟨fun wh pins s σ H Q I w => h.run wh pins s σ H Q I (q _ _ _ w)⟩
theorem PA.imp {X : Cx} {e : List Expr} {t t' : TA} (h : PA X e t) (q : ∀ s H Q, t' s H Q → t s H Q) : PA X e t' := ⟨fun pos pins s σ H Q I w => h.run pos pins s σ H Q I (q _ _ _ w)⟩
theorem PS.imp {X : Cx} {e : Stmt} {t t' : TS} (h : PS X e t) (q : ∀ D s H, t' D s H → t D s H) : PS X e t' := ⟨fun pins s σ H D I w => h.run pins s σ H D I (q _ _ _ w)⟩
theorem PSs.imp {X : Cx} {e : List Stmt} {t t' : TS} (h : PSs X e t) (q : ∀ D s H, t' D s H → t D s H) : PSs X e t' := ⟨fun pins s σ H D I w => h.run pins s σ H D I (q _ _ _ w)⟩
theorem PE.ex {X : Cx} {e : Expr} {ι : Sort _} {t : ι → TE} (h : ∀ i, PE X e (t i)) : PE X e (fun s H Q => ∃ i, t i s H Q) := ⟨fun pins s σ H Q I ⟨i, w⟩ => (h i).run pins s σ H Q I w⟩
theorem PS.ex {X : Cx} {e : Stmt} {ι : Sort _} {t : ι → TS} (h : ∀ i, PS X e (t i)) : PS X e (fun D s H => ∃ i, t i D s H) := ⟨fun pins s σ H D I ⟨i, w⟩ => (h i).run pins s σ H D I w⟩

end L2
namespace Mv
open PySem PySem.Spec PyProof.Rows L2
abbrev St := L2.St

/-! ### the frame's state -/
structure Gx where
  M0 : Addr → Prop
  H0 : Hp
  io0 : List Addr
  held : List (Fl × D × V)
  N0 : Addr → Prop
def Mown (G : Gx) (r : Env) (s : St) (a : Addr) : Prop := G.N0 a ∨ ∃ (i : Nat) (d : D), r[i]? = some (.own d) ∧ s[i]? = some (some (V.ref a))
def Mall (G : Gx) (r : Env) (s : St) (a : Addr) : Prop := G.M0 a ∨ Mown G r s a
/-- what a slot that may not be written holds -/
def ArgF (K : PySem.W.Frag) (M N : Addr → Prop) (io : List Addr) (H : Hp) (f : Fl) (d : D) (v : V) : Prop :=
  match f with
  | .c => Rep K M io H d v
  | .n => Rep K M io H d v
  | .b => Rep K M io H d v ∨ ∃ a, v = .ref a ∧ OwnAt K M io H d a ∧ ¬ N a
  | .o => Rep K M io H d v ∨ ∃ a, v = .ref a ∧ OwnAt K M io H d a ∧ ¬ N a
  | .t => Rep K N io H d v
theorem ArgF.mono {K : PySem.W.Frag} {M M' N N' : Addr → Prop} {io io' : List Addr} {H H' : Hp} {f : Fl} {d : D} {v : V} (k : Kp M H H') (k0 : Kp N H H') (m : ∀ a, (∃ o, H a = some o) → ¬ M a → ¬ M' a) (n : ∀ a, (∃ o, H a = some o) → ¬ N a → ¬ N' a) (p : ∃ l, io' = io ++ l) (h : ArgF K M N io H f d v) : ArgF K M' N' io' H' f d v := by
  have go : (Rep K M io H d v ∨ ∃ a, v = .ref a ∧ OwnAt K M io H d a ∧ ¬ N a) → (Rep K M' io' H' d v ∨ ∃ a, v = .ref a ∧ OwnAt K M' io' H' d a ∧ ¬ N' a) := fun h => by
    rcases h with h | ⟨a, e, h, z⟩
    · exact .inl (Rep.mono k m p h)
    · obtain ⟨o, q, _⟩ := h.there
      exact .inr ⟨a, e, h.mono k m p fun o e i => k0 a o e i (.inl z), n a ⟨o, q⟩ z⟩
  cases f with
  | c => exact Rep.mono k m p h
  | n => exact Rep.mono k m p h
  | b => exact go h
  | o => exact go h
  | t => exact Rep.mono k0 n p h
/-- the flag with which a slot is read -/
def inf : Fl → Fl
  | .n => .c
  | .o => .b
  | f => f
theorem inf_n {f : Fl} : inf f ≠ .n := by cases f <;> simp [inf]
theorem ArgF.repF {K : PySem.W.Frag} {M N : Addr → Prop} {io : List Addr} {H : Hp} {f : Fl} {d : D} {v : V} (h : ArgF K M N io H f d v) : RepF K M N io H (inf f) d v := by
  cases f with
  | c => exact h
  | n => exact h
  | b => exact h
  | o => exact h
  | t => exact Rep.anti (fun _ z => z.elim) h
structure Ok (K : PySem.W.Frag) (ct : CT) (G : Gx) (r : Env) (S : Store) (io : List Addr) (s : St) (H : Hp) : Prop where
  len : r.length = s.length
  arg : ∀ (i : Nat) (f : Fl) (d : D), r[i]? = some (.ar f d) → ∃ v, s[i]? = some (some v) ∧ ArgF K (Mall G r s) (Mown G r s) io H f d v
  own : ∀ (i : Nat) (d : D), r[i]? = some (.own d) → ∃ a, s[i]? = some (some (V.ref a)) ∧ OwnAt K (Mall G r s) io H d a ∧ ¬ G.M0 a ∧ ¬ G.N0 a ∧ G.H0 a = none
  inj : ∀ (i j : Nat) (d e : D) (a : Addr), r[i]? = some (.own d) → r[j]? = some (.own e) → s[i]? = some (some (V.ref a)) → s[j]? = some (some (V.ref a)) → i = j
  sto : StoOk K ct (Mall G r s) io S H
  stp : Stp G.io0 G.H0 io H
  m0 : ∀ a, G.M0 a → ∃ o, H a = some o ∧ NI o
  n0 : ∀ a, G.N0 a → ∃ o, (H a = some o ∧ NI o) ∧ ¬ G.M0 a ∧ G.H0 a = none ∧ ¬ Im o
  held : ∀ p ∈ G.held, ArgF K (Mall G r s) (Mown G r s) io H p.1 p.2.1 p.2.2
section
variable {K : PySem.W.Frag} {ct : CT} {G : Gx} {r : Env} {S S' : Store} {io io' : List Addr} {s : St} {H H' : Hp}
theorem Ok.mdom (k : Ok K ct G r S io s H) : ∀ a, Mall G r s a → ∃ o, H a = some o ∧ NI o := fun a h => by
  rcases h with h | h | ⟨i, d, h1, h2⟩
  · exact k.m0 a h
  · obtain ⟨o, h, _⟩ := k.n0 a h
    exact ⟨o, h⟩
  · obtain ⟨a', e, q, _⟩ := k.own i d h1
    rw [h2] at e
    cases e
    exact q.there
theorem Ok.step (k : Ok K ct G r S io s H) (t : Stp io H io' H') (q : StoOk K ct (Mall G r s) io' S' H') : Ok K ct G r S' io' s H' where
  len := k.len
  arg := fun i f d e => by
    obtain ⟨v, h1, h2⟩ := k.arg i f d e
    exact ⟨v, h1, h2.mono t.kp t.kp (fun _ _ n => n) (fun _ _ n => n) t.pre⟩
  own := fun i d e => by
    obtain ⟨a, h1, h2, h3, h4⟩ := k.own i d e
    exact ⟨a, h1, h2.stp t, h3, h4⟩
  inj := k.inj
  sto := q
  stp := k.stp.trans t
  m0 := fun a h => by
    obtain ⟨o, h1, h2⟩ := k.m0 a h
    exact ⟨o, t.k1 a o h1 h2, h2⟩
  n0 := fun a h => by
    obtain ⟨o, ⟨h1, h2⟩, h3⟩ := k.n0 a h
    exact ⟨o, ⟨t.k1 a o h1 h2, h2⟩, h3⟩
  held := fun p hp => (k.held p hp).mono t.kp t.kp (fun _ _ n => n) (fun _ _ n => n) t.pre
end

/-! ### readings -/
def Res {α : Type} (K : PySem.W.Frag) (ct : CT) (W : WX) (M : Addr → Prop) (s : St) (io : List Addr) (H : Hp) (r : Rs α) (P : α → Store → List Addr → Hp → Prop) : Prop :=
  match r with
  | .ok a S' => ∀ io' H', Stp io H io' H' → StoOk K ct M io' S' H' → P a S' io' H'
  | .er c p S' => ∀ dx io' H', Stp io H io' H' → StoOk K ct M io' S' H' → ErrOk K (ct.fd c) io' H' p dx → W (.ref (ct.ad c)) dx s H'
  | .no => False
def tE (K : PySem.W.Frag) (ct : CT) (G : Gx) (W : WX) (m : EM) : TE := fun s H Q => ∃ r S io, Ok K ct G r S io s H ∧
  Res K ct W (Mall G r s) s io H (m r S) (fun x S' io' H' => ∀ v, ResOk K ct (Mall G r s) (Mown G r s) H io' S' H' x.2 x.1 v → Q v H')
def tT (K : PySem.W.Frag) (ct : CT) (G : Gx) (W : WX) (m : TM) : TT := fun s H Q => ∃ r S io, Ok K ct G r S io s H ∧
  Res K ct W (Mall G r s) s io H (m r S) (fun b S' io' H' => Q b H')
abbrev ArgsOk (K : PySem.W.Frag) (M N : Addr → Prop) (io : List Addr) (H : Hp) : List (Fl × D) → List V → Prop := Paired fun (p : Fl × D) v => RepF K M N io H p.1 p.2 v
def tA (K : PySem.W.Frag) (ct : CT) (G : Gx) (W : WX) (m : AM) : TA := fun s H Q => ∃ r S io, Ok K ct G r S io s H ∧
  Res K ct W (Mall G r s) s io H (m r S) (fun as S' io' H' => ∀ vs, ArgsOk K (Mall G r s) (Mown G r s) io' H' as vs → Q vs H')
structure ME (X : Cx) (ct : CT) (e : Expr) (m : EM) : Prop where
  run : ∀ (G : Gx) (W : WX), Takes X W → PE X e (tE X.K ct G W m)
structure MT (X : Cx) (ct : CT) (e : Expr) (m : TM) : Prop where
  run : ∀ (G : Gx) (W : WX), Takes X W → PT X e (tT X.K ct G W m)
structure MW (X : Cx) (ct : CT) (e : Expr) (m : TM) : Prop where
  run : ∀ (G : Gx) (W : WX), Takes X W → PW X e (tT X.K ct G W m)
structure MA (X : Cx) (ct : CT) (es : List Expr) (m : AM) : Prop where
  run : ∀ (G : Gx) (W : WX), Takes X W → PA X es (tA X.K ct G W m)

section
variable {K : PySem.W.Frag} {ct : CT} {G : Gx} {r : Env} {S S' : Store} {io io' io1 : List Addr} {s : St} {H H' H1 : Hp} {W : WX} {M N : Addr → Prop}
theorem Res.shift {α : Type} {x : Rs α} {P : α → Store → List Addr → Hp → Prop} (h : Res K ct W M s io H x P) (t : Stp io H io1 H1) : Res K ct W M s io1 H1 x P := by
  cases x with
  | ok a S' => exact fun io' H' t' q => h io' H' (t.trans t') q
  | er c p S' => exact fun dx io' H' t' => h dx io' H' (t.trans t')
  | no => exact h
/-- the first part of a bind -/
theorem Res.first {α β : Type} {x : Rs α} {k : α → Store → Rs β} {P : β → Store → List Addr → Hp → Prop} {P' : α → Store → List Addr → Hp → Prop} (h : Res K ct W M s io H (x.bind k) P)
    (n : ∀ a S1 io1 H1, x = .ok a S1 → Stp io H io1 H1 → StoOk K ct M io1 S1 H1 → Res K ct W M s io1 H1 (k a S1) P → P' a S1 io1 H1) : Res K ct W M s io H x P' := by
  cases x with
  | ok a S' => exact fun io' H' t q => n a S' io' H' rfl t q (Res.shift (x := k a S') h t)
  | er c p S' => exact h
  | no => exact h
theorem Res.imp {α : Type} {x : Rs α} {P P' : α → Store → List Addr → Hp → Prop} (h : Res K ct W M s io H x P) (n : ∀ a S1 io1 H1, Stp io H io1 H1 → StoOk K ct M io1 S1 H1 → P a S1 io1 H1 → P' a S1 io1 H1) : Res K ct W M s io H x P' := by
  cases x with
  | ok a S' => exact fun io' H' t q => n a S' io' H' t q (h io' H' t q)
  | er c p S' => exact h
  | no => exact h
theorem Res.here {α : Type} {a : α} {P : α → Store → List Addr → Hp → Prop} (h : Res K ct W M s io H (.ok a S) P) (q : StoOk K ct M io S H) : P a S io H := h io H Stp.refl q
theorem Res.go {α : Type} {a : α} {P : α → Store → List Addr → Hp → Prop} (h : Res K ct W M s io H (.ok a S) P) (t : Stp io H io' H') (q : StoOk K ct M io' S H') : P a S io' H' := h io' H' t q
theorem ResOk.sc {f : Fl} {d : D} {v : V} (nf : f ≠ .n) (h : Rep K M io H d v) (q : StoOk K ct M io S H) (hf : f ≠ .t := by decide) : ResOk K ct M N H1 io S H f d v := by
  refine ResOk.mk nf ?_ q
  cases f with
  | c => exact h
  | n => exact h
  | b => exact .inl h
  | o => exact .inl h
  | t => exact absurd rfl hf
end
def lift0 {α : Type} (x : Option α) (S : Store) : Rs α := match x with
  | some a => .ok a S
  | none => .no

/-! ### names and constants -/
section
variable {X : Cx} {ct : CT} {pos : Pos}
def eVar (i : Nat) : EM := fun r S => match r[i]? with
  | some (.ar f d) => .ok (d, inf f) S
  | some (.own d) => .ok (d, .o) S
  | _ => .no
def eC (d : D) : EM := fun _ S => .ok (d, .c) S
theorem me_var {i : Nat} {x : Str} (h : PE X (.Name x pos) (tVar i)) : ME X ct (.Name x pos) (eVar i) := ⟨fun G W _ => h.imp fun s H Q ⟨r, S, io, k, h⟩ => by
  unfold eVar at h
  split at h
  · rename_i f d e
    obtain ⟨v, h1, h2⟩ := k.arg i _ _ e
    exact ⟨v, h1, h.here k.sto v (ResOk.mk inf_n h2.repF k.sto)⟩
  · rename_i d e
    obtain ⟨a, h1, h2, _⟩ := k.own i _ e
    exact ⟨_, h1, h.here k.sto _ (ResOk.mk (by simp) (.inr ⟨a, rfl, h2⟩) k.sto)⟩
  · exact h.elim⟩
theorem me_const {e : Expr} {v : V} {d : D} (h : PE X e (tC v)) (q : ∀ K M io H, Rep K M io H d v) : ME X ct e (eC d) := ⟨fun G W _ => h.imp fun s H Q ⟨r, S, io, k, h⟩ => h.here k.sto v (ResOk.sc (f := .c) (by simp) (q ..) k.sto)⟩
theorem me_int {i j} : ME X ct (.Constant (.int i) j pos) (eC (.int i)) := me_const pe_int fun _ _ _ _ => .int i
theorem me_bl {b j} : ME X ct (.Constant (.bool b) j pos) (eC (.bl b)) := me_const pe_bl fun _ _ _ _ => .bl b
theorem me_non {j} : ME X ct (.Constant .none j pos) (eC .non) := me_const pe_non fun _ _ _ _ => .non
theorem me_str {x j} : ME X ct (.Constant (.str x) j pos) (eC (.str x)) := me_const pe_str fun _ _ _ _ => .str x
theorem me_gint {x : Str} {i : Int} (hg : Gl X x) (hm : ∃ t, X.mg x = some (.int i t)) (hd : (x == ("__debug__" : Str)) = false := by decide) : ME X ct (.Name x pos) (eC (.int i)) := by
  obtain ⟨t, hm⟩ := hm
  exact me_const (pe_glob (v := .int i) hg hm ⟨t, rfl⟩ hd) fun _ _ _ _ => .int i
theorem me_gstr {x : Str} {i : Str} (hg : Gl X x) (hm : ∃ t, X.mg x = some (.str i t)) (hd : (x == ("__debug__" : Str)) = false := by decide) : ME X ct (.Name x pos) (eC (.str i)) := by
  obtain ⟨t, hm⟩ := hm
  exact me_const (pe_glob (v := .str i) hg hm ⟨t, rfl⟩ hd) fun _ _ _ _ => .str i

/-! ### operators by values -/
def BinOk (K : PySem.W.Frag) (ct : CT) (rd : R2) (g : D × Fl → D × Fl → Option (D × Fl)) : Prop :=
  ∀ (M N : Addr → Prop) (io : List Addr) (S : Store) (H : Hp) (x y : V) (a b res : D × Fl) (Q : VK), RepF K M N io H a.2 a.1 x → RepF K M N io H b.2 b.1 y → StoOk K ct M io S H → (∀ a, M a → ∃ o, H a = some o ∧ NI o) → g a b = some res →
    (∀ v H', Stp io H io H' → ResOk K ct M N H io S H' res.2 res.1 v → Q v H') → rd x y H Q
def eBin (g : D × Fl → D × Fl → Option (D × Fl)) (ma mb : EM) : EM := fun r S => (ma r S).bind fun a S1 => (mb r S1).bind fun b S2 => lift0 (g a b) S2
theorem bin_go {ma mb : EM} {g : D × Fl → D × Fl → Option (D × Fl)} {rd : R2} (hg : BinOk X.K ct rd g) {G : Gx} {W : WX} {s : St} {H : Hp} {Q : VK}
    (h : tE X.K ct G W (eBin g ma mb) s H Q) : tOp rd (tE X.K ct G W ma) (tE X.K ct G W mb) s H Q := by
  obtain ⟨r, S, io, k, h⟩ := h
  refine ⟨r, S, io, k, Res.first h fun x S1 io1 H1 e1 t1 q1 h1 v1 o1 => ?_⟩
  have k1 := k.step t1 q1
  refine ⟨r, S1, io1, k1, Res.first h1 fun y S2 io2 H2 e2 t2 q2 h2 v2 o2 => ?_⟩
  have k2 := k1.step t2 q2
  unfold lift0 at h2
  split at h2
  · rename_i res e
    refine hg _ _ io2 S2 H2 v1 v2 x y res Q (o1.repF.stp t2) o2.repF q2 k2.mdom e fun v H' t' o' => ?_
    exact h2.go t' o'.sto v (o'.back fun a z => t1.free (t2.free z))
  · exact h2.elim
theorem me_op {op : Operator} {rd : R2} {a b : Expr} {ma mb : EM} {g : D × Fl → D × Fl → Option (D × Fl)} (ho : OpR X (binaryOp op) rd) (hg : BinOk X.K ct rd g) (ha : ME X ct a ma) (hb : ME X ct b mb) : ME X ct (.BinOp a op b pos) (eBin g ma mb) :=
  ⟨fun G W tk => (pe_op ho (ha.run G W tk) (hb.run G W tk)).imp fun s H Q h => bin_go hg h⟩
theorem me_cmp {op : CmpOp} {rd : R2} {a b : Expr} {ma mb : EM} {g : D × Fl → D × Fl → Option (D × Fl)} (ho : OpR X (compareOp op) rd) (hg : BinOk X.K ct rd g) (ha : ME X ct a ma) (hb : ME X ct b mb) (hm : behindInMarks op b = false) : ME X ct (.Compare a [op] [b] pos) (eBin g ma mb) :=
  ⟨fun G W tk => (pe_cmpR ho (ha.run G W tk) (hb.run G W tk) hm).imp fun s H Q h => bin_go hg h⟩
/-! ### tests -/
def tVal (m : EM) : TM := fun r S => (m r S).bind fun x S1 => match x.1 with
  | .bl b => .ok b S1
  | _ => .no
theorem bl_of {K : PySem.W.Frag} {M N : Addr → Prop} {io : List Addr} {H : Hp} {f : Fl} {b : Bool} {v : V} (h : RepF K M N io H f (.bl b) v) : v = .bl b := by
  have q := h.weak
  cases q
  rfl
theorem int_of {K : PySem.W.Frag} {M N : Addr → Prop} {io : List Addr} {H : Hp} {f : Fl} {b : Int} {v : V} (h : RepF K M N io H f (.int b) v) : v = .int b := by
  have q := h.weak
  cases q
  rfl
theorem str_of {K : PySem.W.Frag} {M N : Addr → Prop} {io : List Addr} {H : Hp} {f : Fl} {b : Str} {v : V} (h : RepF K M N io H f (.str b) v) : v = .str b := by
  have q := h.weak
  cases q
  rfl
theorem non_of {K : PySem.W.Frag} {M N : Addr → Prop} {io : List Addr} {H : Hp} {f : Fl} {v : V} (h : RepF K M N io H f .non v) : v = .non := by
  have q := h.weak
  cases q
  rfl
theorem lst_of {K : PySem.W.Frag} {M N : Addr → Prop} {io : List Addr} {H : Hp} {f : Fl} {xs : List D} {v : V} (h : RepF K M N io H f (.lst xs) v) : ∃ a vs, v = .ref a ∧ H a = some (.lst vs) ∧ Reps K (fun _ => False) io H xs vs := by
  have q := h.weak
  cases q with
  | lst h1 _ h2 => exact ⟨_, _, rfl, h1, h2⟩
theorem frz_of {K : PySem.W.Frag} {M N : Addr → Prop} {io : List Addr} {H : Hp} {f : Fl} {xs : List D} {v : V} (h : RepF K M N io H f (.frz xs) v) : ∃ a vs, v = .ref a ∧ SqL K H a vs ∧ Reps K (fun _ => False) io H xs vs := by
  have q := h.weak
  cases q with
  | frz h1 h2 => exact ⟨_, _, rfl, h1.sq, h2⟩
theorem tup_of {K : PySem.W.Frag} {M N : Addr → Prop} {io : List Addr} {H : Hp} {f : Fl} {xs : List D} {v : V} (h : RepF K M N io H f (.tup xs) v) : ∃ a vs, v = .ref a ∧ SqT K H a vs ∧ Reps K (fun _ => False) io H xs vs := by
  have q := h.weak
  cases q with
  | tup h1 h2 => exact ⟨_, _, rfl, h1, h2⟩
theorem mt_go {m : EM} {G : Gx} {W : WX} {s : St} {H : Hp} {Q : Bool → Hp → Prop} (h : tT X.K ct G W (tVal m) s H Q) : tB (tE X.K ct G W m) s H Q := by
  obtain ⟨r, S, io, k, h⟩ := h
  refine ⟨r, S, io, k, Res.first h fun x S1 io1 H1 e1 t1 q1 h1 v1 o1 => ?_⟩
  split at h1
  · rename_i b e
    have o2 := o1.repF
    rw [e] at o2
    exact ⟨b, bl_of o2, h1.here q1⟩
  · exact h1.elim
theorem mt_val {e : Expr} {m : EM} (h : ME X ct e m) (he : ∀ whole, isTrue e X.env whole = (do let v ← whole; standAt e.pos; holding [v] (truthy v)) := by intro _; rfl) : MT X ct e (tVal m) :=
  ⟨fun G W tk => (pt_val (h.run G W tk) he).imp fun s H Q h => mt_go h⟩
theorem mt_cmp {op : CmpOp} {rd : R2} {a b : Expr} {ma mb : EM} {g : D × Fl → D × Fl → Option (D × Fl)} (ho : OpR X (compareOp op) rd) (hg : BinOk X.K ct rd g) (ha : ME X ct a ma) (hb : ME X ct b mb) (hm : behindInMarks op b = false) : MT X ct (.Compare a [op] [b] pos) (tVal (eBin g ma mb)) :=
  ⟨fun G W tk => (pt_cmpR ho (ha.run G W tk) (hb.run G W tk) hm).imp fun s H Q h => by
    obtain ⟨r, S, io, k, h⟩ := h
    refine bin_go hg ⟨r, S, io, k, Res.first h fun x S1 io1 H1 e1 t1 q1 h1 v1 o1 => ?_⟩
    split at h1
    · rename_i b e
      have o2 := o1.repF
      rw [e] at o2
      exact ⟨b, bl_of o2, h1.here q1⟩
    · exact h1.elim⟩
def tAndM (ma mb : TM) : TM := fun r S => (ma r S).bind fun b S1 => if b then mb r S1 else .ok false S1
def tOrM (ma mb : TM) : TM := fun r S => (ma r S).bind fun b S1 => if b then .ok true S1 else mb r S1
def tNotM (ma : TM) : TM := fun r S => (ma r S).bind fun b S1 => .ok (!b) S1
theorem MW.mt {e : Expr} {m : TM} (h : MW X ct e m) : MT X ct e m := ⟨fun G W tk => (h.run G W tk).pt⟩
theorem mw_and1 {a : Expr} {m : TM} (h : MT X ct a m) : MW X ct (.BoolOp .And [a] pos) m := ⟨fun G W tk => pw_and1 (h.run G W tk)⟩
theorem mw_or1 {a : Expr} {m : TM} (h : MT X ct a m) : MW X ct (.BoolOp .Or [a] pos) m := ⟨fun G W tk => pw_or1 (h.run G W tk)⟩
theorem mw_and {a b : Expr} {rest : List Expr} {ma mb : TM} (ha : MT X ct a ma) (hb : MW X ct (.BoolOp .And (b :: rest) pos) mb) : MW X ct (.BoolOp .And (a :: b :: rest) pos) (tAndM ma mb) :=
  ⟨fun G W tk => (pw_and (ha.run G W tk) (hb.run G W tk)).imp fun s H Q ⟨r, S, io, k, h⟩ => ⟨r, S, io, k, Res.first h fun x S1 io1 H1 e1 t1 q1 h1 => by
    cases x with
    | true => exact ⟨r, S1, io1, k.step t1 q1, h1⟩
    | false => exact h1.here q1⟩⟩
theorem mw_or {a b : Expr} {rest : List Expr} {ma mb : TM} (ha : MT X ct a ma) (hb : MW X ct (.BoolOp .Or (b :: rest) pos) mb) : MW X ct (.BoolOp .Or (a :: b :: rest) pos) (tOrM ma mb) :=
  ⟨fun G W tk => (pw_or (ha.run G W tk) (hb.run G W tk)).imp fun s H Q ⟨r, S, io, k, h⟩ => ⟨r, S, io, k, Res.first h fun x S1 io1 H1 e1 t1 q1 h1 => by
    cases x with
    | true => exact h1.here q1
    | false => exact ⟨r, S1, io1, k.step t1 q1, h1⟩⟩⟩
theorem mt_not {a : Expr} {ma : TM} (ha : MT X ct a ma) : MT X ct (.UnaryOp .Not a pos) (tNotM ma) :=
  ⟨fun G W tk => (pt_not (ha.run G W tk)).imp fun s H Q ⟨r, S, io, k, h⟩ => ⟨r, S, io, k, Res.first h fun x S1 io1 H1 e1 t1 q1 h1 => h1.here q1⟩⟩
def eIf (mt : TM) (ma mb : EM) : EM := fun r S => (mt r S).bind fun b S1 => if b then ma r S1 else mb r S1
theorem me_if {c a b : Expr} {mt : TM} {ma mb : EM} (hc : MT X ct c mt) (ha : ME X ct a ma) (hb : ME X ct b mb) : ME X ct (.IfExp c a b pos) (eIf mt ma mb) :=
  ⟨fun G W tk => (pe_ifExp (hc.run G W tk) (ha.run G W tk) (hb.run G W tk)).imp fun s H Q ⟨r, S, io, k, h⟩ => ⟨r, S, io, k, Res.first h fun x S1 io1 H1 e1 t1 q1 h1 => by
    have k1 := k.step t1 q1
    cases x with
    | true => exact ⟨r, S1, io1, k1, Res.imp h1 fun y S2 io2 H2 t2 q2 h2 v o => h2 v (o.back fun a z => t1.free z)⟩
    | false => exact ⟨r, S1, io1, k1, Res.imp h1 fun y S2 io2 H2 t2 q2 h2 v o => h2 v (o.back fun a z => t1.free z)⟩⟩⟩
/-- and, or, not as values -/
def eAnd (ma mb : EM) : EM := fun r S => (ma r S).bind fun x S1 => match x.1 with
  | .bl true => (mb r S1).bind fun y S2 => .ok y S2
  | .bl false => .ok (.bl false, .c) S1
  | _ => .no
def eOr (ma mb : EM) : EM := fun r S => (ma r S).bind fun x S1 => match x.1 with
  | .bl false => (mb r S1).bind fun y S2 => .ok y S2
  | .bl true => .ok (.bl true, .c) S1
  | _ => .no
def eNot (ma : EM) : EM := fun r S => (ma r S).bind fun x S1 => match x.1 with
  | .bl b => .ok (.bl (!b), .c) S1
  | _ => .no
theorem me_one {op a} {m : EM} (h : ME X ct a m) : ME X ct (.BoolOp op [a] pos) m := ⟨fun G W tk => pe_one (h.run G W tk)⟩
theorem me_and {a b : Expr} {rest : List Expr} {ma mb : EM} (ha : ME X ct a ma) (hb : ME X ct (.BoolOp .And (b :: rest) pos) mb) : ME X ct (.BoolOp .And (a :: b :: rest) pos) (eAnd ma mb) :=
  ⟨fun G W tk => (pe_and (ha.run G W tk) (hb.run G W tk)).imp fun s H Q ⟨r, S, io, k, h⟩ => ⟨r, S, io, k, Res.first h fun x S1 io1 H1 e1 t1 q1 h1 v o => by
    have k1 := k.step t1 q1
    split at h1
    · rename_i e
      have o2 := o.repF
      rw [e] at o2
      exact ⟨true, bl_of o2, iteT ⟨r, S1, io1, k1, Res.first h1 fun y S2 io2 H2 _ t2 q2 h2 v o => h2.here q2 v (o.back fun a z => t1.free z)⟩⟩
    · rename_i e
      have o2 := o.repF
      rw [e] at o2
      exact ⟨false, bl_of o2, iteF (h1.here q1 _ (ResOk.sc (by simp) (.bl false) q1))⟩
    · exact h1.elim⟩⟩
theorem me_or {a b : Expr} {rest : List Expr} {ma mb : EM} (ha : ME X ct a ma) (hb : ME X ct (.BoolOp .Or (b :: rest) pos) mb) : ME X ct (.BoolOp .Or (a :: b :: rest) pos) (eOr ma mb) :=
  ⟨fun G W tk => (pe_or (ha.run G W tk) (hb.run G W tk)).imp fun s H Q ⟨r, S, io, k, h⟩ => ⟨r, S, io, k, Res.first h fun x S1 io1 H1 e1 t1 q1 h1 v o => by
    have k1 := k.step t1 q1
    split at h1
    · rename_i e
      have o2 := o.repF
      rw [e] at o2
      exact ⟨false, bl_of o2, iteF ⟨r, S1, io1, k1, Res.first h1 fun y S2 io2 H2 _ t2 q2 h2 v o => h2.here q2 v (o.back fun a z => t1.free z)⟩⟩
    · rename_i e
      have o2 := o.repF
      rw [e] at o2
      exact ⟨true, bl_of o2, iteT (h1.here q1 _ (ResOk.sc (by simp) (.bl true) q1))⟩
    · exact h1.elim⟩⟩
theorem me_not {a : Expr} {ma : EM} (ha : ME X ct a ma) : ME X ct (.UnaryOp .Not a pos) (eNot ma) :=
  ⟨fun G W tk => (pe_not (ha.run G W tk)).imp fun s H Q ⟨r, S, io, k, h⟩ => ⟨r, S, io, k, Res.first h fun x S1 io1 H1 e1 t1 q1 h1 v o => by
    split at h1
    · rename_i b e
      have o2 := o.repF
      rw [e] at o2
      exact ⟨b, bl_of o2, h1.here q1 _ (ResOk.sc (f := .c) (by simp) (.bl _) q1)⟩
    · exact h1.elim⟩⟩

/-! ### arguments -/
def aNil : AM := fun _ S => .ok [] S
def aCons (m : EM) (t : AM) : AM := fun r S => (m r S).bind fun x S1 => (t r S1).bind fun xs S2 => .ok ((x.2, x.1) :: xs) S2
theorem ma_nil : MA X ct [] aNil := ⟨fun G W tk => pa_nil.imp fun s H Q ⟨r, S, io, k, h⟩ => h.here k.sto [] .nil⟩
theorem ArgsOk.stp {K : PySem.W.Frag} {M N : Addr → Prop} {io io' : List Addr} {H H' : Hp} {as : List (Fl × D)} {vs : List V} (t : Stp io H io' H') (h : ArgsOk K M N io H as vs) : ArgsOk K M N io' H' as vs := Paired.mapP h fun _ _ q => q.stp t
theorem ma_cons {e : Expr} {es : List Expr} {m : EM} {t : AM} (ha : ME X ct e m) (hr : MA X ct es t) (hs : starEach (e :: es) X.env = (false, eval e X.env) :: starEach es X.env := by rfl) : MA X ct (e :: es) (aCons m t) :=
  ⟨fun G W tk => (pa_cons (ha.run G W tk) (hr.run G W tk) hs).imp fun s H Q ⟨r, S, io, k, h⟩ => ⟨r, S, io, k, Res.first h fun x S1 io1 H1 e1 t1 q1 h1 v o => by
    have k1 := k.step t1 q1
    refine ⟨r, S1, io1, k1, Res.first h1 fun xs S2 io2 H2 e2 t2 q2 h2 vs o2 => ?_⟩
    exact h2.here q2 (v :: vs) (.cons (o.repF.stp t2) o2)⟩⟩
/-- what may be kept: clean values -/
def gnd : D → Bool
  | .non => true
  | .bl _ => true
  | .int _ => true
  | .str _ => true
  | .ins _ => true
  | .cst _ => true
  | _ => false
def okst (f : Fl) (d : D) : Bool := f = .c || f = .n || gnd d
theorem Rep.of_gnd {K : PySem.W.Frag} {M M' : Addr → Prop} {io : List Addr} {H : Hp} {d : D} {v : V} (g : gnd d = true) (h : Rep K M io H d v) : Rep K M' io H d v := by
  cases h with
  | non => exact .non
  | bl b => exact .bl b
  | int i => exact .int i
  | str z => exact .str z
  | ins e => exact .ins e
  | cst => exact .cst
  | lst _ _ _ => cases g
  | frz _ _ => cases g
  | tup _ _ => cases g
  | dic _ _ _ _ => cases g
theorem RepF.clean {K : PySem.W.Frag} {M N : Addr → Prop} {io : List Addr} {H : Hp} {f : Fl} {d : D} {v : V} (g : okst f d = true) (h : RepF K M N io H f d v) : Rep K M io H d v := by
  unfold okst at g
  simp only [Bool.or_eq_true, decide_eq_true_eq] at g
  rcases g with (g | g) | g
  · subst g; exact h
  · subst g; exact h
  · exact Rep.of_gnd g h.weak
theorem ArgsOk.clean {K : PySem.W.Frag} {M N : Addr → Prop} {io : List Addr} {H : Hp} : ∀ {as : List (Fl × D)} {vs : List V}, (as.all fun x => okst x.1 x.2) = true → ArgsOk K M N io H as vs → Reps K M io H (as.map Prod.snd) vs
  | _, _, _, .nil => .nil
  | _, _, g, .cons r t => by
    rw [List.all_cons, Bool.and_eq_true] at g
    exact .cons (RepF.clean g.1 r) (ArgsOk.clean g.2 t)
theorem ArgsOk.weak {K : PySem.W.Frag} {M N : Addr → Prop} {io : List Addr} {H : Hp} : ∀ {as : List (Fl × D)} {vs : List V}, ArgsOk K M N io H as vs → Reps K (fun _ => False) io H (as.map Prod.snd) vs
  | _, _, .nil => .nil
  | _, _, .cons r t => .cons r.weak (ArgsOk.weak t)
/-- [a, b, ..] -/
def eLst (t : AM) : EM := fun r S => (t r S).bind fun as S1 => if as.length ≤ sizeLine then (if as.all fun x => okst x.1 x.2 then .ok (.lst (as.map Prod.snd), .n) S1 else .ok (.lst (as.map Prod.snd), .t) S1) else .no
def eTup (t : AM) : EM := fun r S => (t r S).bind fun as S1 => if as.length ≤ sizeLine then (if as.all fun x => okst x.1 x.2 then .ok (.tup (as.map Prod.snd), .c) S1 else .ok (.tup (as.map Prod.snd), .t) S1) else .no
theorem new_lst {K : PySem.W.Frag} {M N : Addr → Prop} {io : List Addr} {H H0 : Hp} {S : Store} {p : Addr} {xs : List D} {vs : List V} (hp : H p = none) (h0 : H0 p = none) (md : ∀ a, M a → ∃ o, H a = some o ∧ NI o) (q : StoOk K ct M io S H) (h : Reps K M io H xs vs) :
    ResOk K ct M N H0 io S (upd H p (.lst vs)) .n (.lst xs) (.ref p) :=
  ⟨p, rfl, h0, (fun z => by
    obtain ⟨o, e, _⟩ := md p z
    rw [hp] at e
    cases e), .inl ⟨xs, vs, rfl, upd_same, (h.off hp).stp (Stp.upd hp)⟩, (q.off hp).upd hp⟩
theorem new_tup {K : PySem.W.Frag} {M N : Addr → Prop} {io : List Addr} {H H0 : Hp} {S : Store} {p : Addr} {xs : List D} {vs : List V} (hp : H p = none) (q : StoOk K ct M io S H) (h : Reps K M io H xs vs) :
    ResOk K ct M N H0 io S (upd H p (.tup vs)) .c (.tup xs) (.ref p) := ⟨.tup (.inl (.inl upd_same)) (h.stp (Stp.upd hp)), q.upd hp⟩
theorem me_lst {es : List Expr} {t : AM} (ha : MA X ct es t) : ME X ct (.List es pos) (eLst t) :=
  ⟨fun G W tk => (pe_lst (ha.run G W tk)).imp fun s H Q ⟨r, S, io, k, h⟩ => ⟨r, S, io, k, Res.first h fun as S1 io1 H1 e1 t1 q1 h1 vs o => by
    have k1 := k.step t1 q1
    have hl : as.length = vs.length := Paired.length o
    split at h1
    · rename_i hz
      refine ⟨hl ▸ hz, fun p hp => ?_⟩
      split at h1
      · rename_i g
        exact h1.go (Stp.upd hp) (q1.upd hp) _ (new_lst hp (t1.free hp) k1.mdom q1 (ArgsOk.clean g o))
      · exact h1.go (Stp.upd hp) (q1.upd hp) _ ⟨.lst upd_same (fun z => z) ((ArgsOk.weak o).stp (Stp.upd hp)), q1.upd hp⟩
    · exact h1.elim⟩⟩
theorem me_tup {es : List Expr} {t : AM} {x1} (ha : MA X ct es t) : ME X ct (.Tuple es x1 pos) (eTup t) :=
  ⟨fun G W tk => (pe_tup (ha.run G W tk)).imp fun s H Q ⟨r, S, io, k, h⟩ => ⟨r, S, io, k, Res.first h fun as S1 io1 H1 e1 t1 q1 h1 vs o => by
    have k1 := k.step t1 q1
    have hl : as.length = vs.length := Paired.length o
    split at h1
    · rename_i hz
      refine ⟨hl ▸ hz, fun p hp => ?_⟩
      split at h1
      · rename_i g
        exact h1.go (Stp.upd hp) (q1.upd hp) _ (new_tup hp q1 (ArgsOk.clean g o))
      · exact h1.go (Stp.upd hp) (q1.upd hp) _ ⟨.tup (.inl (.inl upd_same)) ((ArgsOk.weak o).stp (Stp.upd hp)), q1.upd hp⟩
    · exact h1.elim⟩⟩
/-! ### built-in functions and types by values -/
def CalOk (K : PySem.W.Frag) (ct : CT) (rd : List V → Hp → VK → Prop) (g : List (Fl × D) → Option (D × Fl)) : Prop :=
  ∀ (M N : Addr → Prop) (io : List Addr) (S : Store) (H : Hp) (vs : List V) (as : List (Fl × D)) (res : D × Fl) (Q : VK), ArgsOk K M N io H as vs → StoOk K ct M io S H → (∀ a, M a → ∃ o, H a = some o ∧ NI o) → g as = some res →
    (∀ v H', Stp io H io H' → ResOk K ct M N H io S H' res.2 res.1 v → Q v H') → rd vs H Q
def eCal (g : List (Fl × D) → Option (D × Fl)) (t : AM) : EM := fun r S => (t r S).bind fun as S1 => lift0 (g as) S1
theorem cal_go {t : AM} {g : List (Fl × D) → Option (D × Fl)} {rd : List V → Hp → VK → Prop} (hg : CalOk X.K ct rd g) {G : Gx} {W : WX} {s : St} {H : Hp} {Q : VK} (h : tE X.K ct G W (eCal g t) s H Q) : tCB rd (tA X.K ct G W t) s H Q := by
  obtain ⟨r, S, io, k, h⟩ := h
  refine ⟨r, S, io, k, Res.first h fun as S1 io1 H1 e1 t1 q1 h1 vs o => ?_⟩
  have k1 := k.step t1 q1
  unfold lift0 at h1
  split at h1
  · rename_i res e
    refine hg _ _ io1 S1 H1 vs as res Q o q1 k1.mdom e fun v H' t' o' => ?_
    exact h1.go t' o'.sto v (o'.back fun a z => t1.free z)
  · exact h1.elim
theorem me_callB {x : Str} {id : String} {e : Expr} {es : List Expr} {p : Pos} {t : AM} {g : List (Fl × D) → Option (D × Fl)} {rd : List V → Hp → VK → Prop} (hc : CallR X (.builtin id) rd) (hg : CalOk X.K ct rd g) (hgl : Gl X x) (hm : X.mg x = none) (hv : bootBuiltins x = some (.builtin id)) (ha : MA X ct (e :: es) t)
    (hn : x ≠ "__name__" := by decide) (hdb : (x == ("__debug__" : Str)) = false := by decide) (he : starEach (e :: es) X.env = (false, eval e X.env) :: starEach es X.env := by rfl) (hpl : (backTo pos (starEach es X.env)).any (·.1) = false := by rfl) :
    ME X ct (.Call (.Name x p) (e :: es) [] pos) (eCal g t) := ⟨fun G W tk => (pe_callB hc hgl hm hv (ha.run G W tk) hn hdb he hpl).imp fun s H Q h => cal_go hg h⟩
theorem me_callTy {x : Str} {T : String} {e : Expr} {es : List Expr} {p : Pos} {t : AM} {g : List (Fl × D) → Option (D × Fl)} {rd : List V → Hp → VK → Prop} (hc : CallR X (.type T) rd) (hg : CalOk X.K ct rd g) (hgl : Gl X x) (hm : X.mg x = none) (hv : bootBuiltins x = some (.type T)) (ha : MA X ct (e :: es) t)
    (hn : x ≠ "__name__" := by decide) (hdb : (x == ("__debug__" : Str)) = false := by decide) (he : starEach (e :: es) X.env = (false, eval e X.env) :: starEach es X.env := by rfl) (hpl : (backTo pos (starEach es X.env)).any (·.1) = false := by rfl) :
    ME X ct (.Call (.Name x p) (e :: es) [] pos) (eCal g t) := ⟨fun G W tk => (pe_callTy hc hgl hm hv (ha.run G W tk) hn hdb he hpl).imp fun s H Q h => cal_go hg h⟩
end
end Mv

set_option maxRecDepth 100000
namespace Mv
open PySem PySem.Spec PyProof.Rows L2

/-! ### how the frame's state changes -/
theorem get_set {α : Type} {l : List α} {i j : Nat} {x y : α} (h : (l.set i x)[j]? = some y) : (i = j ∧ x = y ∧ i < l.length) ∨ (i ≠ j ∧ l[j]? = some y) := by
  by_cases hj : i = j
  · subst hj
    by_cases hl : i < l.length
    · rw [List.getElem?_set_self hl] at h
      exact .inl ⟨rfl, Option.some.inj h, hl⟩
    · rw [List.getElem?_eq_none (by simpa using hl)] at h
      cases h
  · rw [List.getElem?_set_ne hj] at h
    exact .inr ⟨hj, h⟩
theorem lt_of_get {α : Type} {l : List α} {i : Nat} {x : α} (h : l[i]? = some x) : i < l.length := (List.getElem?_eq_some_iff.mp h).1
section
variable {K : PySem.W.Frag} {ct : CT} {G : Gx} {r : Env} {S S' S1 : Store} {io io' io1 : List Addr} {s : St} {H H' H1 : Hp} {i : Nat} {d d' : D} {v : V} {p : Addr} {x : Slot}
theorem mown_set (h : ∀ d, x ≠ Slot.own d) {y : Option V} {a : Addr} (m : Mown G (r.set i x) (s.set i y) a) : Mown G r s a := by
  rcases m with m | ⟨j, e, h1, h2⟩
  · exact .inl m
  rcases get_set h1 with ⟨_, h1, _⟩ | ⟨hj, h1⟩
  · exact absurd h1 (h e)
  · rw [List.getElem?_set_ne hj] at h2
    exact .inr ⟨j, e, h1, h2⟩
theorem mall_set (h : ∀ d, x ≠ Slot.own d) {y : Option V} {a : Addr} (m : Mall G (r.set i x) (s.set i y) a) : Mall G r s a := m.elim .inl fun z => .inr (mown_set h z)
/-- a value stored that is not one's own -/
theorem Ok.seta {f : Fl} (k : Ok K ct G r S io s H) (h : ArgF K (Mall G r s) (Mown G r s) io H f d v) : Ok K ct G (r.set i (.ar f d)) S io (s.set i (some v)) H := by
  have no : ∀ e, Slot.ar f d ≠ Slot.own e := fun e z => by cases z
  have m : ∀ a, Mall G (r.set i (.ar f d)) (s.set i (some v)) a → Mall G r s a := fun a => mall_set no
  have m' : ∀ a, Mown G (r.set i (.ar f d)) (s.set i (some v)) a → Mown G r s a := fun a => mown_set no
  have an : ∀ {g : Fl} {e : D} {w : V}, ArgF K (Mall G r s) (Mown G r s) io H g e w → ArgF K (Mall G (r.set i (.ar f d)) (s.set i (some v))) (Mown G (r.set i (.ar f d)) (s.set i (some v))) io H g e w :=
    fun {g e w} h => h.mono Kp.refl Kp.refl (fun a _ n z => n (m a z)) (fun a _ n z => n (m' a z)) io_refl
  refine ⟨by simp [k.len], fun j g e q => ?_, fun j e q => ?_, fun j j' e e' a q q' z z' => ?_, k.sto.anti m, k.stp, k.m0, k.n0, fun p hp => an (k.held p hp)⟩
  · rcases get_set q with ⟨rfl, q, hl⟩ | ⟨hj, q⟩
    · cases q
      exact ⟨v, List.getElem?_set_self (k.len ▸ hl), an h⟩
    · obtain ⟨w, h1, h2⟩ := k.arg j g e q
      exact ⟨w, by rw [List.getElem?_set_ne hj]; exact h1, an h2⟩
  · rcases get_set q with ⟨rfl, q, _⟩ | ⟨hj, q⟩
    · cases q
    · obtain ⟨a, h1, h2, h3, h4⟩ := k.own j e q
      exact ⟨a, by rw [List.getElem?_set_ne hj]; exact h1, h2.anti m, h3, h4⟩
  · rcases get_set q with ⟨_, q, _⟩ | ⟨hj, q⟩
    · cases q
    · rcases get_set q' with ⟨_, q', _⟩ | ⟨hj', q'⟩
      · cases q'
      · rw [List.getElem?_set_ne hj] at z
        rw [List.getElem?_set_ne hj'] at z'
        exact k.inj j j' e e' a q q' z z'
theorem Ok.setc (k : Ok K ct G r S io s H) (h : Rep K (Mall G r s) io H d v) : Ok K ct G (r.set i (.ar .c d)) S io (s.set i (some v)) H := k.seta (f := .c) h
/-- a new list or dict becomes the slot's own -/
theorem Ok.seto (k : Ok K ct G r S io s H) (t : Stp io H io1 H1) (hp : H p = none) (np : ¬ Mall G r s p) (h : OwnAt K (fun b => Mall G r s b ∨ b = p) io1 H1 d p) (q : StoOk K ct (fun b => Mall G r s b ∨ b = p) io1 S1 H1) :
    Ok K ct G (r.set i (.own d)) S1 io1 (s.set i (some (.ref p))) H1 := by
  have mo : ∀ a, Mown G (r.set i (.own d)) (s.set i (some (.ref p))) a → Mown G r s a ∨ a = p := fun a z => by
    rcases z with z | ⟨j, e, h1, h2⟩
    · exact .inl (.inl z)
    rcases get_set h1 with ⟨rfl, h1, hl⟩ | ⟨hj, h1⟩
    · rw [List.getElem?_set_self (k.len ▸ hl)] at h2
      cases h2
      exact .inr rfl
    · rw [List.getElem?_set_ne hj] at h2
      exact .inl (.inr ⟨j, e, h1, h2⟩)
  have m : ∀ a, Mall G (r.set i (.own d)) (s.set i (some (.ref p))) a → Mall G r s a ∨ a = p := fun a z => by
    rcases z with z | z
    · exact .inl (.inl z)
    · exact (mo a z).elim (fun z => .inl (.inr z)) .inr
  have mm : ∀ a, (∃ o, H a = some o) → ¬ Mall G r s a → ¬ Mall G (r.set i (.own d)) (s.set i (some (.ref p))) a := fun a ⟨o, e⟩ n z => (m a z).elim n fun z => by
    rw [z, hp] at e
    cases e
  have mm' : ∀ a, (∃ o, H a = some o) → ¬ Mown G r s a → ¬ Mown G (r.set i (.own d)) (s.set i (some (.ref p))) a := fun a ⟨o, e⟩ n z => (mo a z).elim n fun z => by
    rw [z, hp] at e
    cases e
  have hp0 : G.H0 p = none := k.stp.free hp
  refine ⟨by simp [k.len], fun j f e q => ?_, fun j e q => ?_, fun j j' e e' a q q' z z' => ?_, q.anti m, k.stp.trans t, fun a z => ?_, fun a z => ?_, fun y hy => (k.held y hy).mono t.kp t.kp mm mm' t.pre⟩
  · rcases get_set q with ⟨rfl, q, hl⟩ | ⟨hj, q⟩
    · cases q
    · obtain ⟨w, h1, h2⟩ := k.arg j f e q
      exact ⟨w, by rw [List.getElem?_set_ne hj]; exact h1, h2.mono t.kp t.kp mm mm' t.pre⟩
  · rcases get_set q with ⟨rfl, q, hl⟩ | ⟨hj, q⟩
    · cases q
      exact ⟨p, List.getElem?_set_self (k.len ▸ hl), h.anti m, fun z => np (.inl z), fun z => np (.inr (.inl z)), hp0⟩
    · obtain ⟨a, h1, h2, h3, h4⟩ := k.own j e q
      exact ⟨a, by rw [List.getElem?_set_ne hj]; exact h1, h2.mono t.kp mm t.pre fun o e n => t.k1 a o e n, h3, h4⟩
  · have old : ∀ {n : Nat} {u : D}, r[n]? = some (.own u) → s[n]? = some (some (V.ref a)) → a ≠ p := fun {n u} w1 w2 w => np (.inr (.inr ⟨n, u, w1, w ▸ w2⟩))
    rcases get_set q with ⟨rfl, q, hl⟩ | ⟨hj, q⟩
    · rw [List.getElem?_set_self (k.len ▸ hl)] at z
      cases z
      rcases get_set q' with ⟨e, _, _⟩ | ⟨hj', q'⟩
      · exact e
      · rw [List.getElem?_set_ne hj'] at z'
        exact absurd rfl (old q' z')
    · rw [List.getElem?_set_ne hj] at z
      rcases get_set q' with ⟨rfl, q', hl⟩ | ⟨hj', q'⟩
      · rw [List.getElem?_set_self (k.len ▸ hl)] at z'
        cases z'
        exact absurd rfl (old q z)
      · rw [List.getElem?_set_ne hj'] at z'
        exact k.inj j j' e e' a q q' z z'
  · obtain ⟨o, e, n⟩ := k.m0 a z
    exact ⟨o, t.k1 a o e n, n⟩
  · obtain ⟨o, ⟨e, n⟩, y⟩ := k.n0 a z
    exact ⟨o, ⟨t.k1 a o e n, n⟩, y⟩
/-- one's own is not written any more -/
theorem Ok.dem (k : Ok K ct G r S io s H) (e : r[i]? = some (.own d)) : Ok K ct G (r.set i (.ar .c d)) S io s H := by
  obtain ⟨a, h1, h2, h3, h4⟩ := k.own i d e
  have hs : s.set i (some (V.ref a)) = s := by
    obtain ⟨hl, h1⟩ := List.getElem?_eq_some_iff.mp h1
    rw [← h1]
    exact List.set_getElem_self hl
  have no : ∀ e, Slot.ar .c d ≠ Slot.own e := fun e z => by cases z
  have m' : ∀ b, Mown G (r.set i (.ar .c d)) s b → Mown G r s b ∧ b ≠ a := fun b z => by
    rcases z with z | ⟨j, u, z1, z2⟩
    · exact ⟨.inl z, fun y => h4.1 (y ▸ z)⟩
    rcases get_set z1 with ⟨_, z1, _⟩ | ⟨hj, z1⟩
    · cases z1
    · refine ⟨.inr ⟨j, u, z1, z2⟩, fun z => hj ?_⟩
      rw [z] at z2
      exact k.inj i j d u a e z1 h1 z2
  have m : ∀ b, Mall G (r.set i (.ar .c d)) s b → Mall G r s b := fun b z => z.elim .inl fun z => .inr (m' b z).1
  have na : ¬ Mall G (r.set i (.ar .c d)) s a := fun z => z.elim h3 fun z => (m' a z).2 rfl
  refine ⟨by simp [k.len], fun j f u q => ?_, fun j u q => ?_, fun j j' u u' b q q' z z' => ?_, k.sto.anti m, k.stp, k.m0, k.n0, fun p hp => (k.held p hp).mono Kp.refl Kp.refl (fun a _ n z => n (m a z)) (fun a _ n z => n (m' a z).1) io_refl⟩
  · rcases get_set q with ⟨rfl, q, hl⟩ | ⟨hj, q⟩
    · cases q
      exact ⟨_, h1, (h2.anti m).rep na⟩
    · obtain ⟨w, y1, y2⟩ := k.arg j f u q
      exact ⟨w, y1, y2.mono Kp.refl Kp.refl (fun a _ n z => n (m a z)) (fun a _ n z => n (m' a z).1) io_refl⟩
  · rcases get_set q with ⟨rfl, q, _⟩ | ⟨hj, q⟩
    · cases q
    · obtain ⟨b, y1, y2, y3, y4⟩ := k.own j u q
      exact ⟨b, y1, y2.anti m, y3, y4⟩
  · rcases get_set q with ⟨_, q, _⟩ | ⟨hj, q⟩
    · cases q
    · rcases get_set q' with ⟨_, q', _⟩ | ⟨hj', q'⟩
      · cases q'
      · exact k.inj j j' u u' b q q' z z'
/-- one's own is written -/
theorem Ok.mut {a : Addr} {o : HO} (k : Ok K ct G r S io s H) (e : r[i]? = some (.own d)) (h1 : s[i]? = some (some (V.ref a))) (hn : OwnAt K (Mall G r s) io (upd H a o) d' a) : Ok K ct G (r.set i (.own d')) S io s (upd H a o) := by
  obtain ⟨a', h1', h2, h3, h4⟩ := k.own i d e
  rw [h1] at h1'
  cases h1'
  have hl := lt_of_get e
  have m1 : ∀ b, Mown G (r.set i (.own d')) s b ↔ Mown G r s b := fun b => by
    constructor
    · rintro (z | ⟨j, u, z1, z2⟩)
      · exact .inl z
      rcases get_set z1 with ⟨rfl, z1, _⟩ | ⟨hj, z1⟩
      · exact .inr ⟨i, d, e, z2⟩
      · exact .inr ⟨j, u, z1, z2⟩
    · rintro (z | ⟨j, u, z1, z2⟩)
      · exact .inl z
      by_cases hj : i = j
      · subst hj
        exact .inr ⟨i, d', List.getElem?_set_self hl, z2⟩
      · exact .inr ⟨j, u, by rw [List.getElem?_set_ne hj]; exact z1, z2⟩
  have em : Mown G (r.set i (.own d')) s = Mown G r s := funext fun b => propext (m1 b)
  have eM : Mall G (r.set i (.own d')) s = Mall G r s := by unfold Mall; rw [em]
  have ma : Mown G r s a := .inr ⟨i, d, e, h1⟩
  obtain ⟨oa, ha, na⟩ := h2.there
  have tupne : ∀ b u, H b = some u → Im u → b ≠ a := fun b u q z y => by
    subst y
    rcases h2 with ⟨xs, vs, _, w, _⟩ | ⟨ks, xs, kvs, _, w, _⟩
    · rw [w] at q
      cases q
      exact not_im_lst z
    · rw [w] at q
      cases q
      exact not_im_dK z
  have kp : ∀ N : Addr → Prop, N a → Kp N H (upd H a o) := fun N na b u q ni z => by
    rw [upd_ne]
    · exact q
    · rcases z with z | z
      · exact fun y => z (y ▸ na)
      · exact tupne b u q z
  have st : StoOk K ct (Mall G r s) io S (upd H a o) := k.sto.mono (kp _ (.inr ma)) (fun _ _ n => n) (fun b C dx fs _ q => by
    rw [upd_ne]
    · exact q
    · intro y
      rw [y, ha] at q
      cases q
      exact na.1 _ _ _ rfl) fun b ps q => by
    rw [upd_ne]
    · exact q
    · intro y
      rw [y, ha] at q
      cases q
      exact na.2 _ rfl
  have h0 : ∀ b u, G.H0 b = some u → b ≠ a := fun b u q y => by
    rw [y, h4.2] at q
    cases q
  rw [← eM] at hn st
  refine ⟨by simp [k.len], fun j f u q => ?_, fun j u q => ?_, fun j j' u u' b q q' z z' => ?_, st, ⟨fun b u q n => ?_, fun b u q n nt => ?_, k.stp.pre, k.stp.new, fun b u q => ?_⟩, fun b z => ?_, fun b z => ?_, fun p hp => ?_⟩
  · rcases get_set q with ⟨rfl, q, _⟩ | ⟨hj, q⟩
    · cases q
    · obtain ⟨w, y1, y2⟩ := k.arg j f u q
      refine ⟨w, y1, ?_⟩
      rw [eM, em]
      exact y2.mono (kp _ (.inr ma)) (kp _ ma) (fun _ _ n => n) (fun _ _ n => n) io_refl
  · rcases get_set q with ⟨rfl, q, _⟩ | ⟨hj, q⟩
    · cases q
      exact ⟨a, h1, hn, h3, h4⟩
    · obtain ⟨b, y1, y2, y3, y4⟩ := k.own j u q
      refine ⟨b, y1, ?_, y3, y4⟩
      rw [eM]
      refine y2.mono (kp _ (.inr ma)) (fun _ _ n => n) io_refl fun o' w _ => ?_
      rw [upd_ne]
      · exact w
      · exact fun z => hj (k.inj i j d u a e q h1 (z ▸ y1))
  · rcases get_set q with ⟨rfl, q, _⟩ | ⟨hj, q⟩
    · rcases get_set q' with ⟨rfl, q', _⟩ | ⟨hj', q'⟩
      · rfl
      · exact k.inj i j' d u' b e q' z z'
    · rcases get_set q' with ⟨rfl, q', _⟩ | ⟨hj', q'⟩
      · exact k.inj j i u d b q e z z'
      · exact k.inj j j' u u' b q q' z z'
  · rw [upd_ne (h0 b u q)]
    exact k.stp.k1 b u q n
  · rw [upd_ne (h0 b u q)]
    exact k.stp.k2 b u q n nt
  · rw [upd_ne (h0 b u q)]
    exact k.stp.dom b u q
  · obtain ⟨u, w, n⟩ := k.m0 b z
    refine ⟨u, ?_, n⟩
    rw [upd_ne]
    · exact w
    · exact fun y => h3 (y ▸ z)
  · obtain ⟨u, ⟨w, n⟩, y⟩ := k.n0 b z
    refine ⟨u, ⟨?_, n⟩, y⟩
    rw [upd_ne]
    · exact w
    · exact fun y => h4.1 (y ▸ z)
  · rw [eM, em]
    exact (k.held p hp).mono (kp _ (.inr ma)) (kp _ ma) (fun _ _ n => n) (fun _ _ n => n) io_refl
end

/-! ### statements -/
def SRes (K : PySem.W.Frag) (ct : CT) (G : Gx) (W : WX) (D : Ends) : SR → Prop
  | .nx r' S' => ∀ s' io' H', Ok K ct G r' S' io' s' H' → D.nx s' H'
  | .bk r' S' => ∀ s' io' H', Ok K ct G r' S' io' s' H' → D.bk s' H'
  | .ct r' S' => ∀ s' io' H', Ok K ct G r' S' io' s' H' → D.ct s' H'
  | .rt d f S' => ∀ v io' H', Stp G.io0 G.H0 io' H' → ResOk K ct G.M0 (fun _ => False) G.H0 io' S' H' f d v → D.rt v H'
  | .er c p r' S' => ∀ dx s' io' H', Ok K ct G r' S' io' s' H' → ErrOk K (ct.fd c) io' H' p dx → W (.ref (ct.ad c)) dx s' H'
  | .no => False
def tS (K : PySem.W.Frag) (ct : CT) (G : Gx) (W : WX) (m : SM) : TS := fun D s H => ∃ r S io, Ok K ct G r S io s H ∧ SRes K ct G W D (m r S)
structure MS (X : Cx) (ct : CT) (st : Stmt) (m : SM) : Prop where
  run : ∀ (G : Gx) (W : WX), Takes X W → PassesOwn (model X.prog X.w) X.A X.env X.xe → PS X st (tS X.K ct G W m)
structure MSs (X : Cx) (ct : CT) (st : List Stmt) (m : SM) : Prop where
  run : ∀ (G : Gx) (W : WX), Takes X W → PassesOwn (model X.prog X.w) X.A X.env X.xe → PSs X st (tS X.K ct G W m)
def SR.bind (x : SR) (k : Env → Store → SR) : SR := match x with
  | .nx r S => k r S
  | x => x
/-- an expression ahead of what a statement does -/
def Rs.sb {α : Type} (x : Rs α) (r : Env) (k : α → Store → SR) : SR := match x with
  | .ok a S => k a S
  | .er c p S => .er c p r S
  | .no => .no
section
variable {K : PySem.W.Frag} {ct : CT} {G : Gx} {r : Env} {S S' S1 : Store} {io io' io1 : List Addr} {s : St} {H H' H1 : Hp} {W : WX} {De : Ends}
theorem SRes.first {α : Type} {x : Rs α} {k : α → Store → SR} {P : α → Store → List Addr → Hp → Prop} (o : Ok K ct G r S io s H) (h : SRes K ct G W De (x.sb r k))
    (n : ∀ a S1 io1 H1, x = .ok a S1 → Stp io H io1 H1 → StoOk K ct (Mall G r s) io1 S1 H1 → Ok K ct G r S1 io1 s H1 → SRes K ct G W De (k a S1) → P a S1 io1 H1) : Res K ct W (Mall G r s) s io H x P := by
  cases x with
  | ok a S' => exact fun io' H' t q => n a S' io' H' rfl t q (o.step t q) h
  | er c p S' => exact fun dx io' H' t q e => h dx s io' H' (o.step t q) e
  | no => exact h
theorem ms_one {X : Cx} {st : Stmt} {m : SM} (h : MS X ct st m) : MSs X ct [st] m := ⟨fun G W tk po => pss_one (h.run G W tk po)⟩
def sNil : SM := fun r S => .nx r S
def sSeq (a b : SM) : SM := fun r S => (a r S).bind b
theorem ms_nil {X : Cx} : MSs X ct [] sNil := ⟨fun G W tk po => pss_nil.imp fun D s H ⟨r, S, io, k, h⟩ => h s io H k⟩
theorem ms_cons {X : Cx} {st : Stmt} {rest : List Stmt} {m t : SM} (ha : MS X ct st m) (hb : MSs X ct rest t) : MSs X ct (st :: rest) (sSeq m t) :=
  ⟨fun G W tk po => (pss_cons (ha.run G W tk po) (hb.run G W tk po)).imp fun D s H ⟨r, S, io, k, h⟩ => by
    refine ⟨r, S, io, k, ?_⟩
    unfold sSeq at h
    cases e : m r S with
    | nx r' S' =>
      rw [e] at h
      exact fun s' io' H' k' => ⟨r', S', io', k', h⟩
    | rt d f S' => rw [e] at h; exact h
    | bk r' S' => rw [e] at h; exact h
    | ct r' S' => rw [e] at h; exact h
    | er c p r' S' => rw [e] at h; exact h
    | no => rw [e] at h; exact h⟩
section
variable {X : Cx} {pos : Pos}
/-- an expression alone -/
def sExpr (m : EM) : SM := fun r S => (m r S).sb r fun _ S1 => .nx r S1
theorem ms_expr {e : Expr} {m : EM} (h : ME X ct e m) (hs : swapsWith e none pos.line X.env = pure false := by rfl) : MS X ct (.Expr e pos) (sExpr m) :=
  ⟨fun G W tk _ => (ps_expr (h.run G W tk) hs).imp fun D s H ⟨r, S, io, k, h⟩ => ⟨r, S, io, k, SRes.first k h fun a S1 io1 H1 _ t q k1 h1 v _ => h1 s io1 H1 k1⟩⟩
theorem ms_doc {x j pos'} : MS X ct (.Expr (.Constant (.str x) j pos) pos') sNil := ⟨fun G W _ _ => ps_doc.imp fun D s H ⟨r, S, io, k, h⟩ => h s io H k⟩
theorem ms_pass : MS X ct (.Pass pos) sNil := ⟨fun G W _ _ => ps_pass.imp fun D s H ⟨r, S, io, k, h⟩ => h s io H k⟩
def sBrk : SM := fun r S => .bk r S
def sCont : SM := fun r S => .ct r S
theorem ms_brk : MS X ct (.Break pos) sBrk := ⟨fun G W _ _ => ps_break.imp fun D s H ⟨r, S, io, k, h⟩ => h s io H k⟩
theorem ms_cont : MS X ct (.Continue pos) sCont := ⟨fun G W _ _ => ps_continue.imp fun D s H ⟨r, S, io, k, h⟩ => h s io H k⟩
def sNever : SM := fun _ _ => .no
theorem ms_never {st : Stmt} : MS X ct st sNever := ⟨fun G W _ _ => ps_never.imp fun D s H ⟨r, S, io, k, h⟩ => h⟩
theorem mss_never {st : List Stmt} : MSs X ct st sNever := ⟨fun G W _ _ => pss_never.imp fun D s H ⟨r, S, io, k, h⟩ => h⟩
/-- return -/
theorem ResOk.out {f : Fl} {d : D} {v : V} (k : Ok K ct G r S io s H) (h : ResOk K ct (Mall G r s) (Mown G r s) H io' S' H' f d v) : ResOk K ct G.M0 (fun _ => False) G.H0 io' S' H' f d v :=
  (h.anti (fun a z => .inl z) fun a z => z.elim).back fun a z => k.stp.free z
def sRet (m : EM) : SM := fun r S => (m r S).sb r fun x S1 => .rt x.1 x.2 S1
theorem ms_ret {e : Expr} {m : EM} (h : ME X ct e m) : MS X ct (.Return (some e) pos) (sRet m) :=
  ⟨fun G W tk _ => (ps_ret (h.run G W tk)).imp fun D s H ⟨r, S, io, k, h⟩ => ⟨r, S, io, k, SRes.first k h fun a S1 io1 H1 _ t q k1 h1 v o => h1 v io1 H1 (k.stp.trans t) (o.out k)⟩⟩
def sRetN : SM := fun r S => .rt .non .c S
theorem ms_retN : MS X ct (.Return none pos) sRetN := ⟨fun G W tk _ => ps_retN.imp fun D s H ⟨r, S, io, k, h⟩ => h .non io H k.stp (ResOk.sc (f := .c) (by simp) .non (k.sto.anti fun a z => .inl z))⟩
/-- return x, x one's own -/
def sRetV (i : Nat) : SM := fun r S => match r[i]? with
  | some (.own d) => .rt d .n S
  | some (.ar f d) => .rt d (inf f) S
  | _ => .no
theorem ms_retV {i : Nat} {x : Str} {p : Pos} (h : PE X (.Name x p) (tVar i)) : MS X ct (.Return (some (.Name x p)) pos) (sRetV i) :=
  ⟨fun G W tk _ => (ps_ret h).imp fun D s H ⟨r, S, io, k, h⟩ => by
    unfold sRetV at h
    split at h
    · rename_i d e
      obtain ⟨a, h1, h2, h3, h4⟩ := k.own i d e
      refine ⟨_, h1, h _ io H k.stp ⟨a, rfl, h4.2, h3, h2.anti fun b z => z.elim .inl fun z => .inr (.inr ⟨i, d, e, z ▸ h1⟩), k.sto.anti fun b z => z.elim .inl fun z => .inr (.inr ⟨i, d, e, z ▸ h1⟩)⟩⟩
    · rename_i f d e
      obtain ⟨v, h1, h2⟩ := k.arg i _ _ e
      exact ⟨v, h1, h v io H k.stp (ResOk.out k (ResOk.mk inf_n h2.repF k.sto))⟩
    · exact h.elim⟩
/-- x = e -/
def sSet (i : Nat) (m : EM) : SM := fun r S => (m r S).sb r fun x S1 => if okst x.2 x.1 then .nx (r.set i (.ar .c x.1)) S1 else if x.2 = .b then .nx (r.set i (.ar .b x.1)) S1 else .no
def isLD : D → Bool
  | .lst _ => true
  | .dic _ _ => true
  | _ => false
def sOwn (i : Nat) (m : EM) : SM := fun r S => (m r S).sb r fun x S1 => if x.2 = .n then .nx (r.set i (.own x.1)) S1 else .no
theorem set_go {i : Nat} {m : EM} {s : St} {H : Hp} (h : tS X.K ct G W (sSet i m) De s H) : tAsg (tE X.K ct G W m) (gName i) De s H := by
  obtain ⟨r, S, io, k, h⟩ := h
  refine ⟨r, S, io, k, SRes.first k h fun x S1 io1 H1 _ t q k1 h1 v o => ?_⟩
  split at h1
  · rename_i g
    exact h1 _ io1 H1 (k1.setc (o.repF.clean g))
  · split at h1
    · rename_i g
      have o := o.repF
      rw [g] at o
      exact h1 _ io1 H1 (k1.seta (f := .b) o)
    · exact h1.elim
theorem own_go {i : Nat} {m : EM} {s : St} {H : Hp} (h : tS X.K ct G W (sOwn i m) De s H) : tAsg (tE X.K ct G W m) (gName i) De s H := by
  obtain ⟨r, S, io, k, h⟩ := h
  refine ⟨r, S, io, k, SRes.first k h fun x S1 io1 H1 _ t q k1 h1 v o => ?_⟩
  split at h1
  · rename_i g
    rw [g] at o
    obtain ⟨p, rfl, hp, np, o1, o2⟩ := o
    exact h1 _ io1 H1 (k.seto t hp np o1 o2)
  · exact h1.elim
theorem ms_set {i : Nat} {x : Str} {e : Expr} {m : EM} {pos' : Pos} (hN : X.N.Nodup) (hi : X.N[i]? = some x) (hx : Loc X.env.scope x) (h : ME X ct e m) (hs : swapsWith e (some (.Name x pos')) pos.line X.env = pure false := by rfl) (hf : X.fn x = true ∨ X.env.scope.names.lookup x = some .local := by first | exact .inl rfl | exact .inr rfl | assumption) :
    MS X ct (.Assign [.Name x pos'] e pos) (sSet i m) := ⟨fun G W tk _ => (ps_set hN hi hx (h.run G W tk) hs hf).imp fun D s H h => set_go h⟩
theorem ms_own {i : Nat} {x : Str} {e : Expr} {m : EM} {pos' : Pos} (hN : X.N.Nodup) (hi : X.N[i]? = some x) (hx : Loc X.env.scope x) (h : ME X ct e m) (hs : swapsWith e (some (.Name x pos')) pos.line X.env = pure false := by rfl) (hf : X.fn x = true ∨ X.env.scope.names.lookup x = some .local := by first | exact .inl rfl | exact .inr rfl | assumption) :
    MS X ct (.Assign [.Name x pos'] e pos) (sOwn i m) := ⟨fun G W tk _ => (ps_set hN hi hx (h.run G W tk) hs hf).imp fun D s H h => own_go h⟩
/-- what is one's own is written no more -/
def sDem (i : Nat) (m : SM) : SM := fun r S => match r[i]? with
  | some (.own d) => m (r.set i (.ar .c d)) S
  | _ => m r S
theorem ms_dem {i : Nat} {st : Stmt} {m : SM} (h : MS X ct st m) : MS X ct st (sDem i m) :=
  ⟨fun G W tk po => (h.run G W tk po).imp fun D s H ⟨r, S, io, k, h⟩ => by
    unfold sDem at h
    split at h
    · rename_i d e
      exact ⟨_, S, io, k.dem e, h⟩
    · exact ⟨r, S, io, k, h⟩⟩
theorem mss_dem {i : Nat} {st : List Stmt} {m : SM} (h : MSs X ct st m) : MSs X ct st (sDem i m) :=
  ⟨fun G W tk po => (h.run G W tk po).imp fun D s H ⟨r, S, io, k, h⟩ => by
    unfold sDem at h
    split at h
    · rename_i d e
      exact ⟨_, S, io, k.dem e, h⟩
    · exact ⟨r, S, io, k, h⟩⟩
/-- if -/
def sIf (t : TM) (a b : SM) : SM := fun r S => (t r S).sb r fun c S1 => if c then a r S1 else b r S1
theorem ms_if {c : Expr} {a b : List Stmt} {t : TM} {ma mb : SM} (hc : MT X ct c t) (ha : MSs X ct a ma) (hb : MSs X ct b mb) : MS X ct (.If c a b pos) (sIf t ma mb) :=
  ⟨fun G W tk po => (ps_if (hc.run G W tk) (ha.run G W tk po) (hb.run G W tk po)).imp fun D s H ⟨r, S, io, k, h⟩ => ⟨r, S, io, k, SRes.first k h fun x S1 io1 H1 _ t q k1 h1 => by
    cases x with
    | true => exact iteT ⟨r, S1, io1, k1, h1⟩
    | false => exact iteF ⟨r, S1, io1, k1, h1⟩⟩⟩
/-! while -/
def loopN (t : TM) (b : SM) : Nat → SM
  | 0, _, _ => .no
  | n + 1, r, S => (t r S).sb r fun c S1 => if c then (match b r S1 with
      | .nx r' S' => loopN t b n r' S'
      | .ct r' S' => loopN t b n r' S'
      | .bk r' S' => .nx r' S'
      | x => x) else .nx r S1
open Classical in
noncomputable def sWhile (t : TM) (b : SM) : SM := fun r S => if h : ∃ n, loopN t b n r S ≠ .no then loopN t b h.choose r S else .no
theorem loopN_stop {t : TM} {b : SM} : ∀ (n : Nat) (r : Env) (S : Store) (x : SR), loopN t b n r S = x → x ≠ .no → ∀ m, loopN t b (n + m) r S = x
  | 0, r, S, x, h, hx, _ => absurd h.symm hx
  | n + 1, r, S, x, h, hx, m => by
    rw [show n + 1 + m = (n + m) + 1 by omega]
    unfold loopN at h ⊢
    cases e : t r S with
    | er c p S' => rw [e] at h; exact h
    | no => rw [e] at h; exact absurd h.symm hx
    | ok c S1 =>
      rw [e] at h
      cases c with
      | false => exact h
      | true =>
        simp only [Rs.sb, if_true] at h ⊢
        cases e2 : b r S1 with
        | nx r' S' => rw [e2] at h; exact loopN_stop n r' S' x h hx m
        | ct r' S' => rw [e2] at h; exact loopN_stop n r' S' x h hx m
        | bk r' S' => rw [e2] at h; exact h
        | rt d f S' => rw [e2] at h; exact h
        | er c p r' S' => rw [e2] at h; exact h
        | no => rw [e2] at h; exact h
theorem sWhile_of {t : TM} {b : SM} {n : Nat} {r : Env} {S : Store} {x : SR} (h : loopN t b n r S = x) (hx : x ≠ .no) : sWhile t b r S = x := by
  have q : ∃ n, loopN t b n r S ≠ .no := ⟨n, by rw [h]; exact hx⟩
  unfold sWhile
  rw [dif_pos q]
  have h1 := loopN_stop _ r S _ rfl q.choose_spec n
  have h2 := loopN_stop n r S x h hx q.choose
  rw [Nat.add_comm, h1] at h2
  exact h2
theorem ms_while {c : Expr} {body : List Stmt} {t : TM} {m : SM} (hc : MT X ct c t) (hb : MSs X ct body m) : MS X ct (.While c body [] pos) (sWhile t m) :=
  ⟨fun G W tk po => (ps_while po (hc.run G W tk) (hb.run G W tk po)).imp fun D s H ⟨r, S, io, k, h⟩ => by
    unfold sWhile at h
    split at h
    · rename_i q
      refine ⟨fun n s H => ∃ r S io, Ok X.K ct G r S io s H ∧ SRes X.K ct G W D (loopN t m n r S), ⟨_, r, S, io, k, h⟩, fun n s H ⟨r, S, io, k, h⟩ => ?_⟩
      cases n with
      | zero => exact h.elim
      | succ n =>
        unfold loopN at h
        refine ⟨r, S, io, k, SRes.first k h fun x S1 io1 H1 _ t1 q k1 h1 => ?_⟩
        cases x with
        | false => exact iteF (h1 s io1 H1 k1)
        | true =>
          refine iteT ⟨fun s' H' => ∃ r S io, Ok X.K ct G r S io s' H' ∧ SRes X.K ct G W D (loopN t m n r S), fun s' H' w => ⟨n, Nat.lt_succ_self n, w⟩, r, S1, io1, k1, ?_⟩
          have h1 : SRes X.K ct G W D (match m r S1 with
            | .nx r' S' => loopN t m n r' S'
            | .ct r' S' => loopN t m n r' S'
            | .bk r' S' => .nx r' S'
            | x => x) := h1
          cases e : m r S1 with
          | nx r' S' => rw [e] at h1; exact fun s' io' H' k' => ⟨r', S', io', k', h1⟩
          | ct r' S' => rw [e] at h1; exact fun s' io' H' k' => ⟨r', S', io', k', h1⟩
          | bk r' S' => rw [e] at h1; exact h1
          | rt d f S' => rw [e] at h1; exact h1
          | er c p r' S' => rw [e] at h1; exact h1
          | no => rw [e] at h1; exact h1
    · exact h.elim⟩
end
end
end Mv

set_option maxRecDepth 100000
namespace L2
open PySem PySem.Spec PyProof.Rows
theorem PI.or {X : Cx} {tg e : Expr} {t u : TI} (h1 : PI X tg e t) (h2 : PI X tg e u) : PI X tg e (fun s H R => t s H R ∨ u s H R) := ⟨fun pins s σ H R I w => w.elim (h1.run pins s σ H R I) (h2.run pins s σ H R I)⟩
theorem PI.imp {X : Cx} {tg e : Expr} {t t' : TI} (h : PI X tg e t) (q : ∀ s H R, t' s H R → t s H R) : PI X tg e t' := ⟨fun pins s σ H R I w => h.run pins s σ H R I (q _ _ _ w)⟩
theorem PG.imp {X : Cx} {e : Expr} {t t' : TG} (h : PG X e t) (q : ∀ v s H Q, t' v s H Q → t v s H Q) : PG X e t' := ⟨fun pins s σ H v u Q I r w => h.run pins s σ H v u Q I r (q _ _ _ _ w)⟩
theorem PGs.imp {X : Cx} {e : List Expr} {t t' : TGs} (h : PGs X e t) (q : ∀ v s H Q, t' v s H Q → t v s H Q) : PGs X e t' := ⟨fun pins s σ H v u Q I r w => h.run pins s σ H v u Q I r (q _ _ _ _ w)⟩
section
variable {X : Cx} {CX : CXT} {k : Nat} {f C : Addr} {fd : FuncData} {ps : List Str} {sp : Sp} {E : L2.St → XK} {x m : Str} {p pos apos : Pos} {e o : Expr} {es : List Expr} {ta : TE} {t : TA}
/-- f() with the wish at the slots -/
theorem pe_callZ (F : FnOk X.prog X.w X.K X.mg X.base CX k f fd ps sp) (hr : Room k X.A) (hg : Gl X x) (hm : X.mg x = some (.ref f)) (hk : PySem.W.keepIn X.K (.ref f) = true) (hb : Binds X.K fd ps []) (hx : ∀ σ, PassesAt CX X σ (E σ))
    (hdb : (x == ("__debug__" : Str)) = false := by decide) : PE X (.Call (.Name x p) [] [] pos) (tCallS sp E tNil) :=
  ⟨fun pins s σ H Q I h => wpAny_Call_Name_kw (ld_glob I hg hm (PySem.W.callWith_K0 I.kIn hk (run_fnS (us := []) F hr hb (hx σ) I .nil h)) hdb)⟩
def tMethZ (C : Addr) (m : Str) (sp : Sp) (E : L2.St → XK) (ta : TE) (t : TA) : TE := fun σ H Q => ta σ H fun x H1 => ∃ a dx fs, x = .ref a ∧ H1 a = some (.ins C dx fs) ∧ fs.lookup m = none ∧
  t σ H1 fun vs H2 => sp (x :: vs) H2 Q (E σ)
theorem pe_methZ {pl : Sem Bool} (he : PE X o ta) (c : Cls X.K C) (hm : Meth X.K C m f) (F : FnOk X.prog X.w X.K X.mg X.base CX k f fd ps sp) (hr : Room k X.A) (hb : Binds X.K fd ps []) (hx : ∀ σ, PassesAt CX X σ (E σ)) (ha : PA X (e :: es) t)
    (hst : starEach (e :: es) X.env = (false, eval e X.env) :: starEach es X.env := by rfl) (hpl : (backTo pos (starEach es X.env)).any (·.1) = false := by rfl)
    (ht : eval (.Call (.Attribute o m apos) (e :: es) [] pos) X.env = (do
      let ov ← eval o X.env
      standAt apos.atName
      let (f, first) ← holding [ov] (getMethod ov m pl)
      callWith pos f first (backTo pos (starEach (e :: es) X.env)) (backToKw pos (keywordEach [] X.env))) := by rfl) :
    PE X (.Call (.Attribute o m apos) (e :: es) [] pos) (tMethZ C m sp E ta t) :=
  ⟨fun pins s σ H Q I h => PySem.W.methodCall_KW (pl := pl) (thn (he.run pins s σ H _ I h) fun u s1 ⟨x, H1, I1, rx, a, dx, fs, ex, ea, l, q⟩ => by
    cases ex
    cases rx
    exact getmeth_ok I1 ea c hm l (PySem.W.callWith_K (first := [.ref a]) (h₀ := X.base) I.ok.mod.kin hm.kp (thn (ha.run pos pins s1 σ H1 _ I1 q) fun us s2 ⟨vs, H2, I2, r, q2⟩ =>
      ⟨I2.kIn, run_fnS (us := .ref a :: us) (vs := .ref a :: vs) F hr hb (hx σ) I2 (.cons rfl r) q2⟩) hst hpl)) ht⟩
theorem pe_methZ0 {pl : Sem Bool} (he : PE X o ta) (c : Cls X.K C) (hm : Meth X.K C m f) (F : FnOk X.prog X.w X.K X.mg X.base CX k f fd ps sp) (hr : Room k X.A) (hb : Binds X.K fd ps []) (hx : ∀ σ, PassesAt CX X σ (E σ))
    (ht : eval (.Call (.Attribute o m apos) [] [] pos) X.env = (do
      let ov ← eval o X.env
      standAt apos.atName
      let (f, first) ← holding [ov] (getMethod ov m pl)
      callWith pos f first (backTo pos (starEach [] X.env)) (backToKw pos (keywordEach [] X.env))) := by rfl) :
    PE X (.Call (.Attribute o m apos) [] [] pos) (tMethZ C m sp E ta tNil) :=
  ⟨fun pins s σ H Q I h => PySem.W.methodCall_KW (pl := pl) (thn (he.run pins s σ H _ I h) fun u s1 ⟨x, H1, I1, rx, a, dx, fs, ex, ea, l, q⟩ => by
    cases ex
    cases rx
    exact getmeth_ok I1 ea c hm l (PySem.W.callWith_K0 (first := [.ref a]) I1.kIn hm.kp (run_fnS (us := [.ref a]) (vs := [.ref a]) F hr hb (hx σ) I1 (.cons rfl .nil) q))) ht⟩
def tMakeZ (C : Addr) (sp : Sp) (E : L2.St → XK) (t : TA) : TE := fun σ H Q => t σ H fun vs H1 => ∀ x dx, H1 x = none → H1 dx = none → dx ≠ x →
  sp (.ref x :: vs) (upd (upd H1 dx (.own x)) x (.ins C dx [])) (fun v H2 => v = .non ∧ Q (.ref x) H2) (E σ)
theorem run_makeZ {pins : List (Addr × Obj)} {σ : L2.St} {H : Hp} {s : Shared} {Q : VK} {us : List Value} {vs : List V} (M : Mk X.K C f) (F : FnOk X.prog X.w X.K X.mg X.base CX k f fd ps sp) (hr : Room (k + 1) X.A) (hb : Binds X.K fd ps [])
    (hx : PassesAt CX X σ (E σ)) (I : Inv X pins σ H s) (r : Vals vs us)
    (h : ∀ x dx, H x = none → H dx = none → dx ≠ x → sp (.ref x :: vs) (upd (upd H dx (.own x)) x (.ins C dx [])) (fun v H2 => v = .non ∧ Q (.ref x) H2) (E σ)) :
    wpAny (model X.prog X.w) X.A (call (.ref C) us) (EP X pins σ Q) X.xe s := by
  have hq := h (s.heap.objs.size + 1) s.heap.objs.size (I.hok.fresh (Nat.le_succ _)) (I.hok.fresh (Nat.le_refl _)) (Nat.ne_of_lt (Nat.lt_succ_self _))
  have J := Inv.made (C := C) I
  have rr : Vals (V.ref (s.heap.objs.size + 1) :: vs) (Value.ref (s.heap.objs.size + 1) :: us) := .cons rfl r
  have hl : (Value.ref (s.heap.objs.size + 1) :: us).length = ps.length := by rw [← rr.length]; exact F.len _ _ _ _ hq
  have bb := hb _ (Value.ref (s.heap.objs.size + 1) :: us) J.kIn (by rw [List.append_nil]; exact hl)
  rw [List.append_nil] at bb
  refine wpAny_call (make_map (f := f) I.kIn M.makes M.init (beq_iff_eq.mp M.fn) (codeAny_mono (F.run _ X.stack _ _ ⟨Value.ref (s.heap.objs.size + 1) :: us, []⟩ (Value.ref (s.heap.objs.size + 1) :: us) _ _ (E σ) (hr.make C us [])
    (J.env0.make C us []) bb rr hq) fun z s' hz => ?_))
  cases z with
  | error e => exact hx pins _ _ e s' J hz
  | ok fl =>
    cases fl with
    | ret u =>
      obtain ⟨v, H', J', rv, ev, q3⟩ := J.after hz
      cases ev
      exact ⟨rv, ⟨V.ref (s.heap.objs.size + 1), H', J', rfl, q3⟩⟩
    | next => exact hz.elim
    | brk => exact hz.elim
    | cont => exact hz.elim
theorem pe_makeZ (M : Mk X.K C f) (F : FnOk X.prog X.w X.K X.mg X.base CX k f fd ps sp) (hr : Room (k + 1) X.A) (hg : Gl X x) (hm : X.mg x = some (.ref C)) (hb : Binds X.K fd ps []) (hx : ∀ σ, PassesAt CX X σ (E σ))
    (ha : PA X (e :: es) t) (hdb : (x == ("__debug__" : Str)) = false := by decide) (he : starEach (e :: es) X.env = (false, eval e X.env) :: starEach es X.env := by rfl) (hpl : (backTo pos (starEach es X.env)).any (·.1) = false := by rfl) :
    PE X (.Call (.Name x p) (e :: es) [] pos) (tMakeZ C sp E t) :=
  ⟨fun pins s σ H Q I h => wpAny_Call_Name_kw (ld_glob I hg hm (PySem.W.callWith_K (h₀ := X.base) I.ok.mod.kin M.kp (thn (ha.run pos pins s σ H _ I h) fun us s1 ⟨vs, H1, I1, r, q⟩ => ⟨I1.kIn, run_makeZ M F hr hb (hx σ) I1 r q⟩) he hpl) hdb)⟩
theorem pe_makeZ0 (M : Mk X.K C f) (F : FnOk X.prog X.w X.K X.mg X.base CX k f fd ps sp) (hr : Room (k + 1) X.A) (hg : Gl X x) (hm : X.mg x = some (.ref C)) (hb : Binds X.K fd ps []) (hx : ∀ σ, PassesAt CX X σ (E σ))
    (hdb : (x == ("__debug__" : Str)) = false := by decide) : PE X (.Call (.Name x p) [] [] pos) (tMakeZ C sp E tNil) :=
  ⟨fun pins s σ H Q I h => wpAny_Call_Name_kw (ld_glob I hg hm (PySem.W.callWith_K0 I.kIn M.kp (run_makeZ (us := []) M F hr hb (hx σ) I .nil h)) hdb)⟩
end
end L2
namespace Mv
open PySem PySem.Spec PyProof.Rows L2
/-! ### what a def promises -/
abbrev FM := List (Fl × D) → Store → Rs (D × Fl)
def spM (K : PySem.W.Frag) (ct : CT) (np : Nat) (m : FM) : Sp := fun vs H Q E => vs.length = np ∧ ∃ as S io M0, ArgsOk K M0 (fun _ => False) io H as vs ∧ StoOk K ct M0 io S H ∧ (∀ a, M0 a → ∃ o, H a = some o ∧ NI o) ∧
  match m as S with
  | .ok x S' => ∀ v io' H', Stp io H io' H' → ResOk K ct M0 (fun _ => False) H io' S' H' x.2 x.1 v → Q v H'
  | .er c p S' => ∀ dx io' H', Stp io H io' H' → StoOk K ct M0 io' S' H' → ErrOk K (ct.fd c) io' H' p dx → E (.ref (ct.ad c)) dx H'
  | .no => False
def startE (as : List (Fl × D)) (N : Nat) : Env := as.map (fun x => .ar x.1 x.2) ++ List.replicate (N - as.length) .no
def fnM (N : Nat) (b : SM) : FM := fun as S => match b (startE as N) S with
  | .rt d f S' => .ok (d, f) S'
  | .nx _ S' => .ok (.non, .c) S'
  | .er c p _ S' => .er c p S'
  | _ => .no
section
variable {P : Program} {w : World} {K : PySem.W.Frag} {mg : Str → Option Value} {base : Heap} {ct : CT}
theorem noMown {as : List (Fl × D)} {n : Nat} {s : St} {M0 : Addr → Prop} {H : Hp} {io : List Addr} {a : Addr} : ¬ Mown ⟨M0, H, io, [], fun _ => False⟩ (startE as n) s a := fun z => by
  rcases z with z | ⟨i, d, h, _⟩
  · exact z
  · unfold startE at h
    have h := List.mem_of_getElem? h
    simp at h
theorem ok_start {N : Nat} {as : List (Fl × D)} {vs : List V} {S : Store} {io : List Addr} {M0 : Addr → Prop} {H : Hp} {ns : List Str} (hn : ns.length = N) (hl : vs.length ≤ N) (o : ArgsOk K M0 (fun _ => False) io H as vs) (q : StoOk K ct M0 io S H) (m : ∀ a, M0 a → ∃ o, H a = some o ∧ NI o) :
    Ok K ct ⟨M0, H, io, [], fun _ => False⟩ (startE as N) S io (L2.start ns vs) H := by
  have e : as.length = vs.length := Paired.length o
  have ma : ∀ a, Mall ⟨M0, H, io, [], fun _ => False⟩ (startE as N) (L2.start ns vs) a → M0 a := fun a z => z.elim id fun z => absurd z noMown
  refine ⟨?_, fun i f d h => ?_, fun i d h => ?_, fun i j d e a h => ?_, q.anti ma, Stp.refl, m, fun _ z => z.elim, fun _ h => nomatch h⟩
  · unfold startE L2.start
    simp [hn, e]
  · unfold startE at h
    rcases Nat.lt_or_ge i as.length with hi | hi
    · rw [List.getElem?_append_left (by simpa using hi), List.getElem?_map] at h
      obtain ⟨p, hp, e2⟩ := Option.map_eq_some_iff.mp h
      cases e2
      obtain ⟨v, h1, h2⟩ := paired_get o hp
      refine ⟨v, ?_, ?_⟩
      · unfold L2.start
        rw [List.getElem?_append_left (by simp; omega), List.getElem?_map, h1]
        rfl
      · have an : ∀ {d v}, Rep K M0 io H d v → Rep K (Mall ⟨M0, H, io, [], fun _ => False⟩ (startE as N) (L2.start ns vs)) io H d v := fun h => h.anti ma
        have go : (Rep K M0 io H p.2 v ∨ ∃ a, v = .ref a ∧ OwnAt K M0 io H p.2 a) → (Rep K (Mall ⟨M0, H, io, [], fun _ => False⟩ (startE as N) (L2.start ns vs)) io H p.2 v ∨ ∃ a, v = .ref a ∧ OwnAt K (Mall ⟨M0, H, io, [], fun _ => False⟩ (startE as N) (L2.start ns vs)) io H p.2 a ∧ ¬ Mown ⟨M0, H, io, [], fun _ => False⟩ (startE as N) (L2.start ns vs) a) :=
          fun h => h.elim (fun h => .inl (an h)) fun ⟨a, e, h⟩ => .inr ⟨a, e, h.anti ma, noMown⟩
        cases hf : p.1 with
        | c => rw [hf] at h2; exact an h2
        | n => rw [hf] at h2; exact an h2
        | b => rw [hf] at h2; exact go (h2.elim .inl fun ⟨a, e, h, _⟩ => .inr ⟨a, e, h⟩)
        | o => rw [hf] at h2; exact go h2
        | t => rw [hf] at h2; exact Rep.anti (fun a z => noMown z) h2
    · rw [List.getElem?_append_right (by simpa using hi), List.getElem?_replicate] at h
      split at h <;> cases h
  · exfalso
    unfold startE at h
    have h := List.mem_of_getElem? h
    simp at h
  · unfold startE at h
    have h := List.mem_of_getElem? h
    simp at h
theorem fn_ok {x qual : Str} {st : Stmt} {f : Addr} {fd : FuncData} {N ps : List Str} {k : Nat} {b : SM} (F : Fun K x qual st f fd) (Sc : FnScope N ps (defScope st))
    (hbody : ∀ (cdv : Value) (A : Around) (outer : List PySem.Env) (s : Shared) (H : Hp) (E : XK), Room k (A.deeper (envOfC qual (defScope st) s.heap.objs.size f cdv)) →
      MSs (cxOf (L2.CX P w) P w K mg base N qual (defScope st) f cdv A outer s H E) ct (defBody st) b) : FnOk P w K mg base (L2.CX P w) (k + 1) f fd ps (spM K ct ps.length (fnM N.length b)) := by
  refine F.okX Sc (fun vs H Q E h => h.1) fun cdv A outer s H vs Q E hr h => ?_
  obtain ⟨hl, as, S, io, M0, o, q, m, h⟩ := h
  have hpl : ps.length ≤ N.length := by
    have z := congrArg List.length Sc.pre
    rw [List.length_take] at z
    omega
  refine ⟨_, (hbody cdv A outer s H E hr).run ⟨M0, H, io, [], fun _ => False⟩ (fun cls d _ H => E cls d H) (takes_of rfl rfl rfl rfl) (passes_of rfl), startE as N.length, S, io, ok_start rfl (by omega) o q m, ?_⟩
  unfold fnM at h
  cases e : b (startE as N.length) S with
  | rt d f S' => rw [e] at h; exact h
  | nx r' S' =>
    rw [e] at h
    exact fun s' io' H' k' => h .non io' H' k'.stp (ResOk.sc (f := .c) (by simp) .non (k'.sto.anti fun a z => .inl z))
  | er c p r' S' =>
    rw [e] at h
    exact fun dx s' io' H' k' eo => h dx io' H' k'.stp (k'.sto.anti fun a z => .inl z) eo
  | bk r' S' => rw [e] at h; exact h.elim
  | ct r' S' => rw [e] at h; exact h.elim
  | no => rw [e] at h; exact h.elim
end
/-! ### calls -/
section
variable {X : Cx} {ct : CT} {pos : Pos}
theorem RepF.noN {K : PySem.W.Frag} {M N : Addr → Prop} {io : List Addr} {H : Hp} {f : Fl} {d : D} {v : V} (h : RepF K M N io H f d v) : RepF K M (fun _ => False) io H f d v := by
  cases f with
  | c => exact h
  | n => exact h
  | b => exact h.elim .inl fun ⟨a, e, z, _⟩ => .inr ⟨a, e, z, fun z => z⟩
  | o => exact h
  | t => exact h
def eFn (np : Nat) (m : FM) (t : AM) : EM := fun r S => (t r S).bind fun as S1 => if as.length = np then (m as S1).bind fun x S2 => .ok (x.1, outf x.2) S2 else .no
theorem sp_go {np : Nat} {m : FM} {G : Gx} {W : WX} {r : Env} {S : Store} {io : List Addr} {s : St} {H : Hp} {as : List (Fl × D)} {vs : List V} {P : D × Fl → Store → List Addr → Hp → Prop} {Q : VK} (k : Ok X.K ct G r S io s H)
    (o : ArgsOk X.K (Mall G r s) (Mown G r s) io H as vs) (h : Res X.K ct W (Mall G r s) s io H (if as.length = np then (m as S).bind fun x S2 => .ok (x.1, outf x.2) S2 else .no) P)
    (q : ∀ x S' v io' H', Stp io H io' H' → ResOk X.K ct (Mall G r s) (Mown G r s) H io' S' H' x.2 x.1 v → P x S' io' H' → Q v H') : spM X.K ct np m vs H Q (WE W s) := by
  split at h
  · rename_i hl
    refine ⟨by rw [← hl]; exact (Paired.length o).symm, as, S, io, Mall G r s, Paired.mapP o fun _ _ z => z.noN, k.sto, k.mdom, ?_⟩
    cases e : m as S with
    | ok x S' =>
      rw [e] at h
      exact fun v io' H' t z => q _ S' v io' H' t z.outf (h io' H' t z.sto)
    | er c p S' =>
      rw [e] at h
      exact h
    | no =>
      rw [e] at h
      exact h
  · exact h.elim
theorem fncall_go {np : Nat} {m : FM} {t : AM} {G : Gx} {W : WX} {s : St} {H : Hp} {Q : VK} (h : tE X.K ct G W (eFn np m t) s H Q) : tCallS (spM X.K ct np m) (WE W) (tA X.K ct G W t) s H Q := by
  obtain ⟨r, S, io, k, h⟩ := h
  refine ⟨r, S, io, k, Res.first h fun as S1 io1 H1 e1 t1 q1 h1 vs o => ?_⟩
  exact sp_go (k.step t1 q1) o h1 fun x S' v io' H' t' z p => p v (z.back fun a y => t1.free y)
/-- a def of the text: where it stands, what it promises -/
structure FnG (P : Program) (w : World) (K : PySem.W.Frag) (mg : Str → Option Value) (base : Heap) (ct : CT) (k : Nat) (x : Str) (np : Nat) (m : FM) : Prop where
  ex : ∃ (f : Addr) (fd : FuncData) (ps : List Str), FnOk P w K mg base (L2.CX P w) k f fd ps (spM K ct np m) ∧ mg x = some (.ref f) ∧ PySem.W.keepIn K (.ref f) = true ∧ Binds K fd ps []
abbrev FnT (X : Cx) (ct : CT) (k : Nat) (x : Str) (np : Nat) (m : FM) : Prop := FnG X.prog X.w X.K X.mg X.base ct k x np m
theorem me_call {x : Str} {p : Pos} {e : Expr} {es : List Expr} {k np : Nat} {m : FM} {t : AM} (F : FnT X ct k x np m) (hr : Room k X.A) (hg : Gl X x) (ha : MA X ct (e :: es) t)
    (hdb : (x == ("__debug__" : Str)) = false := by decide) (he : starEach (e :: es) X.env = (false, eval e X.env) :: starEach es X.env := by rfl) (hpl : (backTo pos (starEach es X.env)).any (·.1) = false := by rfl) :
    ME X ct (.Call (.Name x p) (e :: es) [] pos) (eFn np m t) := by
  obtain ⟨f, fd, ps, F, hm, hk, hb⟩ := F.ex
  exact ⟨fun G W tk => (pe_callS F hr hg hm hk hb (passAt tk) (ha.run G W tk) hdb he hpl).imp fun s H Q h => fncall_go h⟩
theorem me_call0 {x : Str} {p : Pos} {k np : Nat} {m : FM} (F : FnT X ct k x np m) (hr : Room k X.A) (hg : Gl X x) (hdb : (x == ("__debug__" : Str)) = false := by decide) : ME X ct (.Call (.Name x p) [] [] pos) (eFn np m aNil) := by
  obtain ⟨f, fd, ps, F, hm, hk, hb⟩ := F.ex
  refine ⟨fun G W tk => (pe_callZ F hr hg hm hk hb (passAt tk) hdb).imp fun s H Q h => ?_⟩
  obtain ⟨r, S, io, k, h⟩ := fncall_go h
  exact h.here k.sto [] .nil
/-- a method of the class number C -/
structure MeG (P : Program) (w : World) (K : PySem.W.Frag) (mg : Str → Option Value) (base : Heap) (ct : CT) (k C : Nat) (x : Str) (np : Nat) (m : FM) : Prop where
  ex : ∃ (f : Addr) (fd : FuncData) (ps : List Str), FnOk P w K mg base (L2.CX P w) k f fd ps (spM K ct np m) ∧ Cls K (ct.ad C) ∧ Meth K (ct.ad C) x f ∧ Binds K fd ps [] ∧ x ∉ ct.fd C ∧ ct.ex C = false
abbrev MeT (X : Cx) (ct : CT) (k C : Nat) (x : Str) (np : Nat) (m : FM) : Prop := MeG X.prog X.w X.K X.mg X.base ct k C x np m
theorem MeG.mono {P : Program} {w : World} {K : PySem.W.Frag} {mg : Str → Option Value} {base : Heap} {ct : CT} {j k C : Nat} {x : Str} {np : Nat} {m : FM} (h : MeG P w K mg base ct j C x np m) (l : j ≤ k) : MeG P w K mg base ct k C x np m := by
  obtain ⟨f, fd, ps, F, r⟩ := h.ex
  exact ⟨f, fd, ps, F.mono l, r⟩
def eMe (np : Nat) (tab : Nat → Option FM) (mo : EM) (t : AM) : EM := fun r S => match mo r S with
  | .ok (.ins n, _) S1 => match S1[n]? with
    | some (C, _) => match tab C with
      | some m => (t r S1).bind fun as S2 => if (as.length + 1) = np then (m ((.c, .ins n) :: as) S2).bind fun x S3 => .ok (x.1, outf x.2) S3 else .no
      | none => .no
    | none => .no
  | _ => .no
theorem lookup_none_of {n : Str} {gs : List (Str × V)} {ns : List Str} {k : Nat} (h : gs.map Prod.fst = ns.take k) (z : n ∉ ns) : gs.lookup n = none := by
  cases e : gs.lookup n with
  | none => rfl
  | some v =>
    have q : n ∈ gs.map Prod.fst := List.mem_map.mpr ⟨(n, v), PySem.mem_of_lookup e, rfl⟩
    rw [h] at q
    exact absurd (List.mem_of_mem_take q) z
theorem ins_of {K : PySem.W.Frag} {M N : Addr → Prop} {io : List Addr} {H : Hp} {f : Fl} {n : Nat} {v : V} (h : RepF K M N io H f (.ins n) v) : ∃ a, v = .ref a ∧ io[n]? = some a := by
  have q := h.weak
  cases q with
  | ins e => exact ⟨_, rfl, e⟩
theorem meth_go {np : Nat} {tab : Nat → Option FM} {mo : EM} {t : AM} {x : Str} {G : Gx} {W : WX} {s : St} {H : Hp} {Q : VK} (hx : ∀ C m, tab C = some m → x ∉ ct.fd C ∧ ct.ex C = false) (h : tE X.K ct G W (eMe np tab mo t) s H Q) :
    ∃ z : {z : Nat × FM // tab z.1 = some z.2}, tMethZ (ct.ad z.1.1) x (spM X.K ct np z.1.2) (WE W) (tE X.K ct G W mo) (tA X.K ct G W t) s H Q := by
  obtain ⟨r, S, io, k, h⟩ := h
  unfold eMe at h
  split at h
  · rename_i n fl S1 e
    split at h
    · rename_i C vs0 e2
      split at h
      · rename_i m e3
        refine ⟨⟨(C, m), e3⟩, r, S, io, k, ?_⟩
        rw [e]
        intro io1 H1 t1 q1 v o
        obtain ⟨a, ev, ea⟩ := ins_of o.repF
        obtain ⟨a', dx, gs, h1, h2, h3⟩ := q1.at_ n C vs0 e2 (hx C m e3).2
        rw [ea] at h1
        cases h1
        refine ⟨a, dx, gs, ev, h2, lookup_none_of h3.1 (hx C m e3).1, r, S1, io1, k.step t1 q1, Res.first (h.shift t1) fun as S2 io2 H2 e5 t2 q2 h5 vs o2 => ?_⟩
        have k2 := (k.step t1 q1).step t2 q2
        refine sp_go (as := (.c, .ins n) :: as) k2 (.cons (by rw [ev]; exact Rep.ins (io_get t2.pre ea)) o2) h5 fun x S' v io' H' t' z p => p v (z.back fun a y => t1.free (t2.free y))
      · exact h.elim
    · exact h.elim
  · exact h.elim
theorem me_meth {x : Str} {o e : Expr} {es : List Expr} {apos : Pos} {k np : Nat} {tab : Nat → Option FM} {mo : EM} {t : AM} {pl : Sem Bool} (ho : ME X ct o mo) (T : ∀ C m, tab C = some m → MeT X ct k C x np m) (hr : Room k X.A) (ha : MA X ct (e :: es) t)
    (hst : starEach (e :: es) X.env = (false, eval e X.env) :: starEach es X.env := by rfl) (hpl : (backTo pos (starEach es X.env)).any (·.1) = false := by rfl)
    (ht : eval (.Call (.Attribute o x apos) (e :: es) [] pos) X.env = (do
      let ov ← eval o X.env
      standAt apos.atName
      let (f, first) ← holding [ov] (getMethod ov x pl)
      callWith pos f first (backTo pos (starEach (e :: es) X.env)) (backToKw pos (keywordEach [] X.env))) := by rfl) :
    ME X ct (.Call (.Attribute o x apos) (e :: es) [] pos) (eMe np tab mo t) :=
  ⟨fun G W tk => (PE.ex fun z : {z : Nat × FM // tab z.1 = some z.2} => show PE X _ (tMethZ (ct.ad z.1.1) x (spM X.K ct np z.1.2) (WE W) (tE X.K ct G W mo) (tA X.K ct G W t)) by
    obtain ⟨f, fd, ps, F, c, hm, hb, _⟩ := (T z.1.1 z.1.2 z.2).ex
    exact pe_methZ (ho.run G W tk) c hm F hr hb (passAt tk) (ha.run G W tk) hst hpl ht).imp fun s H Q h => meth_go (fun C m e => by
      obtain ⟨_, _, _, _, _, _, _, z⟩ := (T C m e).ex
      exact z) h⟩
theorem me_meth0 {x : Str} {o : Expr} {apos : Pos} {k np : Nat} {tab : Nat → Option FM} {mo : EM} {pl : Sem Bool} (ho : ME X ct o mo) (T : ∀ C m, tab C = some m → MeT X ct k C x np m) (hr : Room k X.A)
    (ht : eval (.Call (.Attribute o x apos) [] [] pos) X.env = (do
      let ov ← eval o X.env
      standAt apos.atName
      let (f, first) ← holding [ov] (getMethod ov x pl)
      callWith pos f first (backTo pos (starEach [] X.env)) (backToKw pos (keywordEach [] X.env))) := by rfl) :
    ME X ct (.Call (.Attribute o x apos) [] [] pos) (eMe np tab mo aNil) :=
  ⟨fun G W tk => (PE.ex fun z : {z : Nat × FM // tab z.1 = some z.2} => show PE X _ (tMethZ (ct.ad z.1.1) x (spM X.K ct np z.1.2) (WE W) (tE X.K ct G W mo) tNil) by
    obtain ⟨f, fd, ps, F, c, hm, hb, _⟩ := (T z.1.1 z.1.2 z.2).ex
    exact pe_methZ0 (ho.run G W tk) c hm F hr hb (passAt tk) ht).imp fun s H Q h => by
      obtain ⟨z, r, S, io, k, h⟩ := meth_go (fun C m e => by
        obtain ⟨_, _, _, _, _, _, _, z⟩ := (T C m e).ex
        exact z) h
      refine ⟨z, r, S, io, k, Res.imp h fun x S1 io1 H1 t1 q1 h1 v o => ?_⟩
      obtain ⟨a, dx, gs, e1, e2, e3, r2, S2, io2, k2, h2⟩ := h1 v o
      exact ⟨a, dx, gs, e1, e2, e3, h2.here k2.sto [] .nil⟩⟩
/-- o.f -/
def eFld (cs : List Nat) (i : Nat) (mo : EM) : EM := fun r S => (mo r S).bind fun o S1 => match o.1 with
  | .ins n => match S1[n]? with
    | some (C, vs) => if cs.contains C then (match vs[i]? with
      | some d => .ok (d, .c) S1
      | none => .no) else .no
    | none => .no
  | _ => .no
structure FdT (K : PySem.W.Frag) (ct : CT) (f : Str) (i C : Nat) : Prop where
  cl : Cls K (ct.ad C)
  na : NoAttr K (ct.ad C) f
  ix : (ct.fd C)[i]? = some f
  nd : (ct.fd C).Nodup
  nx : ct.ex C = false := by rfl
theorem lookup_nodup {f : Str} {v : V} : ∀ {gs : List (Str × V)} {i : Nat}, (gs.map Prod.fst).Nodup → gs[i]? = some (f, v) → gs.lookup f = some v
  | [], _, _, h => by simp at h
  | (g, w) :: gs, 0, _, h => by
    simp at h
    rw [List.lookup_cons, h.1]
    simp [h.2]
  | (g, w) :: gs, i + 1, nd, h => by
    rw [List.map_cons, List.nodup_cons] at nd
    have h' : gs[i]? = some (f, v) := by simpa using h
    have ne : (f == g) = false := by
      refine beq_false_of_ne fun z => nd.1 ?_
      rw [← z]
      exact List.mem_map.mpr ⟨(f, v), List.mem_of_getElem? h', rfl⟩
    rw [List.lookup_cons, ne]
    exact lookup_nodup nd.2 h'
theorem FldOk.look {K : PySem.W.Frag} {M : Addr → Prop} {io : List Addr} {H : Hp} {ns : List Str} {fs : List D} {gs : List (Str × V)} {i : Nat} {f : Str} {d : D} (h : FldOk K M io H ns fs gs) (nd : ns.Nodup) (hi : ns[i]? = some f) (hd : fs[i]? = some d) :
    ∃ v, gs.lookup f = some v ∧ Rep K M io H d v := by
  obtain ⟨v, h1, h2⟩ := h.2.get hd
  rw [List.getElem?_map] at h1
  obtain ⟨p, hp, e⟩ := Option.map_eq_some_iff.mp h1
  refine ⟨v, lookup_nodup (i := i) ?_ ?_, h2⟩
  · rw [h.1]
    exact nd.sublist (List.take_sublist _ _)
  · have q : (gs.map Prod.fst)[i]? = some f := by
      rw [h.1, List.getElem?_take_of_lt (List.getElem?_eq_some_iff.mp hd).1]
      exact hi
    rw [List.getElem?_map, hp] at q
    have q := Option.some.inj q
    rw [hp, ← e, ← q]
theorem me_fld {o : Expr} {f : Str} {cs : List Nat} {i : Nat} {mo : EM} (ho : ME X ct o mo) (T : ∀ C ∈ cs, FdT X.K ct f i C) (hb : attributeBase o f X.env (eval o X.env) = eval o X.env := by rfl) : ME X ct (.Attribute o f pos) (eFld cs i mo) :=
  ⟨fun G W tk => (pe_fld (ho.run G W tk) hb).imp fun s H Q ⟨r, S, io, k, h⟩ => ⟨r, S, io, k, Res.first h fun o S1 io1 H1 e1 t1 q1 h1 v ov => by
    split at h1
    · rename_i n e
      have o2 := ov.repF
      rw [e] at o2
      obtain ⟨a, ev, ea⟩ := ins_of o2
      split at h1
      · rename_i C vs e2
        split at h1
        · rename_i hc
          obtain ⟨a', dx, gs, y1, y2, y3⟩ := q1.at_ n C vs e2 (T C (by simpa using hc)).nx
          rw [ea] at y1
          cases y1
          split at h1
          · rename_i d e3
            have T := T C (by simpa using hc)
            obtain ⟨w, z1, z2⟩ := y3.look T.nd T.ix e3
            exact ⟨a, _, dx, gs, w, ev, y2, T.cl, T.na, z1, h1.here q1 w (ResOk.mk (f := .c) (by simp) z2 q1)⟩
          · exact h1.elim
        · exact h1.elim
      · exact h1.elim
    · exact h1.elim⟩⟩
/-- C(..) -/
structure MkG (P : Program) (w : World) (K : PySem.W.Frag) (mg : Str → Option Value) (base : Heap) (ct : CT) (k C : Nat) (x : Str) (np : Nat) (m : FM) : Prop where
  ex : ∃ (f : Addr) (fd : FuncData) (ps : List Str), FnOk P w K mg base (L2.CX P w) k f fd ps (spM K ct np m) ∧ Mk K (ct.ad C) f ∧ mg x = some (.ref (ct.ad C)) ∧ Binds K fd ps [] ∧ ct.ex C = false
abbrev MkT (X : Cx) (ct : CT) (k C : Nat) (x : Str) (np : Nat) (m : FM) : Prop := MkG X.prog X.w X.K X.mg X.base ct k C x np m
def eNew (C np : Nat) (m : FM) (t : AM) : EM := fun r S => (t r S).bind fun as S1 => if as.length + 1 = np then (m ((.c, .ins S1.length) :: as) (S1 ++ [(C, [])])).bind fun x S2 => match x.1 with
  | .non => .ok (.ins S1.length, .c) S2
  | _ => .no else .no
theorem made_sto {K : PySem.W.Frag} {M : Addr → Prop} {io : List Addr} {S : Store} {H : Hp} {C : Nat} {x dx : Addr} (q : StoOk K ct M io S H) (ne0 : ct.ex C = false) (hx : H x = none) (hd : H dx = none) (ne : dx ≠ x) :
    Stp io H (io ++ [x]) (upd (upd H dx (.own x)) x (.ins (ct.ad C) dx [])) ∧ StoOk K ct M (io ++ [x]) (S ++ [(C, [])]) (upd (upd H dx (.own x)) x (.ins (ct.ad C) dx [])) := by
  have hx' : upd H dx (.own x) x = none := by rw [upd_ne (Ne.symm ne)]; exact hx
  have t0 : Stp io H io (upd (upd H dx (.own x)) x (.ins (ct.ad C) dx [])) := (Stp.upd hd).trans (Stp.upd hx')
  have nx : x ∉ io := fun z => by
    obtain ⟨i, hi, e⟩ := List.getElem_of_mem z
    have hS : i < S.length := by rw [q.len]; exact hi
    obtain ⟨b, o', h1, h2⟩ := q.io_at hS
    rw [List.getElem?_eq_getElem hi, e] at h1
    cases h1
    rw [hx] at h2
    cases h2
  have t : Stp io H (io ++ [x]) (upd (upd H dx (.own x)) x (.ins (ct.ad C) dx [])) := ⟨t0.k1, t0.k2, ⟨[x], rfl⟩, fun a h n => by
    rcases List.mem_append.mp h with h | h
    · exact absurd h n
    · rw [List.mem_singleton.mp h]
      exact hx, t0.dom⟩
  refine ⟨t, by simp [q.len], fun n C' fs e x' => ?_, fun n C' fs e x' => ?_, ?_, tabs_mono (M := fun _ => False) q.tb t.kp fun a ps e => by rw [upd_ne (ne_of_none e hx), upd_ne (ne_of_none e hd)]; exact e⟩
  · rcases Nat.lt_or_ge n S.length with hn | hn
    · rw [List.getElem?_append_left hn] at e
      obtain ⟨a, dx', gs, h1, h2, h3, h4⟩ := q.at_ n C' fs e x'
      refine ⟨a, dx', gs, by rw [List.getElem?_append_left (by rw [← q.len]; exact hn)]; exact h1, ?_, h3, h4.stp t⟩
      rw [upd_ne (ne_of_none h2 hx), upd_ne (ne_of_none h2 hd)]
      exact h2
    · rw [List.getElem?_append_right hn] at e
      have hn0 : n - S.length = 0 := by
        have := (List.getElem?_eq_some_iff.mp e).1
        simp at this
        omega
      rw [hn0] at e
      cases e
      refine ⟨x, dx, [], ?_, upd_same, rfl, .nil⟩
      rw [List.getElem?_append_right (by rw [← q.len]; exact hn), ← q.len, hn0]
      rfl
  · rcases Nat.lt_or_ge n S.length with hn | hn
    · rw [List.getElem?_append_left hn] at e
      obtain ⟨a, d, h1, h2, h3⟩ := q.ax n C' fs e x'
      refine ⟨a, d, by rw [List.getElem?_append_left (by rw [← q.len]; exact hn)]; exact h1, ?_, h3.mono (M := fun _ => False) t.kp t.pre⟩
      rw [upd_ne (ne_of_none h2 hx), upd_ne (ne_of_none h2 hd)]
      exact h2
    · rw [List.getElem?_append_right hn] at e
      have hn0 : n - S.length = 0 := by
        have := (List.getElem?_eq_some_iff.mp e).1
        simp at this
        omega
      rw [hn0] at e
      cases e
      rw [ne0] at x'
      cases x'
  · rw [List.nodup_append]
    refine ⟨q.nd, by simp, fun a ha b hb e => ?_⟩
    rw [List.mem_singleton.mp hb] at e
    exact nx (e ▸ ha)
theorem make_go {np C : Nat} {m : FM} {t : AM} {G : Gx} {W : WX} {s : St} {H : Hp} {Q : VK} (nx : ct.ex C = false) (h : tE X.K ct G W (eNew C np m t) s H Q) : tMakeZ (ct.ad C) (spM X.K ct np m) (WE W) (tA X.K ct G W t) s H Q := by
  obtain ⟨r, S, io, k, h⟩ := h
  refine ⟨r, S, io, k, Res.first h fun as S1 io1 H1 e1 t1 q1 h1 vs o x dx hx hd ne => ?_⟩
  have k1 := k.step t1 q1
  split at h1
  · rename_i hl
    obtain ⟨t2, q2⟩ := made_sto (C := C) q1 nx hx hd ne
    have k2 := k1.step t2 q2
    have hlen : vs.length = as.length := (Paired.length o).symm
    have ei : (io1 ++ [x])[S1.length]? = some x := by
      rw [List.getElem?_append_right (by rw [q1.len]; exact Nat.le_refl _), q1.len, Nat.sub_self]
      rfl
    refine ⟨by rw [List.length_cons, hlen]; exact hl, (.c, .ins S1.length) :: as, S1 ++ [(C, [])], io1 ++ [x], Mall G r s, .cons (Rep.ins ei) (Paired.mapP (o.stp t2) fun _ _ z => z.noN), q2, k2.mdom, ?_⟩
    have h1 := h1.shift t2
    cases e : m ((.c, .ins S1.length) :: as) (S1 ++ [(C, [])]) with
    | ok y S' =>
      rw [e] at h1
      have h1 : Res X.K ct W (Mall G r s) s (io1 ++ [x]) (upd (upd H1 dx (.own x)) x (.ins (ct.ad C) dx [])) (match y.1 with
        | .non => Rs.ok (D.ins S1.length, Fl.c) S'
        | _ => .no) _ := h1
      intro v io' H' t3 z
      split at h1
      · rename_i e4
        have o4 := z.repF
        rw [e4] at o4
        exact ⟨non_of o4, h1 io' H' t3 z.sto (.ref x) ⟨Rep.ins (io_get t3.pre ei), z.sto⟩⟩
      · exact h1.elim
    | er c p S' =>
      rw [e] at h1
      exact h1
    | no =>
      rw [e] at h1
      exact h1
  · exact h1.elim
theorem me_new {x : Str} {p : Pos} {e : Expr} {es : List Expr} {k C np : Nat} {m : FM} {t : AM} (F : MkT X ct k C x np m) (hr : Room (k + 1) X.A) (hg : Gl X x) (ha : MA X ct (e :: es) t)
    (hdb : (x == ("__debug__" : Str)) = false := by decide) (he : starEach (e :: es) X.env = (false, eval e X.env) :: starEach es X.env := by rfl) (hpl : (backTo pos (starEach es X.env)).any (·.1) = false := by rfl) :
    ME X ct (.Call (.Name x p) (e :: es) [] pos) (eNew C np m t) := by
  obtain ⟨f, fd, ps, F, M, hm, hb, nx⟩ := F.ex
  exact ⟨fun G W tk => (pe_makeZ M F hr hg hm hb (passAt tk) (ha.run G W tk) hdb he hpl).imp fun s H Q h => make_go nx h⟩
theorem me_new0 {x : Str} {p : Pos} {k C np : Nat} {m : FM} (F : MkT X ct k C x np m) (hr : Room (k + 1) X.A) (hg : Gl X x) (hdb : (x == ("__debug__" : Str)) = false := by decide) : ME X ct (.Call (.Name x p) [] [] pos) (eNew C np m aNil) := by
  obtain ⟨f, fd, ps, F, M, hm, hb, nx⟩ := F.ex
  refine ⟨fun G W tk => (pe_makeZ0 M F hr hg hm hb (passAt tk) hdb).imp fun s H Q h => ?_⟩
  obtain ⟨r, S, io, k, h⟩ := make_go nx h
  exact h.here k.sto [] .nil
end
/-! ### where the text's defs stand -/
section
variable {P : Program} {w : World} {K : PySem.W.Frag} {mg : Str → Option Value} {base : Heap} {ct : CT}
def FunO (K : PySem.W.Frag) (mg : Str → Option Value) (x : Str) (st : Stmt) (ps : List Str) : Prop := ∃ (f : Addr) (fd : FuncData), Fun K x x st f fd ∧ mg x = some (.ref f) ∧ ∀ us : List Value, us.length = ps.length → bindArgs fd ⟨us, []⟩ = pure (ps.zip us)
def MeO (K : PySem.W.Frag) (C : Addr) (x qual : Str) (st : Stmt) (ps : List Str) : Prop := ∃ (f : Addr) (fd : FuncData), Fun K x qual st f fd ∧ Meth K C x f ∧ Binds K fd ps []
def MkO (K : PySem.W.Frag) (mg : Str → Option Value) (C : Addr) (x qual : Str) (st : Stmt) (ps : List Str) : Prop := ∃ (f : Addr) (fd : FuncData), Fun K "__init__" qual st f fd ∧ Mk K C f ∧ mg x = some (.ref C) ∧ Binds K fd ps []
theorem FunO.mk' {x : Str} {st : Stmt} {ps : List Str} {f : Addr} {oc : Value} {od an : Option Addr} {osl : Array (Option Value)} {kV doc pm cdv ctv : Value} {h : Heap} (X : K.In h) (G : h.Ns mainGlobals mg) (a : PySem.W.nsIn K mainGlobals x = some (some (.ref f)))
    (l : K.lookup f = some ⟨oc, od, .func (PySem.W.fnOf x x (defArgs st) (defBody st) (defScope st) .none kV doc pm an cdv ctv), osl⟩) (c : PySem.W.codeIn K cdv x = true) (k : PySem.W.keepIn K (.ref f) = true)
    (hb : ∀ (kV doc pm : Value) (an : Option Addr) (cdv ct : Value) (us : List Value), us.length = ps.length → bindArgs (PySem.W.fnOf x x (defArgs st) (defBody st) (defScope st) .none kV doc pm an cdv ct) ⟨us, []⟩ = pure (ps.zip us)) : FunO K mg x st ps :=
  ⟨f, _, fun_mk l c k, PySem.W.mg_of X G a, hb kV doc pm an cdv ctv⟩
theorem MeO.mk' {C : Addr} {x qual : Str} {st : Stmt} {ps : List Str} {f : Addr} {oc : Value} {od an : Option Addr} {osl : Array (Option Value)} {kV doc pm cdv ctv : Value} (a : PySem.W.findIn K (.ref C) x = some (some (.ref f))) (i : PySem.W.isFn K (.ref f) = true)
    (l : K.lookup f = some ⟨oc, od, .func (PySem.W.fnOf x qual (defArgs st) (defBody st) (defScope st) .none kV doc pm an cdv ctv), osl⟩) (c : PySem.W.codeIn K cdv qual = true) (k : PySem.W.keepIn K (.ref f) = true)
    (hb : ∀ (kV doc pm : Value) (an : Option Addr) (cdv ct : Value) (us : List Value), us.length = ps.length → bindArgs (PySem.W.fnOf x qual (defArgs st) (defBody st) (defScope st) .none kV doc pm an cdv ct) ⟨us, []⟩ = pure (ps.zip us)) : MeO K C x qual st ps :=
  ⟨f, _, fun_mk l c k, ⟨a, i, k⟩, (fun_mk l c k).binds hb⟩
theorem MkO.mk' {C : Addr} {x qual : Str} {st : Stmt} {ps : List Str} {f : Addr} {oc : Value} {od an : Option Addr} {osl : Array (Option Value)} {kV doc pm cdv ctv : Value} {h : Heap} (X : K.In h) (G : h.Ns mainGlobals mg) (aC : PySem.W.nsIn K mainGlobals x = some (some (.ref C)))
    (mk : PySem.W.makesIn K C = true) (kc : PySem.W.keepIn K (.ref C) = true) (a : PySem.W.findIn K (.ref C) "__init__" = some (some (.ref f))) (i : PySem.W.isFn K (.ref f) = true)
    (l : K.lookup f = some ⟨oc, od, .func (PySem.W.fnOf "__init__" qual (defArgs st) (defBody st) (defScope st) .none kV doc pm an cdv ctv), osl⟩) (c : PySem.W.codeIn K cdv qual = true) (k : PySem.W.keepIn K (.ref f) = true)
    (hb : ∀ (kV doc pm : Value) (an : Option Addr) (cdv ct : Value) (us : List Value), us.length = ps.length → bindArgs (PySem.W.fnOf "__init__" qual (defArgs st) (defBody st) (defScope st) .none kV doc pm an cdv ct) ⟨us, []⟩ = pure (ps.zip us)) : MkO K mg C x qual st ps :=
  ⟨f, _, fun_mk l c k, ⟨mk, a, i, kc⟩, PySem.W.mg_of X G aC, (fun_mk l c k).binds hb⟩
theorem fn_g {x : Str} {st : Stmt} {N ps : List Str} {k n np : Nat} {b : SM} (F : FunO K mg x st ps) (Sc : FnScope N ps (defScope st))
    (hN : N.length = n) (hp : ps.length = np) (hbody : ∀ (f : Addr) (cdv : Value) (A : Around) (outer : List PySem.Env) (s : Shared) (H : Hp) (E : XK), Room k (A.deeper (envOfC x (defScope st) s.heap.objs.size f cdv)) →
      MSs (cxOf (L2.CX P w) P w K mg base N x (defScope st) f cdv A outer s H E) ct (defBody st) b) : FnG P w K mg base ct (k + 1) x np (fnM n b) := by
  subst hN hp
  obtain ⟨f, fd, F, hm, hb⟩ := F
  exact ⟨f, fd, ps, fn_ok F Sc (hbody f), hm, F.kp, .all hb⟩
theorem me_g {C : Nat} {x qual : Str} {st : Stmt} {N ps : List Str} {k n np : Nat} {b : SM} (F : MeO K (ct.ad C) x qual st ps) (c : Cls K (ct.ad C)) (hx : x ∉ ct.fd C) (nx : ct.ex C = false) (Sc : FnScope N ps (defScope st))
    (hN : N.length = n) (hp : ps.length = np) (hbody : ∀ (f : Addr) (cdv : Value) (A : Around) (outer : List PySem.Env) (s : Shared) (H : Hp) (E : XK), Room k (A.deeper (envOfC qual (defScope st) s.heap.objs.size f cdv)) →
      MSs (cxOf (L2.CX P w) P w K mg base N qual (defScope st) f cdv A outer s H E) ct (defBody st) b) : MeG P w K mg base ct (k + 1) C x np (fnM n b) := by
  subst hN hp
  obtain ⟨f, fd, F, hm, hb⟩ := F
  exact ⟨f, fd, ps, fn_ok F Sc (hbody f), c, hm, hb, hx, nx⟩
theorem mk_g {C : Nat} {x qual : Str} {st : Stmt} {N ps : List Str} {k n np : Nat} {b : SM} (F : MkO K mg (ct.ad C) x qual st ps) (nx : ct.ex C = false) (Sc : FnScope N ps (defScope st))
    (hN : N.length = n) (hp : ps.length = np) (hbody : ∀ (f : Addr) (cdv : Value) (A : Around) (outer : List PySem.Env) (s : Shared) (H : Hp) (E : XK), Room k (A.deeper (envOfC qual (defScope st) s.heap.objs.size f cdv)) →
      MSs (cxOf (L2.CX P w) P w K mg base N qual (defScope st) f cdv A outer s H E) ct (defBody st) b) : MkG P w K mg base ct (k + 1) C x np (fnM n b) := by
  subst hN hp
  obtain ⟨f, fd, F, hm, hg, hb⟩ := F
  exact ⟨f, fd, ps, fn_ok F Sc (hbody f), hm, hg, hb, nx⟩
/-- the law's own end -/
theorem law_sp {m : FM} {H : Hp} {a : Addr} {ns : List Int} (hS : SqL K H a (ns.map V.int)) (hT : LamX.Tabs ct.tb H) (h : ∃ S f, m [(.c, .frz (ns.map D.int))] [] = .ok (.bl true, f) S) : spM K ct 1 m [.ref a] H (fun v _ => v = .bl true) (fun _ _ _ => False) := by
  obtain ⟨S, f, e⟩ := h
  refine ⟨rfl, [(.c, .frz (ns.map D.int))], [], [], fun _ => False, .cons (.frz ?_ (Reps.ofInts ns)) .nil, ⟨rfl, fun n C fs e => by simp at e, fun n C fs e => by simp at e, .nil, hT⟩, fun a z => z.elim, ?_⟩
  · rcases hS with h | h
    · exact .inl ⟨h, fun z => z⟩
    · exact .inr h
  · rw [e]
    exact fun v io' H' t o => bl_of o.repF
def spLaw (K : PySem.W.Frag) : Sp := fun vs H Q _ => ∃ (a : Addr) (ns : List Int), vs = [.ref a] ∧ SqL K H a (ns.map V.int) ∧ ns.length ≤ 63 ∧ ∀ H', Q (.bl true) H'
theorem law_end {m : SM} {st : Stmt} {N : List Str} {k n : Nat} {fa : Addr} (F : FunO K mg "law" st ["script"]) (hfa : mg "law" = some (.ref fa)) (Sc : FnScope N ["script"] (defScope st)) (hN : N.length = n)
    (hbody : ∀ (base : Heap) (f : Addr) (cdv : Value) (A : Around) (outer : List PySem.Env) (s : Shared) (H : Hp) (E : XK), Room k (A.deeper (envOfC "law" (defScope st) s.heap.objs.size f cdv)) →
      MSs (cxOf (L2.CX P w) P w K mg base N "law" (defScope st) f cdv A outer s H E) ct (defBody st) m)
    (math : ∀ ns : List Int, ns.length ≤ 63 → ∃ S f, fnM n m [(.c, .frz (ns.map D.int))] [] = .ok (.bl true, f) S) (ht : ct.tb = [] := by rfl) :
    ∃ fd : FuncData, (∀ (s : Shared) (u : Value), BindsTo s fd ⟨[u], []⟩ [("script", u)]) ∧ ∀ base : Heap, K.In base → base.Ns mainGlobals mg → FnOk P w K mg base (L2.CX P w) (k + 1) fa fd ["script"] (spLaw K) := by
  subst hN
  obtain ⟨f, fd, F, hm, hb⟩ := F
  rw [hfa] at hm
  cases hm
  refine ⟨fd, fun s u => .of_eq (hb [u] rfl), fun base _ _ => (fn_ok (ct := ct) F Sc (hbody base fa)).imp fun vs H Q E h => ?_⟩
  obtain ⟨a, ns, rfl, hS, hl, q⟩ := h
  obtain ⟨S, f, e⟩ := math ns hl
  have z := law_sp (ct := ct) hS (by rw [ht]; exact fun p hp => nomatch hp) ⟨S, f, e⟩
  obtain ⟨h1, as, S0, io, M0, h2, h3, h4, h5⟩ := z
  refine ⟨h1, as, S0, io, M0, h2, h3, h4, ?_⟩
  cases e2 : fnM N.length m as S0 with
  | ok x S' =>
    rw [e2] at h5
    intro v io' H' t o
    have ev : v = .bl true := h5 v io' H' t o
    rw [ev]
    exact q H'
  | er c p S' =>
    rw [e2] at h5
    exact fun dx io' H' t1 t2 t3 => (h5 dx io' H' t1 t2 t3).elim
  | no =>
    rw [e2] at h5
    exact h5.elim
theorem law_walk {l : PySem.W.OpenLaw} {k : Nat} {q : Program} {loose : List Str} {XP : (Str → Option Value) → Heap → Prop} {YP : World → Heap → Prop} {d : DefRec} {K : Params → PySem.W.Frag} (hn : l.most = some 63) (hdf : d.params.defaults = []) (hr : Room k callerA)
    (hY : ∀ (w : World) (h : Heap), YP w h → (K w.params).In h)
    (F : ∀ (w : World) (mg : Str → Option Value) (fa : Addr) (h : Heap), (K w.params).In h → h.Ns mainGlobals mg → mg d.name = some (.ref fa) →
      ∃ fd : FuncData, (∀ (s : Shared) (u : Value), BindsTo s fd ⟨[u], []⟩ [("script", u)]) ∧ ∀ base : Heap, (K w.params).In base → base.Ns mainGlobals mg → FnOk l.prog w (K w.params) mg base (L2.CX l.prog w) k fa fd ["script"] (spLaw (K w.params))) :
    PySem.W.WalkO q loose XP YP l.row.toRowW d [] (fun f vs => PySem.call f vs) :=
  L2.walk_of (n := 63) (k := k) (x := "script") (CX := fun w => L2.CX l.prog w) (sp := fun w => spLaw (K w.params)) hn (by decide) hdf hr hY F (fun _ _ a ns hl _ hS => ⟨a, ns, rfl, hS, hl, fun _ => rfl⟩) fun w H s e s' h => by
    obtain ⟨_, _, _, _, _, _, _, _, _, _, _, _, z⟩ := h
    exact z
end
end Mv

set_option maxRecDepth 100000
namespace Mv
open PySem PySem.Spec PyProof.Rows L2
section
variable {X : Cx} {ct : CT} {pos : Pos}
/-! ### self.f = e -/
/-- the i-th field is written, or it is the next one -/
def putD (i : Nat) (d : D) (fs : List D) : List D := if i < fs.length then fs.set i d else fs ++ [d]
theorem putF_end {f : Str} {v : V} : ∀ {gs : List (Str × V)}, f ∉ gs.map Prod.fst → putF f v gs = gs ++ [(f, v)]
  | [], _ => rfl
  | (g, w) :: gs, h => by
    rw [List.map_cons, List.mem_cons, not_or] at h
    unfold putF
    first
      | rw [if_neg (fun z => h.1 z.symm), putF_end h.2]; rfl
      | rw [if_neg h.1, putF_end h.2]; rfl
      | (split
         · rename_i z; exact absurd (by first | exact z | exact z.symm | simpa using z | (have z := eq_of_beq z; first | exact z | exact z.symm)) h.1
         · rw [putF_end h.2]; rfl)
theorem putF_at {f : Str} {v : V} : ∀ {gs : List (Str × V)} {i : Nat}, (gs.map Prod.fst).Nodup → (gs.map Prod.fst)[i]? = some f → putF f v gs = gs.set i (f, v)
  | [], _, _, h => by simp at h
  | (g, w) :: gs, 0, _, h => by
    have h : g = f := by simpa using h
    subst h
    unfold putF
    simp
  | (g, w) :: gs, i + 1, nd, h => by
    rw [List.map_cons, List.nodup_cons] at nd
    have h' : (gs.map Prod.fst)[i]? = some f := by simpa using h
    have ne : g ≠ f := fun z => nd.1 (z ▸ List.mem_of_getElem? h')
    unfold putF
    rw [putF_at nd.2 h']
    first
      | rw [if_neg ne]; rfl
      | rw [if_neg ne.symm]; rfl
      | simp [ne, Ne.symm ne]
theorem FldOk.put {K : PySem.W.Frag} {M : Addr → Prop} {io : List Addr} {H : Hp} {ns : List Str} {fs : List D} {gs : List (Str × V)} {i : Nat} {f : Str} {d : D} {v : V} (h : FldOk K M io H ns fs gs) (nd : ns.Nodup) (hi : ns[i]? = some f) (hl : i ≤ fs.length) (r : Rep K M io H d v) :
    FldOk K M io H ns (putD i d fs) (putF f v gs) := by
  have hg : gs.length = fs.length := by
    have := h.2.len
    rw [List.length_map] at this
    exact this.symm
  have nd' : (gs.map Prod.fst).Nodup := by
    rw [h.1]
    exact nd.sublist (List.take_sublist _ _)
  unfold putD
  split
  · rename_i hlt
    have hk : (gs.map Prod.fst)[i]? = some f := by
      rw [h.1, List.getElem?_take_of_lt hlt]
      exact hi
    rw [putF_at nd' hk]
    refine ⟨?_, ?_⟩
    · rw [List.map_set, List.length_set, ← h.1]
      have hlt' : i < (gs.map Prod.fst).length := by simp; omega
      have : (gs.map Prod.fst)[i] = f := by
        rw [List.getElem?_eq_getElem hlt'] at hk
        exact Option.some.inj hk
      show (gs.map Prod.fst).set i f = _
      rw [← this]
      exact List.set_getElem_self hlt'
    · rw [List.map_set]
      exact h.2.set i r
  · rename_i hlt
    have e : i = fs.length := by omega
    have hni : f ∉ gs.map Prod.fst := fun z => by
      rw [h.1] at z
      obtain ⟨j, hj, ej⟩ := List.getElem_of_mem z
      rw [List.length_take] at hj
      rw [List.getElem_take] at ej
      have hin : i < ns.length := (List.getElem?_eq_some_iff.mp hi).1
      have : ns[i] = f := (List.getElem?_eq_some_iff.mp hi).2
      have q := (List.getElem_inj nd).mp (ej.trans this.symm)
      omega
    rw [putF_end hni]
    refine ⟨?_, ?_⟩
    · rw [List.map_append, h.1, List.length_append]
      show ns.take fs.length ++ [f] = ns.take (fs.length + 1)
      rw [List.take_add_one, ← e, hi]
      rfl
    · rw [List.map_append]
      exact h.2.app (.cons r .nil)
def sAt (cs : List Nat) (i : Nat) (mo m : EM) : SM := fun r S => (m r S).sb r fun x S1 => (mo r S1).sb r fun o S2 => match o.1 with
  | .ins n => match S2[n]? with
    | some (C, vs) => if cs.contains C && okst x.2 x.1 && decide (i ≤ vs.length) then .nx r (S2.set n (C, putD i x.1 vs)) else .no
    | none => .no
  | _ => .no
theorem ms_at {o e : Expr} {f : Str} {cs : List Nat} {i : Nat} {mo m : EM} {pos' : Pos} (ho : ME X ct o mo) (he : ME X ct e m) (T : ∀ C ∈ cs, FdT X.K ct f i C ∧ (ct.fd C).length < 900) (hs : swapsWith e (some (.Attribute o f pos')) pos.line X.env = pure false := by rfl) :
    MS X ct (.Assign [.Attribute o f pos'] e pos) (sAt cs i mo m) :=
  ⟨fun G W tk _ => (ps_fld (ho.run G W tk) (he.run G W tk) hs).imp fun D s H ⟨r, S, io, k, h⟩ => ⟨r, S, io, k, SRes.first k h fun x S1 io1 H1 _ t1 q1 k1 h1 v ov => ⟨r, S1, io1, k1, SRes.first k1 h1 fun o S2 io2 H2 _ t2 q2 k2 h2 w ow => by
    split at h2
    · rename_i n e
      have o2 := ow.repF
      rw [e] at o2
      obtain ⟨a, ev, ea⟩ := ins_of o2
      split at h2
      · rename_i C vs e2
        split at h2
        · rename_i hc
          simp only [Bool.and_eq_true, decide_eq_true_eq] at hc
          obtain ⟨⟨hc, hok⟩, hl⟩ := hc
          obtain ⟨T, hT⟩ := T C (by simpa using hc)
          obtain ⟨a', dx, gs, y1, y2, y3⟩ := q2.at_ n C vs e2 T.nx
          rw [ea] at y1
          cases y1
          have hgl : gs.length = vs.length := by
            have := y3.2.len
            rw [List.length_map] at this
            exact this.symm
          have hle : gs.length ≤ (ct.fd C).length := by
            have := congrArg List.length y3.1
            rw [List.length_map, List.length_take] at this
            omega
          refine ⟨a, _, dx, gs, ev, y2, T.cl, T.na, by omega, ?_⟩
          have rv : Rep X.K (Mall G r s) io2 H2 x.1 v := RepF.clean hok (ov.repF.stp t2)
          have ne : ∀ b u, H2 b = some u → NI u → b ≠ a := fun b u q n z => by
            rw [z, y2] at q
            cases q
            exact n.1 _ _ _ rfl
          have kp : Kp (Mall G r s) H2 (upd H2 a (.ins (ct.ad C) dx (putF f v gs))) := fun b u q n _ => by rw [upd_ne (ne b u q n)]; exact q
          have t : Stp io2 H2 io2 (upd H2 a (.ins (ct.ad C) dx (putF f v gs))) := by
            refine ⟨fun b u q n => by rw [upd_ne (ne b u q n)]; exact q, fun b u q n _ => ?_, io_refl, fun b z n => absurd z n, fun b u q => ?_⟩
            · rw [upd_ne]
              · exact q
              · exact fun z => n (z ▸ List.mem_of_getElem? ea)
            · by_cases z : b = a
              · subst z
                exact ⟨_, upd_same⟩
              · exact ⟨u, by rw [upd_ne z]; exact q⟩
          have hn : n < S2.length := (List.getElem?_eq_some_iff.mp e2).1
          have q3 : StoOk X.K ct (Mall G r s) io2 (S2.set n (C, putD i x.1 vs)) (upd H2 a (.ins (ct.ad C) dx (putF f v gs))) := by
            have oth : ∀ {j : Nat} {b : Addr}, n ≠ j → io2[j]? = some b → b ≠ a := fun {j b} hj z1 z => by
              subst z
              have hj1 := (List.getElem?_eq_some_iff.mp z1)
              have hj2 := (List.getElem?_eq_some_iff.mp ea)
              exact hj ((List.getElem_inj q2.nd).mp (hj2.2.trans hj1.2.symm))
            refine ⟨by simp [q2.len], fun j C' fs e3 x3 => ?_, fun j C' fs e3 x3 => ?_, q2.nd, tabs_mono q2.tb kp fun b ps q => by rw [upd_ne (fun z => by rw [z, y2] at q; cases q)]; exact q⟩
            rotate_left
            · rcases get_set e3 with ⟨rfl, e3, _⟩ | ⟨hj, e3⟩
              · cases e3
                rw [T.nx] at x3
                cases x3
              · obtain ⟨b, d, z1, z2, z3⟩ := q2.ax j C' fs e3 x3
                refine ⟨b, d, z1, ?_, z3.mono (M := fun _ => False) t.kp t.pre⟩
                rw [upd_ne (oth hj z1)]
                exact z2
            rcases get_set e3 with ⟨rfl, e3, _⟩ | ⟨hj, e3⟩
            · cases e3
              exact ⟨a, dx, _, ea, upd_same, (y3.put T.nd T.ix hl rv).1, Reps.stp t (y3.put T.nd T.ix hl rv).2⟩
            · obtain ⟨b, dx', gs', z1, z2, z3, z4⟩ := q2.at_ j C' fs e3 x3
              refine ⟨b, dx', gs', z1, ?_, z3, z4.stp t⟩
              rw [upd_ne]
              · exact z2
              · intro z
                subst z
                have hj1 := (List.getElem?_eq_some_iff.mp z1)
                have hj2 := (List.getElem?_eq_some_iff.mp ea)
                exact hj ((List.getElem_inj q2.nd).mp (hj2.2.trans hj1.2.symm))
          exact h2 s io2 _ (k2.step t q3)
        · exact h2.elim
      · exact h2.elim
    · exact h2.elim⟩⟩⟩
/-! ### targets -/
abbrev GM := D → Env → Option Env
/-- the slots outside ts are as they were -/
def Keep (ts : List Nat) (r r' : Env) (s s' : St) : Prop := s'.length = s.length ∧ ∀ j, j ∉ ts → r'[j]? = r[j]? ∧ s'[j]? = s[j]?
def tG (K : PySem.W.Frag) (ct : CT) (G : Gx) (ts : List Nat) (g : GM) : TG := fun v s H Q => ∃ r S io d, Ok K ct G r S io s H ∧ Rep K (Mall G r s) io H d v ∧ match g d r with
  | some r' => ∀ s', Keep ts r r' s s' → (∀ a, Mall G r' s' a → Mall G r s a) → Ok K ct G r' S io s' H → Q s' H
  | none => False
def tGs (K : PySem.W.Frag) (ct : CT) (G : Gx) (ts : List Nat) (g : List D → Env → Option Env) : TGs := fun vs s H Q => ∃ r S io ds, Ok K ct G r S io s H ∧ Reps K (Mall G r s) io H ds vs ∧ match g ds r with
  | some r' => ∀ s', Keep ts r r' s s' → (∀ a, Mall G r' s' a → Mall G r s a) → Ok K ct G r' S io s' H → Q s' H
  | none => False
structure MG (X : Cx) (ct : CT) (e : Expr) (ts : List Nat) (g : GM) : Prop where
  run : ∀ (G : Gx), PG X e (tG X.K ct G ts g)
structure MGs (X : Cx) (ct : CT) (e : List Expr) (ts : List Nat) (g : List D → Env → Option Env) : Prop where
  run : ∀ (G : Gx), PGs X e (tGs X.K ct G ts g)
def gN (i : Nat) : GM := fun d r => some (r.set i (.ar .c d))
def gsN : List D → Env → Option Env := fun ds r => match ds with
  | [] => some r
  | _ => none
def gsC (g : GM) (gs : List D → Env → Option Env) : List D → Env → Option Env := fun ds r => match ds with
  | d :: ds => (g d r).bind (gs ds)
  | _ => none
def gT (n : Nat) (gs : List D → Env → Option Env) : GM := fun d r => match d with
  | .tup ds => if ds.length = n then gs ds r else none
  | _ => none
theorem mg_name {i : Nat} {x : Str} (hN : X.N.Nodup) (hi : X.N[i]? = some x) (hx : Loc X.env.scope x) (hf : X.fn x = true ∨ X.env.scope.names.lookup x = some .local := by first | exact .inl rfl | exact .inr rfl | assumption) : MG X ct (.Name x pos) [i] (gN i) :=
  ⟨fun G => (pg_name hN hi hx hf).imp fun v s H Q ⟨r, S, io, d, k, rv, h⟩ => h _ ⟨by simp, fun j hj => by
    have hj : i ≠ j := fun z => hj (z ▸ List.mem_singleton.mpr rfl)
    exact ⟨List.getElem?_set_ne hj, List.getElem?_set_ne hj⟩⟩ (fun a => mall_set fun e z => by cases z) (k.setc rv)⟩
theorem mgs_nil : MGs X ct [] [] gsN := ⟨fun G => pgs_nil.imp fun vs s H Q ⟨r, S, io, ds, k, rv, h⟩ => by
  cases rv with
  | nil => exact ⟨rfl, h s ⟨rfl, fun _ _ => ⟨rfl, rfl⟩⟩ (fun _ z => z) k⟩
  | cons _ _ => exact h.elim⟩
theorem mgs_cons {e : Expr} {es : List Expr} {t ts : List Nat} {g : GM} {gs : List D → Env → Option Env} (h1 : MG X ct e t g) (h2 : MGs X ct es ts gs)
    (hs : (assignEach (e :: es) X.env).map (·.2) = assign e X.env :: (assignEach es X.env).map (·.2) := by rfl) : MGs X ct (e :: es) (t ++ ts) (gsC g gs) :=
  ⟨fun G => (pgs_cons (h1.run G) (h2.run G) hs).imp fun vs s H Q ⟨r, S, io, ds, k, rv, h⟩ => by
    cases rv with
    | nil => exact h.elim
    | @cons d ds v vs' r1 rr =>
      refine ⟨_, _, rfl, r, S, io, _, k, r1, ?_⟩
      have h : match (g d r).bind (gs ds) with
        | some r' => ∀ s', Keep (t ++ ts) r r' s s' → (∀ a, Mall G r' s' a → Mall G r s a) → Ok X.K ct G r' S io s' H → Q s' H
        | none => False := h
      cases e1 : g d r with
      | none => rw [e1] at h; exact h
      | some r1 =>
        rw [e1] at h
        intro s1 l1 m1 k1
        refine ⟨r1, S, io, ds, k1, rr.anti m1, ?_⟩
        have h : match gs ds r1 with
          | some r' => ∀ s', Keep (t ++ ts) r r' s s' → (∀ a, Mall G r' s' a → Mall G r s a) → Ok X.K ct G r' S io s' H → Q s' H
          | none => False := h
        cases e2 : gs ds r1 with
        | none => rw [e2] at h; exact h
        | some r2 =>
          rw [e2] at h
          exact fun s2 l2 m2 k2 => h s2 ⟨l2.1.trans l1.1, fun j hj => by
            rw [List.mem_append, not_or] at hj
            exact ⟨(l2.2 j hj.2).1.trans (l1.2 j hj.1).1, (l2.2 j hj.2).2.trans (l1.2 j hj.1).2⟩⟩ (fun a z => m1 a (m2 a z)) k2⟩
theorem mg_tup {es : List Expr} {k n : Nat} {ts : List Nat} {gs : List D → Env → Option Env} (hc : X.calm = true) (h : MGs X ct es ts gs) (hn : (assignEach es X.env).length = n := by rfl) (hst : (assignEach es X.env).findIdx? (·.1) = none := by rfl) : MG X ct (.Tuple es k pos) ts (gT n gs) :=
  ⟨fun G => (pg_tup hc (h.run G) hn hst).imp fun v s H Q ⟨r, S, io, d, k, rv, h⟩ => by
    cases rv with
    | tup h1 h2 =>
      unfold gT at h
      simp only at h
      split at h
      · rename_i r' e
        split at e
        · rename_i hl
          refine ⟨_, _, rfl, h1, by rw [← h2.len]; exact hl, r, S, io, _, k, h2, ?_⟩
          rw [e]
          exact h
        · cases e
      · exact h.elim
    | _ => exact h.elim⟩
/-- target = e -/
def sAsg (g : GM) (m : EM) : SM := fun r S => (m r S).sb r fun x S1 => if okst x.2 x.1 then (match g x.1 r with
  | some r' => .nx r' S1
  | none => .no) else .no
theorem ms_asg {tg e : Expr} {m : EM} {ts : List Nat} {g : GM} (he : ME X ct e m) (hg : MG X ct tg ts g) (hs : swapsWithSole [tg] e pos.line X.env = pure false := by rfl) (hw : swappedStores [tg] e X.env = pure none := by rfl)
    (h1 : (assignEach [tg] X.env).map (·.2) = [assign tg X.env] := by rfl) : MS X ct (.Assign [tg] e pos) (sAsg g m) :=
  ⟨fun G W tk _ => (ps_asg (he.run G W tk) (hg.run G) hs hw h1).imp fun D s H ⟨r, S, io, k, h⟩ => ⟨r, S, io, k, SRes.first k h fun x S1 io1 H1 _ t1 q1 k1 h1 v ov => by
    split at h1
    · rename_i g0
      refine ⟨r, S1, io1, x.1, k1, RepF.clean g0 ov.repF, ?_⟩
      split at h1
      · exact fun s' _ _ k' => h1 s' io1 H1 k'
      · exact h1.elim
    · exact h1.elim⟩⟩
/-- a, b = x, y -/
def sPar (i j : Nat) (ma mb : EM) : SM := fun r S => (ma r S).sb r fun x S1 => (mb r S1).sb r fun y S2 => if okst x.2 x.1 && okst y.2 y.1 then .nx ((r.set i (.ar .c x.1)).set j (.ar .c y.1)) S2 else .no
theorem ms_par {i j : Nat} {x y : Str} {a b : Expr} {ma mb : EM} {px py pt : Pos} {kt k2 pt2} (hc : X.calm = true) (hN : X.N.Nodup) (hi : X.N[i]? = some x) (hj : X.N[j]? = some y) (hij : i ≠ j)
    (hx : X.env.scope.names.lookup x = some .local) (hy : X.env.scope.names.lookup y = some .local) (ha : ME X ct a ma) (hb : ME X ct b mb)
    (hs1 : starEach [b] X.env = (false, eval b X.env) :: starEach [] X.env) (hs2 : starEach [a, b] X.env = (false, eval a X.env) :: starEach [b] X.env)
    (hw : swappedStores [.Tuple [.Name x px, .Name y py] kt pt] (.Tuple [a, b] k2 pt2) X.env = pure (some [x, y]))
    (hs : swapsWithSole [.Tuple [.Name x px, .Name y py] kt pt] (.Tuple [a, b] k2 pt2) pos.line X.env = pure false := by rfl) :
    MS X ct (.Assign [.Tuple [.Name x px, .Name y py] kt pt] (.Tuple [a, b] k2 pt2) pos) (sPar i j ma mb) :=
  ⟨fun G W tk _ => (ps_par hc hN hi hj hij hx hy (pa_cons (ha.run G W tk) (pa_cons (hb.run G W tk) pa_nil hs1) hs2) hw hs).imp fun D s H ⟨r, S, io, k, h⟩ =>
    ⟨r, S, io, k, SRes.first k h fun x S1 io1 H1 _ t1 q1 k1 h1 v ov => ⟨r, S1, io1, k1, SRes.first k1 h1 fun y S2 io2 H2 _ t2 q2 k2 h2 u ou => by
      refine ⟨v, u, rfl, ?_⟩
      split at h2
      · rename_i g
        rw [Bool.and_eq_true] at g
        have k3 := k2.setc (i := i) (RepF.clean g.1 (ov.repF.stp t2))
        have k4 := k3.setc (i := j) ((RepF.clean g.2 ou.repF).anti fun a z => mall_set (fun e z => by cases z) z)
        exact h2 _ io2 H2 k4
      · exact h2.elim⟩⟩⟩
end
end Mv

set_option maxRecDepth 100000
namespace L2
open PySem PySem.Spec PyProof.Rows
theorem PG.ex {X : Cx} {e : Expr} {ι : Sort _} {t : ι → TG} (h : ∀ i, PG X e (t i)) : PG X e (fun v s H Q => ∃ i, t i v s H Q) := ⟨fun pins s σ H v u Q I r ⟨i, w⟩ => (h i).run pins s σ H v u Q I r w⟩
theorem PSs.ex {X : Cx} {e : List Stmt} {ι : Sort _} {t : ι → TS} (h : ∀ i, PSs X e (t i)) : PSs X e (fun D s H => ∃ i, t i D s H) := ⟨fun pins s σ H D I ⟨i, w⟩ => (h i).run pins s σ H D I w⟩
theorem PTs.ex {X : Cx} {e : List Expr} {ι : Sort _} {t : ι → TT} (h : ∀ i, PTs X e (t i)) : PTs X e (fun s H Q => ∃ i, t i s H Q) := ⟨fun pins s σ H Q I ⟨i, w⟩ => (h i).run pins s σ H Q I w⟩
end L2
namespace Mv
open PySem PySem.Spec PyProof.Rows L2
section
variable {X : Cx} {ct : CT} {pos : Pos} {tg : Expr}
/-! ### what is walked -/
/-- J goes through ds as long as what is held stands -/
def WalkD (K : PySem.W.Frag) (J : It) (held : List (Fl × D × V)) (ds : List D) : Prop := ∀ (M N : Addr → Prop) (io : List Addr) (H : Hp), (∀ p ∈ held, ArgF K M N io H p.1 p.2.1 p.2.2) →
  (∀ i, i < ds.length → J.go i H) ∧ J.stop ds.length H ∧ ∀ i x H', i < ds.length → J.yld i H x H' → ∃ d, ds[i]? = some d ∧ (H' = H ∨ ∃ T o, H T = none ∧ H' = upd H T o) ∧ Rep K M io H' d x
def tI (K : PySem.W.Frag) (ct : CT) (G : Gx) (W : WX) (m : Env → Store → Rs (List D)) : TI := fun s H R => ∃ r S io, Ok K ct G r S io s H ∧
  Res K ct W (Mall G r s) s io H (m r S) (fun ds S' io' H' => ∀ J held, WalkD K J held ds → (∀ p ∈ held, ArgF K (Mall G r s) (Mown G r s) io' H' p.1 p.2.1 p.2.2) → R J H')
structure MI (X : Cx) (ct : CT) (tg iter : Expr) (m : Env → Store → Rs (List D)) : Prop where
  run : ∀ (G : Gx) (W : WX), Takes X W → PI X tg iter (tI X.K ct G W m)
/-- flags under which a list may be walked -/
def okI : Fl → Bool
  | .c => true
  | .n => true
  | .b => true
  | _ => false
theorem okI_argF {K : PySem.W.Frag} {M N : Addr → Prop} {io : List Addr} {H : Hp} {f : Fl} {d : D} {v : V} (g : okI f = true) (h : RepF K M N io H f d v) : ArgF K M N io H f d v := by
  cases f with
  | c => exact h
  | n => exact h
  | b => exact h
  | o => cases g
  | t => cases g
theorem argF_top {K : PySem.W.Frag} {M N : Addr → Prop} {io : List Addr} {H : Hp} {f : Fl} {xs : List D} {v : V} (g : okI f = true) (h : ArgF K M N io H f (.lst xs) v) : ∃ a vs, v = .ref a ∧ H a = some (.lst vs) ∧ Reps K M io H xs vs := by
  have go : Rep K M io H (.lst xs) v → ∃ a vs, v = .ref a ∧ H a = some (.lst vs) ∧ Reps K M io H xs vs := fun h => by
    cases h with
    | lst h1 _ h2 => exact ⟨_, _, rfl, h1, h2⟩
  cases f with
  | c => exact go h
  | n => exact go h
  | b =>
    rcases h with h | ⟨a, e, h, _⟩
    · exact go h
    · rcases h with ⟨xs', vs, e', h1, h2⟩ | ⟨ks, xs', kvs, e', _⟩
      · cases e'
        exact ⟨a, vs, e, h1, h2⟩
      · cases e'
  | o => cases g
  | t => cases g
theorem argF_frz {K : PySem.W.Frag} {M N : Addr → Prop} {io : List Addr} {H : Hp} {f : Fl} {xs : List D} {v : V} (g : okI f = true) (h : ArgF K M N io H f (.frz xs) v) : ∃ a vs, v = .ref a ∧ SqL K H a vs ∧ Reps K M io H xs vs := by
  have go : Rep K M io H (.frz xs) v → ∃ a vs, v = .ref a ∧ SqL K H a vs ∧ Reps K M io H xs vs := fun h => by
    cases h with
    | frz h1 h2 => exact ⟨_, _, rfl, h1.sq, h2⟩
  cases f with
  | c => exact go h
  | n => exact go h
  | b =>
    rcases h with h | ⟨a, e, h, _⟩
    · exact go h
    · rcases h with ⟨xs', vs, e', _⟩ | ⟨ks, xs', kvs, e', _⟩ <;> cases e'
  | o => cases g
  | t => cases g
theorem argF_tup {K : PySem.W.Frag} {M N : Addr → Prop} {io : List Addr} {H : Hp} {f : Fl} {xs : List D} {v : V} (g : okI f = true) (h : ArgF K M N io H f (.tup xs) v) : ∃ a vs, v = .ref a ∧ SqT K H a vs ∧ Reps K M io H xs vs := by
  have go : Rep K M io H (.tup xs) v → ∃ a vs, v = .ref a ∧ SqT K H a vs ∧ Reps K M io H xs vs := fun h => by
    cases h with
    | tup h1 h2 => exact ⟨_, _, rfl, h1, h2⟩
  cases f with
  | c => exact go h
  | n => exact go h
  | b =>
    rcases h with h | ⟨a, e, h, _⟩
    · exact go h
    · rcases h with ⟨xs', vs, e', _⟩ | ⟨ks, xs', kvs, e', _⟩ <;> cases e'
  | o => cases g
  | t => cases g
/-- the items of a list, whether it may be written or not -/
def seqOf : D → Option (List D)
  | .lst xs => some xs
  | .frz xs => some xs
  | _ => none
theorem argF_seq {K : PySem.W.Frag} {M N : Addr → Prop} {io : List Addr} {H : Hp} {f : Fl} {d : D} {xs : List D} {v : V} (g : okI f = true) (e : seqOf d = some xs) (h : ArgF K M N io H f d v) : ∃ a vs, v = .ref a ∧ SqL K H a vs ∧ Reps K M io H xs vs := by
  cases d with
  | lst ys =>
    cases e
    obtain ⟨a, vs, e1, h1, h2⟩ := argF_top g h
    exact ⟨a, vs, e1, SqL.of h1, h2⟩
  | frz ys =>
    cases e
    exact argF_frz g h
  | _ => cases e
theorem walk_lst {K : PySem.W.Frag} {a : Addr} {f : Fl} {d : D} {xs : List D} (g : okI f = true) (e : seqOf d = some xs) : WalkD K (Itl K a) [(f, d, .ref a)] xs := fun M N io H hh => by
  obtain ⟨a', vs, ev, h1, h2⟩ := argF_seq g e (hh _ List.mem_cons_self)
  cases ev
  have hl := h2.len
  refine ⟨fun i hi => ?_, ⟨vs, h1, by omega⟩, fun i x H' hi y => ?_⟩
  · obtain ⟨v, q, _⟩ := h2.get (List.getElem?_eq_getElem hi)
    exact ⟨vs, v, h1, q⟩
  · obtain ⟨e2, y⟩ := y
    subst e2
    obtain ⟨d, q, r⟩ := h2.getV (y vs h1)
    exact ⟨d, q, .inl rfl, r⟩
theorem walk_tupD {K : PySem.W.Frag} {a : Addr} {f : Fl} {xs : List D} (g : okI f = true) : WalkD K (Itt K a) [(f, .tup xs, .ref a)] xs := fun M N io H hh => by
  obtain ⟨a', vs, ev, h1, h2⟩ := argF_tup g (hh _ List.mem_cons_self)
  cases ev
  have hl := h2.len
  refine ⟨fun i hi => ?_, ⟨vs, h1, by omega⟩, fun i x H' hi y => ?_⟩
  · obtain ⟨v, q, _⟩ := h2.get (List.getElem?_eq_getElem hi)
    exact ⟨vs, v, h1, q⟩
  · obtain ⟨e2, y⟩ := y
    subst e2
    obtain ⟨d, q, r⟩ := h2.getV (y vs h1)
    exact ⟨d, q, .inl rfl, r⟩
theorem walk_revD {K : PySem.W.Frag} {a : Addr} {f : Fl} {d : D} {xs : List D} (g : okI f = true) (e : seqOf d = some xs) : WalkD K (Itv K a xs.length) [(f, d, .ref a)] xs.reverse := fun M N io H hh => by
  obtain ⟨a', vs, ev, h1, h2⟩ := argF_seq g e (hh _ List.mem_cons_self)
  cases ev
  have hl := h2.len
  rw [List.length_reverse]
  refine ⟨fun i hi => ?_, Nat.le_refl _, fun i x H' hi y => ?_⟩
  · obtain ⟨v, q, _⟩ := h2.get (i := xs.length - 1 - i) (List.getElem?_eq_getElem (by omega))
    exact ⟨hi, vs, v, h1, q⟩
  · obtain ⟨e2, y⟩ := y
    subst e2
    obtain ⟨d, q, r⟩ := h2.getV (y vs h1)
    exact ⟨d, by rw [List.getElem?_reverse hi]; exact q, .inl rfl, r⟩
def enumD (xs : List D) : List D := List.zipWith (fun (i : Nat) d => D.tup [.int i, d]) (List.range xs.length) xs
theorem enumD_get {xs : List D} {i : Nat} {d : D} (h : xs[i]? = some d) : (enumD xs)[i]? = some (.tup [.int i, d]) := by
  unfold enumD
  obtain ⟨hl, h⟩ := List.getElem?_eq_some_iff.mp h
  rw [List.getElem?_zipWith, List.getElem?_range hl, List.getElem?_eq_getElem hl, h]
theorem enumD_length (xs : List D) : (enumD xs).length = xs.length := by
  unfold enumD
  rw [List.length_zipWith, List.length_range, Nat.min_self]
theorem walk_enumD {K : PySem.W.Frag} {a : Addr} {f : Fl} {d : D} {xs : List D} (g : okI f = true) (e : seqOf d = some xs) : WalkD K (Ite K a) [(f, d, .ref a)] (enumD xs) := fun M N io H hh => by
  obtain ⟨a', vs, ev, h1, h2⟩ := argF_seq g e (hh _ List.mem_cons_self)
  cases ev
  have hl := h2.len
  rw [enumD_length]
  refine ⟨fun i hi => ?_, ⟨vs, h1, by omega⟩, fun i x H' hi y => ?_⟩
  · obtain ⟨v, q, _⟩ := h2.get (List.getElem?_eq_getElem hi)
    exact ⟨vs, v, h1, q⟩
  · obtain ⟨T, x, rfl, nT, rfl, y⟩ := y
    obtain ⟨d, q, r⟩ := h2.getV (y vs h1)
    exact ⟨_, enumD_get q, .inr ⟨T, _, nT, rfl⟩, .tup (.inl (.inl upd_same)) (.cons (.int _) (.cons (r.stp (Stp.upd nT)) .nil))⟩
def zipD (xs ys : List D) : List D := xs.zipWith (fun a b => .tup [a, b]) ys
theorem walk_zipD {K : PySem.W.Frag} {a b : Addr} {f f' : Fl} {d d' : D} {xs ys : List D} (g : okI f = true) (e : seqOf d = some xs) (g' : okI f' = true) (e' : seqOf d' = some ys) : WalkD K (Itz K a b) [(f, d, .ref a), (f', d', .ref b)] (zipD xs ys) := fun M N io H hh => by
  obtain ⟨a', vs, ev, h1, h2⟩ := argF_seq g e (hh _ List.mem_cons_self)
  cases ev
  obtain ⟨b', ws, ew, h3, h4⟩ := argF_seq g' e' (hh _ (List.mem_cons_of_mem _ List.mem_cons_self))
  cases ew
  have hl := h2.len
  have hl' := h4.len
  have hz : (zipD xs ys).length = min xs.length ys.length := by unfold zipD; rw [List.length_zipWith]
  rw [hz]
  refine ⟨fun i hi => ?_, ⟨vs, ws, h1, h3, by omega⟩, fun i x H' hi y => ?_⟩
  · obtain ⟨v, q, _⟩ := h2.get (List.getElem?_eq_getElem (show i < xs.length by omega))
    obtain ⟨w, q', _⟩ := h4.get (List.getElem?_eq_getElem (show i < ys.length by omega))
    exact ⟨vs, ws, v, w, h1, h3, q, q'⟩
  · obtain ⟨T, x, z, rfl, nT, rfl, y, y'⟩ := y
    obtain ⟨d, q, r⟩ := h2.getV (y vs h1)
    obtain ⟨d', q', r'⟩ := h4.getV (y' ws h3)
    refine ⟨.tup [d, d'], ?_, .inr ⟨T, _, nT, rfl⟩, .tup (.inl (.inl upd_same)) (.cons (r.stp (Stp.upd nT)) (.cons (r'.stp (Stp.upd nT)) .nil))⟩
    unfold zipD
    rw [List.getElem?_zipWith, q, q']
def rangeD (lo c : Int) (n : Nat) : List D := (List.range n).map fun i => .int (lo + (i : Nat) * c)
theorem rangeD_get {lo c : Int} {n i : Nat} (h : i < n) : (rangeD lo c n)[i]? = some (.int (lo + (i : Nat) * c)) := by
  unfold rangeD
  rw [List.getElem?_map, List.getElem?_range h]
  rfl
theorem rangeD_length (lo c : Int) (n : Nat) : (rangeD lo c n).length = n := by
  unfold rangeD
  rw [List.length_map, List.length_range]
theorem walk_rangeD {K : PySem.W.Frag} {lo : Int} {n : Nat} : WalkD K (Itr lo n) [] (rangeD lo 1 n) := fun M N io H hh => by
  rw [rangeD_length]
  refine ⟨fun i hi => hi, Nat.le_refl _, fun i x H' hi y => ?_⟩
  obtain ⟨e, rfl⟩ := y
  subst e
  exact ⟨_, rangeD_get hi, .inl rfl, by rw [Int.mul_one]; exact .int _⟩
theorem walk_rangeCD {K : PySem.W.Frag} {lo c : Int} {n : Nat} : WalkD K (Itc lo c n) [] (rangeD lo c n) := fun M N io H hh => by
  rw [rangeD_length]
  refine ⟨fun i hi => hi, Nat.le_refl _, fun i x H' hi y => ?_⟩
  obtain ⟨e, rfl⟩ := y
  subst e
  exact ⟨_, rangeD_get hi, .inl rfl, .int _⟩
def strD (z : Str) : List D := z.cps.toList.map fun c => .str ⟨#[c]⟩
theorem walk_strD {K : PySem.W.Frag} {z : Str} : WalkD K (Its z) [] (strD z) := fun M N io H hh => by
  have hl : (strD z).length = z.cps.size := by unfold strD; simp
  rw [hl]
  refine ⟨fun i hi => hi, Nat.le_refl _, fun i x H' hi y => ?_⟩
  obtain ⟨e, c, hc, rfl⟩ := y
  subst e
  refine ⟨_, ?_, .inl rfl, .str _⟩
  unfold strD
  rw [List.getElem?_map, Array.getElem?_toList, hc]
  rfl
/-- for x in e -/
def iSeq (m : EM) : Env → Store → Rs (List D) := fun r S => (m r S).bind fun x S1 => if okI x.2 then (match x.1 with
  | .lst ds => .ok ds S1
  | .frz ds => .ok ds S1
  | .tup ds => .ok ds S1
  | .str z => .ok (strD z) S1
  | _ => .no) else .no
theorem mi_seq {e : Expr} {m : EM} (he : ME X ct e m) : MI X ct tg e (iSeq m) := by
  refine ⟨fun G W tk => (PI.or (pi_list (he.run G W tk)) (PI.or (pi_tup (he.run G W tk)) (pi_str (he.run G W tk)))).imp fun s H R h => ?_⟩
  obtain ⟨r, S, io, k, h⟩ := h
  have fr : ∀ {Q : VK}, (∀ x S1 io1 H1 v, Stp io H io1 H1 → StoOk X.K ct (Mall G r s) io1 S1 H1 → ResOk X.K ct (Mall G r s) (Mown G r s) H io1 S1 H1 x.2 x.1 v → m r S = .ok x S1 → Q v H1) → Res X.K ct W (Mall G r s) s io H (m r S) (fun x S' io' H' => ∀ v, ResOk X.K ct (Mall G r s) (Mown G r s) H io' S' H' x.2 x.1 v → Q v H') := fun {Q} q => by
    refine Res.first h fun x S1 io1 H1 e1 t1 q1 h1 v ov => ?_
    exact q x S1 io1 H1 v t1 q1 ov e1
  cases e0 : m r S with
  | no => unfold iSeq at h; rw [e0] at h; exact h.elim
  | er c p S' =>
    refine .inl ⟨r, S, io, k, fr fun x S1 io1 H1 v _ _ _ e1 => ?_⟩
    rw [e0] at e1
    cases e1
  | ok x S1 =>
    unfold iSeq at h
    rw [e0] at h
    have h : Res X.K ct W (Mall G r s) s io H (if okI x.2 then (match x.1 with
      | .lst ds => Rs.ok ds S1
      | .frz ds => .ok ds S1
      | .tup ds => .ok ds S1
      | .str z => .ok (strD z) S1
      | _ => .no) else .no) _ := h
    split at h
    · rename_i g
      split at h
      · rename_i ds e
        refine .inl ⟨r, S, io, k, ?_⟩
        rw [e0]
        intro io1 H1 t1 q1 v ov
        have o2 := okI_argF g ov.repF
        rw [e] at o2
        obtain ⟨a, vs, ev, h1, h2⟩ := argF_top g o2
        refine ⟨a, ev, ⟨vs, SqL.of h1⟩, h.go t1 q1 _ _ (walk_lst (d := .lst ds) g rfl) fun p hp => ?_⟩
        rw [List.mem_singleton.mp hp, ← ev]
        exact o2
      · rename_i ds e
        refine .inl ⟨r, S, io, k, ?_⟩
        rw [e0]
        intro io1 H1 t1 q1 v ov
        have o2 := okI_argF g ov.repF
        rw [e] at o2
        obtain ⟨a, vs, ev, h1, h2⟩ := argF_frz g o2
        refine ⟨a, ev, ⟨vs, h1⟩, h.go t1 q1 _ _ (walk_lst (d := .frz ds) g rfl) fun p hp => ?_⟩
        rw [List.mem_singleton.mp hp, ← ev]
        exact o2
      · rename_i ds e
        refine .inr (.inl ⟨r, S, io, k, ?_⟩)
        rw [e0]
        intro io1 H1 t1 q1 v ov
        have o2 := okI_argF g ov.repF
        rw [e] at o2
        obtain ⟨a, vs, ev, h1, h2⟩ := argF_tup g o2
        refine ⟨a, ev, ⟨vs, h1⟩, h.go t1 q1 _ _ (walk_tupD g) fun p hp => ?_⟩
        rw [List.mem_singleton.mp hp, ← ev]
        exact o2
      · rename_i z e
        refine .inr (.inr ⟨r, S, io, k, ?_⟩)
        rw [e0]
        intro io1 H1 t1 q1 v ov
        have o2 := ov.repF
        rw [e] at o2
        exact ⟨z, str_of o2, h.go t1 q1 _ [] walk_strD fun p hp => nomatch hp⟩
      · exact h.elim
    · exact h.elim
def iArgs (g : List (Fl × D) → Option (List D)) (t : AM) : Env → Store → Rs (List D) := fun r S => (t r S).bind fun as S1 => lift0 (g as) S1
theorem iargs_go {t : AM} {g : List (Fl × D) → Option (List D)} {G : Gx} {W : WX} {s : St} {H : Hp} {R : It → Hp → Prop} {Q : List V → Hp → Prop} (h : tI X.K ct G W (iArgs g t) s H R)
    (q : ∀ M N io H1 as vs ds, ArgsOk X.K M N io H1 as vs → g as = some ds → (∀ J held, WalkD X.K J held ds → (∀ p ∈ held, ArgF X.K M N io H1 p.1 p.2.1 p.2.2) → R J H1) → Q vs H1) : tA X.K ct G W t s H Q := by
  obtain ⟨r, S, io, k, h⟩ := h
  refine ⟨r, S, io, k, Res.first h fun as S1 io1 H1 e1 t1 q1 h1 vs o => ?_⟩
  unfold lift0 at h1
  split at h1
  · rename_i ds e
    exact q _ _ io1 H1 as vs ds o e fun J held w a => h1.here q1 J held w a
  · exact h1.elim
def inR (i : Int) : Bool := decide (-(2 ^ 62) ≤ i) && decide (i < 2 ^ 62)
def gRng1 : List (Fl × D) → Option (List D) := fun as => match as with
  | [(_, .int j)] => if inR j then some (rangeD 0 1 j.toNat) else none
  | _ => none
def gRng2 : List (Fl × D) → Option (List D) := fun as => match as with
  | [(_, .int i), (_, .int j)] => if inR i && inR j then some (rangeD i 1 (j - i).toNat) else none
  | _ => none
def gRngM : List (Fl × D) → Option (List D) := fun as => match as with
  | [(_, .int i), (_, .int j), (_, .int c)] => if inR i && inR j && decide (c = -1) then some (rangeD i (-1) (i - j).toNat) else none
  | _ => none
theorem inR_of {i : Int} (h : inR i = true) : -(2 ^ 62) ≤ i ∧ i < 2 ^ 62 := by
  unfold inR at h
  simp only [Bool.and_eq_true, decide_eq_true_eq] at h
  exact h
theorem args1 {K : PySem.W.Frag} {M N : Addr → Prop} {io : List Addr} {H : Hp} {p : Fl × D} {vs : List V} (h : ArgsOk K M N io H [p] vs) : ∃ v, vs = [v] ∧ RepF K M N io H p.1 p.2 v := by
  cases h with
  | cons r t => cases t; exact ⟨_, rfl, r⟩
theorem args2 {K : PySem.W.Frag} {M N : Addr → Prop} {io : List Addr} {H : Hp} {p q : Fl × D} {vs : List V} (h : ArgsOk K M N io H [p, q] vs) : ∃ v w, vs = [v, w] ∧ RepF K M N io H p.1 p.2 v ∧ RepF K M N io H q.1 q.2 w := by
  cases h with
  | cons r t =>
    obtain ⟨w, rfl, h⟩ := args1 t
    exact ⟨_, w, rfl, r, h⟩
theorem args3 {K : PySem.W.Frag} {M N : Addr → Prop} {io : List Addr} {H : Hp} {p q u : Fl × D} {vs : List V} (h : ArgsOk K M N io H [p, q, u] vs) : ∃ v w z, vs = [v, w, z] ∧ RepF K M N io H p.1 p.2 v ∧ RepF K M N io H q.1 q.2 w ∧ RepF K M N io H u.1 u.2 z := by
  cases h with
  | cons r t =>
    obtain ⟨w, z, rfl, h⟩ := args2 t
    exact ⟨_, w, z, rfl, r, h⟩
theorem mi_range1 {a : Expr} {t : AM} {p : Pos} (hg : Gl X "range") (hm : X.mg "range" = none) (ha : MA X ct [a] t) (hs : starEach [a] X.env = [(false, eval a X.env)] := by rfl) : MI X ct tg (.Call (.Name "range" p) [a] [] pos) (iArgs gRng1 t) :=
  ⟨fun G W tk => (pi_range1 hg hm (ha.run G W tk) hs).imp fun s H R h => iargs_go h fun M N io H1 as vs ds o e w => by
    unfold gRng1 at e
    split at e
    · rename_i f j
      split at e
      · rename_i g
        cases e
        obtain ⟨v, rfl, r⟩ := args1 o
        exact ⟨j, by rw [int_of r], (inR_of g).1, (inR_of g).2, w _ [] walk_rangeD fun p hp => nomatch hp⟩
      · cases e
    · cases e⟩
theorem mi_range2 {a b : Expr} {t : AM} {p : Pos} (hg : Gl X "range") (hm : X.mg "range" = none) (ha : MA X ct [a, b] t) (hs : starEach [a, b] X.env = [(false, eval a X.env), (false, eval b X.env)] := by rfl) (hs2 : starEach [b] X.env = [(false, eval b X.env)] := by rfl) :
    MI X ct tg (.Call (.Name "range" p) [a, b] [] pos) (iArgs gRng2 t) :=
  ⟨fun G W tk => (pi_range2 hg hm (ha.run G W tk) hs hs2).imp fun s H R h => iargs_go h fun M N io H1 as vs ds o e w => by
    unfold gRng2 at e
    split at e
    · rename_i f i f' j
      split at e
      · rename_i g
        rw [Bool.and_eq_true] at g
        cases e
        obtain ⟨v, u, rfl, r, r'⟩ := args2 o
        exact ⟨i, j, by rw [int_of r, int_of r'], ⟨(inR_of g.1).1, (inR_of g.1).2, (inR_of g.2).1, (inR_of g.2).2⟩, w _ [] walk_rangeD fun p hp => nomatch hp⟩
      · cases e
    · cases e⟩
theorem mi_rangeM {a b c : Expr} {t : AM} {p : Pos} (hg : Gl X "range") (hm : X.mg "range" = none) (ha : MA X ct [a, b, c] t) (hs : starEach [a, b, c] X.env = (false, eval a X.env) :: starEach [b, c] X.env := by rfl) (hpl : (backTo pos (starEach [b, c] X.env)).any (·.1) = false := by rfl) :
    MI X ct tg (.Call (.Name "range" p) [a, b, c] [] pos) (iArgs gRngM t) :=
  ⟨fun G W tk => (pi_range3 hg hm (ha.run G W tk) hs hpl).imp fun s H R h => iargs_go h fun M N io H1 as vs ds o e w => by
    unfold gRngM at e
    split at e
    · rename_i f i f' j f2 c
      split at e
      · rename_i g
        rw [Bool.and_eq_true, Bool.and_eq_true, decide_eq_true_eq] at g
        obtain ⟨⟨g1, g2⟩, rfl⟩ := g
        cases e
        obtain ⟨v, u, z, rfl, r, r', r2⟩ := args3 o
        exact ⟨i, j, -1, _, by rw [int_of r, int_of r', int_of r2], RgC.neg (inR_of g1).1 (inR_of g1).2 (inR_of g2).1 (inR_of g2).2, w _ [] walk_rangeCD fun p hp => nomatch hp⟩
      · cases e
    · cases e⟩
def gSeq1 (h : List D → List D) : List (Fl × D) → Option (List D) := fun as => match as with
  | [(f, d)] => if okI f then (seqOf d).map h else none
  | _ => none
theorem gSeq1_of {h : List D → List D} {as : List (Fl × D)} {ds : List D} (e : gSeq1 h as = some ds) : ∃ f d xs, as = [(f, d)] ∧ okI f = true ∧ seqOf d = some xs ∧ ds = h xs := by
  unfold gSeq1 at e
  split at e
  · rename_i f d
    split at e
    · rename_i g
      obtain ⟨xs, e1, e2⟩ := Option.map_eq_some_iff.mp e
      exact ⟨f, d, xs, rfl, g, e1, e2.symm⟩
    · cases e
  · cases e
theorem mi_rev {a : Expr} {t : AM} {p : Pos} (hg : Gl X "reversed") (hm : X.mg "reversed" = none) (ha : MA X ct [a] t) (hs : starEach [a] X.env = [(false, eval a X.env)] := by rfl) : MI X ct tg (.Call (.Name "reversed" p) [a] [] pos) (iArgs (gSeq1 List.reverse) t) :=
  ⟨fun G W tk => (pi_reversed hg hm (ha.run G W tk) hs).imp fun s H R h => iargs_go h fun M N io H1 as vs ds o e w => by
    obtain ⟨f, d, xs, rfl, g, e1, rfl⟩ := gSeq1_of e
    obtain ⟨v, rfl, r⟩ := args1 o
    have o2 := okI_argF g r
    obtain ⟨a, vs, ev, h1, h2⟩ := argF_seq g e1 o2
    refine ⟨a, vs, by rw [ev], h1, ?_⟩
    rw [← h2.len]
    refine w _ _ (walk_revD g e1) fun p hp => ?_
    rw [List.mem_singleton.mp hp, ← ev]
    exact o2⟩
theorem mi_enum {a : Expr} {t : AM} {p tpos : Pos} {elts : List Expr} {kk : Nat} (hg : Gl X "enumerate") (hm : X.mg "enumerate" = none) (ha : MA X ct [a] t) (hs : starEach [a] X.env = [(false, eval a X.env)] := by rfl) : MI X ct (.Tuple elts kk tpos) (.Call (.Name "enumerate" p) [a] [] pos) (iArgs (gSeq1 enumD) t) :=
  ⟨fun G W tk => (pi_enum hg hm (ha.run G W tk) hs).imp fun s H R h => iargs_go h fun M N io H1 as vs ds o e w => by
    obtain ⟨f, d, xs, rfl, g, e1, rfl⟩ := gSeq1_of e
    obtain ⟨v, rfl, r⟩ := args1 o
    have o2 := okI_argF g r
    obtain ⟨a, vs, ev, h1, h2⟩ := argF_seq g e1 o2
    refine ⟨a, vs, by rw [ev], h1, w _ _ (walk_enumD g e1) fun p hp => ?_⟩
    rw [List.mem_singleton.mp hp, ← ev]
    exact o2⟩
def gZip : List (Fl × D) → Option (List D) := fun as => match as with
  | [(f, d), (f', d')] => if okI f && okI f' then (match seqOf d, seqOf d' with
    | some xs, some ys => some (zipD xs ys)
    | _, _ => none) else none
  | _ => none
theorem mi_zip {a b : Expr} {t : AM} {p tpos : Pos} {elts : List Expr} {kk : Nat} (hg : Gl X "zip") (hm : X.mg "zip" = none) (ha : MA X ct [a, b] t)
    (hs : starEach [a, b] X.env = (false, eval a X.env) :: starEach [b] X.env := by rfl) (hpl : (backTo pos (starEach [b] X.env)).any (·.1) = false := by rfl) : MI X ct (.Tuple elts kk tpos) (.Call (.Name "zip" p) [a, b] [] pos) (iArgs gZip t) :=
  ⟨fun G W tk => (pi_zip hg hm (ha.run G W tk) hs hpl).imp fun s H R h => iargs_go h fun M N io H1 as vs ds o e w => by
    unfold gZip at e
    split at e
    · rename_i f d f' d'
      split at e
      · rename_i g
        rw [Bool.and_eq_true] at g
        split at e
        · rename_i xs ys e1 e2
          cases e
          obtain ⟨v, u, rfl, r, r'⟩ := args2 o
          have o1 := okI_argF g.1 r
          have o2 := okI_argF g.2 r'
          obtain ⟨a, vs, ev, h1, h2⟩ := argF_seq g.1 e1 o1
          obtain ⟨b, ws, ew, h3, h4⟩ := argF_seq g.2 e2 o2
          refine ⟨a, b, vs, ws, by rw [ev, ew], h1, h3, w _ _ (walk_zipD g.1 e1 g.2 e2) fun p hp => ?_⟩
          rcases List.mem_cons.mp hp with z | hp
          · rw [z, ← ev]
            exact o1
          · rw [List.mem_singleton.mp hp, ← ew]
            exact o2
        · cases e
      · cases e
    · cases e⟩
/-! ### for -/
def forL (g : GM) (b : SM) : List D → Env → Store → SR
  | [], r, S => .nx r S
  | d :: ds, r, S => match g d r with
    | none => .no
    | some r1 => match b r1 S with
      | .nx r' S' => forL g b ds r' S'
      | .ct r' S' => forL g b ds r' S'
      | .bk r' S' => .nx r' S'
      | x => x
def sFor (mi : Env → Store → Rs (List D)) (g : GM) (b : SM) : SM := fun r S => (mi r S).sb r fun ds S1 => forL g b ds r S1
theorem Ok.hold {K : PySem.W.Frag} {G : Gx} {r : Env} {S : Store} {io : List Addr} {s : St} {H : Hp} (k : Ok K ct G r S io s H) {h : List (Fl × D × V)} (q : ∀ p ∈ h, ArgF K (Mall G r s) (Mown G r s) io H p.1 p.2.1 p.2.2) : Ok K ct { G with held := h ++ G.held } r S io s H :=
  ⟨k.len, k.arg, k.own, k.inj, k.sto, k.stp, k.m0, k.n0, fun p hp => (List.mem_append.mp hp).elim (q p) (k.held p)⟩
theorem Ok.drop {K : PySem.W.Frag} {G : Gx} {r : Env} {S : Store} {io : List Addr} {s : St} {H : Hp} {h : List (Fl × D × V)} (k : Ok K ct { G with held := h ++ G.held } r S io s H) : Ok K ct G r S io s H :=
  ⟨k.len, k.arg, k.own, k.inj, k.sto, k.stp, k.m0, k.n0, fun p hp => k.held p (List.mem_append_right _ hp)⟩
theorem ms_for {iter : Expr} {body : List Stmt} {mi : Env → Store → Rs (List D)} {ts : List Nat} {g : GM} {b : SM} (hc : X.calm = true) (hi : MI X ct tg iter mi) (hg : MG X ct tg ts g) (hb : MSs X ct body b)
    (hs : ∀ x, foldedSetIterable iter X.env x = pure x := by intro _; rfl) : MS X ct (.For tg iter body [] pos) (sFor mi g b) := by
  refine ⟨fun G W tk po => (ps_for po hc (hi.run G W tk) (PG.ex fun held : List (Fl × D × V) => hg.run { G with held := held ++ G.held }) (PSs.ex fun held : List (Fl × D × V) => hb.run { G with held := held ++ G.held } W tk po) hs).imp fun De s H h => ?_⟩
  obtain ⟨r, S, io, k, h⟩ := h
  refine ⟨r, S, io, k, SRes.first k h fun ds S1 io1 H1 e1 t1 q1 k1 h1 J held wd ha => ?_⟩
  refine ⟨fun i m s H => m = ds.length - i ∧ i ≤ ds.length ∧ ∃ r S io, Ok X.K ct { G with held := held ++ G.held } r S io s H ∧ SRes X.K ct G W De (forL g b (ds.drop i) r S), ⟨_, rfl, Nat.zero_le _, r, S1, io1, k1.hold ha, h1⟩, fun i m s H ⟨hm, hi, r, S, io, k, h⟩ => ?_⟩
  obtain ⟨w1, w2, w3⟩ := wd _ _ io H fun p hp => k.held p (List.mem_append_left _ hp)
  by_cases hlt : i < ds.length
  · refine .inr ⟨w1 i hlt, fun s' H' => ∃ r S io, Ok X.K ct { G with held := held ++ G.held } r S io s' H' ∧ SRes X.K ct G W De (forL g b (ds.drop (i + 1)) r S), fun s' H' n => ⟨ds.length - (i + 1), by omega, rfl, hlt, n⟩, fun x H' y => ?_⟩
    obtain ⟨d, hd, hH, rv⟩ := w3 i x H' hlt y
    have ed : ds.drop i = d :: ds.drop (i + 1) := by
      rw [List.drop_eq_getElem_cons hlt]
      rw [List.getElem?_eq_getElem hlt] at hd
      cases hd
      rfl
    rw [ed] at h
    have k' : Ok X.K ct { G with held := held ++ G.held } r S io s H' := by
      rcases hH with rfl | ⟨T, o, nT, rfl⟩
      · exact k
      · exact k.step (Stp.upd nT) (k.sto.upd nT)
    refine ⟨held, r, S, io, d, k', rv.anti (M := Mall { G with held := held ++ G.held } r s) fun _ z => z, ?_⟩
    unfold forL at h
    cases e2 : g d r with
    | none => rw [e2] at h; exact h
    | some r1 =>
      rw [e2] at h
      intro s2 _ _ k2
      refine ⟨held, r1, S, io, k2, ?_⟩
      have h : SRes X.K ct G W De (match b r1 S with
        | .nx r' S' => forL g b (ds.drop (i + 1)) r' S'
        | .ct r' S' => forL g b (ds.drop (i + 1)) r' S'
        | .bk r' S' => .nx r' S'
        | x => x) := h
      cases e3 : b r1 S with
      | nx r' S' => rw [e3] at h; exact fun s' io' H' k' => ⟨r', S', io', k', h⟩
      | ct r' S' => rw [e3] at h; exact fun s' io' H' k' => ⟨r', S', io', k', h⟩
      | bk r' S' => rw [e3] at h; exact fun s' io' H' k' => h s' io' H' k'.drop
      | rt d f S' => rw [e3] at h; exact h
      | er c p r' S' => rw [e3] at h; exact fun dx s' io' H' k' e => h dx s' io' H' k'.drop e
      | no => rw [e3] at h; exact h
  · have ei : i = ds.length := by omega
    subst ei
    refine .inl ⟨w2, ?_⟩
    rw [List.drop_length] at h
    exact h s io H k.drop
/-! ### comprehensions -/
def wipeE (r : Env) : List Nat → Env
  | [] => r
  | v :: vs => (wipeE r vs).set v .no
def freeE (r : Env) (vs : List Nat) : Bool := vs.all fun i => match r[i]? with
  | some (.own _) => false
  | _ => true
theorem wipeE_len (r : Env) : ∀ vs : List Nat, (wipeE r vs).length = r.length
  | [] => rfl
  | v :: vs => by unfold wipeE; rw [List.length_set, wipeE_len r vs]
theorem wipeE_at {r : Env} {i : Nat} {x : Slot} : ∀ {vs : List Nat}, (wipeE r vs)[i]? = some x → x ≠ .no → r[i]? = some x ∧ i ∉ vs
  | [], h, _ => ⟨h, by simp⟩
  | v :: vs, h, hx => by
    unfold wipeE at h
    rcases get_set h with ⟨_, h, _⟩ | ⟨hj, h⟩
    · exact absurd h.symm hx
    · obtain ⟨h1, h2⟩ := wipeE_at h hx
      exact ⟨h1, by simp only [List.mem_cons, not_or]; exact ⟨fun z => hj z.symm, h2⟩⟩
theorem wipeE_out {r : Env} {i : Nat} : ∀ {vs : List Nat}, i ∉ vs → (wipeE r vs)[i]? = r[i]?
  | [], _ => rfl
  | v :: vs, h => by
    simp only [List.mem_cons, not_or] at h
    unfold wipeE
    rw [List.getElem?_set_ne (fun z => h.1 z.symm), wipeE_out h.2]
theorem wipe_out' {s : St} {i : Nat} : ∀ {vs : List Nat}, i ∉ vs → (wipe s vs)[i]? = s[i]?
  | [], _ => rfl
  | v :: vs, h => by
    simp only [List.mem_cons, not_or] at h
    unfold wipe
    rw [List.getElem?_set_ne (fun z => h.1 z.symm), wipe_out' h.2]
theorem wipe_in {s : St} {i : Nat} : ∀ {vs : List Nat}, i ∈ vs → i < s.length → (wipe s vs)[i]? = some none
  | v :: vs, h, hl => by
    unfold wipe
    by_cases e : v = i
    · subst e
      rw [List.getElem?_set_self (by rw [wipe_length]; exact hl)]
    · rw [List.getElem?_set_ne e]
      rcases List.mem_cons.mp h with z | z
      · exact absurd z.symm e
      · exact wipe_in z hl
theorem wipe_eq {s s' : St} {vs : List Nat} (hl : s'.length = s.length) (h : ∀ j, j ∉ vs → s'[j]? = s[j]?) : wipe s' vs = wipe s vs := by
  refine List.ext_getElem? fun j => ?_
  by_cases hj : j ∈ vs
  · rcases Nat.lt_or_ge j s.length with hlt | hge
    · rw [wipe_in hj hlt, wipe_in hj (hl ▸ hlt)]
    · rw [List.getElem?_eq_none (by rw [wipe_length]; omega), List.getElem?_eq_none (by rw [wipe_length]; omega)]
  · rw [wipe_out' hj, wipe_out' hj, h j hj]
section
variable {K : PySem.W.Frag} {G : Gx} {r : Env} {S : Store} {io : List Addr} {s : St} {H : Hp} {vs : List Nat}
theorem mown_wipe (g : freeE r vs = true) : Mown G (wipeE r vs) (wipe s vs) = Mown G r s := by
  funext a
  refine propext ⟨fun z => ?_, fun z => ?_⟩
  · rcases z with z | ⟨i, d, h1, h2⟩
    · exact .inl z
    · obtain ⟨h1, h3⟩ := wipeE_at h1 (by simp)
      rw [wipe_out' h3] at h2
      exact .inr ⟨i, d, h1, h2⟩
  · rcases z with z | ⟨i, d, h1, h2⟩
    · exact .inl z
    · have hi : i ∉ vs := fun z => by
        have q := List.all_eq_true.mp g i z
        rw [h1] at q
        cases q
      exact .inr ⟨i, d, by rw [wipeE_out hi]; exact h1, by rw [wipe_out' hi]; exact h2⟩
theorem mall_wipe (g : freeE r vs = true) : Mall G (wipeE r vs) (wipe s vs) = Mall G r s := by
  unfold Mall
  rw [mown_wipe g]
theorem Ok.wipe (k : Ok K ct G r S io s H) (g : freeE r vs = true) : Ok K ct G (wipeE r vs) S io (wipe s vs) H := by
  refine ⟨by rw [wipeE_len, wipe_length]; exact k.len, fun i f d h => ?_, fun i d h => ?_, fun i j d e a h1 h2 h3 h4 => ?_, by rw [mall_wipe g]; exact k.sto, k.stp, k.m0, k.n0, by rw [mall_wipe g, mown_wipe g]; exact k.held⟩
  · obtain ⟨h, hi⟩ := wipeE_at h (by simp)
    rw [mall_wipe g, mown_wipe g, wipe_out' hi]
    exact k.arg i f d h
  · obtain ⟨h, hi⟩ := wipeE_at h (by simp)
    rw [mall_wipe g, wipe_out' hi]
    exact k.own i d h
  · obtain ⟨h1, hi⟩ := wipeE_at h1 (by simp)
    obtain ⟨h2, hj⟩ := wipeE_at h2 (by simp)
    rw [wipe_out' hi] at h3
    rw [wipe_out' hj] at h4
    exact k.inj i j d e a h1 h2 h3 h4
/-- the new list, hidden from the slots -/
def Gx.hide (G : Gx) (D : Addr) : Gx := { G with N0 := fun a => G.N0 a ∨ a = D }
theorem mown_hide {D a : Addr} : Mown (G.hide D) r s a ↔ Mown G r s a ∨ a = D := by
  constructor
  · rintro ((z | z) | z)
    · exact .inl (.inl z)
    · exact .inr z
    · exact .inl (.inr z)
  · rintro ((z | z) | z)
    · exact .inl (.inl z)
    · exact .inr z
    · exact .inl (.inr z)
theorem mall_hide {D a : Addr} : Mall (G.hide D) r s a ↔ Mall G r s a ∨ a = D := by
  unfold Mall
  rw [mown_hide]
  constructor
  · rintro (z | z | z)
    · exact .inl (.inl z)
    · exact .inl (.inr z)
    · exact .inr z
  · rintro ((z | z) | z)
    · exact .inl z
    · exact .inr (.inl z)
    · exact .inr (.inr z)
theorem Ok.hide {D : Addr} (k : Ok K ct G r S io s H) (hD : H D = none) : Ok K ct (G.hide D) r S io s (upd H D (.lst [])) := by
  have st : Stp io H io (upd H D (.lst [])) := Stp.upd hD
  have ne : ∀ a, (∃ o, H a = some o) → a ≠ D := fun a ⟨o, e⟩ z => by
    rw [z, hD] at e
    cases e
  have m : ∀ a, (∃ o, H a = some o) → ¬ Mall G r s a → ¬ Mall (G.hide D) r s a := fun a e n z => (mall_hide.mp z).elim n (ne a e)
  have m' : ∀ a, (∃ o, H a = some o) → ¬ Mown G r s a → ¬ Mown (G.hide D) r s a := fun a e n z => (mown_hide.mp z).elim n (ne a e)
  refine ⟨k.len, fun i f d h => ?_, fun i d h => ?_, k.inj, k.sto.mono st.kp m (fun b _ _ _ _ e => by rw [upd_ne (ne b ⟨_, e⟩)]; exact e) (fun b _ e => by rw [upd_ne (ne b ⟨_, e⟩)]; exact e), k.stp.trans st, fun a h => ?_, fun a h => ?_, fun p hp => (k.held p hp).mono st.kp st.kp m m' st.pre⟩
  · obtain ⟨v, h1, h2⟩ := k.arg i f d h
    exact ⟨v, h1, h2.mono st.kp st.kp m m' st.pre⟩
  · obtain ⟨a, h1, h2, h3, h4, h5⟩ := k.own i d h
    obtain ⟨o, e, _⟩ := h2.there
    exact ⟨a, h1, h2.mono st.kp m st.pre fun o e n => st.k1 a o e n, h3, fun z => z.elim h4 (ne a ⟨o, e⟩), h5⟩
  · obtain ⟨o, e, n⟩ := k.m0 a h
    exact ⟨o, st.k1 a o e n, n⟩
  · rcases h with h | rfl
    · obtain ⟨o, ⟨e, n⟩, y⟩ := k.n0 a h
      exact ⟨o, ⟨st.k1 a o e n, n⟩, y⟩
    · refine ⟨.lst [], ⟨upd_same, NI.lst⟩, fun z => ?_, k.stp.free hD, not_im_lst⟩
      obtain ⟨o, e, _⟩ := k.m0 a z
      rw [hD] at e
      cases e
theorem Ok.mutN {D : Addr} {vs ws : List V} (k : Ok K ct G r S io s H) (hN : G.N0 D) (hD : H D = some (.lst vs)) : Ok K ct G r S io s (upd H D (.lst ws)) := by
  have ma : Mown G r s D := .inl hN
  have mb : Mall G r s D := .inr ma
  have kp : ∀ M : Addr → Prop, M D → Kp M H (upd H D (.lst ws)) := fun M hm b u q ni z => by
    rw [upd_ne]
    · exact q
    · rintro rfl
      rcases z with z | z
      · exact z hm
      · rw [hD] at q
        cases q
        exact not_im_lst z
  obtain ⟨o, ⟨_, _⟩, nm, n0, _⟩ := k.n0 D hN
  have h0 : ∀ b u, G.H0 b = some u → b ≠ D := fun b u q y => by
    rw [y, n0] at q
    cases q
  refine ⟨k.len, fun i f d h => ?_, fun i d h => ?_, k.inj, k.sto.mono (kp _ mb) (fun _ _ n => n) (fun b _ _ _ _ e => ?_) (fun b _ e => ?_), ⟨fun b u q n => ?_, fun b u q n nt => ?_, k.stp.pre, k.stp.new, fun b u q => ?_⟩, fun a h => ?_, fun a h => ?_, fun p hp => (k.held p hp).mono (kp _ mb) (kp _ ma) (fun _ _ n => n) (fun _ _ n => n) io_refl⟩
  · obtain ⟨v, h1, h2⟩ := k.arg i f d h
    exact ⟨v, h1, h2.mono (kp _ mb) (kp _ ma) (fun _ _ n => n) (fun _ _ n => n) io_refl⟩
  · obtain ⟨a, h1, h2, h3, h4, h5⟩ := k.own i d h
    refine ⟨a, h1, h2.mono (kp _ mb) (fun _ _ n => n) io_refl fun o e _ => ?_, h3, h4, h5⟩
    rw [upd_ne]
    · exact e
    · exact fun z => h4 (z ▸ hN)
  · rw [upd_ne]
    · exact e
    · intro z
      rw [z, hD] at e
      cases e
  · rw [upd_ne]
    · exact e
    · intro z
      rw [z, hD] at e
      cases e
  · rw [upd_ne (h0 b u q)]
    exact k.stp.k1 b u q n
  · rw [upd_ne (h0 b u q)]
    exact k.stp.k2 b u q n nt
  · rw [upd_ne (h0 b u q)]
    exact k.stp.dom b u q
  · obtain ⟨o, e, n⟩ := k.m0 a h
    refine ⟨o, ?_, n⟩
    rw [upd_ne]
    · exact e
    · exact fun z => nm (z ▸ h)
  · by_cases z : a = D
    · subst z
      exact ⟨.lst ws, ⟨upd_same, NI.lst⟩, nm, n0, not_im_lst⟩
    · obtain ⟨o, ⟨e, n⟩, y⟩ := k.n0 a h
      exact ⟨o, ⟨by rw [upd_ne z]; exact e, n⟩, y⟩
end
def compL (g : GM) (tt : TM) (te : EM) (r : Env) : List D → Store → Rs (List D)
  | [], S => .ok [] S
  | d :: ds, S => match g d r with
    | none => .no
    | some r1 => match tt r1 S with
      | .ok true S1 => match te r1 S1 with
        | .ok x S2 => if okst x.2 x.1 then (match compL g tt te r ds S2 with
          | .ok xs S3 => .ok (x.1 :: xs) S3
          | _ => .no) else .no
        | _ => .no
      | .ok false S1 => compL g tt te r ds S1
      | _ => .no
def eLc (mi : Env → Store → Rs (List D)) (vs : List Nat) (g : GM) (tt : TM) (te : EM) : EM := fun r S => if freeE r vs then (mi r S).bind fun ds S1 => if ds.length ≤ sizeLine then (match compL g tt te (wipeE r vs) ds S1 with
  | .ok xs S2 => .ok (.lst xs, .n) S2
  | _ => .no) else .no else .no
abbrev W0 : WX := fun _ _ _ _ => False
theorem lc_go {mi : Env → Store → Rs (List D)} {vs ts : List Nat} {g : GM} {tt : TM} {te : EM} (hts : ∀ j ∈ ts, j ∈ vs) {G : Gx} {W : WX} {s : St} {H : Hp} {Q : VK} (h : tE X.K ct G W (eLc mi vs g tt te) s H Q) :
    tLc (tI X.K ct G W mi) (fun v s H Q => ∃ G' : Gx, tG X.K ct G' ts g v s H Q) (fun s H Q => ∃ G' : Gx, tT X.K ct G' W0 tt s H Q) (fun s H Q => ∃ G' : Gx, tE X.K ct G' W0 te s H Q) vs s H Q := by
  obtain ⟨r, S, io, k, h⟩ := h
  unfold eLc at h
  split at h
  case isFalse => exact h.elim
  rename_i fr
  refine ⟨r, S, io, k, Res.first h fun ds S1 io1 H1 e1 t1 q1 h1 J held wd ha D hD => ?_⟩
  have k1 := k.step t1 q1
  split at h1
  case isFalse => exact h1.elim
  rename_i hz
  have kh : Ok X.K ct ({ G with held := held ++ G.held }) r S1 io1 s H1 := k1.hold ha
  have kd : Ok X.K ct (({ G with held := held ++ G.held } : Gx).hide D) (wipeE r vs) S1 io1 (wipe s vs) (upd H1 D (.lst [])) := (kh.hide hD).wipe fr
  generalize hG' : ({ G with held := held ++ G.held } : Gx).hide D = G' at kd
  have hN : G'.N0 D := by rw [← hG']; exact .inr rfl
  have eM : ∀ a, Mall G' (wipeE r vs) (wipe s vs) a ↔ Mall G r s a ∨ a = D := fun a => by
    rw [mall_wipe fr, ← hG', mall_hide]
    exact Iff.rfl
  split at h1
  case h_2 => exact h1.elim
  rename_i total Sf ec
  refine ⟨fun i m H => m = ds.length - i ∧ i ≤ ds.length ∧ ∃ S io acc us, Ok X.K ct G' (wipeE r vs) S io (wipe s vs) H ∧ Stp io1 H1 io H ∧ H D = some (.lst us) ∧ Reps X.K (Mall G' (wipeE r vs) (wipe s vs)) io H acc us ∧ acc.length ≤ i ∧
      ∃ rest, compL g tt te (wipeE r vs) (ds.drop i) S = .ok rest Sf ∧ acc ++ rest = total,
    ⟨_, rfl, Nat.zero_le _, S1, io1, [], [], kd, Stp.upd hD, upd_same, .nil, Nat.le_refl _, total, ec, rfl⟩, fun i m H ⟨hm, hi, S, io, acc, us, k, st, hus, ra, hal, rest, er, et⟩ => ?_⟩
  obtain ⟨w1, w2, w3⟩ := wd _ _ io H fun p hp => k.held p (by rw [← hG']; exact List.mem_append_left _ hp)
  by_cases hlt : i < ds.length
  · refine .inr ⟨w1 i hlt, fun H' => i + 1 ≤ ds.length ∧ ∃ S io acc us, Ok X.K ct G' (wipeE r vs) S io (wipe s vs) H' ∧ Stp io1 H1 io H' ∧ H' D = some (.lst us) ∧ Reps X.K (Mall G' (wipeE r vs) (wipe s vs)) io H' acc us ∧ acc.length ≤ i + 1 ∧
      ∃ rest, compL g tt te (wipeE r vs) (ds.drop (i + 1)) S = .ok rest Sf ∧ acc ++ rest = total, fun H' n => ⟨ds.length - (i + 1), by omega, rfl, n⟩, fun x H' y => ?_⟩
    obtain ⟨d, hd, hH, rv⟩ := w3 i x H' hlt y
    have ed : ds.drop i = d :: ds.drop (i + 1) := by
      rw [List.drop_eq_getElem_cons hlt]
      rw [List.getElem?_eq_getElem hlt] at hd
      cases hd
      rfl
    rw [ed] at er
    have ts' : Stp io H io H' := by
      rcases hH with rfl | ⟨T, o, nT, rfl⟩
      · exact Stp.refl
      · exact Stp.upd nT
    have k' : Ok X.K ct G' (wipeE r vs) S io (wipe s vs) H' := by
      rcases hH with rfl | ⟨T, o, nT, rfl⟩
      · exact k
      · exact k.step (Stp.upd nT) (k.sto.upd nT)
    have hus' : H' D = some (.lst us) := ts'.k1 D _ hus NI.lst
    unfold compL at er
    refine ⟨G', wipeE r vs, S, io, d, k', rv, ?_⟩
    cases e2 : g d (wipeE r vs) with
    | none => rw [e2] at er; cases er
    | some r1 =>
      rw [e2] at er
      have er : (match tt r1 S with
        | .ok true S1 => match te r1 S1 with
          | .ok x S2 => if okst x.2 x.1 then (match compL g tt te (wipeE r vs) (ds.drop (i + 1)) S2 with
            | .ok xs S3 => Rs.ok (x.1 :: xs) S3
            | _ => .no) else .no
          | _ => .no
        | .ok false S1 => compL g tt te (wipeE r vs) (ds.drop (i + 1)) S1
        | _ => .no) = .ok rest Sf := er
      intro s2 kp m2 k2
      -- own ones are the same in the turn
      have mo : ∀ a, Mall G' (wipeE r vs) (wipe s vs) a → Mall G' r1 s2 a := fun a z => by
        rcases z with z | z | ⟨j, u, z1, z2⟩
        · exact .inl z
        · exact .inr (.inl z)
        · obtain ⟨_, hj⟩ := wipeE_at z1 (by simp)
          have hj' : j ∉ ts := fun z => hj (hts j z)
          exact .inr (.inr ⟨j, u, by rw [(kp.2 j hj').1]; exact z1, by rw [(kp.2 j hj').2]; exact z2⟩)
      have eMM : Mall G' r1 s2 = Mall G' (wipeE r vs) (wipe s vs) := funext fun a => propext ⟨m2 a, mo a⟩
      refine ⟨?_, ?_⟩
      · have hl : s2.length = (wipe s vs).length := kp.1
        rw [wipe_eq (s := wipe s vs) hl fun j hj => (kp.2 j fun z => hj (hts j z)).2]
        exact wipe_eq (wipe_length s vs) fun j hj => wipe_out' hj
      · cases e3 : tt r1 S with
        | no => rw [e3] at er; cases er
        | er c p S' => rw [e3] at er; cases er
        | ok bb S2 =>
          rw [e3] at er
          refine ⟨G', r1, S, io, k2, ?_⟩
          rw [e3]
          intro io3 H3 t3 q3
          have q3' : StoOk X.K ct (Mall G' (wipeE r vs) (wipe s vs)) io3 S2 H3 := by rw [← eMM]; exact q3
          have k3 := k'.step t3 q3'
          have k3' := k2.step t3 q3
          cases bb with
          | false =>
            refine iteF ⟨hlt, S2, io3, acc, us, k3, (st.trans ts').trans t3, t3.k1 D _ hus' NI.lst, (ra.stp ts').stp t3, by omega, rest, er, et⟩
          | true =>
            refine iteT ?_
            have er : (match te r1 S2 with
              | .ok x S2 => if okst x.2 x.1 then (match compL g tt te (wipeE r vs) (ds.drop (i + 1)) S2 with
                | .ok xs S3 => Rs.ok (x.1 :: xs) S3
                | _ => .no) else .no
              | _ => .no) = .ok rest Sf := er
            cases e4 : te r1 S2 with
            | no => rw [e4] at er; cases er
            | er c p S' => rw [e4] at er; cases er
            | ok xv S3 =>
              rw [e4] at er
              refine ⟨G', r1, S2, io3, k3', ?_⟩
              rw [e4]
              intro io4 H4 t4 q4 v ov
              have er : (if okst xv.2 xv.1 then (match compL g tt te (wipeE r vs) (ds.drop (i + 1)) S3 with
                | .ok xs S3 => Rs.ok (xv.1 :: xs) S3
                | _ => .no) else .no) = .ok rest Sf := er
              split at er
              case isFalse => cases er
              rename_i go
              split at er
              case h_2 => cases er
              rename_i xs S4 e5
              cases er
              have q4' : StoOk X.K ct (Mall G' (wipeE r vs) (wipe s vs)) io4 S3 H4 := by rw [← eMM]; exact q4
              have k4 := k3.step t4 q4'
              have hus4 := t4.k1 D _ (t3.k1 D _ hus' NI.lst) NI.lst
              have rv4 : Rep X.K (Mall G' (wipeE r vs) (wipe s vs)) io4 H4 xv.1 v := by
                rw [← eMM]
                exact RepF.clean go ov.repF
              have ra4 := ((ra.stp ts').stp t3).stp t4
              have hll := ra4.len
              refine ⟨us, hus4, by omega, hlt, S3, io4, acc ++ [xv.1], us ++ [v], k4.mutN hN hus4, ?_, upd_same, ?_, by rw [List.length_append]; simp; omega, xs, e5, by rw [List.append_assoc]; exact et⟩
              · have z := ((st.trans ts').trans t3).trans t4
                have nd : ∀ b u, H1 b = some u → b ≠ D := fun b u q y => by
                  rw [y, hD] at q
                  cases q
                exact ⟨fun b u q n => by rw [upd_ne (nd b u q)]; exact z.k1 b u q n, fun b u q n nt => by rw [upd_ne (nd b u q)]; exact z.k2 b u q n nt, z.pre, z.new, fun b u q => by rw [upd_ne (nd b u q)]; exact z.dom b u q⟩
              · have kpm : Kp (Mall G' (wipeE r vs) (wipe s vs)) H4 (upd H4 D (.lst (us ++ [v]))) := fun b u q ni z => by
                  rw [upd_ne]
                  · exact q
                  · rintro rfl
                    rcases z with z | z
                    · exact z (.inr (.inl hN))
                    · rw [hus4] at q
                      cases q
                      exact not_im_lst z
                exact (ra4.mono kpm (fun _ _ n => n) io_refl).app (.cons (rv4.mono kpm (fun _ _ n => n) io_refl) .nil)
  · have ei : i = ds.length := by omega
    subst ei
    refine .inl ⟨w2, ?_⟩
    rw [List.drop_length] at er
    unfold compL at er
    cases er
    rw [List.append_nil] at et
    subst et
    have q : StoOk X.K ct (fun b => Mall G r s b ∨ b = D) io Sf H := by
      have z := k.sto
      exact z.anti fun a w => (eM a).mpr w
    refine h1 io H st (q.anti fun a z => .inl z) (.ref D) ⟨D, rfl, t1.free hD, fun z => ?_, .inl ⟨acc, us, rfl, hus, ra.anti fun a w => (eM a).mpr w⟩, q⟩
    obtain ⟨o, e, _⟩ := k1.mdom D z
    rw [hD] at e
    cases e
/-- a comprehension's clause in every block -/
structure MLc (X : Cx) (ct : CT) (elt tgt iter : Expr) (ifs : List Expr) (scope : Scope) (own : List (Str × Nat)) (mi : Env → Store → Rs (List D)) (g : GM) (tt : TM) (te : EM) : Prop where
  hi : MI X ct tgt iter mi
  ok : BlkOk X.N X.env.scope scope own
  hg : ∃ ts : List Nat, (∀ j ∈ ts, j ∈ own.map (·.2)) ∧ ∀ (s : Shared) (H : Hp) (C : Addr) (cl : List (Str × Addr)) (fp : List Addr), MG (X.blk s H scope (compEnvC scope cl C X.env) fp) ct tgt ts g
  ht : ∀ (s : Shared) (H : Hp) (C : Addr) (cl : List (Str × Addr)) (fp : List Addr), ∀ G, PTs (X.blk s H scope (compEnvC scope cl C X.env) fp) ifs (tT X.K ct G W0 tt)
  he : ∀ (s : Shared) (H : Hp) (C : Addr) (cl : List (Str × Addr)) (fp : List Addr), ME (X.blk s H scope (compEnvC scope cl C X.env) fp) ct elt te
theorem takesB {s : Shared} {H : Hp} {scope : Scope} {cenv : PySem.Env} {fp : List Addr} : Takes (X.blk s H scope cenv fp) W0 := fun _ _ x => by
  obtain ⟨_, _, _, _, _, _, _, _, _, _, _, _, _, _, _, _, z⟩ := x
  exact z
theorem me_lc {elt tgt iter : Expr} {ifs : List Expr} {scope : Scope} {own : List (Str × Nat)} {mi : Env → Store → Rs (List D)} {g : GM} {tt : TM} {te : EM} (hc : X.calm = true) (hN : X.N.Nodup) (h : MLc X ct elt tgt iter ifs scope own mi g tt te)
    (hs : ∀ x, foldedSetIterable iter X.env x = pure x := by intro _; rfl) : ME X ct (.ListComp elt [⟨tgt, iter, ifs, 0⟩] scope pos) (eLc mi (own.map (·.2)) g tt te) := by
  obtain ⟨ts, h1, h2⟩ := h.hg
  exact ⟨fun G W tk => (pe_lc hc hN (h.hi.run G W tk) h.ok (fun s H C cl fp => PG.ex fun G' => (h2 s H C cl fp).run G') (fun s H C cl fp => PTs.ex fun G' => h.ht s H C cl fp G') (fun s H C cl fp => PE.ex fun G' => (h.he s H C cl fp).run G' W0 takesB) hs).imp fun s H Q q => lc_go h1 q⟩
def tYesM : TM := fun _ S => .ok true S
theorem pts_nilM {X : Cx} {G : Gx} {W : WX} : PTs X [] (tT X.K ct G W tYesM) := ⟨fun pins s σ H Q I ⟨r, S, io, k, h⟩ => pts_nil.run pins s σ H Q I (h.here k.sto)⟩
theorem pts_oneM {X : Cx} {G : Gx} {W : WX} {c : Expr} {tt : TM} (tk : Takes X W) (h : MT X ct c tt) : PTs X [c] (tT X.K ct G W tt) := pts_one (h.run G W tk)
theorem setLc_core {i : Nat} {y : Str} {py : Pos} {elt tgt iter : Expr} {ifs : List Expr} {scope : Scope} {own : List (Str × Nat)} {spos : Pos} {mi : Env → Store → Rs (List D)} {g : GM} {tt : TM} {te : EM} (hc : X.calm = true) (hN : X.N.Nodup) (hy : X.N[i]? = some y) (hyl : X.env.scope.names.lookup y = some .local)
    (hsw : swapsWith (.ListComp elt [⟨tgt, iter, ifs, 0⟩] scope pos) (some (.Name y py)) spos.line X.env = pure true) (h : MLc X ct elt tgt iter ifs scope own mi g tt te) (hs : ∀ x, foldedSetIterable iter X.env x = pure x) {sm : SM}
    (q : ∀ (G : Gx) (W : WX) (De : Ends) (s : St) (H : Hp), tS X.K ct G W sm De s H → tAsg (tE X.K ct G W (eLc mi (own.map (·.2)) g tt te)) (gName i) De s H) :
    MS X ct (.Assign [.Name y py] (.ListComp elt [⟨tgt, iter, ifs, 0⟩] scope pos) spos) sm := by
  obtain ⟨ts, h1, h2⟩ := h.hg
  exact ⟨fun G W tk _ => (ps_setLc hc hN hy hyl hsw (h.hi.run G W tk) h.ok (fun s H C cl fp => PG.ex fun G' => (h2 s H C cl fp).run G') (fun s H C cl fp => PTs.ex fun G' => h.ht s H C cl fp G') (fun s H C cl fp => PE.ex fun G' => (h.he s H C cl fp).run G' W0 takesB) hs).imp fun De s H w => lc_go h1 (q G W De s H w)⟩
theorem ms_setLc {i : Nat} {y : Str} {py : Pos} {elt tgt iter : Expr} {ifs : List Expr} {scope : Scope} {own : List (Str × Nat)} {spos : Pos} {mi : Env → Store → Rs (List D)} {g : GM} {tt : TM} {te : EM} (hc : X.calm = true) (hN : X.N.Nodup) (hy : X.N[i]? = some y) (hyl : X.env.scope.names.lookup y = some .local)
    (hsw : swapsWith (.ListComp elt [⟨tgt, iter, ifs, 0⟩] scope pos) (some (.Name y py)) spos.line X.env = pure true) (h : MLc X ct elt tgt iter ifs scope own mi g tt te) (hs : ∀ x, foldedSetIterable iter X.env x = pure x := by intro _; rfl) :
    MS X ct (.Assign [.Name y py] (.ListComp elt [⟨tgt, iter, ifs, 0⟩] scope pos) spos) (sSet i (eLc mi (own.map (·.2)) g tt te)) := setLc_core hc hN hy hyl hsw h hs fun G W De s H w => set_go w
theorem ms_ownLc {i : Nat} {y : Str} {py : Pos} {elt tgt iter : Expr} {ifs : List Expr} {scope : Scope} {own : List (Str × Nat)} {spos : Pos} {mi : Env → Store → Rs (List D)} {g : GM} {tt : TM} {te : EM} (hc : X.calm = true) (hN : X.N.Nodup) (hy : X.N[i]? = some y) (hyl : X.env.scope.names.lookup y = some .local)
    (hsw : swapsWith (.ListComp elt [⟨tgt, iter, ifs, 0⟩] scope pos) (some (.Name y py)) spos.line X.env = pure true) (h : MLc X ct elt tgt iter ifs scope own mi g tt te) (hs : ∀ x, foldedSetIterable iter X.env x = pure x := by intro _; rfl) :
    MS X ct (.Assign [.Name y py] (.ListComp elt [⟨tgt, iter, ifs, 0⟩] scope pos) spos) (sOwn i (eLc mi (own.map (·.2)) g tt te)) := setLc_core hc hN hy hyl hsw h hs fun G W De s H w => own_go w
end
end Mv

set_option maxRecDepth 100000
namespace Mv
open PySem PySem.Spec PyProof.Rows L2
section
variable {K : PySem.W.Frag} {ct : CT} {M N : Addr → Prop} {io : List Addr} {S : Store} {H : Hp}
theorem ResOk.c {Hs : Hp} {d : D} {v : V} (h : Rep K M io H d v) (q : StoOk K ct M io S H) : ResOk K ct M N Hs io S H .c d v := ⟨h, q⟩
/-- a list of any flag but the tainted -/
theorem nt_lst {f : Fl} {xs : List D} {v : V} (g : f ≠ .t) (h : RepF K M N io H f (.lst xs) v) : ∃ a vs, v = .ref a ∧ H a = some (.lst vs) ∧ Reps K M io H xs vs := by
  have go : Rep K M io H (.lst xs) v → ∃ a vs, v = .ref a ∧ H a = some (.lst vs) ∧ Reps K M io H xs vs := fun h => by
    cases h with
    | lst h1 _ h2 => exact ⟨_, _, rfl, h1, h2⟩
  have go2 : ∀ {a}, OwnAt K M io H (.lst xs) a → ∃ vs, H a = some (.lst vs) ∧ Reps K M io H xs vs := fun h => by
    rcases h with ⟨xs', vs, e', h1, h2⟩ | ⟨ks, xs', kvs, e', _⟩
    · cases e'
      exact ⟨vs, h1, h2⟩
    · cases e'
  cases f with
  | c => exact go h
  | n => exact go h
  | b => exact h.elim go fun ⟨a, e, h, _⟩ => let ⟨vs, z⟩ := go2 h; ⟨a, vs, e, z⟩
  | o => exact h.elim go fun ⟨a, e, h⟩ => let ⟨vs, z⟩ := go2 h; ⟨a, vs, e, z⟩
  | t => exact absurd rfl g
theorem nt_frz {f : Fl} {xs : List D} {v : V} (g : f ≠ .t) (h : RepF K M N io H f (.frz xs) v) : ∃ a vs, v = .ref a ∧ SqL K H a vs ∧ Reps K M io H xs vs := by
  have go : Rep K M io H (.frz xs) v → ∃ a vs, v = .ref a ∧ SqL K H a vs ∧ Reps K M io H xs vs := fun h => by
    cases h with
    | frz h1 h2 => exact ⟨_, _, rfl, h1.sq, h2⟩
  have go2 : ∀ {a}, OwnAt K M io H (.frz xs) a → False := fun h => by
    rcases h with ⟨xs', vs, e', h1, h2⟩ | ⟨ks, xs', kvs, e', _⟩ <;> cases e'
  cases f with
  | c => exact go h
  | n => exact go h
  | b => exact h.elim go fun ⟨a, e, h, _⟩ => (go2 h).elim
  | o => exact h.elim go fun ⟨a, e, h⟩ => (go2 h).elim
  | t => exact absurd rfl g
theorem nt_tup {f : Fl} {xs : List D} {v : V} (g : f ≠ .t) (h : RepF K M N io H f (.tup xs) v) : ∃ a vs, v = .ref a ∧ SqT K H a vs ∧ Reps K M io H xs vs := by
  have go : Rep K M io H (.tup xs) v → ∃ a vs, v = .ref a ∧ SqT K H a vs ∧ Reps K M io H xs vs := fun h => by
    cases h with
    | tup h1 h2 => exact ⟨_, _, rfl, h1, h2⟩
  have go2 : ∀ {a}, OwnAt K M io H (.tup xs) a → False := fun h => by
    rcases h with ⟨xs', vs, e', h1, h2⟩ | ⟨ks, xs', kvs, e', _⟩ <;> cases e'
  cases f with
  | c => exact go h
  | n => exact go h
  | b => exact h.elim go fun ⟨a, e, h, _⟩ => (go2 h).elim
  | o => exact h.elim go fun ⟨a, e, h⟩ => (go2 h).elim
  | t => exact absurd rfl g
theorem nt_seq {f : Fl} {d : D} {xs : List D} {v : V} (g : f ≠ .t) (e : seqOf d = some xs) (h : RepF K M N io H f d v) : ∃ a vs, v = .ref a ∧ SqL K H a vs ∧ Reps K M io H xs vs := by
  cases d with
  | lst ys =>
    cases e
    obtain ⟨a, vs, e1, h1, h2⟩ := nt_lst g h
    exact ⟨a, vs, e1, SqL.of h1, h2⟩
  | frz ys =>
    cases e
    exact nt_frz g h
  | _ => cases e
theorem wk_seq {f : Fl} {d : D} {xs : List D} {v : V} (e : seqOf d = some xs) (h : RepF K M N io H f d v) : ∃ a vs, v = .ref a ∧ SqL K H a vs ∧ Reps K (fun _ => False) io H xs vs := by
  cases d with
  | lst ys =>
    cases e
    obtain ⟨a, vs, e1, h1, h2⟩ := lst_of h
    exact ⟨a, vs, e1, SqL.of h1, h2⟩
  | frz ys =>
    cases e
    exact frz_of h
  | _ => cases e

/-! ### two ints -/
def gInt (c : Int → Int → Bool) (g : Int → Int → D) : D × Fl → D × Fl → Option (D × Fl) := fun a b => match a.1, b.1 with
  | .int i, .int j => if c i j then some (g i j, .c) else none
  | _, _ => none
theorem bin_int {C : Int → Int → Prop} {h : Int → Int → V} {c : Int → Int → Bool} {g : Int → Int → D} (hc : ∀ i j, c i j = true → C i j) (hr : ∀ i j K M io H, Rep K M io H (g i j) (h i j)) : BinOk K ct (rI C h) (gInt c g) := by
  rintro M N io S H x y ⟨a, fa⟩ ⟨b, fb⟩ res Q ra rb q md e w
  unfold gInt at e
  dsimp only at e ra rb
  split at e
  · rename_i i j
    split at e
    · rename_i hcc
      cases e
      exact ⟨i, j, int_of ra, int_of rb, hc i j hcc, w _ _ Stp.refl (ResOk.c (hr ..) q)⟩
    · cases e
  · cases e
theorem bin_int0 {h : Int → Int → V} {g : Int → Int → D} (hr : ∀ i j K M io H, Rep K M io H (g i j) (h i j)) : BinOk K ct (rI0 h) (gInt (fun _ _ => true) g) := by
  rintro M N io S H x y ⟨a, fa⟩ ⟨b, fb⟩ res Q ra rb q md e w
  unfold gInt at e
  dsimp only at e ra rb
  split at e
  · rename_i i j
    rw [if_pos rfl] at e
    cases e
    exact ⟨i, j, int_of ra, int_of rb, w _ _ Stp.refl (ResOk.c (hr ..) q)⟩
  · cases e
abbrev gSub := gInt (fun _ _ => true) fun i j => .int (i - j)
abbrev gMod := gInt (fun _ j => decide (0 < j)) fun i j => .int (i % j)
abbrev gPow := gInt (fun i j => decide (0 ≤ j) && decide (j ≤ 1000000) && decide (i.natAbs < 2 ^ 64)) fun i j => .int (i ^ j.toNat)
abbrev gShl := gInt (fun i j => decide (0 ≤ j) && decide (j ≤ 1000000) && decide (i.natAbs < 2 ^ 64)) fun i j => .int (i * 2 ^ j.toNat)
abbrev gShr := gInt (fun _ j => decide (0 ≤ j)) fun i j => .int (i / 2 ^ j.toNat)
abbrev gAnd := gInt (fun _ _ => true) fun i j => .int (Builtin.bitAnd i j)
abbrev gOr := gInt (fun _ _ => true) fun i j => .int (Builtin.bitOr i j)
abbrev gXor := gInt (fun _ _ => true) fun i j => .int (Builtin.bitXor i j)
abbrev gLt := gInt (fun _ _ => true) fun i j => .bl (decide (i < j))
abbrev gLe := gInt (fun _ _ => true) fun i j => .bl (decide (i ≤ j))
abbrev gGt := gInt (fun _ _ => true) fun i j => .bl (decide (j < i))
abbrev gGe := gInt (fun _ _ => true) fun i j => .bl (decide (j ≤ i))
abbrev gDiv := gInt (fun _ j => decide (0 < j) && decide (j.natAbs.log2 < 9000)) fun i j => .int (i / j)
theorem ok_sub : BinOk K ct (rI0 fun i j => .int (i - j)) gSub := bin_int0 fun _ _ _ _ _ _ => .int _
theorem ok_mod : BinOk K ct (rI (fun _ j => 0 < j) fun i j => .int (i % j)) gMod := bin_int (fun _ _ h => of_decide_eq_true h) fun _ _ _ _ _ _ => .int _
theorem cpow_of {i j : Int} (h : (decide (0 ≤ j) && decide (j ≤ 1000000) && decide (i.natAbs < 2 ^ 64)) = true) : CPow i j := by
  simp only [Bool.and_eq_true, decide_eq_true_eq] at h
  exact ⟨h.1.1, h.1.2, h.2⟩
theorem ok_pow : BinOk K ct (rI CPow fun i j => .int (i ^ j.toNat)) gPow := bin_int (fun _ _ h => cpow_of h) fun _ _ _ _ _ _ => .int _
theorem ok_shl : BinOk K ct (rI CPow fun i j => .int (i * 2 ^ j.toNat)) gShl := bin_int (fun _ _ h => cpow_of h) fun _ _ _ _ _ _ => .int _
theorem ok_shr : BinOk K ct (rI (fun _ j => 0 ≤ j) fun i j => .int (i / 2 ^ j.toNat)) gShr := bin_int (fun _ _ h => of_decide_eq_true h) fun _ _ _ _ _ _ => .int _
theorem ok_and : BinOk K ct (rI0 fun i j => .int (Builtin.bitAnd i j)) gAnd := bin_int0 fun _ _ _ _ _ _ => .int _
theorem ok_or : BinOk K ct (rI0 fun i j => .int (Builtin.bitOr i j)) gOr := bin_int0 fun _ _ _ _ _ _ => .int _
theorem ok_xor : BinOk K ct (rI0 fun i j => .int (Builtin.bitXor i j)) gXor := bin_int0 fun _ _ _ _ _ _ => .int _
theorem ok_lt : BinOk K ct (rI0 fun i j => .bl (decide (i < j))) gLt := bin_int0 fun _ _ _ _ _ _ => .bl _
theorem ok_le : BinOk K ct (rI0 fun i j => .bl (decide (i ≤ j))) gLe := bin_int0 fun _ _ _ _ _ _ => .bl _
theorem ok_gt : BinOk K ct (rI0 fun i j => .bl (decide (j < i))) gGt := bin_int0 fun _ _ _ _ _ _ => .bl _
theorem ok_ge : BinOk K ct (rI0 fun i j => .bl (decide (j ≤ i))) gGe := bin_int0 fun _ _ _ _ _ _ => .bl _
theorem ok_div : BinOk K ct (rI CDivW fun i j => .int (i / j)) gDiv := bin_int (fun _ _ h => by
  rw [Bool.and_eq_true, decide_eq_true_eq, decide_eq_true_eq] at h
  exact h) fun _ _ _ _ _ _ => .int _
/-! ### + and * of several kinds -/
def gAdd : D × Fl → D × Fl → Option (D × Fl) := fun a b => match a.1, b.1 with
  | .int i, .int j => some (.int (i + j), .c)
  | .str i, .str j => if i.length + j.length ≤ sizeLine then some (.str (i ++ j), .c) else none
  | .lst xs, .lst ys => if a.2 ≠ .t ∧ b.2 ≠ .t ∧ xs.length + ys.length ≤ sizeLine then some (.lst (xs ++ ys), .n) else none
  | _, _ => none
def rAddA (K : PySem.W.Frag) : R2 := fun x y H Q => (rI0 (fun i j => .int (i + j)) x y H Q) ∨ (∃ i j, x = .str i ∧ y = .str j ∧ i.length + j.length ≤ sizeLine ∧ Q (.str (i ++ j)) H) ∨ rCat x y H Q
theorem op_addA {X : Cx} : OpR X (binaryOp .Add) (rAddA X.K) := OpR.or op_add (OpR.or op_add_str op_cat)
theorem ok_add : BinOk K ct (rAddA K) gAdd := by
  rintro M N io S H x y ⟨a, fa⟩ ⟨b, fb⟩ res Q ra rb q md e w
  unfold gAdd at e
  dsimp only at e ra rb
  split at e
  · rename_i i j
    cases e
    exact .inl ⟨i, j, int_of ra, int_of rb, w _ _ Stp.refl (ResOk.c (.int _) q)⟩
  · rename_i i j
    split at e
    · rename_i hz
      cases e
      exact .inr (.inl ⟨i, j, str_of ra, str_of rb, hz, w _ _ Stp.refl (ResOk.c (.str _) q)⟩)
    · cases e
  · rename_i xs ys
    split at e
    · rename_i hz
      cases e
      obtain ⟨p, vs, rfl, h1, h2⟩ := nt_lst hz.1 ra
      obtain ⟨p', ws, rfl, h3, h4⟩ := nt_lst hz.2.1 rb
      refine .inr (.inr ⟨p, p', vs, ws, rfl, rfl, h1, h3, by rw [← h2.len, ← h4.len]; exact hz.2.2, fun l hl => w _ _ (Stp.upd hl) (new_lst hl hl md q (h2.app h4))⟩)
    · cases e
  · cases e
def mulOk (i j : Int) : Bool := decide (-(2 ^ 64) < i ∧ i < 2 ^ 64) || decide (-(2 ^ 64) < j ∧ j < 2 ^ 64) || decide (i.natAbs.log2 + j.natAbs.log2 < 1000000)
def gMul : D × Fl → D × Fl → Option (D × Fl) := fun a b => match a.1, b.1 with
  | .int i, .int j => if mulOk i j then some (.int (i * j), .c) else none
  | .lst xs, .int k => if a.2 ≠ .t ∧ -(2 ^ 63) ≤ k ∧ k < 2 ^ 63 ∧ xs.length * k.toNat ≤ sizeLine then some (.lst (List.replicate k.toNat xs).flatten, .n) else none
  | _, _ => none
def rMulA (K : PySem.W.Frag) : R2 := fun x y H Q => (rI CMul (fun i j => .int (i * j)) x y H Q) ∨ (rI CMulW (fun i j => .int (i * j)) x y H Q) ∨ rRep x y H Q
theorem op_mulA {X : Cx} : OpR X (binaryOp .Mult) (rMulA X.K) := OpR.or op_mul (OpR.or op_mulW op_rep)
theorem Reps.rep {xs : List D} {vs : List V} (h : Reps K M io H xs vs) : ∀ k : Nat, Reps K M io H (List.replicate k xs).flatten (List.replicate k vs).flatten
  | 0 => .nil
  | k + 1 => by
    rw [List.replicate_succ, List.replicate_succ, List.flatten_cons, List.flatten_cons]
    exact h.app (Reps.rep h k)
theorem ok_mul : BinOk K ct (rMulA K) gMul := by
  rintro M N io S H x y ⟨a, fa⟩ ⟨b, fb⟩ res Q ra rb q md e w
  unfold gMul at e
  dsimp only at e ra rb
  split at e
  · rename_i i j
    split at e
    · rename_i hc
      cases e
      have w := w _ _ Stp.refl (ResOk.c (.int (i * j)) q)
      unfold mulOk at hc
      simp only [Bool.or_eq_true, decide_eq_true_eq] at hc
      rcases hc with hc | hc
      · exact .inl ⟨i, j, int_of ra, int_of rb, hc, w⟩
      · exact .inr (.inl ⟨i, j, int_of ra, int_of rb, hc, w⟩)
    · cases e
  · rename_i xs k
    split at e
    · rename_i hz
      cases e
      obtain ⟨p, vs, rfl, h1, h2⟩ := nt_lst hz.1 ra
      exact .inr (.inr ⟨p, k, vs, rfl, int_of rb, h1, hz.2.1, hz.2.2.1, by rw [← h2.len]; exact hz.2.2.2, fun l hl => w _ _ (Stp.upd hl) (new_lst hl hl md q (h2.rep _))⟩)
    · cases e
  · cases e
/-! ### == of data -/
mutual
def toPy : D → Option PyData
  | .non => some .none
  | .bl b => some (.bool b)
  | .int i => some (.int i)
  | .str z => some (.str z)
  | .lst xs => (toPys xs).map .list
  | .frz xs => (toPys xs).map .list
  | .tup xs => (toPys xs).map .tuple
  | _ => none
def toPys : List D → Option (List PyData)
  | [] => some []
  | d :: ds => match toPy d, toPys ds with
    | some p, some ps => some (p :: ps)
    | _, _ => none
end
mutual
theorem Rep.dp : ∀ {d : D} {v : V} {p : PyData}, Rep K M io H d v → toPy d = some p → Dp K H v p
  | _, _, _, .non, e => by cases e; exact .non
  | _, _, _, .bl b, e => by cases e; exact .bl b
  | _, _, _, .int i, e => by cases e; exact .int i
  | _, _, _, .str z, e => by cases e; exact .str z
  | _, _, _, .lst h _ r, e => by
    unfold toPy at e
    obtain ⟨ps, e1, rfl⟩ := Option.map_eq_some_iff.mp e
    exact .lst (SqL.of h) (Reps.dp r e1)
  | _, _, _, .frz h r, e => by
    unfold toPy at e
    obtain ⟨ps, e1, rfl⟩ := Option.map_eq_some_iff.mp e
    exact .lst h.sq (Reps.dp r e1)
  | _, _, _, .tup h r, e => by
    unfold toPy at e
    obtain ⟨ps, e1, rfl⟩ := Option.map_eq_some_iff.mp e
    exact .tup h (Reps.dp r e1)
  | _, _, _, .dic _ _ _ _, e => by cases e
  | _, _, _, .ins _, e => by cases e
  | _, _, _, .cst, e => by cases e
theorem Reps.dp : ∀ {ds : List D} {vs : List V} {ps : List PyData}, Reps K M io H ds vs → toPys ds = some ps → DpAll K H vs ps
  | _, _, _, .nil, e => by cases e; exact .nil
  | _, _, _, .cons r t, e => by
    unfold toPys at e
    split at e
    · rename_i e1 e2
      cases e
      exact .cons (Rep.dp r e1) (Reps.dp t e2)
    · cases e
end
/-- the answer of ==, where it is told -/
def eqO : D → D → Option Bool
  | .int i, .int j => some (decide (i = j))
  | .str i, .str j => some (decide (i = j))
  | .bl i, .bl j => some (decide (i = j))
  | d, e => match toPy d, toPy e with
    | some p, some q => if SeqAt.shaped p && SeqAt.shaped q then some (PyData.eqv p q) else none
    | _, _ => none
def gEq (neg : Bool) : D × Fl → D × Fl → Option (D × Fl) := fun a b => (eqO a.1 b.1).map fun k => (.bl (if neg then !k else k), .c)
def rEqA (K : PySem.W.Frag) : R2 := fun x y H Q => rEq x y H Q ∨ rEqD K x y H Q
def rNeA (K : PySem.W.Frag) : R2 := fun x y H Q => rNe x y H Q ∨ rNeD K x y H Q
theorem op_eqA {X : Cx} (hu : X.A.units + 64 < cLine) : OpR X (compareOp .Eq) (rEqA X.K) := OpR.or op_eq (op_eqD hu)
theorem op_neA {X : Cx} (hu : X.A.units + 64 < cLine) : OpR X (compareOp .NotEq) (rNeA X.K) := OpR.or op_ne (op_neD hu)
theorem eqO_cases {d e : D} {k : Bool} (h : eqO d e = some k) : (∃ i j, d = .int i ∧ e = .int j ∧ k = decide (i = j)) ∨ (∃ i j, d = .str i ∧ e = .str j ∧ k = decide (i = j)) ∨ (∃ i j, d = .bl i ∧ e = .bl j ∧ k = decide (i = j)) ∨
    ∃ p q, toPy d = some p ∧ toPy e = some q ∧ SeqAt.shaped p = true ∧ SeqAt.shaped q = true ∧ k = PyData.eqv p q := by
  unfold eqO at h
  split at h
  · cases h; exact .inl ⟨_, _, rfl, rfl, rfl⟩
  · cases h; exact .inr (.inl ⟨_, _, rfl, rfl, rfl⟩)
  · cases h; exact .inr (.inr (.inl ⟨_, _, rfl, rfl, rfl⟩))
  · split at h
    · rename_i p q e1 e2
      split at h
      · rename_i g
        rw [Bool.and_eq_true] at g
        cases h
        exact .inr (.inr (.inr ⟨p, q, e1, e2, g.1, g.2, rfl⟩))
      · cases h
    · cases h
theorem ok_eq : BinOk K ct (rEqA K) (gEq false) := by
  rintro M N io S H x y ⟨a, fa⟩ ⟨b, fb⟩ res Q ra rb q md e w
  unfold gEq at e
  obtain ⟨k, e1, rfl⟩ := Option.map_eq_some_iff.mp e
  dsimp only at e1 ra rb w
  have w := w _ _ Stp.refl (ResOk.c (.bl _) q)
  rcases eqO_cases e1 with ⟨i, j, rfl, rfl, rfl⟩ | ⟨i, j, rfl, rfl, rfl⟩ | ⟨i, j, rfl, rfl, rfl⟩ | ⟨p, p', h1, h2, h3, h4, rfl⟩
  · rw [int_of ra, int_of rb]
    refine .inl ⟨rfl, ?_⟩
    rw [dec_int, ← Bool.beq_eq_decide_eq] at *
    exact w
  · rw [str_of ra, str_of rb]
    refine .inl ⟨rfl, ?_⟩
    rw [dec_str, ← Bool.beq_eq_decide_eq] at *
    exact w
  · rw [bl_of ra, bl_of rb]
    refine .inl ⟨rfl, ?_⟩
    rw [dec_bl, ← Bool.beq_eq_decide_eq] at *
    exact w
  · exact .inr ⟨p, p', ra.weak.dp h1, rb.weak.dp h2, h3, h4, w⟩
theorem ok_ne : BinOk K ct (rNeA K) (gEq true) := by
  rintro M N io S H x y ⟨a, fa⟩ ⟨b, fb⟩ res Q ra rb q md e w
  unfold gEq at e
  obtain ⟨k, e1, rfl⟩ := Option.map_eq_some_iff.mp e
  dsimp only at e1 ra rb w
  have w := w _ _ Stp.refl (ResOk.c (.bl _) q)
  rcases eqO_cases e1 with ⟨i, j, rfl, rfl, rfl⟩ | ⟨i, j, rfl, rfl, rfl⟩ | ⟨i, j, rfl, rfl, rfl⟩ | ⟨p, p', h1, h2, h3, h4, rfl⟩
  · rw [int_of ra, int_of rb]
    refine .inl ⟨rfl, ?_⟩
    rw [dec_int, ← Bool.beq_eq_decide_eq] at *
    exact w
  · rw [str_of ra, str_of rb]
    refine .inl ⟨rfl, ?_⟩
    rw [dec_str, ← Bool.beq_eq_decide_eq] at *
    exact w
  · rw [bl_of ra, bl_of rb]
    refine .inl ⟨rfl, ?_⟩
    rw [dec_bl, ← Bool.beq_eq_decide_eq] at *
    exact w
  · exact .inr ⟨p, p', ra.weak.dp h1, rb.weak.dp h2, h3, h4, w⟩
/-! ### is None -/
def isNon : D → Bool
  | .non => true
  | .cst v => decide (v = .non)
  | _ => false
def gIsN (neg : Bool) : D × Fl → D × Fl → Option (D × Fl) := fun a b => match b.1 with
  | .non => some (.bl (if neg then !isNon a.1 else isNon a.1), .c)
  | _ => none
theorem isn_of {f : Fl} {d : D} {v : V} (h : RepF K M N io H f d v) : decide (v = .non) = isNon d := by
  have q := h.weak
  cases q <;> rfl
theorem ok_isN : BinOk K ct (fun x y H Q => y = .non ∧ Q (.bl (decide (x = .non))) H) (gIsN false) := by
  rintro M N io S H x y ⟨a, fa⟩ ⟨b, fb⟩ res Q ra rb q md e w
  unfold gIsN at e
  dsimp only at e ra rb
  split at e
  · cases e
    refine ⟨non_of rb, ?_⟩
    rw [isn_of ra]
    exact w _ _ Stp.refl (ResOk.c (.bl _) q)
  · cases e
theorem ok_notN : BinOk K ct (fun x y H Q => y = .non ∧ Q (.bl (!decide (x = .non))) H) (gIsN true) := by
  rintro M N io S H x y ⟨a, fa⟩ ⟨b, fb⟩ res Q ra rb q md e w
  unfold gIsN at e
  dsimp only at e ra rb
  split at e
  · cases e
    refine ⟨non_of rb, ?_⟩
    rw [isn_of ra]
    exact w _ _ Stp.refl (ResOk.c (.bl _) q)
  · cases e
/-! ### in -/
def toV : D → V
  | .bl b => .bl b
  | .int i => .int i
  | .str z => .str z
  | _ => .non
def flatD : D → Bool
  | .non => true
  | .bl _ => true
  | .int _ => true
  | .str _ => true
  | _ => false
theorem flat_of {d : D} {v : V} (g : flatD d = true) (h : Rep K M io H d v) : v = toV d ∧ flatV v = true := by
  cases h with
  | non => exact ⟨rfl, rfl⟩
  | bl b => exact ⟨rfl, rfl⟩
  | int b => exact ⟨rfl, rfl⟩
  | str b => exact ⟨rfl, rfl⟩
  | _ => cases g
theorem flats_of : ∀ {ds : List D} {vs : List V}, ds.all flatD = true → Reps K M io H ds vs → vs = ds.map toV ∧ vs.all flatV = true
  | _, _, _, .nil => ⟨rfl, rfl⟩
  | _, _, g, .cons r t => by
    rw [List.all_cons, Bool.and_eq_true] at g
    obtain ⟨e1, f1⟩ := flat_of g.1 r
    obtain ⟨e2, f2⟩ := flats_of g.2 t
    rw [List.map_cons, List.all_cons, ← e1, ← e2, f1, f2]
    exact ⟨rfl, rfl⟩
def inD (d : D) (ds : List D) : Bool := inV (toV d) (ds.map toV)
def gIn (neg : Bool) : D × Fl → D × Fl → Option (D × Fl) := fun a b => match b.1 with
  | .lst xs => if flatD a.1 && xs.all flatD then some (.bl (if neg then !inD a.1 xs else inD a.1 xs), .c) else none
  | .frz xs => if flatD a.1 && xs.all flatD then some (.bl (if neg then !inD a.1 xs else inD a.1 xs), .c) else none
  | .tup xs => if flatD a.1 && xs.all flatD then some (.bl (if neg then !inD a.1 xs else inD a.1 xs), .c) else none
  | .str z => match a.1 with
    | .str i => some (.bl (if neg then !(!(Builtin.Str.occurrences z i 0 z.length 1).isEmpty) else !(Builtin.Str.occurrences z i 0 z.length 1).isEmpty), .c)
    | _ => none
  | _ => none
def rInA (K : PySem.W.Frag) : R2 := fun x y H Q => rIn K false x y H Q ∨ (∃ i j, x = .str i ∧ y = .str j ∧ Q (.bl (!(Builtin.Str.occurrences j i 0 j.length 1).isEmpty)) H)
def rNotInA (K : PySem.W.Frag) : R2 := fun x y H Q => rIn K true x y H Q ∨ (∃ i j, x = .str i ∧ y = .str j ∧ Q (.bl (!(!(Builtin.Str.occurrences j i 0 j.length 1).isEmpty))) H)
theorem op_inA {X : Cx} : OpR X (compareOp .In) (rInA X.K) := OpR.or op_in_seq op_in_str
theorem op_notInA {X : Cx} : OpR X (compareOp .NotIn) (rNotInA X.K) := OpR.or op_notIn_seq op_notin_str
theorem in_seq {neg : Bool} {x y : V} {d : D} {f : Fl} {xs : List D} {Q : VK} (ra : RepF K M N io H f d x) (g : (flatD d && xs.all flatD) = true) (h : ∃ p vs, y = .ref p ∧ (SqL K H p vs ∨ SqT K H p vs) ∧ Reps K (fun _ => False) io H xs vs)
    (w : Q (.bl (if neg then !inD d xs else inD d xs)) H) : rIn K neg x y H Q := by
  rw [Bool.and_eq_true] at g
  obtain ⟨p, vs, rfl, hs, r⟩ := h
  obtain ⟨e1, f1⟩ := flat_of g.1 ra.weak
  obtain ⟨e2, f2⟩ := flats_of g.2 r
  refine ⟨p, vs, rfl, hs, f1, f2, ?_⟩
  rw [e1, e2]
  exact w
theorem ok_inN : ∀ neg : Bool, BinOk K ct (fun x y H Q => rIn K neg x y H Q ∨ (∃ i j, x = .str i ∧ y = .str j ∧ Q (.bl (if neg then !(!(Builtin.Str.occurrences j i 0 j.length 1).isEmpty) else !(Builtin.Str.occurrences j i 0 j.length 1).isEmpty)) H)) (gIn neg) := by
  rintro neg M N io S H x y ⟨a, fa⟩ ⟨b, fb⟩ res Q ra rb q md e w
  unfold gIn at e
  dsimp only at e ra rb
  split at e
  · rename_i xs
    split at e
    · rename_i g
      cases e
      obtain ⟨p, vs, e1, h1, h2⟩ := lst_of rb
      exact .inl (in_seq ra g ⟨p, vs, e1, .inl (SqL.of h1), h2⟩ (w _ _ Stp.refl (ResOk.c (.bl _) q)))
    · cases e
  · rename_i xs
    split at e
    · rename_i g
      cases e
      obtain ⟨p, vs, e1, h1, h2⟩ := frz_of rb
      exact .inl (in_seq ra g ⟨p, vs, e1, .inl h1, h2⟩ (w _ _ Stp.refl (ResOk.c (.bl _) q)))
    · cases e
  · rename_i xs
    split at e
    · rename_i g
      cases e
      obtain ⟨p, vs, e1, h1, h2⟩ := tup_of rb
      exact .inl (in_seq ra g ⟨p, vs, e1, .inr h1, h2⟩ (w _ _ Stp.refl (ResOk.c (.bl _) q)))
    · cases e
  · rename_i z
    split at e
    · rename_i i
      cases e
      exact .inr ⟨i, z, str_of ra, str_of rb, w _ _ Stp.refl (ResOk.c (.bl _) q)⟩
    · cases e
  · cases e
theorem ok_in : BinOk K ct (rInA K) (gIn false) := ok_inN false
theorem ok_notIn : BinOk K ct (rNotInA K) (gIn true) := ok_inN true
/-! ### a[i] -/
def gIx : D × Fl → D × Fl → Option (D × Fl) := fun a b => match a.1, b.1 with
  | .lst xs, .int i => (atI xs i).map fun d => (d, if a.2 = .t then .t else .c)
  | .frz xs, .int i => (atI xs i).map fun d => (d, if a.2 = .t then .t else .c)
  | .tup xs, .int i => (atI xs i).map fun d => (d, if a.2 = .t then .t else .c)
  | .str z, .int i => if z.length ≤ sizeLine then (atI z.cps.toList i).map fun c => (.str ⟨#[c]⟩, .c) else none
  | _, _ => none
theorem atI_rep {xs : List D} {vs : List V} {i : Int} {d : D} (h : Reps K M io H xs vs) (e : atI xs i = some d) : ∃ v, atI vs i = some v ∧ Rep K M io H d v := by
  unfold atI at e ⊢
  rw [← h.len]
  cases e1 : ixN xs.length i with
  | none => rw [e1] at e; cases e
  | some j =>
    rw [e1] at e
    exact h.get (i := j) e
theorem ResOk.ct' {Hs : Hp} {f : Fl} {d : D} {v : V} (h : f ≠ .t → Rep K M io H d v) (h' : Rep K (fun _ => False) io H d v) (q : StoOk K ct M io S H) : ResOk K ct M N Hs io S H (if f = .t then .t else .c) d v := by
  split
  · exact ⟨h', q⟩
  · rename_i g
    exact ⟨h g, q⟩
theorem ok_ix : BinOk K ct (rIx K) gIx := by
  rintro M N io S H x y ⟨a, fa⟩ ⟨b, fb⟩ res Q ra rb q md e w
  unfold gIx at e
  dsimp only at e ra rb
  have fin : ∀ {p : Addr} {xs : List D} {vs : List V} {i : Int} {d : D}, x = .ref p → (SqL K H p vs ∨ SqT K H p vs) → b = .int i → (fa ≠ .t → Reps K M io H xs vs) → Reps K (fun _ => False) io H xs vs → atI xs i = some d → res = (d, if fa = .t then Fl.t else Fl.c) → rIx K x y H Q := fun {p xs vs i d} e1 hs eb h2 h3 ea er => by
    obtain ⟨v, z1, z2⟩ := atI_rep h3 ea
    subst er eb
    have z3 : fa ≠ .t → Rep K M io H d v := fun g => by
      obtain ⟨v', y1, y2⟩ := atI_rep (h2 g) ea
      rw [z1] at y1
      cases y1
      exact y2
    have w := w _ _ Stp.refl (ResOk.ct' (f := fa) z3 z2 q)
    rcases hs with hs | hs
    · exact .inl ⟨p, vs, i, v, e1, int_of rb, hs, z1, w⟩
    · exact .inr (.inl ⟨p, vs, i, v, e1, int_of rb, hs, z1, w⟩)
  split at e
  · rename_i xs i
    obtain ⟨d, ea, er⟩ := Option.map_eq_some_iff.mp e
    obtain ⟨p, vs, e1, h1, h3⟩ := lst_of ra
    refine fin e1 (.inl (SqL.of h1)) rfl (fun g => ?_) h3 ea er.symm
    obtain ⟨p', vs', e1', h1', h2⟩ := nt_lst g ra
    rw [e1] at e1'
    cases e1'
    rw [h1] at h1'
    cases h1'
    exact h2
  · rename_i xs i
    obtain ⟨d, ea, er⟩ := Option.map_eq_some_iff.mp e
    by_cases g : fa = .t
    · obtain ⟨p, vs, e1, h1, h3⟩ := frz_of ra
      exact fin e1 (.inl h1) rfl (fun g' => absurd g g') h3 ea er.symm
    · obtain ⟨p, vs, e1, h1, h2⟩ := nt_frz g ra
      exact fin e1 (.inl h1) rfl (fun _ => h2) (h2.anti fun _ z => z.elim) ea er.symm
  · rename_i xs i
    obtain ⟨d, ea, er⟩ := Option.map_eq_some_iff.mp e
    by_cases g : fa = .t
    · obtain ⟨p, vs, e1, h1, h3⟩ := tup_of ra
      exact fin e1 (.inr h1) rfl (fun g' => absurd g g') h3 ea er.symm
    · obtain ⟨p, vs, e1, h1, h2⟩ := nt_tup g ra
      exact fin e1 (.inr h1) rfl (fun _ => h2) (h2.anti fun _ z => z.elim) ea er.symm
  · rename_i z i
    split at e
    · rename_i hz
      obtain ⟨c, ec, rfl⟩ := Option.map_eq_some_iff.mp e
      exact .inr (.inr ⟨z, i, c, str_of ra, int_of rb, hz, ec, w _ _ Stp.refl (ResOk.c (.str _) q)⟩)
    · cases e
  · cases e
end
section
variable {X : Cx} {ct : CT} {pos : Pos}
theorem me_ix {a b : Expr} {ma mb : EM} (ha : ME X ct a ma) (hb : ME X ct b mb) (hs : PlainIx b := by exact fun _ _ => rfl) : ME X ct (.Subscript a b pos) (eBin gIx ma mb) :=
  ⟨fun G W tk => (pe_ix ix_seq (ha.run G W tk) (hb.run G W tk) hs).imp fun s H Q h => bin_go ok_ix h⟩
end
end Mv

set_option maxRecDepth 100000
namespace Mv
open PySem PySem.Spec PyProof.Rows L2
section
variable {X : Cx} {ct : CT} {pos : Pos}
/-! ### chains, unary -/
def eChain (g g' : D × Fl → D × Fl → Option (D × Fl)) (ma mb mc : EM) : EM := fun r S => (ma r S).bind fun a S1 => (mb r S1).bind fun b S2 => match g a b with
  | some (.bl true, _) => (mc r S2).bind fun c S3 => lift0 (g' b c) S3
  | some (.bl false, _) => .ok (.bl false, .c) S2
  | _ => .no
theorem chain_go {rd rd' : R2} {g g' : D × Fl → D × Fl → Option (D × Fl)} {ma mb mc : EM} (hg : BinOk X.K ct rd g) (hg' : BinOk X.K ct rd' g') {G : Gx} {W : WX} {s : St} {H : Hp} {Q : VK} (h : tE X.K ct G W (eChain g g' ma mb mc) s H Q) :
    tChain rd rd' (tE X.K ct G W ma) (tE X.K ct G W mb) (tE X.K ct G W mc) s H Q := by
  obtain ⟨r, S, io, k, h⟩ := h
  refine ⟨r, S, io, k, Res.first h fun x S1 io1 H1 e1 t1 q1 h1 v1 o1 => ?_⟩
  have k1 := k.step t1 q1
  refine ⟨r, S1, io1, k1, Res.first h1 fun y S2 io2 H2 e2 t2 q2 h2 v2 o2 => ?_⟩
  have k2 := k1.step t2 q2
  have go : ∀ b f, g x y = some (.bl b, f) → (∀ H', Stp io2 H2 io2 H' → StoOk X.K ct (Mall G r s) io2 S2 H' → (if b = true then (tE X.K ct G W mc s H' fun w H5 => rd' v2 w H5 Q) else Q (.bl false) H')) → rd v1 v2 H2 fun z H3 => ∃ k, z = .bl k ∧
      if k = true then (tE X.K ct G W mc s H3 fun w H5 => rd' v2 w H5 Q) else Q (.bl false) H3 := fun b f e w => by
    refine hg _ _ io2 S2 H2 v1 v2 x y (.bl b, f) _ (o1.repF.stp t2) o2.repF q2 k2.mdom e fun v H' t o => ?_
    exact ⟨b, bl_of o.repF, w H' t o.sto⟩
  split at h2
  · rename_i f e
    exact go true f e fun H' t q => iteT ⟨r, S2, io2, k2.step t q, Res.first (h2.shift t) fun z S3 io3 H3 e3 t3 q3 h3 v3 o3 => by
      unfold lift0 at h3
      split at h3
      · rename_i res e4
        have k3 := (k2.step t q).step t3 q3
        refine hg' _ _ io3 S3 H3 v2 v3 y z res Q ((o2.repF.stp t).stp t3) o3.repF q3 k3.mdom e4 fun v H' t' o' => ?_
        exact h3.go t' o'.sto v (o'.back fun a z => t1.free (t2.free (t.free (t3.free z))))
      · exact h3.elim⟩
  · rename_i f e
    exact go false f e fun H' t q => iteF (h2.go t q _ (ResOk.c (.bl _) q))
  · exact h2.elim
theorem me_chain {op op' : CmpOp} {rd rd' : R2} {a b c : Expr} {g g' : D × Fl → D × Fl → Option (D × Fl)} {ma mb mc : EM} (ho : OpR X (compareOp op) rd) (hg : BinOk X.K ct rd g) (ho' : OpR X (compareOp op') rd') (hg' : BinOk X.K ct rd' g') (ha : ME X ct a ma) (hb : ME X ct b mb) (hc : ME X ct c mc)
    (hm : lastMarks [op, op'] [b, c] = false := by with_unfolding_all rfl) : ME X ct (.Compare a [op, op'] [b, c] pos) (eChain g g' ma mb mc) :=
  ⟨fun G W tk => (pe_chain ho ho' (ha.run G W tk) (hb.run G W tk) (hc.run G W tk) hm).imp fun s H Q h => chain_go hg hg' h⟩
theorem mt_chain {op op' : CmpOp} {rd rd' : R2} {a b c : Expr} {g g' : D × Fl → D × Fl → Option (D × Fl)} {ma mb mc : EM} (ho : OpR X (compareOp op) rd) (hg : BinOk X.K ct rd g) (ho' : OpR X (compareOp op') rd') (hg' : BinOk X.K ct rd' g') (ha : ME X ct a ma) (hb : ME X ct b mb) (hc : ME X ct c mc)
    (hm : lastMarks [op, op'] [b, c] = false := by with_unfolding_all rfl) : MT X ct (.Compare a [op, op'] [b, c] pos) (tVal (eChain g g' ma mb mc)) :=
  ⟨fun G W tk => (pt_chain ho ho' (ha.run G W tk) (hb.run G W tk) (hc.run G W tk) hm).imp fun s H Q ⟨r, S, io, k, h⟩ => chain_go hg hg' ⟨r, S, io, k, Res.first h fun x S1 io1 H1 e1 t1 q1 h1 v1 o1 => by
    split at h1
    · rename_i b e
      have o2 := o1.repF
      rw [e] at o2
      exact ⟨b, bl_of o2, h1.here q1⟩
    · exact h1.elim⟩⟩
def eUn (g : D → Option D) (m : EM) : EM := fun r S => (m r S).bind fun x S1 => lift0 ((g x.1).map fun d => (d, .c)) S1
def gNeg : D → Option D := fun d => match d with
  | .int i => some (.int (-i))
  | _ => none
theorem me_neg {a : Expr} {m : EM} (ha : ME X ct a m) : ME X ct (.UnaryOp .USub a pos) (eUn gNeg m) :=
  ⟨fun G W tk => (pe_un un_neg (ha.run G W tk)).imp fun s H Q ⟨r, S, io, k, h⟩ => ⟨r, S, io, k, Res.first h fun x S1 io1 H1 e1 t1 q1 h1 v o => by
    unfold lift0 at h1
    split at h1
    · rename_i res e
      obtain ⟨d, e2, rfl⟩ := Option.map_eq_some_iff.mp e
      unfold gNeg at e2
      split at e2
      · rename_i i e3
        cases e2
        have o2 := o.repF
        rw [e3] at o2
        exact ⟨i, int_of o2, h1.here q1 _ (ResOk.c (.int _) q1)⟩
      · cases e2
    · exact h1.elim⟩⟩
/-! ### slices -/
abbrev OM := Env → Store → Rs (Option Int)
structure MO (X : Cx) (ct : CT) (e : Option Expr) (m : OM) : Prop where
  run : ∀ (G : Gx) (W : WX), Takes X W → PO X e (fun s H Q => ∃ r S io, Ok X.K ct G r S io s H ∧ Res X.K ct W (Mall G r s) s io H (m r S) (fun o S' io' H' => Q o H'))
def oNo : OM := fun _ S => .ok none S
def oSo (m : EM) : OM := fun r S => (m r S).bind fun x S1 => match x.1 with
  | .int i => .ok (some i) S1
  | _ => .no
theorem PO.imp {X : Cx} {e : Option Expr} {t t' : TO} (h : PO X e t) (q : ∀ s H Q, t' s H Q → t s H Q) : PO X e t' := by
  first
    | exact ⟨fun pins s σ H Q I w => h.run pins s σ H Q I (q _ _ _ w)⟩
    | exact fun pins s σ H Q I w => h pins s σ H Q I (q _ _ _ w)
theorem mo_no : MO X ct none oNo := ⟨fun G W tk => PO.imp po_none fun s H Q ⟨r, S, io, k, h⟩ => h.here k.sto⟩
theorem mo_so {e : Expr} {m : EM} (h : ME X ct e m) : MO X ct (some e) (oSo m) := ⟨fun G W tk => PO.imp (po_some (h.run G W tk)) fun s H Q ⟨r, S, io, k, h⟩ => ⟨r, S, io, k, Res.first h fun x S1 io1 H1 e1 t1 q1 h1 v o => by
  split at h1
  · rename_i i e
    have o2 := o.repF
    rw [e] at o2
    exact ⟨i, int_of o2, h1.here q1⟩
  · exact h1.elim⟩⟩
def cutD (xs : List D) (lo hi : Option Int) : List D := (xs.drop (HT.sIx xs.length 0 lo)).take (HT.sIx xs.length xs.length hi - HT.sIx xs.length 0 lo)
def gSl (a : D × Fl) (lo hi : Option Int) : Option (D × Fl) := match a.1 with
  | .lst xs => some (.lst (cutD xs lo hi), if a.2 = .t then .t else .n)
  | .frz xs => some (.lst (cutD xs lo hi), if a.2 = .t then .t else .n)
  | .str z => if z.length ≤ sizeLine then some (.str (cutS z lo hi), .c) else none
  | _ => none
def eSl (ma : EM) (lo hi : OM) : EM := fun r S => (ma r S).bind fun a S1 => (lo r S1).bind fun l S2 => (hi r S2).bind fun u S3 => lift0 (gSl a l u) S3
theorem sl_seq : SlR X (fun x lo hi H Q => rSlL X.K x lo hi H Q ∨ rSlS x lo hi H Q) := SlR.or sl_list sl_str
theorem new_lstT {K : PySem.W.Frag} {M N : Addr → Prop} {io : List Addr} {H H0 : Hp} {S : Store} {p : Addr} {f : Fl} {xs : List D} {vs : List V} (hp : H p = none) (h0 : H0 p = none) (md : ∀ a, M a → ∃ o, H a = some o ∧ NI o) (q : StoOk K ct M io S H)
    (h : f ≠ .t → Reps K M io H xs vs) (h' : Reps K (fun _ => False) io H xs vs) : ResOk K ct M N H0 io S (upd H p (.lst vs)) (if f = .t then .t else .n) (.lst xs) (.ref p) := by
  split
  · exact ⟨.lst upd_same (fun z => z) (h'.stp (Stp.upd hp)), q.upd hp⟩
  · rename_i g
    exact new_lst hp h0 md q (h g)
theorem seq_both {K : PySem.W.Frag} {M N : Addr → Prop} {io : List Addr} {H : Hp} {f : Fl} {d : D} {xs : List D} {v : V} (e : seqOf d = some xs) (h : RepF K M N io H f d v) : ∃ a vs, v = .ref a ∧ SqL K H a vs ∧ (f ≠ .t → Reps K M io H xs vs) ∧ Reps K (fun _ => False) io H xs vs := by
  by_cases g : f = .t
  · obtain ⟨a, vs, e1, h1, h2⟩ := wk_seq e h
    exact ⟨a, vs, e1, h1, fun g' => absurd g g', h2⟩
  · obtain ⟨a, vs, e1, h1, h2⟩ := nt_seq g e h
    exact ⟨a, vs, e1, h1, fun _ => h2, h2.anti fun _ z => z.elim⟩
theorem Reps.cut {K : PySem.W.Frag} {M : Addr → Prop} {io : List Addr} {H : Hp} {xs : List D} {vs : List V} (h : Reps K M io H xs vs) (lo hi : Option Int) : Reps K M io H (cutD xs lo hi) (cutV vs lo hi) := by
  unfold cutD cutV
  rw [← h.len]
  exact (h.drop _).take _
theorem me_sl {e : Expr} {lo hi : Option Expr} {p2 : Pos} {m : EM} {ml mh : OM} (he : ME X ct e m) (hl : MO X ct lo ml) (hh : MO X ct hi mh) : ME X ct (.Subscript e (.Slice lo hi none p2) pos) (eSl m ml mh) :=
  ⟨fun G W tk => (pe_slice sl_seq (he.run G W tk) (hl.run G W tk) (hh.run G W tk)).imp fun s H Q ⟨r, S, io, k, h⟩ => ⟨r, S, io, k, Res.first h fun x S1 io1 H1 e1 t1 q1 h1 v o => ⟨r, S1, io1, k.step t1 q1, Res.first h1 fun l S2 io2 H2 e2 t2 q2 h2 =>
    ⟨r, S2, io2, (k.step t1 q1).step t2 q2, Res.first h2 fun u S3 io3 H3 e3 t3 q3 h3 => by
      have k3 := ((k.step t1 q1).step t2 q2).step t3 q3
      have o3 := (o.repF.stp t2).stp t3
      unfold lift0 at h3
      split at h3
      · rename_i res e
        have fin : ∀ {xs : List D}, seqOf x.1 = some xs → res = (.lst (cutD xs l u), if x.2 = .t then .t else .n) → rSlL X.K v l u H3 Q := fun {xs} es er => by
          subst er
          obtain ⟨a, vs, ev, h4, h5, h6⟩ := seq_both es o3
          exact ⟨a, vs, ev, h4, fun p hp => h3.go (Stp.upd hp) (q3.upd hp) _ (new_lstT hp (t1.free (t2.free (t3.free hp))) k3.mdom q3 (fun g => (h5 g).cut l u) (h6.cut l u))⟩
        obtain ⟨d, f⟩ := x
        unfold gSl at e
        dsimp only at e o3 fin
        split at e
        · cases e
          exact .inl (fin rfl rfl)
        · cases e
          exact .inl (fin rfl rfl)
        · rename_i z
          split at e
          · rename_i hz
            cases e
            exact .inr ⟨z, str_of o3, hz, h3.here q3 _ (ResOk.c (.str _) q3)⟩
          · cases e
        · cases e
      · exact h3.elim⟩⟩⟩⟩
/-- xs[::-1] -/
def eRevL (m : EM) : EM := fun r S => (m r S).bind fun x S1 => match seqOf x.1 with
  | some xs => .ok (.lst xs.reverse, if x.2 = .t then .t else .n) S1
  | none => .no
theorem me_revL {e : Expr} {k : Nat} {p1 p2 p3 : Pos} {m : EM} (he : ME X ct e m) : ME X ct (.Subscript e (.Slice none none (some (.UnaryOp .USub (.Constant (.int 1) k p1) p2)) p3) pos) (eRevL m) :=
  ⟨fun G W tk => (pe_revL (he.run G W tk)).imp fun s H Q ⟨r, S, io, k, h⟩ => ⟨r, S, io, k, Res.first h fun x S1 io1 H1 e1 t1 q1 h1 v o => by
    have k1 := k.step t1 q1
    split at h1
    · rename_i xs e
      obtain ⟨a, vs, ev, h4, h5, h6⟩ := seq_both e o.repF
      exact ⟨a, vs, ev, h4, fun p hp => h1.go (Stp.upd hp) (q1.upd hp) _ (new_lstT hp (t1.free hp) k1.mdom q1 (fun g => (h5 g).rev) h6.rev)⟩
    · exact h1.elim⟩⟩
end
/-! ### built-in functions -/
section
variable {K : PySem.W.Frag} {ct : CT}
def gLen : List (Fl × D) → Option (D × Fl) := fun as => match as with
  | [(_, .lst xs)] => some (.int xs.length, .c)
  | [(_, .frz xs)] => some (.int xs.length, .c)
  | [(_, .tup xs)] => some (.int xs.length, .c)
  | [(_, .str z)] => if z.length ≤ sizeLine then some (.int z.length, .c) else none
  | _ => none
def rLen (K : PySem.W.Frag) : List V → Hp → VK → Prop := fun xs H Q => (∃ p ys, xs = [.ref p] ∧ (SqL K H p ys ∨ SqT K H p ys) ∧ Q (.int ys.length) H) ∨ (∃ z, xs = [.str z] ∧ z.length ≤ sizeLine ∧ Q (.int z.length) H)
theorem call_lenA {X : Cx} : CallR X (.builtin "len") (rLen X.K) := CallR.or call_len_seq call_len_str
theorem ok_len : CalOk K ct (rLen K) gLen := by
  intro M N io S H vs as res Q o q md e w
  unfold gLen at e
  split at e
  · rename_i f xs
    cases e
    obtain ⟨v, rfl, r⟩ := args1 o
    obtain ⟨a, us, rfl, h1, h2⟩ := lst_of r
    have w := w _ _ Stp.refl (ResOk.c (.int xs.length) q)
    rw [h2.len] at w
    exact .inl ⟨a, us, rfl, .inl (SqL.of h1), w⟩
  · rename_i f xs
    cases e
    obtain ⟨v, rfl, r⟩ := args1 o
    obtain ⟨a, us, rfl, h1, h2⟩ := frz_of r
    have w := w _ _ Stp.refl (ResOk.c (.int xs.length) q)
    rw [h2.len] at w
    exact .inl ⟨a, us, rfl, .inl h1, w⟩
  · rename_i f xs
    cases e
    obtain ⟨v, rfl, r⟩ := args1 o
    obtain ⟨a, us, rfl, h1, h2⟩ := tup_of r
    have w := w _ _ Stp.refl (ResOk.c (.int xs.length) q)
    rw [h2.len] at w
    exact .inl ⟨a, us, rfl, .inr h1, w⟩
  · rename_i f z
    split at e
    · rename_i hz
      cases e
      obtain ⟨v, rfl, r⟩ := args1 o
      exact .inr ⟨z, by rw [str_of r], hz, w _ _ Stp.refl (ResOk.c (.int _) q)⟩
    · cases e
  · cases e
def gList : List (Fl × D) → Option (D × Fl) := fun as => match as with
  | [(f, .lst xs)] => some (.lst xs, if f = .t then .t else .n)
  | [(f, .frz xs)] => some (.lst xs, if f = .t then .t else .n)
  | [(f, .tup xs)] => if f = .t then none else some (.lst xs, .n)
  | _ => none
theorem ok_list : CalOk K ct (fun xs H Q => ∃ p ys, xs = [.ref p] ∧ (SqL K H p ys ∨ SqT K H p ys) ∧ ∀ l, H l = none → Q (.ref l) (upd H l (.lst ys))) gList := by
  intro M N io S H vs as res Q o q md e w
  unfold gList at e
  split at e
  · rename_i f xs
    cases e
    obtain ⟨v, rfl, r⟩ := args1 o
    obtain ⟨a, us, rfl, h1, h2, h3⟩ := seq_both (d := .lst xs) rfl r
    exact ⟨a, us, rfl, .inl h1, fun l hl => w _ _ (Stp.upd hl) (new_lstT hl hl md q h2 h3)⟩
  · rename_i f xs
    cases e
    obtain ⟨v, rfl, r⟩ := args1 o
    obtain ⟨a, us, rfl, h1, h2, h3⟩ := seq_both (d := .frz xs) rfl r
    exact ⟨a, us, rfl, .inl h1, fun l hl => w _ _ (Stp.upd hl) (new_lstT hl hl md q h2 h3)⟩
  · rename_i f xs
    split at e
    · cases e
    · rename_i g
      cases e
      obtain ⟨v, rfl, r⟩ := args1 o
      obtain ⟨a, us, rfl, h1, h2⟩ := nt_tup g r
      exact ⟨a, us, rfl, .inr h1, fun l hl => w _ _ (Stp.upd hl) (new_lst hl hl md q h2)⟩
  · cases e
/-- a list of ints, of truths -/
def intsOf : List D → Option (List Int)
  | [] => some []
  | .int i :: ds => (intsOf ds).map (i :: ·)
  | _ => none
theorem intsOf_eq : ∀ {ds : List D} {is : List Int}, intsOf ds = some is → ds = is.map D.int
  | [], is, e => by cases e; rfl
  | .int i :: ds, is, e => by
    unfold intsOf at e
    obtain ⟨js, e1, rfl⟩ := Option.map_eq_some_iff.mp e
    rw [intsOf_eq e1]
    rfl
  | .non :: _, _, e => by cases e
  | .bl _ :: _, _, e => by cases e
  | .str _ :: _, _, e => by cases e
  | .lst _ :: _, _, e => by cases e
  | .tup _ :: _, _, e => by cases e
  | .dic _ _ :: _, _, e => by cases e
  | .frz _ :: _, _, e => by cases e
  | .ins _ :: _, _, e => by cases e
  | .cst _ :: _, _, e => by cases e
@[simp] theorem intsOf_map : ∀ is : List Int, intsOf (is.map D.int) = some is
  | [] => rfl
  | i :: is => by
    rw [List.map_cons]
    unfold intsOf
    rw [intsOf_map is]
    rfl
def blsOf : List D → Option (List Bool)
  | [] => some []
  | .bl i :: ds => (blsOf ds).map (i :: ·)
  | _ => none
theorem blsOf_eq : ∀ {ds : List D} {is : List Bool}, blsOf ds = some is → ds = is.map D.bl
  | [], is, e => by cases e; rfl
  | .bl i :: ds, is, e => by
    unfold blsOf at e
    obtain ⟨js, e1, rfl⟩ := Option.map_eq_some_iff.mp e
    rw [blsOf_eq e1]
    rfl
  | .non :: _, _, e => by cases e
  | .int _ :: _, _, e => by cases e
  | .str _ :: _, _, e => by cases e
  | .lst _ :: _, _, e => by cases e
  | .tup _ :: _, _, e => by cases e
  | .dic _ _ :: _, _, e => by cases e
  | .frz _ :: _, _, e => by cases e
  | .ins _ :: _, _, e => by cases e
  | .cst _ :: _, _, e => by cases e
@[simp] theorem blsOf_map : ∀ is : List Bool, blsOf (is.map D.bl) = some is
  | [] => rfl
  | i :: is => by
    rw [List.map_cons]
    unfold blsOf
    rw [blsOf_map is]
    rfl
theorem args_ints {M N : Addr → Prop} {io : List Addr} {H : Hp} {f : Fl} {d : D} {xs : List D} {is : List Int} {vs : List V} (o : ArgsOk K M N io H [(f, d)] vs) (e : seqOf d = some xs) (e2 : intsOf xs = some is) : ∃ a, vs = [.ref a] ∧ SqL K H a (is.map V.int) := by
  obtain ⟨v, rfl, r⟩ := args1 o
  obtain ⟨a, us, e3, h1, h2⟩ := wk_seq e r
  rw [intsOf_eq e2] at h2
  rw [h2.ints] at h1
  exact ⟨a, by rw [e3], h1⟩
theorem args_bls {M N : Addr → Prop} {io : List Addr} {H : Hp} {f : Fl} {d : D} {xs : List D} {is : List Bool} {vs : List V} (o : ArgsOk K M N io H [(f, d)] vs) (e : seqOf d = some xs) (e2 : blsOf xs = some is) : ∃ a, vs = [.ref a] ∧ SqL K H a (is.map V.bl) := by
  obtain ⟨v, rfl, r⟩ := args1 o
  obtain ⟨a, us, e3, h1, h2⟩ := wk_seq e r
  rw [blsOf_eq e2] at h2
  rw [h2.bls] at h1
  exact ⟨a, by rw [e3], h1⟩
def gInts (g : List Int → Option D) : List (Fl × D) → Option (D × Fl) := fun as => match as with
  | [(_, d)] => match seqOf d with
    | some xs => match intsOf xs with
      | some is => (g is).map fun d => (d, .c)
      | none => none
    | none => none
  | _ => none
theorem gInts_of {g : List Int → Option D} {as : List (Fl × D)} {res : D × Fl} (e : gInts g as = some res) : ∃ f d xs is r, as = [(f, d)] ∧ seqOf d = some xs ∧ intsOf xs = some is ∧ g is = some r ∧ res = (r, .c) := by
  unfold gInts at e
  split at e
  · rename_i f d
    split at e
    · rename_i xs e1
      split at e
      · rename_i is e2
        obtain ⟨r, e3, e4⟩ := Option.map_eq_some_iff.mp e
        exact ⟨f, d, xs, is, r, rfl, e1, e2, e3, e4.symm⟩
      · cases e
    · cases e
  · cases e
abbrev gSum := gInts fun is => some (.int is.sum)
theorem ok_sum : CalOk K ct (rSum K) gSum := by
  intro M N io S H vs as res Q o q md e w
  obtain ⟨f, d, xs, is, r, rfl, e1, e2, e3, rfl⟩ := gInts_of e
  cases e3
  obtain ⟨a, rfl, h⟩ := args_ints o e1 e2
  exact ⟨a, is, rfl, h, w _ _ Stp.refl (ResOk.c (.int _) q)⟩
/-- the greatest, the least of some ints -/
def maxL : List Int → Option Int
  | [] => none
  | i :: is => some (is.foldl max i)
def minL : List Int → Option Int
  | [] => none
  | i :: is => some (is.foldl min i)
theorem foldl_max : ∀ (is : List Int) (i : Int), (i ≤ is.foldl max i ∧ ∀ j ∈ is, j ≤ is.foldl max i) ∧ (is.foldl max i = i ∨ is.foldl max i ∈ is)
  | [], i => ⟨⟨Int.le_refl _, fun _ h => nomatch h⟩, .inl rfl⟩
  | k :: is, i => by
    obtain ⟨⟨h1, h2⟩, h3⟩ := foldl_max is (max i k)
    rw [List.foldl_cons]
    refine ⟨⟨by omega, fun j hj => ?_⟩, ?_⟩
    · rcases List.mem_cons.mp hj with rfl | hj
      · omega
      · exact h2 j hj
    · rcases h3 with h3 | h3
      · rw [h3]
        rcases Int.le_total i k with h | h
        · right; rw [Int.max_eq_right h]; exact List.mem_cons_self
        · left; exact Int.max_eq_left h
      · exact .inr (List.mem_cons_of_mem _ h3)
theorem foldl_min : ∀ (is : List Int) (i : Int), (is.foldl min i ≤ i ∧ ∀ j ∈ is, is.foldl min i ≤ j) ∧ (is.foldl min i = i ∨ is.foldl min i ∈ is)
  | [], i => ⟨⟨Int.le_refl _, fun _ h => nomatch h⟩, .inl rfl⟩
  | k :: is, i => by
    obtain ⟨⟨h1, h2⟩, h3⟩ := foldl_min is (min i k)
    rw [List.foldl_cons]
    refine ⟨⟨by omega, fun j hj => ?_⟩, ?_⟩
    · rcases List.mem_cons.mp hj with rfl | hj
      · omega
      · exact h2 j hj
    · rcases h3 with h3 | h3
      · rw [h3]
        rcases Int.le_total i k with h | h
        · left; exact Int.min_eq_left h
        · right; rw [Int.min_eq_right h]; exact List.mem_cons_self
      · exact .inr (List.mem_cons_of_mem _ h3)
theorem maxL_of {is : List Int} {m : Int} (h : m ∈ is) (u : ∀ y ∈ is, y ≤ m) : maxL is = some m := by
  cases is with
  | nil => cases h
  | cons i is =>
    obtain ⟨⟨h1, h2⟩, h3⟩ := foldl_max is i
    have : is.foldl max i = m := by
      have a : m ≤ is.foldl max i := by
        rcases List.mem_cons.mp h with rfl | h
        · exact h1
        · exact h2 m h
      have b : is.foldl max i ≤ m := by
        rcases h3 with h3 | h3
        · rw [h3]; exact u i List.mem_cons_self
        · exact u _ (List.mem_cons_of_mem _ h3)
      omega
    show some (is.foldl max i) = some m
    rw [this]
theorem minL_of {is : List Int} {m : Int} (h : m ∈ is) (u : ∀ y ∈ is, m ≤ y) : minL is = some m := by
  cases is with
  | nil => cases h
  | cons i is =>
    obtain ⟨⟨h1, h2⟩, h3⟩ := foldl_min is i
    have : is.foldl min i = m := by
      have a : is.foldl min i ≤ m := by
        rcases List.mem_cons.mp h with rfl | h
        · exact h1
        · exact h2 m h
      have b : m ≤ is.foldl min i := by
        rcases h3 with h3 | h3
        · rw [h3]; exact u i List.mem_cons_self
        · exact u _ (List.mem_cons_of_mem _ h3)
      omega
    show some (is.foldl min i) = some m
    rw [this]
def gMax : List (Fl × D) → Option (D × Fl) := fun as => match as with
  | [(_, .int i), (_, .int j)] => some (.int (max i j), .c)
  | as => gInts (fun is => (maxL is).map .int) as
def gMin : List (Fl × D) → Option (D × Fl) := fun as => match as with
  | [(_, .int i), (_, .int j)] => some (.int (min i j), .c)
  | as => gInts (fun is => (minL is).map .int) as
def rMaxA (K : PySem.W.Frag) : List V → Hp → VK → Prop := fun xs H Q => (∃ i j, xs = [.int i, .int j] ∧ Q (.int (if j > i then j else i)) H) ∨ rMax K xs H Q
def rMinA (K : PySem.W.Frag) : List V → Hp → VK → Prop := fun xs H Q => (∃ i j, xs = [.int i, .int j] ∧ Q (.int (if j < i then j else i)) H) ∨ rMin K xs H Q
theorem call_maxA {X : Cx} (hc : X.calm = true) : CallR X (.builtin "max") (rMaxA X.K) := CallR.or (call_max2 hc) (cr_max hc)
theorem call_minA {X : Cx} (hc : X.calm = true) : CallR X (.builtin "min") (rMinA X.K) := CallR.or (call_min2 hc) (cr_min hc)
theorem ok_max : CalOk K ct (rMaxA K) gMax := by
  intro M N io S H vs as res Q o q md e w
  unfold gMax at e
  split at e
  · rename_i f i f' j
    cases e
    obtain ⟨v, u, rfl, r, r'⟩ := args2 o
    refine .inl ⟨i, j, by rw [int_of r, int_of r'], ?_⟩
    have w := w _ _ Stp.refl (ResOk.c (.int (max i j)) q)
    have e : (if j > i then j else i) = max i j := by split <;> omega
    rw [e]
    exact w
  · obtain ⟨f, d, xs, is, r, rfl, e1, e2, e3, rfl⟩ := gInts_of e
    obtain ⟨m, em, rfl⟩ := Option.map_eq_some_iff.mp e3
    obtain ⟨a, rfl, h⟩ := args_ints o e1 e2
    refine .inr ⟨a, is, rfl, h, ?_, fun m' hm hu => ?_⟩
    · cases is with
      | nil => cases em
      | cons _ _ => simp
    · rw [maxL_of hm hu] at em
      cases em
      exact w _ _ Stp.refl (ResOk.c (.int _) q)
theorem ok_min : CalOk K ct (rMinA K) gMin := by
  intro M N io S H vs as res Q o q md e w
  unfold gMin at e
  split at e
  · rename_i f i f' j
    cases e
    obtain ⟨v, u, rfl, r, r'⟩ := args2 o
    refine .inl ⟨i, j, by rw [int_of r, int_of r'], ?_⟩
    have w := w _ _ Stp.refl (ResOk.c (.int (min i j)) q)
    have e : (if j < i then j else i) = min i j := by split <;> omega
    rw [e]
    exact w
  · obtain ⟨f, d, xs, is, r, rfl, e1, e2, e3, rfl⟩ := gInts_of e
    obtain ⟨m, em, rfl⟩ := Option.map_eq_some_iff.mp e3
    obtain ⟨a, rfl, h⟩ := args_ints o e1 e2
    refine .inr ⟨a, is, rfl, h, ?_, fun m' hm hu => ?_⟩
    · cases is with
      | nil => cases em
      | cons _ _ => simp
    · rw [minL_of hm hu] at em
      cases em
      exact w _ _ Stp.refl (ResOk.c (.int _) q)
def gBls (g : List Bool → Bool) : List (Fl × D) → Option (D × Fl) := fun as => match as with
  | [(_, d)] => match seqOf d with
    | some xs => match blsOf xs with
      | some is => some (.bl (g is), .c)
      | none => none
    | none => none
  | _ => none
theorem gBls_of {g : List Bool → Bool} {as : List (Fl × D)} {res : D × Fl} (e : gBls g as = some res) : ∃ f d xs is, as = [(f, d)] ∧ seqOf d = some xs ∧ blsOf xs = some is ∧ res = (.bl (g is), .c) := by
  unfold gBls at e
  split at e
  · rename_i f d
    split at e
    · rename_i xs e1
      split at e
      · rename_i is e2
        cases e
        exact ⟨f, d, xs, is, rfl, e1, e2, rfl⟩
      · cases e
    · cases e
  · cases e
abbrev gAll := gBls fun is => is.all id
abbrev gAny := gBls fun is => is.any id
theorem ok_all : CalOk K ct (rAll K) gAll := by
  intro M N io S H vs as res Q o q md e w
  obtain ⟨f, d, xs, is, rfl, e1, e2, rfl⟩ := gBls_of e
  obtain ⟨a, rfl, h⟩ := args_bls o e1 e2
  exact ⟨a, is, rfl, h, w _ _ Stp.refl (ResOk.c (.bl _) q)⟩
theorem ok_any : CalOk K ct (rAny K) gAny := by
  intro M N io S H vs as res Q o q md e w
  obtain ⟨f, d, xs, is, rfl, e1, e2, rfl⟩ := gBls_of e
  obtain ⟨a, rfl, h⟩ := args_bls o e1 e2
  exact ⟨a, is, rfl, h, w _ _ Stp.refl (ResOk.c (.bl _) q)⟩
def gIntT : List (Fl × D) → Option (D × Fl) := fun as => match as with
  | [(_, .int i)] => some (.int i, .c)
  | [(_, .bl b)] => some (.int (if b then 1 else 0), .c)
  | _ => none
theorem ok_intT : CalOk K ct (fun xs H Q => (∃ i, xs = [.int i] ∧ Q (.int i) H) ∨ ∃ k, xs = [.bl k] ∧ Q (.int (if k then 1 else 0)) H) gIntT := by
  intro M N io S H vs as res Q o q md e w
  unfold gIntT at e
  split at e
  · cases e
    obtain ⟨v, rfl, r⟩ := args1 o
    exact .inl ⟨_, by rw [int_of r], w _ _ Stp.refl (ResOk.c (.int _) q)⟩
  · cases e
    obtain ⟨v, rfl, r⟩ := args1 o
    exact .inr ⟨_, by rw [bl_of r], w _ _ Stp.refl (ResOk.c (.int _) q)⟩
  · cases e
def gAbs : List (Fl × D) → Option (D × Fl) := fun as => match as with
  | [(_, .int i)] => some (.int (if i < 0 then -i else i), .c)
  | _ => none
theorem ok_abs : CalOk K ct (fun xs H Q => ∃ i, xs = [.int i] ∧ Q (.int (if i < 0 then -i else i)) H) gAbs := by
  intro M N io S H vs as res Q o q md e w
  unfold gAbs at e
  split at e
  · cases e
    obtain ⟨v, rfl, r⟩ := args1 o
    exact ⟨_, by rw [int_of r], w _ _ Stp.refl (ResOk.c (.int _) q)⟩
  · cases e
/-- sorted of ints -/
def insI (i : Int) : List Int → List Int
  | [] => [i]
  | j :: js => if i ≤ j then i :: j :: js else j :: insI i js
def sortI : List Int → List Int
  | [] => []
  | i :: is => insI i (sortI is)
theorem insI_perm (i : Int) : ∀ is, (insI i is).Perm (i :: is)
  | [] => .refl _
  | j :: js => by
    unfold insI
    split
    · exact .refl _
    · exact ((insI_perm i js).cons j).trans (.swap i j js)
theorem sortI_perm : ∀ is, (sortI is).Perm is
  | [] => .refl _
  | i :: is => (insI_perm i _).trans ((sortI_perm is).cons i)
theorem insI_sorted (i : Int) : ∀ is, is.Pairwise (· ≤ ·) → (insI i is).Pairwise (· ≤ ·)
  | [], _ => by simp [insI]
  | j :: js, h => by
    unfold insI
    rw [List.pairwise_cons] at h
    split
    · rename_i hij
      rw [List.pairwise_cons, List.pairwise_cons]
      refine ⟨fun k hk => ?_, h⟩
      rcases List.mem_cons.mp hk with rfl | hk
      · exact hij
      · exact Int.le_trans hij (h.1 k hk)
    · rename_i hij
      rw [List.pairwise_cons]
      refine ⟨fun k hk => ?_, insI_sorted i js h.2⟩
      rcases List.mem_cons.mp ((insI_perm i js).mem_iff.mp hk) with rfl | hk
      · omega
      · exact h.1 k hk
theorem sortI_sorted : ∀ is, (sortI is).Pairwise (· ≤ ·)
  | [] => .nil
  | i :: is => insI_sorted i _ (sortI_sorted is)
theorem sorted_one {a b : List Int} (p : a.Perm b) (ha : a.Pairwise (· ≤ ·)) (hb : b.Pairwise (· ≤ ·)) : a = b := by
  induction a generalizing b with
  | nil => exact p.nil_eq
  | cons x xs ih =>
    cases b with
    | nil => exact absurd p.symm (List.not_perm_nil_cons x xs)
    | cons y ys =>
      rw [List.pairwise_cons] at ha hb
      have e : x = y := by
        have h1 : x ≤ y := by
          rcases List.mem_cons.mp (p.mem_iff.mpr List.mem_cons_self) with h | h
          · omega
          · exact ha.1 y h
        have h2 : y ≤ x := by
          rcases List.mem_cons.mp (p.mem_iff.mp List.mem_cons_self) with h | h
          · omega
          · exact hb.1 x h
        omega
      subst e
      rw [ih (List.Perm.cons_inv p) ha.2 hb.2]
def gSorted : List (Fl × D) → Option (D × Fl) := fun as => match as with
  | [(_, d)] => match seqOf d with
    | some xs => match intsOf xs with
      | some is => some (.lst ((sortI is).map .int), .n)
      | none => none
    | none => none
  | _ => none
theorem ok_sorted : CalOk K ct (rSortedI K) gSorted := by
  intro M N io S H vs as res Q o q md e w
  unfold gSorted at e
  split at e
  · rename_i f d
    split at e
    · rename_i xs e1
      split at e
      · rename_i is e2
        cases e
        obtain ⟨a, rfl, h⟩ := args_ints o e1 e2
        refine ⟨a, is, rfl, h, fun ns' p hp hs hn => ?_⟩
        have e3 : ns' = sortI is := sorted_one (hp.trans (sortI_perm is).symm) hs (sortI_sorted is)
        subst e3
        exact w _ _ (Stp.upd hn) (new_lst hn hn md q (Reps.ofInts _))
      · cases e
    · cases e
  · cases e
/-! ### isinstance of built-in types -/
def tyD : D → Option String
  | .non => some "NoneType"
  | .bl _ => some "bool"
  | .int _ => some "int"
  | .str _ => some "str"
  | .lst _ => some "list"
  | .frz _ => some "list"
  | .tup _ => some "tuple"
  | .dic _ _ => some "dict"
  | _ => none
theorem tyD_of {M : Addr → Prop} {io : List Addr} {H : Hp} {d : D} {v : V} {n : String} (h : Rep K M io H d v) (e : tyD d = some n) : TyX K H v (.type n) := by
  cases h with
  | non => cases e; exact .base .non
  | bl b => cases e; exact .base (.bl b)
  | int i => cases e; exact .base (.int i)
  | str z => cases e; exact .base (.str z)
  | lst h1 _ _ => cases e; exact .base (.lst h1)
  | frz h1 _ =>
    cases e
    rcases h1 with ⟨h1 | ⟨o, h1⟩, _⟩ | ⟨o, its, n, h1, h2, _⟩
    · exact .base (.lst h1)
    · exact .base (.frz h1)
    · exact .kList h1 h2
  | tup h1 _ =>
    cases e
    rcases h1 with (h1 | ⟨o, h1⟩) | ⟨o, its, n, h1, h2, _⟩
    · exact .base (.tup h1)
    · exact .fTuple h1
    · exact .kTuple h1 h2
  | dic h1 _ _ _ => cases e; exact .base (.dK h1)
  | ins _ => cases e
  | cst => cases e
/-- isinstance(x, T) -/
def gIsi (T : String) (g : String → Option Bool) : List (Fl × D) → Option (D × Fl) := fun as => match as with
  | [(_, d), (_, .cst (.ty n))] => if n = T then (match tyD d with
    | some t => (g t).map fun b => (.bl b, .c)
    | none => none) else none
  | _ => none
theorem ok_isi {T : String} {g : String → Option Bool} (hg : ∀ t b, g t = some b → kitB t T = some b) : CalOk K ct (rIsi K) (gIsi T g) := by
  intro M N io S H vs as res Q o q md e w
  unfold gIsi at e
  split at e
  · rename_i f d f' n
    split at e
    · rename_i en
      subst en
      split at e
      · rename_i t et
        obtain ⟨b, e1, rfl⟩ := Option.map_eq_some_iff.mp e
        obtain ⟨v, u, rfl, r, r'⟩ := args2 o
        have r' := r'.weak
        cases r'
        exact ⟨v, _, .type t, .type n, b, rfl, .ty n, tyD_of r.weak et, kit_ty (hg t b e1), w _ _ Stp.refl (ResOk.c (.bl _) q)⟩
      · cases e
    · cases e
  · cases e
def isiInt : String → Option Bool
  | "NoneType" => some false
  | "bool" => some true
  | "int" => some true
  | "str" => some false
  | "list" => some false
  | "tuple" => some false
  | "dict" => some false
  | _ => none
def isiOne (T : String) : String → Option Bool := fun t =>
  if t = "NoneType" ∨ t = "bool" ∨ t = "int" ∨ t = "str" ∨ t = "list" ∨ t = "tuple" ∨ t = "dict" then some (decide (t = T)) else none
theorem isi_int : ∀ t b, isiInt t = some b → kitB t "int" = some b := by
  intro t b h
  unfold isiInt at h
  split at h <;> first | cases h; decide +kernel | cases h
theorem isi_bool : ∀ t b, isiOne "bool" t = some b → kitB t "bool" = some b := by
  intro t b h
  unfold isiOne at h
  split at h
  · rename_i z
    rcases z with rfl | rfl | rfl | rfl | rfl | rfl | rfl <;> (cases h; decide +kernel)
  · cases h
theorem isi_list : ∀ t b, isiOne "list" t = some b → kitB t "list" = some b := by
  intro t b h
  unfold isiOne at h
  split at h
  · rename_i z
    rcases z with rfl | rfl | rfl | rfl | rfl | rfl | rfl <;> (cases h; decide +kernel)
  · cases h
theorem isi_tuple : ∀ t b, isiOne "tuple" t = some b → kitB t "tuple" = some b := by
  intro t b h
  unfold isiOne at h
  split at h
  · rename_i z
    rcases z with rfl | rfl | rfl | rfl | rfl | rfl | rfl <;> (cases h; decide +kernel)
  · cases h
theorem isi_str : ∀ t b, isiOne "str" t = some b → kitB t "str" = some b := by
  intro t b h
  unfold isiOne at h
  split at h
  · rename_i z
    rcases z with rfl | rfl | rfl | rfl | rfl | rfl | rfl <;> (cases h; decide +kernel)
  · cases h
theorem isi_dict : ∀ t b, isiOne "dict" t = some b → kitB t "dict" = some b := by
  intro t b h
  unfold isiOne at h
  split at h
  · rename_i z
    rcases z with rfl | rfl | rfl | rfl | rfl | rfl | rfl <;> (cases h; decide +kernel)
  · cases h
end
section
variable {X : Cx} {ct : CT} {pos : Pos}
/-- a built-in class's name as a value -/
theorem me_ty {x : Str} {n : String} (hg : Gl X x) (hm : X.mg x = none) (hv : bootBuiltins x = some (.type n)) (hn : x ≠ "__name__" := by decide) (hd : (x == ("__debug__" : Str)) = false := by decide) : ME X ct (.Name x pos) (eC (.cst (.ty n))) :=
  me_const (pe_bltn (v := .ty n) hg hm hv rfl hn hd) fun _ _ _ _ => .cst
/-! ### what writes one's own lists -/
theorem own_lst {K : PySem.W.Frag} {M : Addr → Prop} {io : List Addr} {H : Hp} {xs : List D} {a : Addr} (h : OwnAt K M io H (.lst xs) a) : ∃ vs, H a = some (.lst vs) ∧ Reps K M io H xs vs := by
  rcases h with ⟨xs', vs, e', h1, h2⟩ | ⟨ks, xs', kvs, e', _⟩
  · cases e'
    exact ⟨vs, h1, h2⟩
  · cases e'
theorem own_new {K : PySem.W.Frag} {M : Addr → Prop} {io : List Addr} {H : Hp} {xs ys : List D} {a : Addr} {vs ws : List V} (ma : M a) (h : H a = some (.lst vs)) (r : Reps K M io H ys ws) : OwnAt K M io (upd H a (.lst ws)) (.lst ys) a :=
  .inl ⟨ys, ws, rfl, upd_same, r.mono (fun b u q ni z => by
    rw [upd_ne]
    · exact q
    · rintro rfl
      rcases z with z | z
      · exact z ma
      · rw [h] at q
        cases q
        exact not_im_lst z) (fun _ _ n => n) io_refl⟩
/-- xs.append(e) -/
def sApp (i : Nat) (m : EM) : SM := fun r S => match r[i]? with
  | some (.own (.lst xs)) => (m r S).sb r fun x S1 => if okst x.2 x.1 && decide (xs.length < sizeLine) then .nx (r.set i (.own (.lst (xs ++ [x.1])))) S1 else .no
  | _ => .no
theorem ms_app {i : Nat} {x : Str} {p apos cpos : Pos} {e : Expr} {m : EM} (hx : PE X (.Name x p) (tVar i)) (he : ME X ct e m)
    (hb : ∀ {to : TE} {t : TA}, PE X (.Name x p) to → PA X [e] t → PE X (.Call (.Attribute (.Name x p) "append" apos) [e] [] cpos) (tBM X.K "list" rAppend to t))
    (hs1 : starEach [e] X.env = (false, eval e X.env) :: starEach [] X.env := by rfl) (hs : swapsWith (.Call (.Attribute (.Name x p) "append" apos) [e] [] cpos) none pos.line X.env = pure false := by rfl) : MS X ct (.Expr (.Call (.Attribute (.Name x p) "append" apos) [e] [] cpos) pos) (sApp i m) :=
  ⟨fun G W tk _ => (ps_expr (hb hx (pa_cons (he.run G W tk) pa_nil hs1)) hs).imp fun D s H ⟨r, S, io, k, h⟩ => by
    unfold sApp at h
    split at h
    · rename_i xs e
      obtain ⟨a, h1, h2, h3, h4⟩ := k.own i _ e
      obtain ⟨vs, h5, h6⟩ := own_lst h2
      refine ⟨.ref a, h1, .inl ⟨rfl, _, .inl (.inl h5)⟩, r, S, io, k, SRes.first k h fun x S1 io1 H1 _ t1 q1 k1 h1' v ov => ?_⟩
      split at h1'
      · rename_i g
        rw [Bool.and_eq_true, decide_eq_true_eq] at g
        have h5' := t1.k1 a _ h5 NI.lst
        have h6' := h6.stp t1
        refine ⟨a, vs, v, rfl, rfl, h5', by rw [← h6.len]; exact g.2, h1' s io1 _ (k1.mut e h1 (own_new (xs := xs) (.inr (.inr ⟨i, _, e, h1⟩)) h5' (h6'.app (.cons (RepF.clean g.1 ov.repF) .nil))))⟩
      · exact h1'.elim
    · exact h.elim⟩
/-- xs.extend(e) -/
def sExt (i : Nat) (m : EM) : SM := fun r S => match r[i]? with
  | some (.own (.lst xs)) => (m r S).sb r fun x S1 => match x.1 with
    | .lst ys => if x.2 ≠ .t ∧ xs.length + ys.length ≤ sizeLine then .nx (r.set i (.own (.lst (xs ++ ys)))) S1 else .no
    | _ => .no
  | _ => .no
theorem ms_ext {i : Nat} {x : Str} {p apos cpos : Pos} {e : Expr} {m : EM} (hx : PE X (.Name x p) (tVar i)) (he : ME X ct e m)
    (hb : ∀ {to : TE} {t : TA}, PE X (.Name x p) to → PA X [e] t → PE X (.Call (.Attribute (.Name x p) "extend" apos) [e] [] cpos) (tBM X.K "list" rExtend to t))
    (hs1 : starEach [e] X.env = (false, eval e X.env) :: starEach [] X.env := by rfl) (hs : swapsWith (.Call (.Attribute (.Name x p) "extend" apos) [e] [] cpos) none pos.line X.env = pure false := by rfl) : MS X ct (.Expr (.Call (.Attribute (.Name x p) "extend" apos) [e] [] cpos) pos) (sExt i m) :=
  ⟨fun G W tk _ => (ps_expr (hb hx (pa_cons (he.run G W tk) pa_nil hs1)) hs).imp fun D s H ⟨r, S, io, k, h⟩ => by
    unfold sExt at h
    split at h
    · rename_i xs e
      obtain ⟨a, h1, h2, h3, h4⟩ := k.own i _ e
      obtain ⟨vs, h5, h6⟩ := own_lst h2
      refine ⟨.ref a, h1, .inl ⟨rfl, _, .inl (.inl h5)⟩, r, S, io, k, SRes.first k h fun x S1 io1 H1 _ t1 q1 k1 h1' v ov => ?_⟩
      split at h1'
      · rename_i ys ey
        split at h1'
        · rename_i g
          have h5' := t1.k1 a _ h5 NI.lst
          have h6' := h6.stp t1
          have o2 := ov.repF
          rw [ey] at o2
          obtain ⟨b, ws, rfl, h7, h8⟩ := nt_lst g.1 o2
          refine ⟨a, b, vs, ws, rfl, rfl, h5', h7, by rw [← h6.len, ← h8.len]; exact g.2, h1' s io1 _ (k1.mut e h1 (own_new (xs := xs) (.inr (.inr ⟨i, _, e, h1⟩)) h5' (h6'.app h8)))⟩
        · exact h1'.elim
      · exact h1'.elim
    · exact h.elim⟩
/-- xs.clear() -/
def sClr (i : Nat) : SM := fun r S => match r[i]? with
  | some (.own (.lst xs)) => .nx (r.set i (.own (.lst []))) S
  | _ => .no
theorem ms_clr {i : Nat} {x : Str} {p apos cpos : Pos} (hx : PE X (.Name x p) (tVar i))
    (hb : ∀ {to : TE}, PE X (.Name x p) to → PE X (.Call (.Attribute (.Name x p) "clear" apos) [] [] cpos) (tBM0 X.K "list" rClear to))
    (hs : swapsWith (.Call (.Attribute (.Name x p) "clear" apos) [] [] cpos) none pos.line X.env = pure false := by rfl) : MS X ct (.Expr (.Call (.Attribute (.Name x p) "clear" apos) [] [] cpos) pos) (sClr i) :=
  ⟨fun G W tk _ => (ps_expr (hb hx) hs).imp fun D s H ⟨r, S, io, k, h⟩ => by
    unfold sClr at h
    split at h
    · rename_i xs e
      obtain ⟨a, h1, h2, h3, h4⟩ := k.own i _ e
      obtain ⟨vs, h5, h6⟩ := own_lst h2
      exact ⟨.ref a, h1, .inl ⟨rfl, _, .inl (.inl h5)⟩, a, vs, rfl, rfl, h5, h s io _ (k.mut e h1 (own_new (xs := xs) (.inr (.inr ⟨i, _, e, h1⟩)) h5 .nil))⟩
    · exact h.elim⟩
/-- xs.pop() whose value is dropped -/
def sPop (i : Nat) : SM := fun r S => match r[i]? with
  | some (.own (.lst xs)) => if xs = [] then .no else .nx (r.set i (.own (.lst xs.dropLast))) S
  | _ => .no
/-- xs[i] = e -/
def sSub (i : Nat) (mi m : EM) : SM := fun r S => (m r S).sb r fun x S1 => match r[i]? with
  | some (.own (.lst xs)) => (mi r S1).sb r fun j S2 => match j.1 with
    | .int k => match ixN xs.length k with
      | some n => if okst x.2 x.1 then .nx (r.set i (.own (.lst (xs.set n x.1)))) S2 else .no
      | none => .no
    | _ => .no
  | _ => .no
theorem ms_sub {i : Nat} {y : Str} {p spos : Pos} {e ei : Expr} {m mi : EM} (hx : PE X (.Name y p) (tVar i)) (hi : ME X ct ei mi) (he : ME X ct e m)
    (ha : ∀ v, assign (.Subscript (.Name y p) ei spos) X.env v = (do
      let ov ← holding [v] (eval (.Name y p) X.env)
      let iv ← holding [v, ov] (eval ei X.env)
      standAt spos
      holding [v, ov, iv] (setItem ov iv v)
      release [v, ov, iv] []) := by intro _; rfl)
    (hs : swapsWithSole [.Subscript (.Name y p) ei spos] e pos.line X.env = pure false := by rfl) (hw : swappedStores [.Subscript (.Name y p) ei spos] e X.env = pure none := by rfl)
    (h1 : (assignEach [.Subscript (.Name y p) ei spos] X.env).map (·.2) = [assign (.Subscript (.Name y p) ei spos) X.env] := by rfl) : MS X ct (.Assign [.Subscript (.Name y p) ei spos] e pos) (sSub i mi m) :=
  ⟨fun G W tk _ => (ps_asg (he.run G W tk) (pg_sub hx (hi.run G W tk) set_list ha) hs hw h1).imp fun D s H ⟨r, S, io, k, h⟩ => ⟨r, S, io, k, SRes.first k h fun x S1 io1 H1 _ t1 q1 k1 h1' v ov => by
    split at h1'
    · rename_i xs e
      obtain ⟨a, h1, h2, h3, h4⟩ := k1.own i _ e
      obtain ⟨vs, h5, h6⟩ := own_lst h2
      refine ⟨.ref a, h1, r, S1, io1, k1, SRes.first k1 h1' fun j S2 io2 H2 _ t2 q2 k2 h2' u ou => ?_⟩
      split at h2'
      · rename_i kk ej
        split at h2'
        · rename_i n en
          split at h2'
          · rename_i g
            have h5' := t2.k1 a _ h5 NI.lst
            have h6' := h6.stp t2
            have o2 := ou.repF
            rw [ej] at o2
            refine ⟨a, vs, kk, n, rfl, int_of o2, h5', by rw [← h6.len]; exact en, h2' s io2 _ (k2.mut e h1 (own_new (xs := xs) (.inr (.inr ⟨i, _, e, h1⟩)) h5' (h6'.set n (RepF.clean g (ov.repF.stp t2)))))⟩
          · exact h2'.elim
        · exact h2'.elim
      · exact h2'.elim
    · exact h1'.elim⟩⟩
/-- x += e, ints -/
def sInc (i : Nat) (m : EM) : SM := fun r S => match r[i]? with
  | some (.ar _ (.int a)) => (m r S).sb r fun x S1 => match x.1 with
    | .int b => .nx (r.set i (.ar .c (.int (a + b)))) S1
    | _ => .no
  | _ => .no
theorem ms_inc {i : Nat} {x : Str} {e : Expr} {m : EM} {pos' : Pos} (hN : X.N.Nodup) (hi : X.N[i]? = some x) (hx : Loc X.env.scope x) (he : ME X ct e m) (hf : X.fn x = true ∨ X.env.scope.names.lookup x = some .local := by first | exact .inl rfl | exact .inr rfl | assumption) :
    MS X ct (.AugAssign (.Name x pos') .Add e pos) (sInc i m) :=
  ⟨fun G W tk _ => (ps_aug hN hi hx (he.run G W tk) ip_add hf).imp fun D s H ⟨r, S, io, k, h⟩ => by
    unfold sInc at h
    split at h
    · rename_i f a e
      obtain ⟨v, h1, h2⟩ := k.arg i _ _ e
      have ev := int_of h2.repF
      refine ⟨v, h1, r, S, io, k, SRes.first k h fun x S1 io1 H1 _ t1 q1 k1 h1' u ou => ?_⟩
      split at h1'
      · rename_i b eb
        have o2 := ou.repF
        rw [eb] at o2
        exact ⟨a, b, ev, int_of o2, h1' _ io1 H1 (k1.setc (.int _))⟩
      · exact h1'.elim
    · exact h.elim⟩
end
end Mv

set_option maxRecDepth 100000
set_option maxHeartbeats 2000000
namespace L2
open PySem PySem.Spec PyProof.Rows
section
variable {X : Cx} {pins : List (Addr × Obj)} {σ : St} {H : Hp} {s : Shared}
/-- a thing that stands in the heap is tracked from now on -/
theorem Inv.track {a : Addr} {o : HO} (I : Inv X pins σ H s) (n0 : X.s_0.heap.get? a = none) (nL : a ≠ X.env.locals) (nC : ∀ x c, X.env.cells.lookup x = some c → c ≠ a) (nP : ∀ p ∈ X.pn ++ pins, p.1 ≠ a) (na : H a = none)
    (new : ObjOk X.prog X.w (upd H a o) s.heap a o) : Inv X pins σ (upd H a o) s where
  ok := I.ok
  os := I.os
  bare := I.bare
  base := {
    keep := I.base.keep
    slot := I.base.slot
    free := fun b u e n x => by
      rw [upd_ne (fun z => by rw [z, n0] at e; cases e)]
      exact I.base.free b u e n x
    there := I.base.there
    tups := fun b xs e => by
      have q := I.base.tups b xs e
      rw [upd_ne (ne_of_none q na)]
      exact q
    frzs := fun b u xs e => by
      have q := I.base.frzs b u xs e
      rw [upd_ne (ne_of_none q na)]
      exact q
    tbls := fun b ps e => by
      obtain ⟨m, q⟩ := I.base.tbls b ps e
      exact ⟨m, by rw [upd_ne (ne_of_none q na)]; exact q⟩ }
  loc := I.loc
  cell := I.cell
  free := by
    rw [upd_ne (Ne.symm nL)]
    exact I.free
  freeC := fun x c e => by
    rw [upd_ne (nC x c e)]
    exact I.freeC x c e
  pin := fun p hp => by
    obtain ⟨h1, h2, h3⟩ := I.pin p hp
    exact ⟨h1, by rw [upd_ne (nP p hp)]; exact h2, h3⟩
  hok := I.hok.laidN (fun _ _ z => z) na new
  len := I.len
end
/-- what 'except x as n: y = n' wishes of an exception of the body: slot i is n's, slot j y's -/
def wKeep (K : PySem.W.Frag) (c : Value) (i j : Nat) (Wout : WX) (D : Ends) : WX := fun cls d σ H =>
  ∃ b, PySem.W.exmOne K cls c = some b ∧ (b = true → ∀ a, H a = none → D.nx (((σ.set i (some (.ref a))).set j (some (.ref a))).set i none) (upd H a (Mv.ExV cls d a))) ∧ (b = false → Wout cls d σ H)
section
variable {X : Cx} {x n y : Str} {c : Value} {i j : Nat} {body : List Stmt} {np pos pos' p1 p2 p3 : Pos} {tb : WX → TS} {Wout : WX}
theorem ps_try_keep (hs : X.stack = X.env :: X.outer) (hf : X.env.frame = some X.env.locals) (hxx : X.ex = []) (hN : X.N.Nodup) (hi : X.N[i]? = some n) (hj : X.N[j]? = some y) (hln : X.env.kindOf n = some .local) (hly : X.env.kindOf y = some .local) (hc : Names X x c) (tk : Takes X Wout)
    (hv : ∀ (a : Addr) (pn : List (Addr × Obj)), PE (X.suite a pn) (.Name n p2) (tVar i)) (hy : ∀ (a : Addr) (pn : List (Addr × Obj)) (t : TE), PE (X.suite a pn) (.Name n p2) t → PS (X.suite a pn) (.Assign [.Name y p1] (.Name n p2) p3) (tAsg t (gName j)))
    (hb : ∀ (W : WX) (pn : List (Addr × Obj)) (xe : Value → Shared → Prop), Takes (X.tr pn xe) W → PassesOwn (model X.prog X.w) X.A X.env xe → PSs (X.tr pn xe) body (tb W)) :
    PS X (.Try body [.ExceptHandler (some (.Name x np)) (some n) [.Assign [.Name y p1] (.Name n p2) p3] pos'] [] [] pos) (fun D σ H => tb (wKeep X.K c i j Wout D) D σ H) := by
  refine ⟨fun pins s0 σ0 H0 D I0 h0 => ?_⟩
  have okX := I0.ok
  have frX : X.A.frames = some (X.env :: X.outer) := okX.frames.trans (by rw [hs])
  have lcn : Loc X.env.scope n := .inl hln
  refine wpAny_Try_except ?_
  refine wpAny_mono ((hb (wKeep X.K c i j Wout D) (X.pn ++ pins) (fun e s₁ => wpAny (model X.prog X.w) X.A (noteFrame e X.env) (fun _ s₂ => wpAny (model X.prog X.w) X.A (setFlight e none) (fun _ s₃ =>
    wpAny (model X.prog X.w) X.A (handleBy e X.env [.ExceptHandler (some (.Name x np)) (some n) [.Assign [.Name y p1] (.Name n p2) p3] pos']) (SP X pins D) X.xe s₃) X.xe s₂) X.xe s₁) (fun u sT xx => ?_) PassesOwn.looking).run [] s0 σ0 H0 D (I0.toTry _) h0) (fun f s1 hsp => ?_) (fun e s1 he => he)
  · obtain ⟨a, B, sI, pinsT, σT, HT, cls, d, rfl, JT, nb, up, sky, na, os, ag, b, hb1, hyes, hno⟩ := xx
    have J : Inv X pins σT HT sI := JT.ofTry okX
    rw [hs] at sky
    show wpAny (model X.prog X.w) X.A (noteFrame (.ref a) X.env) _ _ _
    refine Sky.land Zc.steady frX hf sky fun g3 fly3 up3 => ?_
    have K3 : Inv X pins σT HT { sT with heap := g3 } := J.landed nb fly3.1 (up.trans up3) os ag
    obtain ⟨ob3, vs3, at3, zc3, dt3⟩ := fly3.there
    have noFr : a ∉ frs (X.env :: X.outer) := fun hm => by
      obtain ⟨_, o', e', hnf⟩ := fly3.2.2.1.mem hm
      rw [at3] at e'
      cases e'
      exact hnf _ dt3
    have noL : a ≠ X.env.locals := fun z => noFr (List.mem_filterMap.mpr ⟨X.env, List.mem_cons_self, hf.trans (by rw [z])⟩)
    have noF : a ∉ X.fs := fun hm => by
      obtain ⟨e, he, q⟩ := List.mem_filterMap.mp hm
      exact noFr (List.mem_filterMap.mpr ⟨e, List.mem_cons_of_mem _ he, q⟩)
    have noI : sI.heap.get? a = none := by
      cases e : sI.heap.get? a with
      | none => rfl
      | some o =>
        have q := nb a o e (by rw [hs]; exact noFr)
        have q2 : B.get? a = none := fly3.2.1
        rw [q2] at q
        cases q
    have no0 : X.s_0.heap.get? a = none := by
      cases e : X.s_0.heap.get? a with
      | none => rfl
      | some o =>
        obtain ⟨o', e'⟩ := J.base.there a o e (by rw [hxx]; exact List.not_mem_nil)
        rw [noI] at e'
        cases e'
    have pinsA : ∀ p ∈ X.pn ++ pins, p.1 ≠ a := fun p hp z => by
      have q := (J.pin p hp).1
      rw [z, noI] at q
      cases q
    have T3 := K3.suite at3 dt3 na noL noF
    refine wpAny_handleBy_cons (codeAny_handlers_test ?_) (by intro q; cases q)
    have ty3 : PySem.W.Looks (model X.prog X.w) g3 (typeOf (.ref a)) cls := fun A Q E s k q => wpAny_typeOf_ref (k _ _ at3) (by rw [zc3.1]; exact q)
    have one3 := PySem.W.exm_one (M := model X.prog X.w) (K3.kIn) ty3 hb1
    have cls3 : ∀ {Q : Value → Shared → Prop} {E : Value → Shared → Prop}, Q c { sT with heap := g3 } → wpAny (model X.prog X.w) (X.A.mark (some (.ref a))) (eval (.Name x np) X.env) Q E { sT with heap := g3 } := fun {Q E} q => by
      obtain ⟨hg, hdbg, hm | ⟨hm, hv, hnn⟩⟩ := hc
      · exact ld_glob (X := X.suite a ((a, ob3) :: (X.pn ++ pins))) T3 hg hm q hdbg
      · exact ld_blt (X := X.suite a ((a, ob3) :: (X.pn ++ pins))) T3 hg hm hv q hnn hdbg
    refine cls3 (one3.here ?_)
    cases b with
    | true =>
      refine codeAny_handlers_suite_as ?_
      refine HandSPX.lands_againZ fly3 fun g4 fly4 up4 => ?_
      have K4 : Inv X pins σT HT { sT with heap := g4 } := J.landed nb fly4.1 ((up.trans up3).trans up4) os ag
      obtain ⟨ob4, vs4, at4, zc4, dt4⟩ := fly4.there
      have T4 := K4.suite at4 dt4 na noL noF
      refine store_ok (X := X.suite a ((a, ob4) :: (X.pn ++ pins))) (v := .ref a) T4 hN hi lcn rfl (fun s5 T5 => ?_) (.inr hln)
      have go := (pss_one (hy a ((a, ob4) :: (X.pn ++ pins)) _ (hv a ((a, ob4) :: (X.pn ++ pins))))).run [] s5 _ HT { nx := fun σ6 H6 => σ6 = (σT.set i (some (.ref a))).set j (some (.ref a)) ∧ H6 = HT, rt := fun _ _ => False, bk := fun _ _ => False, ct := fun _ _ => False } T5
        ⟨.ref a, List.getElem?_set_self (by rw [K4.len]; exact (List.getElem?_eq_some_iff.mp hi).1), rfl, rfl⟩
      refine wpAny_mono go (fun f s6 hsp => ?_) (fun _ _ z => False.elim z)
      cases f with
      | next =>
        obtain ⟨σ6, H6, T6, rfl, rfl⟩ := hsp
        refine gone_ok (X := X.suite a ((a, ob4) :: (X.pn ++ pins))) T6 hN hi hln fun s7 T7 => ?_
        obtain ⟨at7, _⟩ := T7.pin (a, ob4) (List.mem_append_left _ List.mem_cons_self)
        have K7 : Inv X pins (((σT.set i (some (.ref a))).set j (some (.ref a))).set i none) H6 s7 := T7.unsuite okX
        refine ⟨_, _, K7.track (o := Mv.ExV cls d a) no0 noL (fun y' c' e z => ?_) pinsA na ⟨⟨ob4, vs4, at7, zc4, dt4⟩, ⟨ob4, at7⟩, fun _ _ ⟨o, v, q, r⟩ k => ⟨o, v, k o q, r⟩⟩, hyes rfl a na⟩
        obtain ⟨v, o, ho, hd⟩ := K7.cell y' c' e
        rw [z, at7] at ho
        cases ho
        rw [dt4] at hd
        cases hd
      | brk => obtain ⟨_, _, _, q⟩ := hsp; exact q.elim
      | cont => obtain ⟨_, _, _, q⟩ := hsp; exact q.elim
      | ret u => obtain ⟨_, _, _, _, _, q⟩ := hsp; exact q.elim
    | false =>
      show wpAny _ X.A (handleBy (.ref a) X.env []) _ _ _
      refine wpAny_handleBy_nil ?_
      obtain ⟨f1, f2, f3, oe, vs, T, oT, ts', he, hz, hd, h1, hr⟩ := id fly3
      unfold PySem.passOn
      refine wpAny_bind (wpAny_field he hd h1 ?_)
      rw [if_neg (show ¬ ((Value.ref T == Value.none) = true) from by simp)]
      have on : wpAny (model X.prog X.w) X.A (setFlight (.ref a) X.env.frame) (fun _ s4 => wpAny (model X.prog X.w) X.A (throw (.ref a) : Sem Flow) (SP X pins D) X.xe s4) X.xe { sT with heap := g3 } := by
        rw [hf]
        refine HandSPX.setFlight_upZ fly3 fun g4 held4 up4 => wpAny_throw (tk _ _ ?_)
        exact ⟨a, B, sI, pins, σT, HT, cls, d, rfl, J, nb, (up.trans up3).trans up4, .inr (.inr (by rw [hs]; exact held4)), na, os, ag, hno rfl⟩
      first
        | exact wpAny_bind (wpAny_pure (wpAny_bind on))
        | exact wpAny_bind on
  · cases f with
    | next => obtain ⟨σ1, H1, J1, q⟩ := hsp; exact wpAny_execs_nil ⟨σ1, H1, J1.ofTry okX, q⟩
    | brk => obtain ⟨σ1, H1, J1, q⟩ := hsp; exact ⟨σ1, H1, J1.ofTry okX, q⟩
    | cont => obtain ⟨σ1, H1, J1, q⟩ := hsp; exact ⟨σ1, H1, J1.ofTry okX, q⟩
    | ret u => obtain ⟨v, σ1, H1, J1, r, q⟩ := hsp; exact ⟨v, σ1, H1, J1.ofTry okX, r, q⟩
end
end L2

set_option maxRecDepth 100000
set_option maxHeartbeats 2000000
namespace L2
open PySem PySem.Spec PyProof.Rows
/-- isinstance asked of an exception without a dict, or of any other thing -/
def KindZ (K : PySem.W.Frag) (H : Hp) (x : V) (t : Value) : Prop := TyX K H x t ∨ ∃ (a D : Addr), x = .ref a ∧ t = .ref D ∧ H a = some (Mv.ExV (.ref D) none a) ∧ ExcC K D
def rIsZ (K : PySem.W.Frag) : List V → Hp → VK → Prop := fun xs H Q => ∃ (x c : V) (t u : Value) (b : Bool), xs = [x, c] ∧ ClsV c u ∧ KindZ K H x t ∧ PySem.W.kitOne K t u = some b ∧ Q (.bl b) H
def rIsZT (K : PySem.W.Frag) : List V → Hp → VK → Prop := fun xs H Q => ∃ (x : V) (tp : Addr) (cs : List V) (t : Value) (us : List Value) (b : Bool), xs = [x, .ref tp] ∧ H tp = some (.tup cs) ∧ Paired ClsV cs us ∧ KindZ K H x t ∧ PySem.W.kitAny K t us = some b ∧ Q (.bl b) H
section
variable {X : Cx} {pins : List (Addr × Obj)} {σ : St} {H : Hp} {s : Shared}
theorem kitZ {x : V} {u t : Value} (I : Inv X pins σ H s) (rx : RelV x u) (k : KindZ X.K H x t) : ∃ P : Heap → Prop, PySem.W.KitX X.K u t P ∧ P s.heap ∧ u ≠ .builtin "__main__.__loader__#opaque" := by
  rcases k with k | ⟨a, D, rfl, rfl, ea, C⟩
  · exact kit_of I rx k
  · cases rx
    obtain ⟨⟨oe, vs, h1, h2, h3⟩, _⟩ := (show ObjOk X.prog X.w H s.heap a (Mv.ExV (.ref D) none a) from I.hok a _ ea)
    refine ⟨_, PySem.W.handS_kitx_exc (ox := oe) C.hg C.hk C.hs C.hd C.ha C.hn C.ht C.hm, ?_, fun z => nomatch z⟩
    obtain ⟨oc, od, dt, sl⟩ := oe
    obtain ⟨z1, z2⟩ := h2
    dsimp only at z1 z2 h3
    subst z1 z2 h3
    exact ⟨h1, rfl, rfl, trivial⟩
theorem call_isZ : CallR X (.builtin "isinstance") (rIsZ X.K) := by
  intro pins s σ H xs us Q I r h
  obtain ⟨x, c, t, u, b, rfl, k, ty, e, q⟩ := h
  obtain ⟨u1, u2, rfl, r1, r2⟩ := vals2 r
  have e2 := k.eq r2
  subst e2
  obtain ⟨P, Z, p, hx⟩ := kitZ I r1 ty
  exact PySem.W.kia_one Z I.kIn p e hx fun tk => ⟨.bl b, H, I.tok tk, rfl, q⟩
theorem call_isZT : CallR X (.builtin "isinstance") (rIsZT X.K) := by
  intro pins s σ H xs us Q I r h
  obtain ⟨x, tp, cs, t, ws, b, rfl, hT, k, ty, e, q⟩ := h
  obtain ⟨u1, u2, rfl, r1, r2⟩ := vals2 r
  cases (show u2 = Value.ref tp from r2)
  obtain ⟨P, Z, p, hx⟩ := kitZ I r1 ty
  obtain ⟨_, its, rv, o, h1, h2, n, h3⟩ := (show ObjOk X.prog X.w H s.heap tp (.tup cs) from I.hok tp _ hT)
  have e3 := ClsV.all k rv
  subst e3
  obtain ⟨oc, od, dt, sl⟩ := o
  simp only at h2 h3
  subst h2 h3
  exact PySem.W.kia_tup Z I.kIn p h1 e hx fun tk => ⟨.bl b, H, I.tok tk, rfl, q⟩
theorem pcs_nil : PA X [] (fun _ H Q => Q [] H) := pa_nil
theorem pcs_cons {e : Expr} {es : List Expr} {v : V} {vs : List V} (he : PE X e (tC v)) (hr : PA X es (fun _ H Q => Q vs H)) (hs : starEach (e :: es) X.env = (false, eval e X.env) :: starEach es X.env := by rfl) : PA X (e :: es) (fun _ H Q => Q (v :: vs) H) := pa_cons he hr hs
end
end L2
namespace Mv
open PySem PySem.Spec PyProof.Rows L2
/-! ### raise -/
/-- an exception class called as n: its number c -/
structure RaC (K : PySem.W.Frag) (mg : Str → Option Value) (A : Addr) (n : Str) : Prop where
  ex : PySem.W.excIn K A [.type "ValueError", .type "Exception", .type "BaseException", .type "object"] "ValueError.__new__" = true
  gl : mg n = some (.ref A)
  kp : PySem.W.keepIn K (.ref A) = true
  sb : PySem.W.subIn K (.ref A) (.type "BaseException") = some true
  ty : PySem.W.typeIn K (.ref A) = some (.type "type")
section
variable {X : Cx} {ct : CT} {pos : Pos}
/-- raise C('..') -/
def sRaise (c : Nat) : SM := fun r S => .er c [] r S
theorem ms_raise {n : Str} {c : Nat} {m : Str} {j : Nat} {p p2 pos' : Pos} (hc : X.calm = true) (R : RaC X.K X.mg (ct.ad c) n) (hg : Gl X n) (hd : (n == ("__debug__" : Str)) = false := by decide) :
    MS X ct (.Raise (some (.Call (.Name n p) [.Constant (.str m) j p2] [] pos')) none pos) (sRaise c) :=
  ⟨fun G W tk _ => (ps_raise hc tk (pmk_own PySem.F.excBase_ValueError R.ex R.gl R.kp (raises_own R.sb R.ty) hg hd)).imp fun D s H ⟨r, S, io, k, h⟩ => h none s io H k (.inl ⟨rfl, rfl⟩)⟩
end
/-! ### an exception in the store -/
section
variable {K : PySem.W.Frag} {ct : CT} {G : Gx} {r : Env} {S S' S1 : Store} {io io' io1 : List Addr} {s : St} {H H' H1 : Hp} {M : Addr → Prop}
theorem kept_sto {c : Nat} {p : List D} {d : Option Addr} {a : Addr} (q : StoOk K ct M io S H) (ex : ct.ex c = true) (ha : H a = none) (e : ErrOk K (ct.fd c) io H p d) :
    Stp io H (io ++ [a]) (upd H a (ExV (.ref (ct.ad c)) d a)) ∧ StoOk K ct M (io ++ [a]) (S ++ [(c, p)]) (upd H a (ExV (.ref (ct.ad c)) d a)) := by
  have t0 : Stp io H io (upd H a (ExV (.ref (ct.ad c)) d a)) := Stp.upd ha
  have nx : a ∉ io := fun z => by
    obtain ⟨i, hi, e⟩ := List.getElem_of_mem z
    obtain ⟨b, o', h1, h2⟩ := q.io_at (n := i) (by rw [q.len]; exact hi)
    rw [List.getElem?_eq_getElem hi, e] at h1
    cases h1
    rw [ha] at h2
    cases h2
  have t : Stp io H (io ++ [a]) (upd H a (ExV (.ref (ct.ad c)) d a)) := ⟨t0.k1, t0.k2, ⟨[a], rfl⟩, fun b h n => by
    rcases List.mem_append.mp h with h | h
    · exact absurd h n
    · rw [List.mem_singleton.mp h]
      exact ha, t0.dom⟩
  refine ⟨t, by simp [q.len], fun n C' fs e' x' => ?_, fun n C' fs e' x' => ?_, ?_, tabs_mono (M := fun _ => False) q.tb t.kp fun b ps e' => by rw [upd_ne (ne_of_none e' ha)]; exact e'⟩
  · rcases Nat.lt_or_ge n S.length with hn | hn
    · rw [List.getElem?_append_left hn] at e'
      obtain ⟨b, dx', gs, h1, h2, h3, h4⟩ := q.at_ n C' fs e' x'
      exact ⟨b, dx', gs, by rw [List.getElem?_append_left (by rw [← q.len]; exact hn)]; exact h1, by rw [upd_ne (ne_of_none h2 ha)]; exact h2, h3, h4.stp t⟩
    · rw [List.getElem?_append_right hn] at e'
      have hn0 : n - S.length = 0 := by
        have := (List.getElem?_eq_some_iff.mp e').1
        simp at this
        omega
      rw [hn0] at e'
      cases e'
      rw [ex] at x'
      cases x'
  · rcases Nat.lt_or_ge n S.length with hn | hn
    · rw [List.getElem?_append_left hn] at e'
      obtain ⟨b, d', h1, h2, h3⟩ := q.ax n C' fs e' x'
      exact ⟨b, d', by rw [List.getElem?_append_left (by rw [← q.len]; exact hn)]; exact h1, by rw [upd_ne (ne_of_none h2 ha)]; exact h2, h3.mono (M := fun _ => False) t.kp t.pre⟩
    · rw [List.getElem?_append_right hn] at e'
      have hn0 : n - S.length = 0 := by
        have := (List.getElem?_eq_some_iff.mp e').1
        simp at this
        omega
      rw [hn0] at e'
      cases e'
      refine ⟨a, d, ?_, upd_same, e.mono (M := fun _ => False) t.kp t.pre⟩
      rw [List.getElem?_append_right (by rw [← q.len]; exact hn), ← q.len, hn0]
      rfl
  · rw [List.nodup_append]
    refine ⟨q.nd, by simp, fun b hb a' ha' e => ?_⟩
    rw [List.mem_singleton.mp ha'] at e
    exact nx (e ▸ hb)
/-- a slot of which nothing is known -/
theorem Ok.blank {i : Nat} {v : Option V} (k : Ok K ct G r S io s H) (e : r[i]? = some .no) : Ok K ct G r S io (s.set i v) H := by
  have ne : ∀ {j : Nat} {x : Slot}, r[j]? = some x → x ≠ .no → i ≠ j := fun {j x} q n z => by
    subst z
    rw [e] at q
    exact n (Option.some.inj q).symm
  have em : Mown G r (s.set i v) = Mown G r s := by
    funext a
    refine propext ⟨fun z => ?_, fun z => ?_⟩
    · rcases z with z | ⟨j, d, h1, h2⟩
      · exact .inl z
      · rw [List.getElem?_set_ne (ne h1 (by simp))] at h2
        exact .inr ⟨j, d, h1, h2⟩
    · rcases z with z | ⟨j, d, h1, h2⟩
      · exact .inl z
      · exact .inr ⟨j, d, h1, by rw [List.getElem?_set_ne (ne h1 (by simp))]; exact h2⟩
  have eM : Mall G r (s.set i v) = Mall G r s := by unfold Mall; rw [em]
  refine ⟨by simp [k.len], fun j f d q => ?_, fun j d q => ?_, fun j j' d d' a q q' z z' => ?_, by rw [eM]; exact k.sto, k.stp, k.m0, k.n0, by rw [eM, em]; exact k.held⟩
  · obtain ⟨w, h1, h2⟩ := k.arg j f d q
    exact ⟨w, by rw [List.getElem?_set_ne (ne q (by simp))]; exact h1, by rw [eM, em]; exact h2⟩
  · obtain ⟨w, h1, h2⟩ := k.own j d q
    exact ⟨w, by rw [List.getElem?_set_ne (ne q (by simp))]; exact h1, by rw [eM]; exact h2⟩
  · rw [List.getElem?_set_ne (ne q (by simp))] at z
    rw [List.getElem?_set_ne (ne q' (by simp))] at z'
    exact k.inj j j' d d' a q q' z z'
end
/-! ### try -/
/-- what the except clause's class says of each class number -/
def TabX (K : PySem.W.Frag) (ct : CT) (c : Value) (l : List (Nat × Bool)) : Prop := ∀ p ∈ l, PySem.W.exmOne K (.ref (ct.ad p.1)) c = some p.2 ∧ ct.ex p.1 = true
theorem mem_of_lk {α : Type} {n : Nat} {b : α} : ∀ {l : List (Nat × α)}, l.lookup n = some b → (n, b) ∈ l
  | [], h => by simp at h
  | (m, c) :: l, h => by
    rw [List.lookup_cons] at h
    split at h
    · rename_i e
      rw [beq_iff_eq.mp e]
      cases h
      exact List.mem_cons_self
    · exact List.mem_cons_of_mem _ (mem_of_lk h)
section
variable {X : Cx} {ct : CT} {pos : Pos}
/-- try: b, except C as n: y = n (n's slot i, y's j) -/
def sTry (l : List (Nat × Bool)) (i j : Nat) (b : SM) : SM := fun r S => match b r S with
  | .er c p r' S' => match l.lookup c with
    | some true => match r'[i]? with
      | some .no => .nx (r'.set j (.ar .c (.ins S'.length))) (S' ++ [(c, p)])
      | _ => .no
    | some false => .er c p r' S'
    | none => .no
  | x => x
theorem try_go {K : PySem.W.Frag} {c : Value} {l : List (Nat × Bool)} {i j : Nat} {b : SM} {G : Gx} {W : WX} {D : Ends} {s : St} {H : Hp} (hij : i ≠ j) (T : TabX K ct c l) (h : tS K ct G W (sTry l i j b) D s H) : tS K ct G (wKeep K c i j W D) b D s H := by
  obtain ⟨r, S, io, k, h⟩ := h
  refine ⟨r, S, io, k, ?_⟩
  unfold sTry at h
  cases e : b r S with
  | er c' p r' S' =>
    rw [e] at h
    intro dx s' io' H' k' er
    dsimp only at h
    split at h
    · rename_i e2
      obtain ⟨t1, t2⟩ := T _ (mem_of_lk e2)
      split at h
      · rename_i e3
        refine ⟨true, t1, fun _ a ha => ?_, fun z => by cases z⟩
        obtain ⟨st, sq⟩ := kept_sto k'.sto t2 ha er
        have k1 := k'.step st sq
        have k2 := (k1.blank (v := some (.ref a)) e3).setc (i := j) (d := .ins S'.length) (v := .ref a) (Rep.ins (by
          rw [List.getElem?_append_right (by rw [k'.sto.len]; exact Nat.le_refl _), k'.sto.len, Nat.sub_self]
          rfl))
        exact h _ _ _ (k2.blank (v := none) (by rw [List.getElem?_set_ne (Ne.symm hij)]; exact e3))
      · exact h.elim
    · rename_i e2
      obtain ⟨t1, t2⟩ := T _ (mem_of_lk e2)
      exact ⟨false, t1, (fun z => by cases z), fun _ => h dx s' io' H' k' er⟩
    · exact h.elim
  | nx r' S' => rw [e] at h; exact h
  | rt d f S' => rw [e] at h; exact h
  | bk r' S' => rw [e] at h; exact h
  | ct r' S' => rw [e] at h; exact h
  | no => rw [e] at h; exact h
theorem ms_try {x n y : Str} {c : Value} {i j : Nat} {body : List Stmt} {np pos' p1 p2 p3 : Pos} {l : List (Nat × Bool)} {b : SM} (hs : X.stack = X.env :: X.outer) (hf : X.env.frame = some X.env.locals) (hxx : X.ex = []) (hN : X.N.Nodup) (hi : X.N[i]? = some n) (hj : X.N[j]? = some y)
    (hln : X.env.kindOf n = some .local) (hly : X.env.kindOf y = some .local) (hij : i ≠ j) (hc : Names X x c) (T : TabX X.K ct c l) (hv : ∀ (a : Addr) (pn : List (Addr × Obj)), PE (X.suite a pn) (.Name n p2) (tVar i))
    (hy : ∀ (a : Addr) (pn : List (Addr × Obj)) (t : TE), PE (X.suite a pn) (.Name n p2) t → PS (X.suite a pn) (.Assign [.Name y p1] (.Name n p2) p3) (tAsg t (gName j)))
    (hb : ∀ (pn : List (Addr × Obj)) (xe : Value → Shared → Prop), MSs (X.tr pn xe) ct body b) : MS X ct (.Try body [.ExceptHandler (some (.Name x np)) (some n) [.Assign [.Name y p1] (.Name n p2) p3] pos'] [] [] pos) (sTry l i j b) :=
  ⟨fun G W tk po => (ps_try_keep (tb := fun W => tS X.K ct G W b) hs hf hxx hN hi hj hln hly hc tk hv hy fun W pn xe tk' po' => (hb pn xe).run G W tk' po').imp fun D s H h => try_go hij T h⟩
/-- try: b, except C: su -/
def sTryO (l : List (Nat × Bool)) (b su : SM) : SM := fun r S => match b r S with
  | .er c p r' S' => match l.lookup c with
    | some true => match su r' S' with
      | .er _ _ _ _ => .no
      | x => x
    | some false => .er c p r' S'
    | none => .no
  | x => x
theorem ms_tryO {x : Str} {c : Value} {body suite : List Stmt} {b₀ : Stmt} {np pos' : Pos} {l : List (Nat × Bool)} {b su : SM} (hs : X.stack = X.env :: X.outer) (hf : X.env.frame = some X.env.locals) (hc : Names X x c) (T : TabX X.K ct c l)
    (hb : ∀ (pn : List (Addr × Obj)) (xe : Value → Shared → Prop), MSs (X.tr pn xe) ct body b) (hsu : ∀ (a : Addr) (pn : List (Addr × Obj)), MSs (X.suite a pn) ct (b₀ :: suite) su) :
    MS X ct (.Try body [.ExceptHandler (some (.Name x np)) none (b₀ :: suite) pos'] [] [] pos) (sTryO l b su) :=
  ⟨fun G W tk po => (ps_try_only (tb := fun W => tS X.K ct G W b) (ts := fun _ _ _ => tS X.K ct G W0 su) hs hf hc tk (fun W pn xe tk' po' => (hb pn xe).run G W tk' po') fun a oe cls d pn _ _ => (hsu a ((a, oe) :: pn)).run G W0 (fun _ _ ⟨_, _, _, _, _, _, _, _, _, _, _, _, _, _, _, _, w⟩ => w) PassesOwn.never).imp fun D s H h => by
    obtain ⟨r, S, io, k, h⟩ := h
    refine ⟨r, S, io, k, ?_⟩
    unfold sTryO at h
    cases e : b r S with
    | er c' p r' S' =>
      rw [e] at h
      intro dx s' io' H' k' er
      dsimp only at h
      split at h
      · rename_i e2
        obtain ⟨t1, t2⟩ := T _ (mem_of_lk e2)
        refine ⟨true, t1, fun _ a ha => ⟨r', S', io', k', ?_⟩, fun z => by cases z⟩
        cases e3 : su r' S' with
        | er c2 p2 r2 S2 =>
          rw [e3] at h
          exact h.elim
        | nx r2 S2 => rw [e3] at h; exact h
        | rt d f S2 => rw [e3] at h; exact h
        | bk r2 S2 => rw [e3] at h; exact h
        | ct r2 S2 => rw [e3] at h; exact h
        | no => rw [e3] at h; exact h
      · rename_i e2
        obtain ⟨t1, t2⟩ := T _ (mem_of_lk e2)
        exact ⟨false, t1, (fun z => by cases z), fun _ => h dx s' io' H' k' er⟩
      · exact h.elim
    | nx r' S' => rw [e] at h; exact h
    | rt d f S' => rw [e] at h; exact h
    | bk r' S' => rw [e] at h; exact h
    | ct r' S' => rw [e] at h; exact h
    | no => rw [e] at h; exact h⟩
end
end Mv

set_option maxRecDepth 100000
set_option maxHeartbeats 2000000
namespace Mv
open PySem PySem.Spec PyProof.Rows L2
/-! ### isinstance of one's own classes -/
def kindB (tt : List (String × Bool)) (l : List (Nat × Bool)) (d : D) (S : Store) : Option Bool := match d with
  | .ins n => match S[n]? with
    | some (c, []) => l.lookup c
    | _ => none
  | d => match tyD d with
    | some t => tt.lookup t
    | none => none
def eIsx (tt : List (String × Bool)) (l : List (Nat × Bool)) (m : EM) : EM := fun r S => (m r S).bind fun x S1 => match kindB tt l x.1 S1 with
  | some b => .ok (.bl b, .c) S1
  | none => .no
theorem mem_of_lkS {α : Type} {n : String} {b : α} : ∀ {l : List (String × α)}, l.lookup n = some b → (n, b) ∈ l
  | [], h => by simp at h
  | (m, c) :: l, h => by
    rw [List.lookup_cons] at h
    split at h
    · rename_i e
      rw [beq_iff_eq.mp e]
      cases h
      exact List.mem_cons_self
    · exact List.mem_cons_of_mem _ (mem_of_lkS h)
structure IsC (K : PySem.W.Frag) (ct : CT) (f : Value → Option Bool) (tt : List (String × Bool)) (l : List (Nat × Bool)) : Prop where
  ty : ∀ p ∈ tt, f (.type p.1) = some p.2
  cl : ∀ p ∈ l, f (.ref (ct.ad p.1)) = some p.2 ∧ ct.ex p.1 = true ∧ ExcC K (ct.ad p.1)
theorem kindB_of {K : PySem.W.Frag} {ct : CT} {M : Addr → Prop} {io : List Addr} {H : Hp} {S : Store} {f : Value → Option Bool} {tt : List (String × Bool)} {l : List (Nat × Bool)} {d : D} {v : V} {b : Bool} (I : IsC K ct f tt l) (e : kindB tt l d S = some b) (h : Rep K M io H d v) (q : StoOk K ct M io S H) :
    ∃ t, KindZ K H v t ∧ f t = some b := by
  have go : ∀ {d : D}, Rep K M io H d v → (match tyD d with
    | some t => tt.lookup t
    | none => none) = some b → ∃ t, KindZ K H v t ∧ f t = some b := fun {d} h e => by
    split at e
    · rename_i t et
      exact ⟨_, .inl (tyD_of h et), I.ty _ (mem_of_lkS e)⟩
    · cases e
  cases h with
  | ins h1 =>
    rename_i n a
    unfold kindB at e
    dsimp only at e
    split at e
    · rename_i c e2
      obtain ⟨z1, z2, z3⟩ := I.cl _ (mem_of_lk e)
      obtain ⟨a', d, y1, y2, y3⟩ := q.ax n c [] e2 z2
      rw [h1] at y1
      cases y1
      rcases y3 with ⟨_, rfl⟩ | ⟨_, _, _, z, _⟩
      · exact ⟨_, .inr ⟨a, ct.ad c, rfl, rfl, y2, z3⟩, z1⟩
      · exact absurd rfl z
    · cases e
  | non => exact go .non e
  | bl x => exact go (.bl x) e
  | int x => exact go (.int x) e
  | str x => exact go (.str x) e
  | lst h1 h2 h3 => exact go (.lst h1 h2 h3) e
  | frz h1 h2 => exact go (.frz h1 h2) e
  | tup h1 h2 => exact go (.tup h1 h2) e
  | dic h1 h2 h3 h4 => exact go (.dic h1 h2 h3 h4) e
  | cst => cases e
theorem StoOk.weak {K : PySem.W.Frag} {ct : CT} {M : Addr → Prop} {io : List Addr} {S : Store} {H : Hp} (q : StoOk K ct M io S H) : StoOk K ct (fun _ => False) io S H := q.anti fun _ z => z.elim
section
variable {X : Cx} {ct : CT} {pos : Pos}
theorem me_isx {e c : Expr} {p : Pos} {v : V} {u : Value} {m : EM} {tt : List (String × Bool)} {l : List (Nat × Bool)} (he : ME X ct e m) (hc : PE X c (tC v)) (cv : ClsV v u) (I : IsC X.K ct (fun t => PySem.W.kitOne X.K t u) tt l) (hgl : Gl X "isinstance") (hm : X.mg "isinstance" = none) (hv : bootBuiltins "isinstance" = some (.builtin "isinstance"))
    (hs : starEach [c] X.env = (false, eval c X.env) :: starEach [] X.env := by rfl) (hs2 : starEach [e, c] X.env = (false, eval e X.env) :: starEach [c] X.env := by rfl) (hpl : (backTo pos (starEach [c] X.env)).any (·.1) = false := by rfl) :
    ME X ct (.Call (.Name "isinstance" p) [e, c] [] pos) (eIsx tt l m) :=
  ⟨fun G W tk => (pe_callB call_isZ hgl hm hv (pa_cons (he.run G W tk) (pcs_cons hc pcs_nil hs) hs2) (he := hs2) (hpl := hpl)).imp fun s H Q ⟨r, S, io, k, h⟩ => ⟨r, S, io, k, Res.first h fun x S1 io1 H1 e1 t1 q1 h1 w o => by
    split at h1
    · rename_i b e2
      obtain ⟨t, z1, z2⟩ := kindB_of I e2 o.repF.weak q1.weak
      exact ⟨w, v, t, u, b, rfl, cv, z1, z2, h1.here q1 _ (ResOk.sc (f := .c) (by simp) (.bl _) q1)⟩
    · exact h1.elim⟩⟩
theorem me_isxT {e : Expr} {es : List Expr} {p : Pos} {vs : List V} {us : List Value} {m : EM} {x1 pt} {tt : List (String × Bool)} {l : List (Nat × Bool)} (he : ME X ct e m) (hc : PA X es (fun _ H Q => Q vs H)) (cv : Paired ClsV vs us) (hl : vs.length ≤ sizeLine) (I : IsC X.K ct (fun t => PySem.W.kitAny X.K t us) tt l) (hgl : Gl X "isinstance") (hm : X.mg "isinstance" = none) (hv : bootBuiltins "isinstance" = some (.builtin "isinstance"))
    (hs : starEach [.Tuple es x1 pt] X.env = (false, eval (.Tuple es x1 pt) X.env) :: starEach [] X.env := by rfl) (hs2 : starEach [e, .Tuple es x1 pt] X.env = (false, eval e X.env) :: starEach [.Tuple es x1 pt] X.env := by rfl) (hpl : (backTo pos (starEach [.Tuple es x1 pt] X.env)).any (·.1) = false := by rfl) :
    ME X ct (.Call (.Name "isinstance" p) [e, .Tuple es x1 pt] [] pos) (eIsx tt l m) :=
  ⟨fun G W tk => (pe_callB call_isZT hgl hm hv (pa_cons (he.run G W tk) (pa_cons (pe_tup hc) pa_nil hs) hs2) (he := hs2) (hpl := hpl)).imp fun s H Q ⟨r, S, io, k, h⟩ => ⟨r, S, io, k, Res.first h fun x S1 io1 H1 e1 t1 q1 h1 w o => by
    split at h1
    · rename_i b e2
      refine ⟨hl, fun pp hp => ?_⟩
      obtain ⟨t, z1, z2⟩ := kindB_of I e2 (o.repF.stp (Stp.upd (o := .tup vs) hp)).weak (q1.upd (o := .tup vs) hp).weak
      exact ⟨w, pp, vs, t, us, b, rfl, upd_same, cv, z1, z2, h1.go (Stp.upd hp) (q1.upd hp) _ (ResOk.sc (f := .c) (by simp) (.bl _) (q1.upd hp))⟩
    · exact h1.elim⟩⟩
/-- an own class's name -/
theorem pe_cls {x : Str} {A : Addr} (hg : Gl X x) (hm : X.mg x = some (.ref A)) (hd : (x == ("__debug__" : Str)) = false := by decide) : PE X (.Name x pos) (tC (.ref A)) := pe_glob hg hm rfl hd
theorem pe_bcls {x : Str} {n : String} (hg : Gl X x) (hm : X.mg x = none) (hv : bootBuiltins x = some (.type n)) (hn : x ≠ "__name__" := by decide) (hd : (x == ("__debug__" : Str)) = false := by decide) : PE X (.Name x pos) (tC (.ty n)) := pe_bltn (v := .ty n) hg hm hv rfl hn hd
end
end Mv
namespace Mv
open PySem PySem.Spec PyProof.Rows L2
section
variable {K : PySem.W.Frag} {ct : CT} {M N : Addr → Prop} {io : List Addr} {S : Store} {H : Hp}
/-- tuple(x) -/
def gTupOf : D × Fl → Option (D × Fl)
  | (.lst xs, f) => some (.tup xs, if f = .t then .t else .c)
  | (.frz xs, f) => some (.tup xs, if f = .t then .t else .c)
  | (.tup xs, f) => if f = .t then none else some (.tup xs, .c)
  | _ => none
theorem new_tupT {H0 : Hp} {p : Addr} {f : Fl} {xs : List D} {vs : List V} (hp : H p = none) (q : StoOk K ct M io S H) (hw : Reps K (fun _ => False) io H xs vs) (h : f ≠ .t → Reps K M io H xs vs) :
    ResOk K ct M N H0 io S (upd H p (.tup vs)) (if f = .t then .t else .c) (.tup xs) (.ref p) := by
  by_cases e : f = .t
  · rw [if_pos e]
    exact ⟨.tup (.inl (.inl upd_same)) (hw.stp (Stp.upd hp)), q.upd hp⟩
  · rw [if_neg e]
    exact new_tup hp q (h e)
theorem ok_tupOf {x : V} {a res : D × Fl} {Q : VK} (o : RepF K M N io H a.2 a.1 x) (q : StoOk K ct M io S H) (e : gTupOf a = some res) (w : ∀ v H', Stp io H io H' → ResOk K ct M N H io S H' res.2 res.1 v → Q v H') : kTup K x H Q := by
  obtain ⟨d, f⟩ := a
  unfold gTupOf at e
  split at e
  · rename_i xs f' e2
    cases e2
    cases e
    obtain ⟨a, us, rfl, h1, h2, h3⟩ := seq_both (d := .lst xs) rfl o
    exact .inl ⟨a, us, rfl, h1, fun p hp => w _ _ (Stp.upd hp) (new_tupT hp q h3 h2)⟩
  · rename_i xs f' e2
    cases e2
    cases e
    obtain ⟨a, us, rfl, h1, h2, h3⟩ := seq_both (d := .frz xs) rfl o
    exact .inl ⟨a, us, rfl, h1, fun p hp => w _ _ (Stp.upd hp) (new_tupT hp q h3 h2)⟩
  · rename_i xs f' e2
    cases e2
    split at e
    · cases e
    · rename_i g
      cases e
      have o2 := o
      obtain ⟨a, us, rfl, h1, h2⟩ := nt_tup g o
      exact .inr ⟨a, us, rfl, h1, w _ _ Stp.refl ⟨.tup h1 h2, q⟩⟩
  · cases e
end
section
variable {X : Cx} {ct : CT} {pos : Pos}
def eG1 (g : D × Fl → Option (D × Fl)) (m : EM) : EM := fun r S => (m r S).bind fun x S1 => lift0 (g x) S1
theorem me_tupOf {a : Expr} {p : Pos} {m : EM} (hg : Gl X "tuple") (hm : X.mg "tuple" = none) (ha : ME X ct a m) (na : starEach [a] X.env = (false, eval a X.env) :: starEach [] X.env := by rfl) : ME X ct (.Call (.Name "tuple" p) [a] [] pos) (eG1 gTupOf m) :=
  ⟨fun G W tk => (pe_tupleOf hg hm (ha.run G W tk) na).imp fun s H Q ⟨r, S, io, k, h⟩ => ⟨r, S, io, k, Res.first h fun x S1 io1 H1 e1 t1 q1 h1 v o => by
    unfold lift0 at h1
    split at h1
    · rename_i res e
      refine ok_tupOf o.repF q1 e fun v H' t' o' => ?_
      exact h1.go t' o'.sto v (o'.back fun a z => t1.free z)
    · exact h1.elim⟩⟩
end
end Mv
namespace Mv
open PySem PySem.Spec PyProof.Rows L2
section
variable {X : Cx} {ct : CT} {pos : Pos}
/-- {} -/
def eDict0 : EM := fun _ S => .ok (.dic [] [], .n) S
theorem me_dict0 : ME X ct (.Dict [] [] pos) eDict0 :=
  ⟨fun G W tk => pe_dnewK.imp fun s H Q ⟨r, S, io, k, h⟩ p hp => by
    have np : ¬ Mall G r s p := fun z => by
      obtain ⟨o, e, _⟩ := k.mdom p z
      rw [hp] at e
      cases e
    exact h.go (Stp.upd hp) (k.sto.upd hp) _ ⟨p, rfl, hp, np, .inr ⟨[], [], [], rfl, upd_same, rfl, .nil⟩, (k.sto.off hp).upd hp⟩⟩
end
end Mv
namespace Mv
open PySem PySem.Spec PyProof.Rows
theorem ex_int {mg : Str → Option Value} {x : Str} {i : Int} {t : Tok} (h : mg x = some (.int i t)) : ∃ t, mg x = some (.int i t) := ⟨t, h⟩
theorem ex_str {mg : Str → Option Value} {x : Str} {i : Str} {t : Tok} (h : mg x = some (.str i t)) : ∃ t, mg x = some (.str i t) := ⟨t, h⟩
end Mv

set_option maxRecDepth 100000
set_option maxHeartbeats 2000000
namespace Mv
open PySem PySem.Spec PyProof.Rows L2
/-! ### more that a for walks -/
def gRng3 : List (Fl × D) → Option (List D) := fun as => match as with
  | [(_, .int i), (_, .int j), (_, .int c)] => if decide (c ≠ 0) && decide (c.natAbs < 1073741824) && Builtin.Range.small i j c && decide (Builtin.Range.rangeSize i j c = ((Builtin.Range.rangeSize i j c).toNat : Int)) then some (rangeD i c (Builtin.Range.rangeSize i j c).toNat) else none
  | _ => none
section
variable {X : Cx} {ct : CT} {tg : Expr} {pos : Pos}
theorem mi_range3 {a b c : Expr} {t : AM} {p : Pos} (hg : Gl X "range") (hm : X.mg "range" = none) (ha : MA X ct [a, b, c] t) (hs : starEach [a, b, c] X.env = (false, eval a X.env) :: starEach [b, c] X.env := by rfl) (hpl : (backTo pos (starEach [b, c] X.env)).any (·.1) = false := by rfl) :
    MI X ct tg (.Call (.Name "range" p) [a, b, c] [] pos) (iArgs gRng3 t) :=
  ⟨fun G W tk => (pi_range3 hg hm (ha.run G W tk) hs hpl).imp fun s H R h => iargs_go h fun M N io H1 as vs ds o e w => by
    unfold gRng3 at e
    split at e
    · rename_i f i f' j f2 c
      split at e
      · rename_i g
        simp only [Bool.and_eq_true, decide_eq_true_eq] at g
        obtain ⟨⟨⟨g1, g2⟩, g3⟩, g4⟩ := g
        cases e
        obtain ⟨v, u, z, rfl, r, r', r2⟩ := args3 o
        exact ⟨i, j, c, _, by rw [int_of r, int_of r', int_of r2], ⟨g1, g2, g3, g4⟩, w _ [] walk_rangeCD fun p hp => nomatch hp⟩
      · cases e
    · cases e⟩
/-- reversed(range(n)) -/
def iRevR (m : EM) : Env → Store → Rs (List D) := fun r S => (m r S).bind fun x S1 => match x.1 with
  | .int j => if inR j then .ok (rangeD ((j.toNat : Int) - 1) (-1) j.toNat) S1 else .no
  | _ => .no
theorem mi_revR {a : Expr} {m : EM} {p p2 pos2 : Pos} (hg : Gl X "reversed") (hm : X.mg "reversed" = none) (hg2 : Gl X "range") (hm2 : X.mg "range" = none) (ha : ME X ct a m) (na : starEach [a] X.env = (false, eval a X.env) :: starEach [] X.env := by rfl)
    (hs : starEach [.Call (.Name "range" p2) [a] [] pos2] X.env = (false, eval (.Call (.Name "range" p2) [a] [] pos2) X.env) :: starEach [] X.env := by rfl) :
    MI X ct tg (.Call (.Name "reversed" p) [.Call (.Name "range" p2) [a] [] pos2] [] pos) (iRevR m) :=
  ⟨fun G W tk => (pi_revR hg hm (prg_1 hg2 hm2 (ha.run G W tk) na) hs).imp fun s H R ⟨r, S, io, k, h⟩ => ⟨r, S, io, k, Res.first h fun x S1 io1 H1 e1 t1 q1 h1 v o => by
    split at h1
    · rename_i j e2
      split at h1
      · rename_i g
        have o2 := o.repF
        rw [e2] at o2
        refine ⟨j, int_of o2, by decide, by decide, (inR_of g).1, (inR_of g).2, ?_⟩
        rw [Int.sub_zero, Int.zero_add]
        exact h1.here q1 _ [] walk_rangeCD fun p hp => nomatch hp
      · exact h1.elim
    · exact h1.elim⟩⟩
end
end Mv

set_option maxRecDepth 100000
set_option maxHeartbeats 2000000
namespace L2
open PySem PySem.Spec PyProof.Rows LamX
section
variable {X : Cx} {pins : List (Addr × Obj)} {σ : L2.St} {H HZ : Hp} {s s1 : Shared}
/-- a lambda is made: what is tracked stays, but tables may grow; nothing is tracked no more -/
theorem lam_make3 {T : List (Addr × Str)} {c P : Addr} {params : Arguments} {body : Expr} {scope : Scope} {pos : Pos} {E : Value → Shared → Prop} {Q : Value → Shared → Prop}
    (I : Inv X pins σ H s) (TB : TabB X.base X.mg c P) (hcode : X.env.code = .ref c)
    (hm : (P, X.env.qual ++ "<lambda>") ∈ T) (hu : ∀ p ∈ T, p.1 = P → p.2 = X.env.qual ++ "<lambda>")
    (hT : Tabs T H) (hdef : defaultsOf params X.env = ([], [])) (hfree : ∀ y ∈ scope.names, y.2 = .free → ∃ c, X.env.cells.lookup y.1 = some c)
    (h : ∀ (f c' : Addr) (pm ctv : Value) (H1 : Hp) (s' : Shared), Inv X pins σ H1 s' → ExtN H H1 → (∀ b o, H b = some o → ∃ o', H1 b = some o') → Tabs T H1 →
      s'.heap.get? f = some (PySem.W.kla_obj "<lambda>" (X.env.qual ++ "<lambda>") params body scope (cloFrom X.env.cells scope.names []) pm c' ctv) → H1 f = none → f ∉ frs X.stack → H1 c' = some (CodeO c' (X.env.qual ++ "<lambda>")) → Q (.ref f) s') :
    wpAny (model X.prog X.w) X.A (eval (.Lambda params body scope pos) X.env) Q E s := by
  obtain ⟨ps, hP, ht, ha⟩ := hT _ hm
  have bP : s.heap.BuiltinsAt X.mg P := TB.bm.keeps I.bk
  have hP' : s.heap.get? P = some { cls := .none, data := .fields ps } := I.hok P _ hP
  have noF : ∀ f, s.heap.objs.size ≤ f → f ∉ frs X.stack := fun f hf z => by
    rcases List.mem_cons.mp (I.stkSub _ z) with e | e
    · have lt := I.lt
      rw [← e] at lt
      exact absurd hf (Nat.not_le_of_lt lt)
    · exact I.nofs hf e
  refine PySem.W.kla_eval hdef ?_
  cases hc : codeAmong pos ps.toList with
  | some cv =>
    obtain ⟨c', rfl, hco⟩ := ha pos cv hc
    refine PySem.W.kla_makeFunctionHit (mg := X.mg) (c := c) (P := P) (ps := ps) (closure_ok hfree) I.ok.glob (I.mod.glob.keeps I.bk) hcode
      (TB.code.keeps I.bk) hP' ht hc bP fun ctv h' tk hx hsz => ?_
    exact h h'.objs.size c' ((X.mg "__name__").getD .none) ctv H _
      (I.kept fun b o e => Heap.get?_push_of_some _ (hx b o e)) (ExtN.refl H) (fun _ o e => ⟨o, e⟩) hT (Heap.get?_push_size _ rfl) (I.hok.fresh hsz) (noF _ hsz) hco
  | none =>
    refine PySem.W.kla_makeFunction (mg := X.mg) (c := c) (P := P) (ps := ps) (closure_ok hfree) I.ok.glob (I.mod.glob.keeps I.bk) hcode
      (TB.code.keeps I.bk) hP' ht hc TB.gP bP fun c' ctv h' tk hx hge hlt hrec htb => ?_
    obtain ⟨c2, oc, vs, t, e2, hoc, hd, hv⟩ := hrec
    cases e2
    have nC : H c' = none := I.hok.fresh hge
    have hsz : s.heap.objs.size ≤ h'.objs.size := by omega
    have nPc : P ≠ c' := ne_of_none hP nC
    have I1 := inv_table (t' := tk) (more := #[rawInt pos.line, rawInt pos.col, .ref c'])
      (h' := h'.push (PySem.W.kla_obj "<lambda>" (X.env.qual ++ "<lambda>") params body scope (cloFrom X.env.cells scope.names []) ((X.mg "__name__").getD .none) c' ctv)) I hP
      (fun b o hb e => Heap.get?_push_of_some _ (hx b o hb e)) (Heap.get?_push_of_some _ htb) hge
      ⟨oc, vs, t, Heap.get?_push_of_some _ hoc, hd, hv⟩
    generalize hH1 : upd (upd H P (.tbl (ps ++ #[rawInt pos.line, rawInt pos.col, .ref c']))) c' (CodeO c' (X.env.qual ++ "<lambda>")) = H1 at I1
    have atP : H1 P = some (.tbl (ps ++ #[rawInt pos.line, rawInt pos.col, .ref c'])) := by rw [← hH1, upd_ne nPc, upd_same]
    have atC : H1 c' = some (CodeO c' (X.env.qual ++ "<lambda>")) := by rw [← hH1, upd_same]
    have oth : ∀ b, b ≠ P → b ≠ c' → H1 b = H b := fun b h1 h2 => by rw [← hH1, upd_ne h2, upd_ne h1]
    have hE : ExtN H H1 := fun b o e n => by
      rw [oth b (fun z => n ps (Option.some.inj (e.symm.trans (by rw [z]; exact hP)))) (ne_of_none e nC)]
      exact e
    have hD : ∀ b o, H b = some o → ∃ o', H1 b = some o' := fun b o e => by
      by_cases hb : b = P
      · exact ⟨_, by rw [hb]; exact atP⟩
      · exact ⟨o, by rw [oth b hb (ne_of_none e nC)]; exact e⟩
    have eL : (ps ++ #[rawInt pos.line, rawInt pos.col, .ref c']).toList = ps.toList ++ [rawInt pos.line, rawInt pos.col, .ref c'] := by simp
    have hT1 : Tabs T H1 := fun p hp => by
      by_cases hb : p.1 = P
      · rw [hu p hp hb, hb]
        refine ⟨_, atP, by rw [eL]; exact PySem.TriplesOk_snoc _ _ _ _ ht, fun p' cv hcv => ?_⟩
        rw [eL] at hcv
        rcases among_app _ ht hcv with z | z
        · obtain ⟨c0, e1, e2⟩ := ha p' cv z
          exact ⟨c0, e1, hE _ _ e2 codeO_ne⟩
        · exact ⟨c', z, atC⟩
      · obtain ⟨ps', a1, a2, a3⟩ := hT p hp
        refine ⟨ps', by rw [oth _ hb (ne_of_none a1 nC)]; exact a1, a2, fun p' cv hcv => ?_⟩
        obtain ⟨c0, e1, e2⟩ := a3 p' cv hcv
        exact ⟨c0, e1, hE _ _ e2 codeO_ne⟩
    refine h h'.objs.size c' ((X.mg "__name__").getD .none) ctv H1 _ I1 hE hD hT1 (Heap.get?_push_size _ rfl) ?_ (noF _ hsz) atC
    rw [oth _ (Nat.ne_of_gt (Nat.lt_of_lt_of_le (Heap.lt_size hP') hsz)) (Nat.ne_of_gt hlt)]
    exact I.hok.fresh hsz
/-- the context of the def that got the lambda -/
abbrev gotCx (X : Cx) (Ng : List Str) (x : Str) (sg : Scope) (g : Addr) (cdg : Value) (s : Shared) (H : Hp) : Cx :=
  cxOf (L2.CX X.prog X.w) X.prog X.w X.K X.mg X.base Ng x sg g cdg X.A X.stack s H fun _ _ _ => False
/-- x(), the lambda's body read at the maker's slots -/
theorem pe_got {Ng : List Str} {x : Str} {sg : Scope} {g f c' : Addr} {cdg pm ctv : Value} {params : Arguments} {body : Expr} {scope : Scope} {k i : Nat} {a : Str}
    {pn : List (Addr × Obj)} {xe : Value → Shared → Prop} {W : WX} {tb : XK → TE} {p1 p2 : Pos} (I : Inv X pins σ H s) (L : LamS X.env.scope scope)
    (hf : s.heap.get? f = some (PySem.W.kla_obj "<lambda>" (X.env.qual ++ "<lambda>") params body scope (cloFrom X.env.cells scope.names []) pm c' ctv))
    (hfn : H f = none) (hfr : f ∉ frs X.stack)
    (hbind : bindArgs (PySem.W.kla_fn "<lambda>" (X.env.qual ++ "<lambda>") params body scope (cloFrom X.env.cells scope.names []) pm (.ref c') ctv) ⟨[], []⟩ = pure [])
    (tk : Takes ((gotCx X Ng x sg g cdg s H).tr pn xe) W) (hr : Room (k + 1) (X.A.deeper (envOfC x sg s.heap.objs.size g cdg)))
    (hbody : ∀ (A : Around) (outer : List Env) (s : Shared) (H : Hp) (E : XK), Room k (A.deeper (lamEnv X scope s.heap.objs.size f c')) → PE (lamCx X A outer s H E scope f c') body (tb E))
    (hN : Ng[i]? = some a) (hv : Vis sg a) (hd : (a == ("__debug__" : Str)) = false) (hcd : (a == ("__classdict__" : Str)) = false) :
    PE ((gotCx X Ng x sg g cdg s H).tr pn xe) (.Call (.Name a p1) [] [] p2)
      (fun σZ HZ Q => σZ[i]? = some (some (.ref f)) ∧ HZ c' = some (CodeO c' (X.env.qual ++ "<lambda>")) ∧ tb (WE W σZ) σ HZ Q) := by
  refine ⟨fun pinsZ sZ σZ HZ Q IZ ⟨hs, hc, ht⟩ => ?_⟩
  refine wpAny_Call_Name_kw (thn ((pe_var (pos := p1) (i := i) hN hv hd hcd).run pinsZ sZ σZ HZ (fun v H1 => v = .ref f ∧ H1 = HZ) IZ
    ⟨.ref f, hs, rfl, rfl⟩) fun u s1 ⟨v, H1, I1, r1, ev, eH⟩ => ?_)
  subst ev eH
  obtain rfl : u = Value.ref f := r1
  have of1 : s1.heap.get? f = some (PySem.W.kla_obj "<lambda>" (X.env.qual ++ "<lambda>") params body scope (cloFrom X.env.cells scope.names []) pm c' ctv) :=
    I1.base.keep f _ hf hfn hfr (fun z => nomatch (show f ∈ ([] : List Addr) from z))
  refine PySem.W.callWith_F0 ⟨_, _, _, _, of1⟩ (wpAny_call (codeAny_mono
    (show codeAny (model X.prog X.w) (X.A.deeper (envOfC x sg s.heap.objs.size g cdg)) (.call (.ref f) ⟨[], []⟩)
      (CR (L2.CX X.prog X.w) (envOfC x sg s.heap.objs.size g cdg :: X.stack) X.prog X.w H1 s1 Q (WE W σZ)) s1 from ?_) fun r s' hq => ?_))
  · obtain ⟨⟨oc, vs, t, hoc, hdc, hvc⟩, _, _⟩ := I1.hok c' _ hc
    refine PySem.W.kla_callFunE hr.depth of1 rfl L.co L.gen rfl ⟨c', oc, vs, t, rfl, hoc, hdc, hvc⟩ ?_
    rw [hbind]
    refine wpAny_pure (wpAny_newFunctionEnv (fun y hy => (L.own y hy).2) (fun y hy => absurd hy (by simp)) (fun h₁ hns hsb => ⟨I1.nolimit.fresh _ hsb, ?_⟩) L.kind)
    have un : Un (frs X.stack) [] H H1 s.heap s1.heap := I1.base
    have kp : ∀ b o, s1.heap.get? b = some o → h₁.get? b = some o := fun b o e => hsb.extBut b o (Nat.ne_of_lt (Heap.lt_size e)) (Heap.get?_push_of_some _ e)
    refine PySem.W.kla_codeExpr (wpAny_mono ((hbody (X.A.deeper (envOfC x sg s.heap.objs.size g cdg)) (envOfC x sg s.heap.objs.size g cdg :: X.stack) s1 H1 (WE W σZ)
      (hr.deeper _)).run [] _ _ H1 Q (lam_start2 I L I1.env0 hr.hd un hns kp) ht) (fun v s' ⟨w', H', J', rv, q⟩ => ?_) fun e s' hq => hq)
    exact ⟨w', H', J'.os, J'.bare, J'.base, J'.hok, rv, q⟩
  · cases r with
    | error e => exact passAt tk σZ pinsZ H1 s1 e s' I1 hq
    | ok fl =>
      cases fl with
      | ret u => exact I1.after hq
      | next => exact hq.elim
      | brk => exact hq.elim
      | cont => exact hq.elim
end
end L2

set_option maxRecDepth 100000
set_option maxHeartbeats 2000000
namespace Mv
open PySem PySem.Spec PyProof.Rows L2 LamX
/-! ### statements, the frame's ghost told -/
structure MSG (X : Cx) (ct : CT) (G : Gx) (st : Stmt) (m : SM) : Prop where
  run : ∀ (W : WX), Takes X W → PassesOwn (model X.prog X.w) X.A X.env X.xe → PS X st (tS X.K ct G W m)
structure MSGs (X : Cx) (ct : CT) (G : Gx) (st : List Stmt) (m : SM) : Prop where
  run : ∀ (W : WX), Takes X W → PassesOwn (model X.prog X.w) X.A X.env X.xe → PSs X st (tS X.K ct G W m)
section
variable {X : Cx} {ct : CT} {G : Gx} {pos : Pos}
theorem MS.gh {st : Stmt} {m : SM} (h : MS X ct st m) : MSG X ct G st m := ⟨h.run G⟩
theorem MSs.gh {st : List Stmt} {m : SM} (h : MSs X ct st m) : MSGs X ct G st m := ⟨h.run G⟩
theorem msg_one {st : Stmt} {m : SM} (h : MSG X ct G st m) : MSGs X ct G [st] m := ⟨fun W tk po => pss_one (h.run W tk po)⟩
theorem msg_cons {st : Stmt} {rest : List Stmt} {m t : SM} (ha : MSG X ct G st m) (hb : MSGs X ct G rest t) : MSGs X ct G (st :: rest) (sSeq m t) :=
  ⟨fun W tk po => (pss_cons (ha.run W tk po) (hb.run W tk po)).imp fun D s H ⟨r, S, io, k, h⟩ => by
    refine ⟨r, S, io, k, ?_⟩
    unfold sSeq at h
    cases e : m r S with
    | nx r' S' =>
      rw [e] at h
      exact fun s' io' H' k' => ⟨r', S', io', k', h⟩
    | rt d f S' => rw [e] at h; exact h
    | bk r' S' => rw [e] at h; exact h
    | ct r' S' => rw [e] at h; exact h
    | er c p r' S' => rw [e] at h; exact h
    | no => rw [e] at h; exact h⟩
theorem msg_try {x n y : Str} {c : Value} {i j : Nat} {body : List Stmt} {np pos' p1 p2 p3 : Pos} {l : List (Nat × Bool)} {b : SM} (hs : X.stack = X.env :: X.outer) (hf : X.env.frame = some X.env.locals) (hxx : X.ex = []) (hN : X.N.Nodup) (hi : X.N[i]? = some n) (hj : X.N[j]? = some y)
    (hln : X.env.kindOf n = some .local) (hly : X.env.kindOf y = some .local) (hij : i ≠ j) (hc : Names X x c) (T : TabX X.K ct c l) (hv : ∀ (a : Addr) (pn : List (Addr × Obj)), PE (X.suite a pn) (.Name n p2) (tVar i))
    (hy : ∀ (a : Addr) (pn : List (Addr × Obj)) (t : TE), PE (X.suite a pn) (.Name n p2) t → PS (X.suite a pn) (.Assign [.Name y p1] (.Name n p2) p3) (tAsg t (gName j)))
    (hb : ∀ (pn : List (Addr × Obj)) (xe : Value → Shared → Prop), MSGs (X.tr pn xe) ct G body b) : MSG X ct G (.Try body [.ExceptHandler (some (.Name x np)) (some n) [.Assign [.Name y p1] (.Name n p2) p3] pos'] [] [] pos) (sTry l i j b) :=
  ⟨fun W tk po => (ps_try_keep (tb := fun W => tS X.K ct G W b) hs hf hxx hN hi hj hln hly hc tk hv hy fun W pn xe tk' po' => (hb pn xe).run W tk' po').imp fun D s H h => try_go hij T h⟩
end
/-- the first slot is known no more -/
def sFg0 (m : SM) : SM := fun r S => m (r.set 0 .no) S
def sFgt (m : SM) : SM := fun r S => match r[0]? with
  | some (Slot.ar _ _) => sFg0 m r S
  | _ => .no
theorem Ok.forget {K : PySem.W.Frag} {ct : CT} {G : Gx} {r : Env} {S : Store} {io : List Addr} {s : St} {H : Hp} {i : Nat} {f : Fl} {d : D} (k : Ok K ct G r S io s H) (e : r[i]? = some (.ar f d)) : Ok K ct G (r.set i .no) S io s H := by
  have em : Mown G (r.set i .no) s = Mown G r s := by
    funext a
    refine propext ⟨fun z => ?_, fun z => ?_⟩
    · rcases z with z | ⟨j, d', h1, h2⟩
      · exact .inl z
      · rcases get_set h1 with ⟨rfl, q, _⟩ | ⟨hj, q⟩
        · cases q
        · exact .inr ⟨j, d', q, h2⟩
    · rcases z with z | ⟨j, d', h1, h2⟩
      · exact .inl z
      · refine .inr ⟨j, d', ?_, h2⟩
        rw [List.getElem?_set_ne]
        · exact h1
        · rintro rfl
          rw [e] at h1
          cases h1
  have eM : Mall G (r.set i .no) s = Mall G r s := by unfold Mall; rw [em]
  refine ⟨by simp [k.len], fun j f d q => ?_, fun j d q => ?_, fun j j' d d' a q q' z z' => ?_, by rw [eM]; exact k.sto, k.stp, k.m0, k.n0, by rw [eM, em]; exact k.held⟩
  · rcases get_set q with ⟨rfl, q, _⟩ | ⟨hj, q⟩
    · cases q
    · rw [eM, em]
      exact k.arg j f d q
  · rcases get_set q with ⟨rfl, q, _⟩ | ⟨hj, q⟩
    · cases q
    · rw [eM]
      exact k.own j d q
  · rcases get_set q with ⟨rfl, q, _⟩ | ⟨hj, q⟩
    · cases q
    · rcases get_set q' with ⟨rfl, q', _⟩ | ⟨hj', q'⟩
      · cases q'
      · exact k.inj j j' d d' a q q' z z'
section
variable {X : Cx} {ct : CT} {G : Gx} {pos : Pos}
theorem mss_for0 {st : List Stmt} {m : SM} (h : MSs X ct st m) : MSs X ct st (sFgt m) :=
  ⟨fun G W tk po => (h.run G W tk po).imp fun D s H ⟨r, S, io, k, h⟩ => by
    unfold sFgt at h
    split at h
    · rename_i e
      exact ⟨_, S, io, k.forget e, h⟩
    · exact h.elim⟩
end
/-! ### a def that calls what it gets -/
def noOwnB : Env → Bool := fun r => r.all fun x => match x with
  | .own _ => false
  | _ => true
def sGot (x : Store → Rs (D × Fl)) (f : Addr) : SM := fun rZ S => match rZ with
  | .ar .c (.cst (.ref g)) :: rest => if g = f ∧ noOwnB (.ar .c (.cst (.ref g)) :: rest) = true then (x S).sb rZ fun _ S1 => .nx rZ S1 else .no
  | _ => .no
def gvB (i j : Nat) (l : List (Nat × Bool)) (mr : SM) (act : SM) : SM := sSeq (sSet j (eC .non)) (sSeq (sTry l i j act) (sFgt mr))
def refEnd : SR → Rs (D × Fl)
  | .rt d f S => .ok (d, outf f) S
  | _ => .no
/-- x(lambda: e): n more slots, the exception's place j -/
def eRef (n j : Nat) (l : List (Nat × Bool)) (mr : SM) (m : EM) : EM := fun r S => match m r S with
  | .ok _ S1 => refEnd (mr (.no :: (List.replicate n Slot.no).set j (.ar .c .non)) S1)
  | .er c p S1 => match l.lookup c with
    | some true => refEnd (mr (.no :: (List.replicate n Slot.no).set j (.ar .c (.ins S1.length))) (S1 ++ [(c, p)]))
    | _ => .no
  | .no => .no
def gvRun (n j : Nat) (l : List (Nat × Bool)) (mr : SM) (x : Rs (D × Fl)) (r0 : Env) : SR := match x with
  | .ok _ S1 => mr (.no :: (List.replicate n Slot.no).set j (.ar .c .non)) S1
  | .er c p S1 => match l.lookup c with
    | some true => mr (.no :: (List.replicate n Slot.no).set j (.ar .c (.ins S1.length))) (S1 ++ [(c, p)])
    | some false => .er c p r0 S1
    | none => .no
  | .no => .no
theorem gv_run {n i j : Nat} {l : List (Nat × Bool)} {mr : SM} {x : Store → Rs (D × Fl)} {f : Addr} {S : Store} (h1 : noOwnB ((List.replicate n Slot.no).set j (.ar .c .non)) = true) (h2 : ((List.replicate n Slot.no).set j (.ar .c .non))[i]? = some .no) :
    ∃ r0, gvB (i + 1) (j + 1) l mr (sGot x f) (startE [(.c, .cst (.ref f))] (n + 1)) S = gvRun n j l mr (x S) r0 := by
  refine ⟨.ar .c (.cst (.ref f)) :: (List.replicate n Slot.no).set j (.ar .c .non), ?_⟩
  have e0 : startE [(.c, .cst (.ref f))] (n + 1) = .ar .c (.cst (.ref f)) :: List.replicate n Slot.no := rfl
  have h3 : noOwnB (.ar .c (.cst (.ref f)) :: (List.replicate n Slot.no).set j (.ar .c .non)) = true := h1
  rw [e0]
  show SR.bind (sTry l (i + 1) (j + 1) (sGot x f) (.ar .c (.cst (.ref f)) :: (List.replicate n Slot.no).set j (.ar .c .non)) S) (sFgt mr) = _
  have eg : sGot x f (.ar .c (.cst (.ref f)) :: (List.replicate n Slot.no).set j (.ar .c .non)) S = (x S).sb (.ar .c (.cst (.ref f)) :: (List.replicate n Slot.no).set j (.ar .c .non)) fun _ S1 => .nx (.ar .c (.cst (.ref f)) :: (List.replicate n Slot.no).set j (.ar .c .non)) S1 := by
    unfold sGot
    exact if_pos ⟨rfl, h3⟩
  unfold sTry
  rw [eg]
  cases x S with
  | ok y S1 => rfl
  | no => rfl
  | er c p S1 =>
    show SR.bind (match l.lookup c with
      | some true => match ((List.replicate n Slot.no).set j (.ar .c .non))[i]? with
        | some .no => .nx (.ar .c (.cst (.ref f)) :: ((List.replicate n Slot.no).set j (.ar .c .non)).set j (.ar .c (.ins S1.length))) (S1 ++ [(c, p)])
        | _ => .no
      | some false => .er c p (.ar .c (.cst (.ref f)) :: (List.replicate n Slot.no).set j (.ar .c .non)) S1
      | none => .no) (sFgt mr) = gvRun n j l mr (.er c p S1) _
    unfold gvRun
    rw [h2]
    dsimp only
    cases l.lookup c with
    | none => rfl
    | some b =>
      cases b with
      | false => rfl
      | true =>
        dsimp only
        rw [List.set_set]
        rfl
structure GvG (P : Program) (w : World) (K : PySem.W.Frag) (mg : Str → Option Value) (base : Heap) (ct : CT) (k : Nat) (x : Str) (n i j : Nat) (l : List (Nat × Bool)) (mr : SM) : Prop where
  ex : ∃ (g : Addr) (fd : FuncData) (N : List Str) (a : Str) (st : Stmt), Fun K x x st g fd ∧ mg x = some (.ref g) ∧ Binds K fd [a] [] ∧ FnScope N [a] (defScope st) ∧ N.length = n + 1 ∧ N[0]? = some a ∧ Vis (defScope st) a ∧ (a == ("__debug__" : Str)) = false ∧ (a == ("__classdict__" : Str)) = false ∧
    ∀ (cdv : Value) (A : Around) (outer : List PySem.Env) (s : Shared) (H : Hp) (E : XK) (G : Gx) (act : SM), Room k (A.deeper (envOfC x (defScope st) s.heap.objs.size g cdv)) →
      (∀ (pn : List (Addr × Obj)) (xe : Value → Shared → Prop) (p1 p2 p3 : Pos), MSG ((cxOf (L2.CX P w) P w K mg base N x (defScope st) g cdv A outer s H E).tr pn xe) ct G (.Expr (.Call (.Name a p1) [] [] p2) p3) act) →
      MSGs (cxOf (L2.CX P w) P w K mg base N x (defScope st) g cdv A outer s H E) ct G (defBody st) (gvB (i + 1) (j + 1) l mr act)
  h1 : noOwnB ((List.replicate n Slot.no).set j (.ar .c .non)) = true
  h2 : ((List.replicate n Slot.no).set j (.ar .c .non))[i]? = some .no
theorem no_own {r : Env} {i : Nat} {d : D} (h : noOwnB r = true) (e : r[i]? = some (.own d)) : False := by
  have h := List.all_eq_true.mp h _ (List.mem_of_getElem? e)
  cases h
section
variable {X : Cx} {ct : CT} {pos : Pos}
theorem me_lam {x : Str} {c P : Addr} {k n i j : Nat} {l : List (Nat × Bool)} {mr : SM} {m : EM} {params : Arguments} {body : Expr} {scope : Scope} {p lpos : Pos} (F : GvG X.prog X.w X.K X.mg X.base ct (k + 1) x n i j l mr) (TB : TabB X.base X.mg c P) (hcode : X.env.code = .ref c)
    (hmT : (P, X.env.qual ++ "<lambda>") ∈ ct.tb) (hu : ∀ p ∈ ct.tb, p.1 = P → p.2 = X.env.qual ++ "<lambda>") (hr : Room (k + 2) X.A) (hg : Gl X x) (L : LamS X.env.scope scope) (hdef : defaultsOf params X.env = ([], []))
    (hbind : ∀ (q : Str) (cl : List (Str × Addr)) (pm cv ctv : Value), bindArgs (PySem.W.kla_fn "<lambda>" q params body scope cl pm cv ctv) ⟨[], []⟩ = pure [])
    (hbody : ∀ (A : Around) (outer : List PySem.Env) (s : Shared) (H : Hp) (E : XK) (f c' : Addr), Room k (A.deeper (lamEnv X scope s.heap.objs.size f c')) → ME (lamCx X A outer s H E scope f c') ct body m)
    (hdb : (x == ("__debug__" : Str)) = false := by decide) : ME X ct (.Call (.Name x p) [.Lambda params body scope lpos] [] pos) (eRef n j l mr m) := by
  obtain ⟨g, fd, N, a, st, FF, hm, hb, Sc, hNl, hN0, hva, hd1, hd2, hG⟩ := F.ex
  obtain ⟨oc, od, kV, doc, pm, an, cdv, ctv, osl, efd, lk, hcd⟩ := FF.ex
  refine ⟨fun G W tk => ⟨fun pins s σ H Q I ⟨r, S, io, k0, h⟩ => ?_⟩⟩
  refine wpAny_Call_Name_kw (ld_glob I hg hm ?_ hdb)
  refine PySem.W.callWith_K (h₀ := X.base) I.ok.mod.kin FF.kp ?_ (by rfl) (by rfl)
  show wpAny _ _ (spliced ((false, eval (.Lambda params body scope lpos) X.env) :: backTo pos (starEach [] X.env))) _ _ s
  refine Calls.spliced_cons (lam_make3 I TB hcode hmT hu k0.sto.tb hdef (L.has I.ok) fun f c' pm' ctv' H1 s' I1 eN dm T1 hf hfn hfr hco => ?_)
  refine Calls.spliced_nil ⟨I1.kIn, ?_⟩
  have st1 : Stp io H io H1 := ⟨fun a o e n => eN a o e n.2, fun a o e _ n => eN a o e n, io_refl, fun a z n => absurd z n, dm⟩
  have q1 : StoOk X.K ct (Mall G r σ) io S H1 := ⟨k0.sto.len, fun n C fs e x => by
    obtain ⟨a, dx, gs, y1, y2, y3, y4⟩ := k0.sto.at_ n C fs e x
    exact ⟨a, dx, gs, y1, eN _ _ y2 (fun _ z => by cases z), y3, y4.stp st1⟩, fun n C fs e x => by
    obtain ⟨a, d, y1, y2, y3⟩ := k0.sto.ax n C fs e x
    exact ⟨a, d, y1, st1.k1 _ _ y2 NI.ext, y3.mono (M := fun _ => False) st1.kp io_refl⟩, k0.sto.nd, T1⟩
  have k1 : Ok X.K ct G r S io σ H1 := k0.step st1 q1
  have rc : codeAny (model X.prog X.w) X.A (.call (.ref g) ⟨[.ref f], []⟩) (CR (L2.CX X.prog X.w) X.stack X.prog X.w H1 s' Q (fun _ _ _ => False)) s' := by
    subst efd
    refine run_ofS (N := N) (ps := [a]) (us := [.ref f]) (vs := [.ref f]) lk hcd Sc hr I1.env0 (hb s' [.ref f] I1.kIn rfl) (.cons rfl .nil) rfl fun hr' => ?_
    have hact : ∀ (pn : List (Addr × Obj)) (xe : Value → Shared → Prop) (p1 p2 p3 : Pos), MSG ((gotCx X N x (defScope st) g cdv s' H1).tr pn xe) ct ⟨Mall G r σ, H1, io, [], fun _ => False⟩ (.Expr (.Call (.Name a p1) [] [] p2) p3) (sGot (m r) f) := fun pn xe p1 p2 p3 => ⟨fun WZ tkZ _ => by
      refine (ps_expr (pe_got (tb := fun E => tE X.K ct G (fun cls d _ H => E cls d H) m) I1 L hf hfn hfr (hbind _ _ _ _ _) tkZ hr' (fun A outer s H E hr2 => (hbody A outer s H E f c' hr2).run G _ ?_) hN0 hva hd1 hd2) (by rfl)).imp fun D σZ HZ hZ => ?_
      · exact takes_of rfl rfl rfl rfl
      · obtain ⟨rZ, SZ, ioZ, kZ, hZ⟩ := hZ
        unfold sGot at hZ
        split at hZ
        · rename_i gg rest
          split at hZ
          · rename_i hc
            obtain ⟨rfl, no⟩ := hc
            obtain ⟨v, y1, y2⟩ := kZ.arg 0 .c (.cst (.ref gg)) rfl
            cases y2
            have noM : ∀ a, Mall ⟨Mall G r σ, H1, io, [], fun _ => False⟩ (.ar .c (.cst (.ref gg)) :: rest) σZ a → Mall G r σ a := fun a z => by
              rcases z with z | z | ⟨i, d, z, _⟩
              · exact z
              · exact z.elim
              · exact (no_own no z).elim
            refine ⟨y1, kZ.stp.k1 c' _ hco NI.ext, r, SZ, ioZ, k1.step kZ.stp (kZ.sto.anti fun a z => .inl z), ?_⟩
            cases e : m r SZ with
            | ok y S' =>
              rw [e] at hZ
              exact fun io' H' t q v _ => hZ σZ io' H' (kZ.step t (q.anti noM))
            | er c p S' =>
              rw [e] at hZ
              exact fun dx io' H' t q eo => hZ dx σZ io' H' (kZ.step t (q.anti noM)) eo
            | no =>
              rw [e] at hZ
              exact hZ
          · exact hZ.elim
        · exact hZ.elim⟩
    refine ⟨_, (hG cdv X.A X.stack s' H1 (fun _ _ _ => False) ⟨Mall G r σ, H1, io, [], fun _ => False⟩ (sGot (m r) f) hr' hact).run (fun cls d _ H => False) (takes_of rfl rfl rfl rfl) (passes_of rfl),
      startE [(.c, .cst (.ref f))] N.length, S, io, ok_start rfl (by rw [hNl]; exact Nat.succ_le_succ (Nat.zero_le _)) (.cons Rep.cst .nil) q1 k1.mdom, ?_⟩
    obtain ⟨r0, er⟩ := gv_run (n := n) (i := i) (j := j) (l := l) (mr := mr) (x := m r) (f := f) (S := S) F.h1 F.h2
    rw [hNl, er]
    have fin : ∀ (rr : Env) (S1 : Store) (io1 : List Addr), Res X.K ct W (Mall G r σ) σ io H (refEnd (mr rr S1)) (fun x S' io' H' => ∀ v, ResOk X.K ct (Mall G r σ) (Mown G r σ) H io' S' H' x.2 x.1 v → Q v H') →
        SRes X.K ct ⟨Mall G r σ, H1, io, [], fun _ => False⟩ (fun cls d _ H => False) { nx := fun _ H' => Q .non H', rt := Q } (mr rr S1) := fun rr S1 io1 hh => by
      cases e : mr rr S1 with
      | rt d fl S' =>
        rw [e] at hh
        exact fun v io' H' t z => hh io' H' (st1.trans t) z.sto v (z.outf.back fun a y => st1.free y)
      | nx r' S' => rw [e] at hh; exact hh.elim
      | bk r' S' => rw [e] at hh; exact hh.elim
      | ct r' S' => rw [e] at hh; exact hh.elim
      | er c p r' S' => rw [e] at hh; exact hh.elim
      | no => rw [e] at hh; exact hh.elim
    unfold eRef at h
    cases e : m r S with
    | ok y S1 =>
      rw [e] at h
      exact fin _ S1 io h
    | er c p S1 =>
      rw [e] at h
      unfold gvRun
      dsimp only at h ⊢
      cases e2 : l.lookup c with
      | none =>
        rw [e2] at h
        exact h.elim
      | some b =>
        rw [e2] at h
        cases b with
        | true => exact fin _ _ io h
        | false => exact h.elim
    | no =>
      rw [e] at h
      exact h.elim
  refine wpAny_call (codeAny_mono rc fun z s2 hq => ?_)
  cases z with
  | ok fl =>
    cases fl with
    | ret u => exact I1.after hq
    | next => exact hq.elim
    | brk => exact hq.elim
    | cont => exact hq.elim
  | error e =>
    obtain ⟨_, _, _, _, _, _, _, _, _, _, _, _, z⟩ := hq
    exact z.elim
end
end Mv

set_option maxRecDepth 100000
set_option maxHeartbeats 2000000
namespace Mv
open PySem PySem.Spec PyProof.Rows L2 LamX
/-! ### defs that make lambdas: the code object's address is told -/
section
variable {P : Program} {w : World} {K : PySem.W.Frag} {mg : Str → Option Value} {base : Heap} {ct : CT}
def FunOC (K : PySem.W.Frag) (mg : Str → Option Value) (x : Str) (st : Stmt) (ps : List Str) (c : Addr) : Prop :=
  ∃ (f : Addr) (oc : Value) (od an : Option Addr) (osl : Array (Option Value)) (kV doc pm ctv : Value),
    K.lookup f = some ⟨oc, od, .func (PySem.W.fnOf x x (defArgs st) (defBody st) (defScope st) .none kV doc pm an (.ref c) ctv), osl⟩ ∧ PySem.W.codeIn K (.ref c) x = true ∧ PySem.W.keepIn K (.ref f) = true ∧ mg x = some (.ref f) ∧
      ∀ us : List Value, us.length = ps.length → bindArgs (PySem.W.fnOf x x (defArgs st) (defBody st) (defScope st) .none kV doc pm an (.ref c) ctv) ⟨us, []⟩ = pure (ps.zip us)
theorem FunOC.mk' {x : Str} {st : Stmt} {ps : List Str} {f c : Addr} {oc : Value} {od an : Option Addr} {osl : Array (Option Value)} {kV doc pm ctv : Value} {h : Heap} (X : K.In h) (G : h.Ns mainGlobals mg) (a : PySem.W.nsIn K mainGlobals x = some (some (.ref f)))
    (l : K.lookup f = some ⟨oc, od, .func (PySem.W.fnOf x x (defArgs st) (defBody st) (defScope st) .none kV doc pm an (.ref c) ctv), osl⟩) (cc : PySem.W.codeIn K (.ref c) x = true) (k : PySem.W.keepIn K (.ref f) = true)
    (hb : ∀ (kV doc pm : Value) (an : Option Addr) (cdv ct : Value) (us : List Value), us.length = ps.length → bindArgs (PySem.W.fnOf x x (defArgs st) (defBody st) (defScope st) .none kV doc pm an cdv ct) ⟨us, []⟩ = pure (ps.zip us)) : FunOC K mg x st ps c :=
  ⟨f, oc, od, an, osl, kV, doc, pm, ctv, l, cc, k, PySem.W.mg_of X G a, hb kV doc pm an (.ref c) ctv⟩
theorem fn_okC {x qual : Str} {st : Stmt} {f c : Addr} {oc : Value} {od an : Option Addr} {osl : Array (Option Value)} {kV doc pm ctv : Value} {N ps : List Str} {k : Nat} {b : SM}
    (lk : K.lookup f = some ⟨oc, od, .func (PySem.W.fnOf x qual (defArgs st) (defBody st) (defScope st) .none kV doc pm an (.ref c) ctv), osl⟩) (hcd : PySem.W.codeIn K (.ref c) qual = true) (Sc : FnScope N ps (defScope st))
    (hbody : ∀ (A : Around) (outer : List PySem.Env) (s : Shared) (H : Hp) (E : XK), Room k (A.deeper (envOfC qual (defScope st) s.heap.objs.size f (.ref c))) →
      MSs (cxOf (L2.CX P w) P w K mg base N qual (defScope st) f (.ref c) A outer s H E) ct (defBody st) b) :
    FnOk P w K mg base (L2.CX P w) (k + 1) f (PySem.W.fnOf x qual (defArgs st) (defBody st) (defScope st) .none kV doc pm an (.ref c) ctv) ps (spM K ct ps.length (fnM N.length b)) := by
  refine fn_of lk hcd Sc (fun vs H Q E h => h.1) fun A outer s H vs Q E hr h => ?_
  obtain ⟨hl, as, S, io, M0, o, q, m, h⟩ := h
  have hpl : ps.length ≤ N.length := by
    have z := congrArg List.length Sc.pre
    rw [List.length_take] at z
    omega
  refine ⟨_, (hbody A outer s H E hr).run ⟨M0, H, io, [], fun _ => False⟩ (fun cls d _ H => E cls d H) (takes_of rfl rfl rfl rfl) (passes_of rfl), startE as N.length, S, io, ok_start rfl (by omega) o q m, ?_⟩
  unfold fnM at h
  cases e : b (startE as N.length) S with
  | rt d f S' => rw [e] at h; exact h
  | nx r' S' =>
    rw [e] at h
    exact fun s' io' H' k' => h .non io' H' k'.stp (ResOk.sc (f := .c) (by simp) .non (k'.sto.anti fun a z => .inl z))
  | er c p r' S' =>
    rw [e] at h
    exact fun dx s' io' H' k' eo => h dx io' H' k'.stp (k'.sto.anti fun a z => .inl z) eo
  | bk r' S' => rw [e] at h; exact h.elim
  | ct r' S' => rw [e] at h; exact h.elim
  | no => rw [e] at h; exact h.elim
theorem fn_gC {x : Str} {st : Stmt} {N ps : List Str} {c : Addr} {k n np : Nat} {b : SM} (F : FunOC K mg x st ps c) (Sc : FnScope N ps (defScope st))
    (hN : N.length = n) (hp : ps.length = np) (hbody : ∀ (f : Addr) (A : Around) (outer : List PySem.Env) (s : Shared) (H : Hp) (E : XK), Room k (A.deeper (envOfC x (defScope st) s.heap.objs.size f (.ref c))) →
      MSs (cxOf (L2.CX P w) P w K mg base N x (defScope st) f (.ref c) A outer s H E) ct (defBody st) b) : FnG P w K mg base ct (k + 1) x np (fnM n b) := by
  subst hN hp
  obtain ⟨f, oc, od, an, osl, kV, doc, pm, ctv, lk, cc, kp, hm, hb⟩ := F
  exact ⟨f, _, ps, fn_okC lk cc Sc (hbody f), hm, kp, .all hb⟩
/-- a def that calls what it gets, by its walk -/
theorem gv_g {x : Str} {st : Stmt} {N : List Str} {a : Str} {k n i j : Nat} {l : List (Nat × Bool)} {mr : SM} (F : FunO K mg x st [a]) (Sc : FnScope N [a] (defScope st)) (hN : N.length = n + 1) (h0 : N[0]? = some a) (hv : Vis (defScope st) a)
    (h1 : noOwnB ((List.replicate n Slot.no).set j (.ar .c .non)) = true) (h2 : ((List.replicate n Slot.no).set j (.ar .c .non))[i]? = some .no)
    (hbody : ∀ (g : Addr) (cdv : Value) (A : Around) (outer : List PySem.Env) (s : Shared) (H : Hp) (E : XK) (G : Gx) (act : SM), Room k (A.deeper (envOfC x (defScope st) s.heap.objs.size g cdv)) →
      (∀ (pn : List (Addr × Obj)) (xe : Value → Shared → Prop) (p1 p2 p3 : Pos), MSG ((cxOf (L2.CX P w) P w K mg base N x (defScope st) g cdv A outer s H E).tr pn xe) ct G (.Expr (.Call (.Name a p1) [] [] p2) p3) act) →
      MSGs (cxOf (L2.CX P w) P w K mg base N x (defScope st) g cdv A outer s H E) ct G (defBody st) (gvB (i + 1) (j + 1) l mr act))
    (hd1 : (a == ("__debug__" : Str)) = false := by decide) (hd2 : (a == ("__classdict__" : Str)) = false := by decide) : GvG P w K mg base ct k x n i j l mr := by
  obtain ⟨f, fd, F, hm, hb⟩ := F
  exact ⟨⟨f, fd, N, a, st, F, hm, .all hb, Sc, hN, h0, hv, hd1, hd2, hbody f⟩, h1, h2⟩
def spLawT (K : PySem.W.Frag) (ps : List Addr) : Sp := fun vs H Q _ => ∃ (a : Addr) (ns : List Int), vs = [.ref a] ∧ SqL K H a (ns.map V.int) ∧ ns.length ≤ 63 ∧ (∀ p ∈ ps, H p = some (.tbl #[])) ∧ ∀ H', Q (.bl true) H'
theorem law_endT {m : SM} {st : Stmt} {N : List Str} {k n : Nat} {fa c : Addr} {cs : List (Addr × Addr)} {xs : List Str} (F : FunOC K mg "law" st ["script"] c) (hfa : mg "law" = some (.ref fa)) (Sc : FnScope N ["script"] (defScope st)) (hN : N.length = n)
    (ht : ∀ p ∈ ct.tb, p.1 ∈ cs.map (·.2)) (hx : ∀ p ∈ cs, ∃ x ∈ xs, PySem.W.tabIn K x = some p) (hK : ∀ p ∈ cs, K.lookup p.2 = none)
    (hbody : ∀ (base : Heap), (∀ p ∈ cs, TabB base mg p.1 p.2) → ∀ (f : Addr) (A : Around) (outer : List PySem.Env) (s : Shared) (H : Hp) (E : XK), Room k (A.deeper (envOfC "law" (defScope st) s.heap.objs.size f (.ref c))) →
      MSs (cxOf (L2.CX P w) P w K mg base N "law" (defScope st) f (.ref c) A outer s H E) ct (defBody st) m)
    (math : ∀ ns : List Int, ns.length ≤ 63 → ∃ S f, fnM n m [(.c, .frz (ns.map D.int))] [] = .ok (.bl true, f) S) :
    ∃ (fd : FuncData) (cs : List (Addr × Addr)), (∀ p ∈ cs, ∃ x ∈ xs, PySem.W.tabIn K x = some p) ∧ (∀ p ∈ cs, K.lookup p.2 = none) ∧ (∀ (s : Shared) (u : Value), BindsTo s fd ⟨[u], []⟩ [("script", u)]) ∧
      ∀ base : Heap, K.In base → base.Ns mainGlobals mg → (∀ p ∈ cs, TabB base mg p.1 p.2) → FnOk P w K mg base (L2.CX P w) (k + 1) fa fd ["script"] (spLawT K (cs.map (·.2))) := by
  subst hN
  obtain ⟨f, oc, od, an, osl, kV, doc, pm, ctv, lk, cc, kp, hm, hb⟩ := F
  rw [hfa] at hm
  cases hm
  refine ⟨_, cs, hx, hK, fun s u => .of_eq (hb [u] rfl), fun base _ _ TB => (fn_okC (ct := ct) lk cc Sc (hbody base TB fa)).imp fun vs H Q E h => ?_⟩
  obtain ⟨a, ns, rfl, hS, hl, hP, q⟩ := h
  obtain ⟨S, f, e⟩ := math ns hl
  obtain ⟨h1, as, S0, io, M0, h2, h3, h4, h5⟩ := law_sp (ct := ct) hS (fun p hp => TabS.nil (hP _ (ht p hp))) ⟨S, f, e⟩
  refine ⟨h1, as, S0, io, M0, h2, h3, h4, ?_⟩
  cases e2 : fnM N.length m as S0 with
  | ok x S' =>
    rw [e2] at h5
    intro v io' H' t o
    have ev : v = .bl true := h5 v io' H' t o
    rw [ev]
    exact q H'
  | er c p S' =>
    rw [e2] at h5
    exact fun dx io' H' t1 t2 t3 => (h5 dx io' H' t1 t2 t3).elim
  | no =>
    rw [e2] at h5
    exact h5.elim
open PyProof in
theorem law_walkT {l : PySem.W.OpenLaw} {k : Nat} {q : Program} {loose : List Str} {XP : (Str → Option Value) → Heap → Prop} {YP : World → Heap → Prop} {d : DefRec} {K : Params → PySem.W.Frag} (xs : List Str) (hn : l.most = some 63) (hdf : d.params.defaults = []) (hr : Room k callerA)
    (hY : ∀ (w : World) (h : Heap), YP w h → (K w.params).In h) (hq : (xs.all fun x => ((recsOf q).find? (fun e => e.name == x)).isSome) = true)
    (F : ∀ (w : World) (mg : Str → Option Value) (fa : Addr) (h : Heap), (K w.params).In h → h.Ns mainGlobals mg → mg d.name = some (.ref fa) →
      ∃ (fd : FuncData) (cs : List (Addr × Addr)), (∀ p ∈ cs, ∃ x ∈ xs, PySem.W.tabIn (K w.params) x = some p) ∧ (∀ p ∈ cs, (K w.params).lookup p.2 = none) ∧ (∀ (s : Shared) (u : Value), BindsTo s fd ⟨[u], []⟩ [("script", u)]) ∧
        ∀ base : Heap, (K w.params).In base → base.Ns mainGlobals mg → (∀ p ∈ cs, TabB base mg p.1 p.2) → FnOk l.prog w (K w.params) mg base (L2.CX l.prog w) k fa fd ["script"] (spLawT (K w.params) (cs.map (·.2)))) :
    PySem.W.WalkO q loose XP YP l.row.toRowW d [] (fun f vs => PySem.call f vs) := by
  refine Att.attach_callB hn hdf fun w s₀ s₁ mg mb fa o pm cd doc a vs ns G Y ho hd hcd hmg hobj hints hlen hbits hg => ?_
  have KX := hY w _ Y
  obtain ⟨fd, cs, hx, hK, hb, hF⟩ := F w mg fa _ KX G.T.g hmg
  have tabs : ∀ p ∈ cs, PySem.W.CodeHd s₁.heap p.1 p.2 ∧ s₁.heap.get? p.2 = some (PySem.W.tabObj #[]) := fun p hp => by
    obtain ⟨x, hx1, hx2⟩ := hx p hp
    obtain ⟨dd, hdd⟩ := Option.isSome_iff_exists.mp (List.all_eq_true.mp hq x hx1)
    exact PySem.W.tab_of G.T KX hdd hx2
  exact law_callTs KX G.T.g G.T.b G.T.builtins G.T.nolimit hg (fun p hp => (tabs p hp).2) hK (fun p hp => (tabs p hp).1) G.T.bmain hobj hints (Nat.le_trans hlen (by decide)) hr hF hb
    (fun H hH hS => ⟨a, ns, rfl, hS, hlen, fun p hp => by
      obtain ⟨p', h1, rfl⟩ := List.mem_map.mp hp
      exact hH p' h1, fun _ => rfl⟩) fun H e s' h => by
    obtain ⟨_, _, _, _, _, _, _, _, _, _, _, _, z⟩ := h
    exact z
end
end Mv
namespace Mv
open PySem
/-- each table bears one name -/
def TabU (l : List (Addr × Str)) : Prop := ∀ p ∈ l, ∀ p' ∈ l, p.1 = p'.1 → p.2 = p'.2
theorem TabU.one (p : Addr × Str) : TabU [p] := fun a ha b hb _ => by
  rw [List.mem_singleton.mp ha, List.mem_singleton.mp hb]
end Mv
namespace Mv
open PySem
theorem tab_mk {K : PySem.W.Frag} {x : Str} {f c P : Addr} {o1 o3 : Value} {o2 o4 : Option Addr} {fd : FuncData} {s1 s2 : Array (Option Value)} {vs : Array Value} (a : PySem.W.nsIn K mainGlobals x = some (some (.ref f))) (l : K.lookup f = some ⟨o1, o2, .func fd, s1⟩) (hc : fd.code = .ref c)
    (lc : K.lookup c = some ⟨o3, o4, .fields vs, s2⟩) (hv : vs[11]? = some (.ref P)) : PySem.W.tabIn K x = some (c, P) := by
  unfold PySem.W.tabIn
  rw [a]
  dsimp only
  rw [l]
  dsimp only
  rw [hc]
  dsimp only
  rw [lc]
  dsimp only
  rw [hv]
end Mv

set_option maxRecDepth 100000
set_option maxHeartbeats 2000000
namespace L2
open PySem PySem.Spec PyProof.Rows
/-- a list's count of a flat value -/
def rCntF (K : PySem.W.Frag) : V → List V → Hp → VK → Prop := fun x xs H Q => ∃ (p : Addr) (ys : List V) (y : V), x = .ref p ∧ xs = [y] ∧ SqL K H p ys ∧ flatV y = true ∧ ys.all flatV = true ∧ Q (.int (ys.countP fun z => eqV z y : Nat)) H
theorem countP_eqU {x : V} : ∀ {xs : List V} {us : List Value}, Vals xs us → xs.all flatV = true → us.countP (eqU x) = xs.countP fun y => eqV y x
  | _, _, .nil, _ => rfl
  | y :: xs, u :: us, .cons r t, f => by
    rw [List.all_cons, Bool.and_eq_true] at f
    rw [List.countP_cons, List.countP_cons, eqU_of r f.1, countP_eqU t f.2]
theorem mt_cntF {X : Cx} : MtR X "list.count" (rCntF X.K) := by
  intro pins s σ H x xs v us Q I rx rxs h
  obtain ⟨p, ys, y, rfl, rfl, hs, fy, fys, q⟩ := h
  cases rx
  obtain ⟨u, rfl, ru⟩ := rxs.one
  obtain ⟨its, rv, ⟨⟨cls, dd, data, sl⟩, n, ho, hc, hdn, hd⟩, hlen⟩ := I.list hs
  dsimp only at hc hd
  subst hc hd
  refine call_meets PySem.F.slot_list_count ⟨_, ho, rfl⟩ PySem.F.entry_list_count (PySem.F.args_list_count_2 _ _) (SeqAt.list_countAt p its.toArray n dd sl u (eqU y))
    ⟨ho, fun u' hu' => mem_eqAt ru fy rv fys u' (by simpa using hu'), .int (ys.countP fun z => eqV z y : Nat), H, I.tok _, ⟨s.toks, ?_⟩, q⟩
  rw [show its.toArray.toList = its from rfl, countP_eqU rv fys]
end L2
namespace Mv
open PySem PySem.Spec PyProof.Rows L2
/-! ### a list's method by values -/
def BmOk (K : PySem.W.Frag) (ct : CT) (rd : V → List V → Hp → VK → Prop) (g : List D → List (Fl × D) → Option (D × Fl)) : Prop :=
  ∀ (M N : Addr → Prop) (io : List Addr) (S : Store) (H : Hp) (a : Addr) (vs ws : List V) (xs : List D) (as : List (Fl × D)) (res : D × Fl) (Q : VK), H a = some (.lst vs) → Reps K (fun _ => False) io H xs vs → ArgsOk K M N io H as ws → StoOk K ct M io S H → g xs as = some res →
    (∀ v H', Stp io H io H' → ResOk K ct M N H io S H' res.2 res.1 v → Q v H') → rd (.ref a) ws H Q
def eBm (g : List D → List (Fl × D) → Option (D × Fl)) (mo : EM) (t : AM) : EM := fun r S => (mo r S).bind fun x S1 => match x.1 with
  | .lst xs => (t r S1).bind fun as S2 => lift0 (g xs as) S2
  | _ => .no
section
variable {X : Cx} {ct : CT} {pos apos : Pos}
theorem me_bm {o e : Expr} {es : List Expr} {name : Str} {id : String} {rd : V → List V → Hp → VK → Prop} {g : List D → List (Fl × D) → Option (D × Fl)} {mo : EM} {t : AM} (slot : PySem.Slot "list" name id) (hty : typeOf (.builtin id) = pure (.type "method_descriptor")) (hm : MtR X id rd) (hg : BmOk X.K ct rd g)
    (ho : ME X ct o mo) (ha : MA X ct (e :: es) t)
    (hbase : attributeBase o name X.env (eval o X.env) = eval o X.env := by rfl)
    (hfew : ((backTo pos (starEach (e :: es) X.env)).all (fun x => !x.1) && (backToKw pos (keywordEach [] X.env)).all (fun x => x.1.isSome)
      && decide ((e :: es).length + ([] : List Keyword).length + (if ([] : List Keyword).isEmpty then 0 else 1) < 30)) = true := by rfl)
    (hline : (apos.endLine == pos.line) = true := by rfl) (hs : starEach (e :: es) X.env = (false, eval e X.env) :: starEach es X.env := by rfl) (hplain : (backTo pos (starEach es X.env)).any (·.1) = false := by rfl) :
    ME X ct (.Call (.Attribute o name apos) (e :: es) [] pos) (eBm g mo t) :=
  ⟨fun G W tk => (pe_bm PySem.F.plainAttrs_list slot hty hm (ho.run G W tk) (ha.run G W tk) hbase hfew hline hs hplain).imp fun s H Q ⟨r, S, io, k, h⟩ => by
    refine ⟨r, S, io, k, Res.first h fun x S1 io1 H1 e1 t1 q1 h1 v o => ?_⟩
    split at h1
    · rename_i xs ex
      have o1 := o.repF
      rw [ex] at o1
      obtain ⟨a, vs, rfl, ea, ra⟩ := lst_of o1
      have k1 := k.step t1 q1
      refine ⟨.inl ⟨rfl, vs, .inl (.inl ea)⟩, r, S1, io1, k1, Res.first h1 fun as S2 io2 H2 e2 t2 q2 h2 ws o2 => ?_⟩
      unfold lift0 at h2
      split at h2
      · rename_i res e
        exact hg _ _ io2 S2 H2 a vs ws xs as res Q (t2.k1 a _ ea NI.lst) (ra.stp t2) o2 q2 e fun v H' t' o' => h2.go t' o'.sto v (o'.back fun a z => t1.free (t2.free z))
      · exact h2.elim
    · exact h1.elim⟩
end
def gCntB (xs : List D) (as : List (Fl × D)) : Option (D × Fl) := match as with
  | [(_, .bl b)] => (blsOf xs).map fun bs => (.int (bs.count b : Nat), .c)
  | _ => none
def gIdxB (xs : List D) (as : List (Fl × D)) : Option (D × Fl) := match as with
  | [(_, .bl b)] => (blsOf xs).bind fun bs => (bs.findIdx? (· == b)).map fun j => (.int (j : Nat), .c)
  | _ => none
theorem flat_bls : ∀ bs : List Bool, (bs.map V.bl).all flatV = true
  | [] => rfl
  | _ :: bs => flat_bls bs
theorem eqV_bl (b c : Bool) : eqV (.bl b) (.bl c) = (b == c) := by
  cases b <;> cases c <;> rfl
theorem cnt_bls (b : Bool) : ∀ bs : List Bool, (bs.map V.bl).countP (fun z => eqV z (.bl b)) = bs.count b
  | [] => rfl
  | c :: bs => by
    rw [List.map_cons, List.countP_cons, List.count_cons, cnt_bls b bs, eqV_bl]
theorem args_one {K : PySem.W.Frag} {M N : Addr → Prop} {io : List Addr} {H : Hp} {p : Fl × D} {ws : List V} (o : ArgsOk K M N io H [p] ws) : ∃ v, ws = [v] ∧ RepF K M N io H p.1 p.2 v := by
  cases o with
  | cons h t =>
    cases t
    exact ⟨_, rfl, h⟩
theorem ok_cntB {K : PySem.W.Frag} {ct : CT} : BmOk K ct (rCntF K) gCntB := by
  intro M N io S H a vs ws xs as res Q ea ra o q e h
  unfold gCntB at e
  split at e
  · rename_i f b
    obtain ⟨bs, e1, rfl⟩ := Option.map_eq_some_iff.mp e
    rw [blsOf_eq e1] at ra
    have := ra.bls
    subst this
    obtain ⟨v, rfl, rv⟩ := args_one o
    rw [bl_of rv]
    refine ⟨a, _, .bl b, rfl, rfl, .inl (.inl ea), rfl, flat_bls bs, ?_⟩
    rw [cnt_bls]
    exact h _ H Stp.refl (ResOk.sc (f := .c) (by simp) (.int _) q)
  · cases e
theorem ok_idxB {K : PySem.W.Frag} {ct : CT} : BmOk K ct (rIndex K) gIdxB := by
  intro M N io S H a vs ws xs as res Q ea ra o q e h
  unfold gIdxB at e
  split at e
  · rename_i f b
    obtain ⟨bs, e1, e⟩ := Option.bind_eq_some_iff.mp e
    obtain ⟨j, e2, rfl⟩ := Option.map_eq_some_iff.mp e
    rw [blsOf_eq e1] at ra
    have := ra.bls
    subst this
    obtain ⟨v, rfl, rv⟩ := args_one o
    rw [bl_of rv]
    obtain ⟨hj, hp, hn⟩ := List.findIdx?_eq_some_iff_getElem.mp e2
    refine ⟨a, _, .bl b, j, .bl bs[j], rfl, rfl, .inl (.inl ea), rfl, flat_bls bs, by rw [List.getElem?_map, List.getElem?_eq_getElem hj]; rfl, by rw [eqV_bl]; exact hp, fun m z' hm e => ?_, h _ H Stp.refl (ResOk.sc (f := .c) (by simp) (.int _) q)⟩
    rw [List.getElem?_map, List.getElem?_eq_getElem (Nat.lt_trans hm hj)] at e
    cases e
    rw [eqV_bl]
    exact eq_false_of_ne_true (hn m hm)
  · cases e
end Mv

set_option maxRecDepth 100000
set_option maxHeartbeats 2000000
namespace L2
open PySem PySem.Spec PyProof.Rows
theorem PT.ex {X : Cx} {e : Expr} {ι : Sort _} {t : ι → TT} (h : ∀ i, PT X e (t i)) : PT X e (fun s H Q => ∃ i, t i s H Q) := ⟨fun pins s σ H Q I ⟨i, w⟩ => (h i).run pins s σ H Q I w⟩
end L2
namespace Mv
open PySem PySem.Spec PyProof.Rows L2
/-! ### a list of one's own, lent while a test is asked -/
def Gx.lend (G : Gx) (a : Addr) : Gx := { G with M0 := fun x => G.M0 x ∨ x = a }
section
variable {K : PySem.W.Frag} {ct : CT} {G : Gx} {r : Env} {S : Store} {io : List Addr} {s : St} {H : Hp} {i : Nat} {d : D} {a : Addr}
theorem mown_lend (k : Ok K ct G r S io s H) (e : r[i]? = some (.own d)) (ea : s[i]? = some (some (V.ref a))) {x : Addr} (h : Mown (G.lend a) (r.set i (.ar .b d)) s x) : Mown G r s x ∧ x ≠ a := by
  obtain ⟨a', e1, _, _, n0, _⟩ := k.own i d e
  rw [ea] at e1
  cases e1
  rcases h with h | ⟨j, u, h1, h2⟩
  · exact ⟨.inl h, fun z => n0 (z ▸ h)⟩
  · rcases get_set h1 with ⟨rfl, q, _⟩ | ⟨hj, q⟩
    · cases q
    · exact ⟨.inr ⟨j, u, q, h2⟩, fun z => hj (k.inj j i u d a q e (z ▸ h2) ea).symm⟩
theorem mall_lend (k : Ok K ct G r S io s H) (e : r[i]? = some (.own d)) (ea : s[i]? = some (some (V.ref a))) : Mall (G.lend a) (r.set i (.ar .b d)) s = Mall G r s := by
  funext x
  refine propext ⟨fun h => ?_, fun h => ?_⟩
  · rcases h with (h | h) | h
    · exact .inl h
    · exact .inr (.inr ⟨i, d, e, h ▸ ea⟩)
    · exact .inr (mown_lend k e ea h).1
  · rcases h with h | h | ⟨j, u, h1, h2⟩
    · exact .inl (.inl h)
    · exact .inr (.inl h)
    · by_cases hj : j = i
      · subst hj
        rw [ea] at h2
        cases h2
        exact .inl (.inr rfl)
      · exact .inr (.inr ⟨j, u, by rw [List.getElem?_set_ne (fun z => hj z.symm)]; exact h1, h2⟩)
theorem Ok.lend (k : Ok K ct G r S io s H) (e : r[i]? = some (.own d)) (ea : s[i]? = some (some (V.ref a))) : Ok K ct (G.lend a) (r.set i (.ar .b d)) S io s H := by
  obtain ⟨a', e1, ow, m0, n0, h0⟩ := k.own i d e
  have eM := mall_lend k e ea
  have mo := fun {x} => mown_lend (x := x) k e ea
  rw [ea] at e1
  cases e1
  refine ⟨by rw [List.length_set]; exact k.len, fun j f u q => ?_, fun j u q => ?_, fun j j' u u' b q q' z z' => ?_, by rw [eM]; exact k.sto, k.stp, fun b h => ?_, fun b h => ?_, fun p hp => ?_⟩
  · rcases get_set q with ⟨rfl, q, _⟩ | ⟨hj, q⟩
    · cases q
      exact ⟨.ref a, ea, .inr ⟨a, rfl, by rw [eM]; exact ow, fun z => (mo z).2 rfl⟩⟩
    · obtain ⟨v, h1, h2⟩ := k.arg j f u q
      refine ⟨v, h1, ?_⟩
      rw [eM]
      exact h2.mono Kp.refl Kp.refl (fun _ _ n => n) (fun _ _ n z => n (mo z).1) io_refl
  · rcases get_set q with ⟨rfl, q, _⟩ | ⟨hj, q⟩
    · cases q
    · obtain ⟨b, h1, h2, h3, h4, h5⟩ := k.own j u q
      refine ⟨b, h1, by rw [eM]; exact h2, fun z => z.elim h3 fun z => hj (k.inj j i u d a q e (z ▸ h1) ea).symm, h4, h5⟩
  · rcases get_set q with ⟨rfl, q, _⟩ | ⟨hj, q⟩
    · cases q
    · rcases get_set q' with ⟨rfl, q', _⟩ | ⟨hj', q'⟩
      · cases q'
      · exact k.inj j j' u u' b q q' z z'
  · rcases h with h | rfl
    · exact k.m0 b h
    · exact ow.there
  · obtain ⟨o, h1, h2, h3⟩ := k.n0 b h
    exact ⟨o, h1, fun z => z.elim h2 fun z => n0 (z ▸ h), h3⟩
  · rw [eM]
    exact (k.held p hp).mono Kp.refl Kp.refl (fun _ _ n => n) (fun _ _ n z => n (mo z).1) io_refl
end
section
variable {X : Cx} {ct : CT}
def tLend (i : Nat) (t : TM) : TM := fun r S => match r[i]? with
  | some (.own d) => t (r.set i (.ar .b d)) S
  | _ => t r S
theorem mt_lend {i : Nat} {e : Expr} {t : TM} (h : MT X ct e t) : MT X ct e (tLend i t) := ⟨fun G W tk => by
  have all := PT.ex fun G' : Gx => h.run G' W tk
  exact all.imp fun s H Q ⟨r, S, io, k, w⟩ => by
    unfold tLend at w
    split at w
    · rename_i d e
      obtain ⟨a, ea, _⟩ := k.own i d e
      refine ⟨G.lend a, _, S, io, k.lend e ea, ?_⟩
      rw [mall_lend k e ea]
      exact w
    · exact ⟨G, r, S, io, k, w⟩⟩
end
end Mv
namespace Mv
open PySem
theorem TabU.of : ∀ {l : List (Addr × Str)}, (l.map (·.1)).Nodup → TabU l
  | [], _ => fun _ h => nomatch h
  | x :: l, nd => fun a ha b hb e => by
    have q := List.nodup_cons.mp nd
    rcases List.mem_cons.mp ha with ha | ha
    · rcases List.mem_cons.mp hb with hb | hb
      · rw [ha, hb]
      · rw [ha] at e
        exact absurd (List.mem_map.mpr ⟨b, hb, e.symm⟩) q.1
    · rcases List.mem_cons.mp hb with hb | hb
      · rw [hb] at e
        exact absurd (List.mem_map.mpr ⟨a, ha, e⟩) q.1
      · exact TabU.of q.2 a ha b hb e
end Mv

set_option maxRecDepth 100000
set_option maxHeartbeats 2000000
namespace Mv
open PySem PySem.Spec PyProof.Rows L2
/-! ### list(range(n)) -/
def gLRg (a : D × Fl) : Option (D × Fl) := match a.1 with
  | .int n => if 0 ≤ n ∧ n ≤ 1000000 then some (.lst (rangeD 0 1 n.toNat), .n) else none
  | _ => none
end Mv
namespace Mv
open PySem PySem.Spec PyProof.Rows L2
theorem reps_rg {K : PySem.W.Frag} {M : Addr → Prop} {io : List Addr} {H : Hp} (n : Int) : Reps K M io H (rangeD 0 1 n.toNat) (rgV 0 n) := by
  have h := Reps.ofInts (K := K) (M := M) (io := io) (H := H) ((List.range n.toNat).map fun i => (0 : Int) + (i : Nat) * 1)
  have e1 : ((List.range n.toNat).map fun i => (0 : Int) + (i : Nat) * 1).map D.int = rangeD 0 1 n.toNat := by
    unfold rangeD
    rw [List.map_map]
    rfl
  have e2 : ((List.range n.toNat).map fun i => (0 : Int) + (i : Nat) * 1).map V.int = rgV 0 n := by
    unfold rgV
    rw [List.map_map, Int.sub_zero]
    refine List.map_congr_left fun i _ => ?_
    show V.int ((0 : Int) + (i : Nat) * 1) = V.int (0 + (i : Nat))
    rw [Int.mul_one]
  rw [e1, e2] at h
  exact h
section
variable {X : Cx} {ct : CT} {pos : Pos}
theorem me_lRg {a : Expr} {p p2 pos2 : Pos} {m : EM} (hc : X.calm = true) (hg : Gl X "list") (hm : X.mg "list" = none) (hg2 : Gl X "range") (hm2 : X.mg "range" = none) (ha : ME X ct a m)
    (na : starEach [a] X.env = (false, eval a X.env) :: starEach [] X.env := by rfl)
    (na2 : starEach [Expr.Call (.Name "range" p2) [a] [] pos2] X.env = (false, eval (Expr.Call (.Name "range" p2) [a] [] pos2) X.env) :: starEach [] X.env := by rfl) :
    ME X ct (.Call (.Name "list" p) [.Call (.Name "range" p2) [a] [] pos2] [] pos) (eG1 gLRg m) :=
  ⟨fun G W tk => (pe_listRg hc hg hm (prg_1 hg2 hm2 (ha.run G W tk) na) na2).imp fun s H Q ⟨r, S, io, k, h⟩ => ⟨r, S, io, k, Res.first h fun x S1 io1 H1 e1 t1 q1 h1 v o => by
    have k1 := k.step t1 q1
    unfold lift0 at h1
    split at h1
    · rename_i res e
      unfold gLRg at e
      split at e
      · rename_i n en
        split at e
        · rename_i hn
          cases e
          have o1 := o.repF
          rw [en] at o1
          refine ⟨n, int_of o1, ?_, fun q hq => ?_⟩
          · exact RgOk.of_le (Int.le_refl 0) (by omega) (by omega) hn.1
          · exact h1.go (Stp.upd hq) (q1.upd hq) _ (new_lst hq (t1.free hq) k1.mdom q1 (reps_rg n))
        · cases e
      · cases e
    · exact h1.elim⟩⟩
end
end Mv

set_option maxRecDepth 100000
set_option maxHeartbeats 2000000
/-! Mv19: dicts with keys that are ints or texts; sorted of pairs of ints; unpacking of lists -/
namespace Mv
open PySem PySem.Spec PyProof.Rows L2
def keyD : D → Option Key
  | .int i => some (.inl i)
  | .str z => some (.inr z)
  | _ => none
def getK : List Key → List D → Key → Option D
  | k :: ks, x :: xs, j => if k = j then some x else getK ks xs j
  | _, _, _ => none
def putX : List Key → List D → Key → D → List D
  | k :: ks, x :: xs, j, d => (if k = j then d else x) :: putX ks xs j d
  | _, xs, _, _ => xs
def putKD (ks : List Key) (xs : List D) (k : Key) (d : D) : List Key × List D := if ks.any (fun j => decide (j = k)) = true then (ks, putX ks xs k d) else (ks ++ [k], xs ++ [d])
section
variable {K : PySem.W.Frag} {ct : CT} {M N : Addr → Prop} {io : List Addr} {H : Hp}
theorem key_val {f : Fl} {d : D} {v : V} {k : Key} (e : keyD d = some k) (h : RepF K M N io H f d v) : v = kV k := by
  unfold keyD at e
  split at e
  · cases e
    exact int_of h
  · cases e
    exact str_of h
  · cases e
theorem getK_val : ∀ {kvs : List (Key × V)} {xs : List D} (k : Key), Reps K M io H xs (kvs.map Prod.snd) → match getK (kvs.map Prod.fst) xs k with
    | some d => ∃ v, valV kvs k = some v ∧ Rep K M io H d v
    | none => valV kvs k = none
  | [], xs, k, h => by
    unfold getK
    exact valV_nil
  | (j, w) :: kvs, xs, k, h => by
    cases h with
    | @cons x xs _ _ h1 h2 =>
      show match (if j = k then some x else getK (kvs.map Prod.fst) xs k) with
        | some d => ∃ v, valV ((j, w) :: kvs) k = some v ∧ Rep K M io H d v
        | none => valV ((j, w) :: kvs) k = none
      by_cases e : j = k
      · rw [if_pos e]
        exact ⟨w, valV_pos (p := (j, w)) e, h1⟩
      · rw [if_neg e, valV_neg (p := (j, w)) e]
        exact getK_val k h2
theorem putX_len : ∀ (ks : List Key) (xs : List D) (k : Key) (d : D), (putX ks xs k d).length = xs.length
  | [], _, _, _ => by unfold putX; rfl
  | _ :: _, [], _, _ => by unfold putX; rfl
  | j :: ks, x :: xs, k, d => by
    unfold putX
    rw [List.length_cons, List.length_cons, putX_len ks xs k d]
theorem putX_rep {v : V} {d : D} (hv : Rep K M io H d v) (k : Key) : ∀ {kvs : List (Key × V)} {xs : List D}, Reps K M io H xs (kvs.map Prod.snd) → Reps K M io H (putX (kvs.map Prod.fst) xs k d) ((kvs.map fun kv => if kv.1 = k then (kv.1, v) else kv).map Prod.snd)
  | [], xs, h => by
    cases h
    exact .nil
  | (j, w) :: kvs, xs, h => by
    cases h with
    | @cons x xs _ _ h1 h2 =>
      have ih := putX_rep hv k h2
      show Reps K M io H ((if j = k then d else x) :: putX (kvs.map Prod.fst) xs k d) ((if j = k then (j, v) else (j, w)).2 :: _)
      by_cases e : j = k
      · rw [if_pos e, if_pos e]
        exact .cons hv ih
      · rw [if_neg e, if_neg e]
        exact .cons h1 ih
theorem put_any (kvs : List (Key × V)) (k : Key) : (kvs.any fun kv => decide (kv.1 = k)) = (kvs.map Prod.fst).any fun j => decide (j = k) := by
  rw [List.any_map]
  rfl
theorem put_keys (kvs : List (Key × V)) (k : Key) (v : V) (xs : List D) (d : D) : (putK kvs k v).map Prod.fst = (putKD (kvs.map Prod.fst) xs k d).1 := by
  unfold putK putKD
  rw [put_any]
  by_cases q : ((kvs.map Prod.fst).any fun j => decide (j = k)) = true
  · rw [if_pos q, if_pos q, List.map_map]
    refine List.map_congr_left fun p _ => ?_
    show (if p.1 = k then (p.1, v) else p).1 = p.1
    split <;> rfl
  · rw [if_neg q, if_neg q, List.map_append]
    rfl
theorem put_vals {kvs : List (Key × V)} {k : Key} {v : V} {xs : List D} {d : D} (h : Reps K M io H xs (kvs.map Prod.snd)) (hv : Rep K M io H d v) : Reps K M io H (putKD (kvs.map Prod.fst) xs k d).2 ((putK kvs k v).map Prod.snd) := by
  unfold putK putKD
  rw [put_any]
  by_cases q : ((kvs.map Prod.fst).any fun j => decide (j = k)) = true
  · rw [if_pos q, if_pos q]
    exact putX_rep hv k h
  · rw [if_neg q, if_neg q, List.map_append]
    exact h.app (.cons hv .nil)
theorem dic_of {f : Fl} {ks : List Key} {xs : List D} {v : V} (h : RepF K M N io H f (.dic ks xs) v) : ∃ a kvs, v = .ref a ∧ H a = some (.dK kvs) ∧ kvs.map Prod.fst = ks ∧ (f ≠ .t → Reps K M io H xs (kvs.map Prod.snd)) ∧ Reps K (fun _ => False) io H xs (kvs.map Prod.snd) := by
  have go : Rep K M io H (.dic ks xs) v → ∃ a kvs, v = .ref a ∧ H a = some (.dK kvs) ∧ kvs.map Prod.fst = ks ∧ Reps K M io H xs (kvs.map Prod.snd) := fun h => by
    cases h with
    | dic h1 _ h2 h3 => exact ⟨_, _, rfl, h1, h2, h3⟩
  have go2 : ∀ {a}, OwnAt K M io H (.dic ks xs) a → ∃ kvs, H a = some (.dK kvs) ∧ kvs.map Prod.fst = ks ∧ Reps K M io H xs (kvs.map Prod.snd) := fun h => by
    rcases h with ⟨xs', vs, e', _⟩ | ⟨ks, xs', kvs, e', h1, h2, h3⟩
    · cases e'
    · cases e'
      exact ⟨kvs, h1, h2, h3⟩
  have fin : (∃ a kvs, v = .ref a ∧ H a = some (.dK kvs) ∧ kvs.map Prod.fst = ks ∧ Reps K M io H xs (kvs.map Prod.snd)) → ∃ a kvs, v = .ref a ∧ H a = some (.dK kvs) ∧ kvs.map Prod.fst = ks ∧ (f ≠ .t → Reps K M io H xs (kvs.map Prod.snd)) ∧ Reps K (fun _ => False) io H xs (kvs.map Prod.snd) :=
    fun ⟨a, kvs, e, h1, h2, h3⟩ => ⟨a, kvs, e, h1, h2, fun _ => h3, h3.anti fun _ z => z.elim⟩
  cases f with
  | c => exact fin (go h)
  | n => exact fin (go h)
  | b => exact h.elim (fun h => fin (go h)) fun ⟨a, e, h, _⟩ => let ⟨kvs, z⟩ := go2 h; fin ⟨a, kvs, e, z⟩
  | o => exact h.elim (fun h => fin (go h)) fun ⟨a, e, h⟩ => let ⟨kvs, z⟩ := go2 h; fin ⟨a, kvs, e, z⟩
  | t =>
    cases h with
    | dic h1 _ h2 h3 => exact ⟨_, _, rfl, h1, h2, fun g => absurd rfl g, h3⟩
/-- d[e], there -/
def gDIx : D × Fl → D × Fl → Option (D × Fl) := fun a b => match a.1 with
  | .dic ks xs => match keyD b.1 with
    | some k => (getK ks xs k).map fun d => (d, if a.2 = .t then .t else .c)
    | none => none
  | _ => none
def rDIx : R2 := fun x y H Q => ∃ a v, x = .ref a ∧ DGet H a y (some v) ∧ Q v H
theorem ok_dix : BinOk K ct rDIx gDIx := by
  rintro M N io S H x y ⟨a, fa⟩ ⟨b, fb⟩ res Q ra rb q md e w
  unfold gDIx at e
  dsimp only at e ra rb
  split at e
  · rename_i ks xs
    split at e
    · rename_i k ek
      obtain ⟨p, kvs, rfl, h1, rfl, h2, h3⟩ := dic_of ra
      obtain rfl := key_val ek rb
      obtain ⟨d, ed, rfl⟩ := Option.map_eq_some_iff.mp e
      have g3 := getK_val k h3
      rw [ed] at g3
      obtain ⟨v, y1, y2⟩ := g3
      refine ⟨p, v, rfl, by rw [← y1]; exact DGet.k h1, w _ _ Stp.refl (ResOk.ct' (f := fa) (fun g => ?_) y2 q)⟩
      have g2 := getK_val k (h2 g)
      rw [ed] at g2
      obtain ⟨v', z1, z2⟩ := g2
      rw [y1] at z1
      cases z1
      exact z2
    · cases e
  · cases e
/-- list(d) -/
def kD : Key → D
  | .inl i => .int i
  | .inr z => .str z
def gListD : List (Fl × D) → Option (D × Fl) := fun as => match as with
  | [(_, .dic ks _)] => some (.lst (ks.map kD), .n)
  | _ => none
theorem reps_keys : ∀ ks : List Key, Reps K M io H (ks.map kD) (ks.map kV)
  | [] => .nil
  | .inl i :: ks => .cons (.int i) (reps_keys ks)
  | .inr z :: ks => .cons (.str z) (reps_keys ks)
theorem ok_listD : CalOk K ct (fun xs H Q => ∃ (a : Addr) (kvs : List (Key × V)), xs = [.ref a] ∧ Rd H a (.dK kvs) ∧ ∀ p, H p = none → Q (.ref p) (upd H p (.lst (kvs.map fun kv => kV kv.1)))) gListD := by
  intro M N io S H vs as res Q o q md e w
  unfold gListD at e
  split at e
  · rename_i f ks xs
    cases e
    obtain ⟨v, rfl, r⟩ := args1 o
    obtain ⟨a, kvs, rfl, h1, rfl, h2, h3⟩ := dic_of r
    refine ⟨a, kvs, rfl, .inl h1, fun p hp => w _ _ (Stp.upd hp) (new_lst hp hp md q ?_)⟩
    have := reps_keys (K := K) (M := M) (io := io) (H := H) (kvs.map Prod.fst)
    rw [List.map_map (g := kV)] at this
    exact this
  · cases e
/-- d != e, of dicts of ints that are alike -/
def alikeD (ls : List Key) (ys : List D) : List Key → List D → Bool
  | [], [] => true
  | k :: ks, .int i :: xs => (match getK ls ys k with
    | some (.int j) => decide (j = i)
    | _ => false) && alikeD ls ys ks xs
  | _, _ => false
def gNeD : D × Fl → D × Fl → Option (D × Fl) := fun a b => match a.1, b.1 with
  | .dic ks xs, .dic ls ys => if ks.length = ls.length ∧ alikeD ls ys ks xs = true then some (.bl false, .c) else none
  | _, _ => none
theorem alike_val {ls : List (Key × V)} {ys : List D} (h2 : Reps K M io H ys (ls.map Prod.snd)) : ∀ {ks : List (Key × V)} {xs : List D}, Reps K M io H xs (ks.map Prod.snd) → alikeD (ls.map Prod.fst) ys (ks.map Prod.fst) xs = true → ∀ p ∈ ks, valV ls p.1 = some p.2 ∧ flatB p.2 = true
  | [], _, _, _, p, hp => nomatch hp
  | (k, w) :: ks, xs, h, e, p, hp => by
    cases h with
    | @cons x xs _ _ r1 r2 =>
      have e' : alikeD (ls.map Prod.fst) ys (k :: ks.map Prod.fst) (x :: xs) = true := e
      unfold alikeD at e'
      split at e'
      · rename_i heq
        cases heq
      · rename_i heq1 heq2
        cases heq1
        cases heq2
        rw [Bool.and_eq_true] at e'
        rcases List.mem_cons.mp hp with rfl | hp
        · have g := getK_val k h2
          have e1 := e'.1
          split at e1
          · rename_i ej
            rw [ej] at g
            obtain ⟨v, g1, g2⟩ := g
            obtain rfl := of_decide_eq_true e1
            cases g2
            cases r1
            exact ⟨g1, rfl⟩
          · cases e1
        · exact alike_val h2 r2 e'.2 p hp
      · cases e'
theorem ok_neD : BinOk K ct rNeDA gNeD := by
  rintro M N io S H x y ⟨a, fa⟩ ⟨b, fb⟩ res Q ra rb q md e w
  unfold gNeD at e
  dsimp only at e ra rb
  split at e
  · rename_i ks xs ls ys
    split at e
    · rename_i g
      cases e
      obtain ⟨p, kvs, rfl, h1, rfl, _, h3⟩ := dic_of ra
      obtain ⟨p', kvs', rfl, h1', rfl, _, h3'⟩ := dic_of rb
      rw [List.length_map, List.length_map] at g
      exact ⟨p, p', kvs, kvs', rfl, rfl, h1, h1', g.1, alike_val h3' h3 g.2, w _ _ Stp.refl (ResOk.c (.bl _) q)⟩
    · cases e
  · cases e
end
section
variable {X : Cx} {ct : CT} {pos : Pos}
theorem hu1 (hu : X.A.units + 64 < cLine) : X.A.units + 1 < cLine := Nat.lt_of_le_of_lt (by omega) hu
theorem me_dix {a b : Expr} {ma mb : EM} (hu : X.A.units + 64 < cLine) (ha : ME X ct a ma) (hb : ME X ct b mb) (hs : NoSl b := by exact fun _ _ => rfl) : ME X ct (.Subscript a b pos) (eBin gDIx ma mb) :=
  ⟨fun G W tk => (pe_dget (hu1 hu) (ha.run G W tk) (hb.run G W tk) hs).imp fun s H Q h => bin_go ok_dix h⟩
theorem me_neD {a b : Expr} {ma mb : EM} (hu : X.A.units + 64 < cLine) (ha : ME X ct a ma) (hb : ME X ct b mb) (hm : behindInMarks .NotEq b = false) : ME X ct (.Compare a [.NotEq] [b] pos) (eBin gNeD ma mb) :=
  me_cmp (op_ne_dictA (Nat.lt_of_le_of_lt (by omega) hu)) ok_neD ha hb hm
theorem mt_neD {a b : Expr} {ma mb : EM} (hu : X.A.units + 64 < cLine) (ha : ME X ct a ma) (hb : ME X ct b mb) (hm : behindInMarks .NotEq b = false) : MT X ct (.Compare a [.NotEq] [b] pos) (tVal (eBin gNeD ma mb)) :=
  mt_cmp (op_ne_dictA (Nat.lt_of_le_of_lt (by omega) hu)) ok_neD ha hb hm
/-- d.get(k, x) -/
def eDGet (mo mi mx : EM) : EM := fun r S => (mo r S).bind fun o S1 => match o.1 with
  | .dic ks xs => (mi r S1).bind fun i S2 => (mx r S2).bind fun x S3 => match keyD i.1 with
    | some k => match getK ks xs k with
      | some d => .ok (d, if o.2 = .t then .t else .c) S3
      | none => if okst x.2 x.1 then .ok (x.1, .c) S3 else .no
    | none => .no
  | _ => .no
theorem me_dget2 {o e f : Expr} {apos : Pos} {mo mi mx : EM} (hu : X.A.units + 64 < cLine) (ho : ME X ct o mo) (he : ME X ct e mi) (hf : ME X ct f mx) (m : M2 X o "get" apos e f pos) : ME X ct (.Call (.Attribute o "get" apos) [e, f] [] pos) (eDGet mo mi mx) :=
  ⟨fun G W tk => (pe_dget2 (hu1 hu) (ho.run G W tk) (he.run G W tk) (hf.run G W tk) m).imp fun s H Q ⟨r, S, io, k, h⟩ => ⟨r, S, io, k, Res.first h fun x S1 io1 H1 e1 t1 q1 h1 v o => by
    have k1 := k.step t1 q1
    split at h1
    · rename_i ks xs ed
      have o1 := o.repF
      rw [ed] at o1
      obtain ⟨a, kvs, rfl, y1, rfl, y2, y3⟩ := dic_of o1
      refine ⟨a, rfl, .inl ⟨kvs, .inl y1⟩, r, S1, io1, k1, Res.first h1 fun y S2 io2 H2 e2 t2 q2 h2 u ou => ?_⟩
      have k2 := k1.step t2 q2
      refine ⟨r, S2, io2, k2, Res.first h2 fun z S3 io3 H3 e3 t3 q3 h3 w ow => ?_⟩
      split at h3
      · rename_i kk ek
        obtain rfl := key_val ek ou.repF
        have y1' := t3.k1 a _ (t2.k1 a _ y1 NI.dK) NI.dK
        have g3 := getK_val kk ((y3.stp t2).stp t3)
        split at h3
        · rename_i d ed2
          rw [ed2] at g3
          obtain ⟨v', g4, g5⟩ := g3
          refine ⟨some v', by rw [← g4]; exact DGet.k y1', h3.go Stp.refl q3 _ (ResOk.ct' (f := x.2) (fun g => ?_) g5 q3)⟩
          have g2 := getK_val kk (((y2 g).stp t2).stp t3)
          rw [ed2] at g2
          obtain ⟨v2, z1, z2⟩ := g2
          rw [g4] at z1
          cases z1
          exact z2
        · rename_i ed2
          rw [ed2] at g3
          split at h3
          · rename_i g
            refine ⟨none, by rw [← (show valV kvs kk = none from g3)]; exact DGet.k y1', h3.go Stp.refl q3 _ (ResOk.c (RepF.clean g ow.repF) q3)⟩
          · exact h3.elim
      · exact h3.elim
    · exact h1.elim⟩⟩
theorem own_dic {K : PySem.W.Frag} {M : Addr → Prop} {io : List Addr} {H : Hp} {ks : List Key} {xs : List D} {a : Addr} (h : OwnAt K M io H (.dic ks xs) a) : ∃ kvs, H a = some (.dK kvs) ∧ kvs.map Prod.fst = ks ∧ Reps K M io H xs (kvs.map Prod.snd) := by
  rcases h with ⟨xs', vs, e', _⟩ | ⟨ks, xs', kvs, e', h1, h2, h3⟩
  · cases e'
  · cases e'
    exact ⟨kvs, h1, h2, h3⟩
theorem own_newD {K : PySem.W.Frag} {M : Addr → Prop} {io : List Addr} {H : Hp} {ks : List Key} {ys : List D} {a : Addr} {vs ws : List (Key × V)} (ma : M a) (h : H a = some (.dK vs)) (e : ws.map Prod.fst = ks) (r : Reps K M io H ys (ws.map Prod.snd)) : OwnAt K M io (upd H a (.dK ws)) (.dic ks ys) a :=
  .inr ⟨ks, ys, ws, rfl, upd_same, e, r.mono (fun b u q ni z => by
    rw [upd_ne]
    · exact q
    · rintro rfl
      rcases z with z | z
      · exact z ma
      · rw [h] at q
        cases q
        exact not_im_dK z) (fun _ _ n => n) io_refl⟩
/-- d[k] = e -/
def sDSub (i : Nat) (mi m : EM) : SM := fun r S => (m r S).sb r fun x S1 => match r[i]? with
  | some (.own (.dic ks xs)) => (mi r S1).sb r fun j S2 => match keyD j.1 with
    | some k => if okst x.2 x.1 && decide (ks.length < sizeLine) then .nx (r.set i (.own (.dic (putKD ks xs k x.1).1 (putKD ks xs k x.1).2))) S2 else .no
    | none => .no
  | _ => .no
theorem ms_dsub {i : Nat} {y : Str} {p spos : Pos} {e ei : Expr} {m mi : EM} (hu : X.A.units + 64 < cLine) (hx : PE X (.Name y p) (tVar i)) (hi : ME X ct ei mi) (he : ME X ct e m)
    (ha : ∀ v, assign (.Subscript (.Name y p) ei spos) X.env v = (do
      let ov ← holding [v] (eval (.Name y p) X.env)
      let iv ← holding [v, ov] (eval ei X.env)
      standAt spos
      holding [v, ov, iv] (setItem ov iv v)
      release [v, ov, iv] []) := by intro _; rfl)
    (hs : swapsWithSole [.Subscript (.Name y p) ei spos] e pos.line X.env = pure false := by rfl) (hw : swappedStores [.Subscript (.Name y p) ei spos] e X.env = pure none := by rfl)
    (h1 : (assignEach [.Subscript (.Name y p) ei spos] X.env).map (·.2) = [assign (.Subscript (.Name y p) ei spos) X.env] := by rfl) : MS X ct (.Assign [.Subscript (.Name y p) ei spos] e pos) (sDSub i mi m) :=
  ⟨fun G W tk _ => (ps_asg (he.run G W tk) (pg_sub hx (hi.run G W tk) (set_dict (hu1 hu)) ha) hs hw h1).imp fun D s H ⟨r, S, io, k, h⟩ => ⟨r, S, io, k, SRes.first k h fun x S1 io1 H1 _ t1 q1 k1 h1' v ov => by
    split at h1'
    · rename_i ks xs e
      obtain ⟨a, h1, h2, h3, h4⟩ := k1.own i _ e
      obtain ⟨kvs, h5, h6, h7⟩ := own_dic h2
      refine ⟨.ref a, h1, r, S1, io1, k1, SRes.first k1 h1' fun j S2 io2 H2 _ t2 q2 k2 h2' u ou => ?_⟩
      split at h2'
      · rename_i kk ej
        split at h2'
        · rename_i g
          rw [Bool.and_eq_true, decide_eq_true_eq] at g
          have h5' := t2.k1 a _ h5 NI.dK
          have h7' := h7.stp t2
          obtain rfl := key_val ej ou.repF
          subst h6
          refine ⟨a, _, rfl, DPut.k h5' (by rw [← List.length_map Prod.fst]; exact g.2), h2' s io2 _ (k2.mut e h1 (own_newD (.inr (.inr ⟨i, _, e, h1⟩)) h5' (put_keys kvs kk v xs x.1) (put_vals h7' (RepF.clean g.1 (ov.repF.stp t2)))))⟩
        · exact h2'.elim
      · exact h2'.elim
    · exact h1'.elim⟩⟩
/-- a, b = [.., ..] -/
def gL (n : Nat) (gs : List D → Env → Option Env) : GM := fun d r => match d with
  | .lst ds => if ds.length = n then gs ds r else none
  | _ => none
theorem mg_unl {es : List Expr} {k n : Nat} {ts : List Nat} {gs : List D → Env → Option Env} (hc : X.calm = true) (h : MGs X ct es ts gs) (hn : (assignEach es X.env).length = n := by rfl) (hst : (assignEach es X.env).findIdx? (·.1) = none := by rfl) : MG X ct (.Tuple es k pos) ts (gL n gs) :=
  ⟨fun G => (pg_unl hc (h.run G) hn hst).imp fun v s H Q ⟨r, S, io, d, k, rv, h⟩ => by
    cases rv with
    | lst h1 _ h2 =>
      unfold gL at h
      simp only at h
      split at h
      · rename_i r' e
        split at e
        · rename_i hl
          refine ⟨_, _, rfl, SqL.of h1, by rw [← h2.len]; exact hl, r, S, io, _, k, h2, ?_⟩
          rw [e]
          exact h
        · cases e
      · exact h.elim
    | _ => exact h.elim⟩
end
end Mv

set_option maxRecDepth 100000
set_option maxHeartbeats 2000000
/-! Mv20: sorted of pairs of ints, however they came to be -/
namespace Mv
open PySem PySem.Spec PyProof.Rows L2
def leP (p q : Int × Int) : Bool := !SrtO.lexB q p
theorem leP_iff {p q : Int × Int} : leP p q = true ↔ p.1 < q.1 ∨ (p.1 = q.1 ∧ p.2 ≤ q.2) := by
  unfold leP
  rw [Bool.not_eq_true', SrtO.lexB_no]
  omega
def sortP (ps : List (Int × Int)) : List (Int × Int) := ps.mergeSort leP
theorem sortP_perm (ps : List (Int × Int)) : (sortP ps).Perm ps := List.mergeSort_perm ps leP
theorem sortP_sorted (ps : List (Int × Int)) : (sortP ps).Pairwise fun p q => leP p q = true := List.pairwise_mergeSort (le := leP) (fun a b c h1 h2 => by
  rw [leP_iff] at *
  omega) (fun a b => by
  rw [Bool.or_eq_true, leP_iff, leP_iff]
  omega) ps
theorem leP_one {a b : List (Int × Int)} (p : a.Perm b) (ha : a.Pairwise fun p q => leP p q = true) (hb : b.Pairwise fun p q => leP p q = true) : a = b := by
  induction a generalizing b with
  | nil => exact (List.Perm.eq_nil p.symm).symm
  | cons x a ih =>
    cases b with
    | nil => exact absurd p.length_eq (by simp)
    | cons y b =>
      rw [List.pairwise_cons] at ha hb
      have e : x = y := by
        rcases List.mem_cons.mp (p.mem_iff.mp (List.mem_cons_self (a := x) (l := a))) with h | h
        · exact h
        · rcases List.mem_cons.mp (p.mem_iff.mpr (List.mem_cons_self (a := y) (l := b))) with h' | h'
          · exact h'.symm
          · have h1 := leP_iff.mp (hb.1 x h)
            have h2 := leP_iff.mp (ha.1 y h')
            exact Prod.ext (by omega) (by omega)
      subst e
      rw [ih (List.Perm.cons_inv p) ha.2 hb.2]
/-- x is the pair p -/
def PrV (K : PySem.W.Frag) (H : Hp) (x : V) (p : Int × Int) : Prop := ∃ t, x = .ref t ∧ SqT K H t [.int p.1, .int p.2]
def rSortPT (K : PySem.W.Frag) : List V → Hp → VK → Prop := fun vs H Q => ∃ (a : Addr) (xs : List V) (ps : List (Int × Int)), vs = [V.ref a] ∧ SqL K H a xs ∧ Paired (PrV K H) xs ps ∧
  ∀ ys l, Paired (PrV K H) ys (sortP ps) → H l = none → Q (.ref l) (upd H l (.lst ys))
theorem prv_inj {X : Cx} {pins : List (Addr × Obj)} {σ : St} {H : Hp} {s : Shared} (I : Inv X pins σ H s) {x : V} {p q : Int × Int} (h : PrV X.K H x p) (h' : PrV X.K H x q) : p = q := by
  obtain ⟨t, rfl, e⟩ := h
  obtain ⟨t', e', f⟩ := h'
  cases e'
  have := I.tuple_inj e f
  injection this with e1 e2
  injection e2 with e2 _
  exact Prod.ext (V.int.inj e1) (V.int.inj e2)
theorem paired_back {K : PySem.W.Frag} {H : Hp} (k : V → Int × Int) : ∀ {ys : List V}, (∀ y ∈ ys, PrV K H y (k y)) → Paired (PrV K H) ys (ys.map k)
  | [], _ => .nil
  | y :: ys, h => .cons (h y (.head _)) (paired_back k fun z hz => h z (.tail _ hz))
theorem cr_sortPT {X : Cx} : CallR X (.builtin "sorted") (rSortPT X.K) := by
  intro pins s σ H vs us Q I r h
  obtain ⟨a, xs, ps, rfl, hs, hp, q⟩ := h
  have ex : ∀ x : V, ∃ p : Int × Int, (∃ p', PrV X.K H x p') → PrV X.K H x p := fun x => by
    by_cases e : ∃ p', PrV X.K H x p'
    · obtain ⟨p, e⟩ := e
      exact ⟨p, fun _ => e⟩
    · exact ⟨(0, 0), fun z => absurd z e⟩
  obtain ⟨k, hk⟩ := Classical.axiomOfChoice ex
  have hx : ∀ {xs : List V} {ps : List (Int × Int)}, Paired (PrV X.K H) xs ps → (∀ x ∈ xs, PrV X.K H x (k x)) ∧ xs.map k = ps := by
    intro xs ps hp
    induction hp with
    | nil => exact ⟨fun x hx => absurd hx (by simp), rfl⟩
    | @cons x p xs ps h1 h2 ih =>
      have h3 := hk x ⟨p, h1⟩
      refine ⟨fun y hy => ?_, ?_⟩
      · rcases List.mem_cons.mp hy with rfl | hy
        · exact h3
        · exact ih.1 y hy
      · rw [List.map_cons, ih.2, prv_inj I h3 h1]
  obtain ⟨hx1, hx2⟩ := hx hp
  obtain ⟨its, rv, hl, hz⟩ := I.list hs
  obtain ⟨u, rfl, ru⟩ := vals1 r
  obtain rfl : u = Value.ref a := ru
  obtain ⟨e1, e2⟩ := refs_back rv fun x m => by
    obtain ⟨t, e, _⟩ := hx1 x m
    exact ⟨t, e⟩
  refine SrtO.sorted_pairsO (k := fun u => k (backV u)) hl.isList (by rw [← rv.length]; exact hz) (fun v hv => ?_) fun h' d out h1 h2 kp hd hn => ?_
  · obtain ⟨t, rfl⟩ := e2 v hv
    have hm : V.ref t ∈ xs := by rw [e1]; exact List.mem_map.mpr ⟨_, hv, rfl⟩
    obtain ⟨t', e, ht⟩ := hx1 _ hm
    cases e
    obtain ⟨its2, r2, ⟨o, ho, hc, n, hd⟩, _⟩ := I.tuple ht
    obtain ⟨u1, u2, rfl, ri, rj⟩ := vals2 r2
    obtain ⟨t1, rfl⟩ := ri
    obtain ⟨t2, rfl⟩ := rj
    exact ⟨t, o, t1, t2, n, rfl, ho, hc, hd⟩
  · have h3 : ∀ u ∈ out, ∃ a, u = Value.ref a := fun u hu => e2 u (h2.perm.mem_iff.mp hu)
    obtain ⟨n, hn⟩ := hn
    have hb : SrtO.Stb (ltP k) (out.map backV) xs := by
      rw [e1]
      exact SrtO.Stb.map (ltP_swo k) backV h2
    have hs2 : SrtO.Srtd (ltP k) (out.map backV) := SrtO.srtd_map h1
    have hy : ∀ y ∈ out.map backV, PrV X.K H y (k y) := fun y hy => hx1 y (hb.perm.mem_iff.mp hy)
    have eq : (out.map backV).map k = sortP ps := by
      refine leP_one ?_ ?_ (sortP_sorted ps)
      · rw [← hx2]
        exact (hb.perm.map k).trans (sortP_perm _).symm
      · rw [List.pairwise_map]
        refine hs2.imp fun {p q} h => ?_
        show (!SrtO.lexB (k q) (k p)) = true
        rw [show SrtO.lexB (k q) (k p) = false from h]
        rfl
    refine ⟨.ref d, upd H d (.lst (out.map backV)), I.laid (t' := s.toks) kp hd ⟨?_, out, n, vals_back h3, hn⟩, rfl, q _ d (by rw [← eq]; exact paired_back k hy) (I.hok.fresh hd)⟩
    rw [hb.len]
    exact hz
def pairsOf : List D → Option (List (Int × Int))
  | [] => some []
  | .tup [.int i, .int j] :: ds => (pairsOf ds).map fun ps => (i, j) :: ps
  | _ => none
def pD (p : Int × Int) : D := .tup [.int p.1, .int p.2]
section
variable {K : PySem.W.Frag} {ct : CT} {M : Addr → Prop} {io : List Addr} {H : Hp}
theorem pairs_eq : ∀ {ds : List D} {ps : List (Int × Int)}, pairsOf ds = some ps → ds = ps.map pD
  | [], ps, e => by
    unfold pairsOf at e
    cases e
    rfl
  | d :: ds, ps, e => by
    unfold pairsOf at e
    split at e
    · rename_i heq
      cases heq
    · rename_i i j ds' heq
      cases heq
      obtain ⟨qs, e1, rfl⟩ := Option.map_eq_some_iff.mp e
      rw [pairs_eq e1]
      rfl
    · cases e
theorem pairs_of : ∀ ps : List (Int × Int), pairsOf (ps.map pD) = some ps
  | [] => rfl
  | p :: ps => by
    show (pairsOf (ps.map pD)).map _ = _
    rw [pairs_of ps]
    rfl
theorem reps_prv : ∀ {ps : List (Int × Int)} {vs : List V}, Reps K M io H (ps.map pD) vs → Paired (PrV K H) vs ps
  | [], _, h => by
    cases h
    exact .nil
  | p :: ps, _, h => by
    cases h with
    | cons h1 h2 =>
      refine .cons ?_ (reps_prv h2)
      cases h1 with
      | @tup a vs _ h3 h4 =>
        have := Reps.ints (is := [p.1, p.2]) h4
        subst this
        exact ⟨a, rfl, h3⟩
theorem prv_reps {ps : List (Int × Int)} {vs : List V} (h : Paired (PrV K H) vs ps) : Reps K M io H (ps.map pD) vs := by
  induction h with
  | nil => exact .nil
  | @cons x p xs ps h1 h2 ih =>
    obtain ⟨t, rfl, e⟩ := h1
    exact .cons (.tup e (.cons (.int _) (.cons (.int _) .nil))) ih
def gSortP : List (Fl × D) → Option (D × Fl) := fun as => match as with
  | [(_, .lst ds)] => (pairsOf ds).map fun ps => (.lst ((sortP ps).map pD), .n)
  | _ => none
theorem ok_sortP : CalOk K ct (rSortPT K) gSortP := by
  intro M N io S H vs as res Q o q md e w
  unfold gSortP at e
  split at e
  · rename_i f ds
    obtain ⟨ps, e1, rfl⟩ := Option.map_eq_some_iff.mp e
    obtain ⟨v, rfl, r⟩ := args1 o
    obtain ⟨a, us, rfl, h1, h2⟩ := lst_of r
    rw [pairs_eq e1] at h2
    refine ⟨a, us, ps, rfl, SqL.of h1, reps_prv h2, fun ys l hy hl => w _ _ (Stp.upd hl) (new_lst hl hl md q (prv_reps hy))⟩
  · cases e
end
end Mv

set_option maxRecDepth 100000
set_option maxHeartbeats 2000000
/-! Mv21: a walk over the items of a dict of one's own; moving what is one's own; a display of one pair; `in` of dicts; pairs compared; dict(d) -/
namespace Mv
open PySem PySem.Spec PyProof.Rows L2
section
variable {K : PySem.W.Frag} {ct : CT} {M N : Addr → Prop} {io : List Addr} {H : Hp} {a : Addr} {od : Obj} {kvs : List (Key × V)}
mutual
theorem Rep.av (h : H a = some (.frz od (.dK kvs))) : ∀ {d : D} {v : V}, Rep K M io H d v → Rep K (fun b => M b ∨ b = a) io H d v
  | _, _, .non => .non
  | _, _, .bl b => .bl b
  | _, _, .int i => .int i
  | _, _, .str z => .str z
  | _, _, .lst e n r => .lst e (fun z => z.elim n fun q => by subst q; rw [h] at e; cases e) (Reps.av h r)
  | _, _, .frz e r => .frz (e.elim (fun e => .inl ⟨e.1, fun z => z.elim e.2 fun q => by
      subst q
      rcases e.1 with e | ⟨o, e⟩
      · rw [h] at e; cases e
      · rw [h] at e; cases e⟩) .inr) (Reps.av h r)
  | _, _, .tup e r => .tup e (Reps.av h r)
  | _, _, .dic e n q r => .dic e (fun z => z.elim n fun q => by subst q; rw [h] at e; cases e) q (Reps.av h r)
  | _, _, .ins e => .ins e
  | _, _, .cst => .cst
theorem Reps.av (h : H a = some (.frz od (.dK kvs))) : ∀ {d : List D} {v : List V}, Reps K M io H d v → Reps K (fun b => M b ∨ b = a) io H d v
  | _, _, .nil => .nil
  | _, _, .cons r t => .cons (Rep.av h r) (Reps.av h t)
end
end
section
variable {K : PySem.W.Frag} {ct : CT} {G : Gx} {r : Env} {S : Store} {io : List Addr} {s : St} {H : Hp} {i : Nat} {ks : List Key} {xs : List D} {a : Addr} {od : Obj} {kvs : List (Key × V)}
/-- the thing at a is locked -/
def Gx.lock (G : Gx) (a : Addr) (o : HO) : Gx := { G with M0 := fun x => G.M0 x ∨ x = a, H0 := upd G.H0 a o }
theorem frz_not_im : ¬ Im (.frz od (.dK kvs)) := fun h => by
  rcases h with ⟨_, h⟩ | ⟨_, _, h⟩ | ⟨_, h⟩ | ⟨_, h⟩ <;> cases h
theorem Ok.lock (k : Ok K ct G r S io s H) (e : r[i]? = some (.own (.dic ks xs))) (ea : s[i]? = some (some (V.ref a))) (hH : H a = some (.dK kvs)) : Ok K ct (G.lock a (.frz od (.dK kvs))) (r.set i .no) S io s (upd H a (.frz od (.dK kvs))) := by
  obtain ⟨a', e1, ow, m0, n0, h0⟩ := k.own i _ e
  rw [ea] at e1
  cases e1
  have mo : ∀ {x}, Mown (G.lock a (.frz od (.dK kvs))) (r.set i .no) s x → Mown G r s x ∧ x ≠ a := fun {x} h => by
    rcases h with h | ⟨j, u, h1, h2⟩
    · exact ⟨.inl h, fun z => n0 (z ▸ h)⟩
    · rcases get_set h1 with ⟨rfl, q, _⟩ | ⟨hj, q⟩
      · cases q
      · exact ⟨.inr ⟨j, u, q, h2⟩, fun z => hj (k.inj j i u _ a q e (z ▸ h2) ea).symm⟩
  have ma : Mown G r s a := .inr ⟨i, _, e, ea⟩
  have ml : ∀ {x}, Mall (G.lock a (.frz od (.dK kvs))) (r.set i .no) s x → Mall G r s x := fun {x} h => by
    rcases h with (h | h) | h
    · exact .inl h
    · exact .inr (h ▸ ma)
    · exact .inr (mo h).1
  have kp : ∀ N : Addr → Prop, N a → Kp N H (upd H a (.frz od (.dK kvs))) := fun N na b u q ni z => by
    rw [upd_ne]
    · exact q
    · rintro rfl
      rcases z with z | z
      · exact z na
      · rw [hH] at q
        cases q
        exact not_im_dK z
  have ne : ∀ {b o}, H b = some o → (∀ l, o ≠ .dK l) → b ≠ a := fun q n z => by
    subst z
    rw [hH] at q
    cases q
    exact n _ rfl
  refine ⟨by rw [List.length_set]; exact k.len, fun j f u q => ?_, fun j u q => ?_, fun j j' u u' b q q' z z' => ?_, ?_, ?_, fun b h => ?_, fun b h => ?_, fun p hp => ?_⟩
  · rcases get_set q with ⟨rfl, q, _⟩ | ⟨hj, q⟩
    · cases q
    · obtain ⟨v, h1, h2⟩ := k.arg j f u q
      exact ⟨v, h1, h2.mono (kp _ (.inr ma)) (kp _ ma) (fun _ _ n z => n (ml z)) (fun _ _ n z => n (mo z).1) io_refl⟩
  · rcases get_set q with ⟨rfl, q, _⟩ | ⟨hj, q⟩
    · cases q
    · obtain ⟨b, h1, h2, h3, h4, h5⟩ := k.own j u q
      have nb : b ≠ a := fun z => hj (k.inj j i u _ a q e (z ▸ h1) ea).symm
      refine ⟨b, h1, h2.mono (kp _ (.inr ma)) (fun _ _ n z => n (ml z)) io_refl fun o q _ => by rw [upd_ne nb]; exact q, fun z => z.elim h3 nb, h4, ?_⟩
      show (upd G.H0 a _) b = none
      rw [upd_ne nb]
      exact h5
  · rcases get_set q with ⟨rfl, q, _⟩ | ⟨hj, q⟩
    · cases q
    · rcases get_set q' with ⟨rfl, q', _⟩ | ⟨hj', q'⟩
      · cases q'
      · exact k.inj j j' u u' b q q' z z'
  · exact k.sto.mono (kp _ (.inr ma)) (fun _ _ n z => n (ml z)) (fun b C dx fs _ q => by rw [upd_ne (ne q fun _ z => by cases z)]; exact q) fun b ps q => by rw [upd_ne (ne q fun _ z => by cases z)]; exact q
  · have T := k.stp
    have hn : ∀ {b o}, G.H0 b = some o → b ≠ a := fun q z => by
      subst z
      rw [h0] at q
      cases q
    refine ⟨fun b o q n => ?_, fun b o q n nt => ?_, T.pre, fun b z n => ?_, fun b o q => ?_⟩
    · by_cases hb : b = a
      · subst hb
        have q : (upd G.H0 b (HO.frz od (.dK kvs))) b = some o := q
        rw [upd_same] at q ⊢
        exact q
      · have q : (upd G.H0 a (HO.frz od (.dK kvs))) b = some o := q
        rw [upd_ne hb] at q ⊢
        exact T.k1 b o q n
    · by_cases hb : b = a
      · subst hb
        have q : (upd G.H0 b (HO.frz od (.dK kvs))) b = some o := q
        rw [upd_same] at q ⊢
        exact q
      · have q : (upd G.H0 a (HO.frz od (.dK kvs))) b = some o := q
        rw [upd_ne hb] at q ⊢
        exact T.k2 b o q n nt
    · have hb : b ≠ a := fun y => by
        subst y
        obtain ⟨n', hn'⟩ := List.getElem?_of_mem z
        have hl := (List.getElem?_eq_some_iff.mp hn').1
        rw [← k.sto.len] at hl
        obtain ⟨a2, o2, q1, q2⟩ := k.sto.io_at hl
        rw [hn'] at q1
        cases q1
        cases hx : ct.ex (S[n']'hl).1 with
        | false =>
          obtain ⟨a3, dx, gs, w1, w2, _⟩ := k.sto.at_ n' _ _ (List.getElem?_eq_getElem hl) hx
          rw [hn'] at w1
          cases w1
          rw [hH] at w2
          cases w2
        | true =>
          obtain ⟨a3, d3, w1, w2, _⟩ := k.sto.ax n' _ _ (List.getElem?_eq_getElem hl) hx
          rw [hn'] at w1
          cases w1
          rw [hH] at w2
          cases w2
      show (upd G.H0 a _) b = none
      rw [upd_ne hb]
      exact T.new b z n
    · by_cases hb : b = a
      · subst hb
        exact ⟨_, upd_same⟩
      · have q : (upd G.H0 a (HO.frz od (.dK kvs))) b = some o := q
        rw [upd_ne hb] at q
        obtain ⟨o', q'⟩ := T.dom b o q
        exact ⟨o', by rw [upd_ne hb]; exact q'⟩
  · rcases h with h | rfl
    · obtain ⟨o, q, n⟩ := k.m0 b h
      exact ⟨o, by rw [upd_ne (show b ≠ a from fun z => m0 (z ▸ h))]; exact q, n⟩
    · exact ⟨_, upd_same, NI.frz⟩
  · obtain ⟨o, ⟨h1, h1'⟩, h2, h3, h4⟩ := k.n0 b h
    have nb : b ≠ a := fun z => n0 (z ▸ h)
    refine ⟨o, ⟨by rw [upd_ne nb]; exact h1, h1'⟩, fun z => z.elim h2 nb, ?_, h4⟩
    show (upd G.H0 a _) b = none
    rw [upd_ne nb]
    exact h3
  · exact (k.held p hp).mono (kp _ (.inr ma)) (kp _ ma) (fun _ _ n z => n (ml z)) (fun _ _ n z => n (mo z).1) io_refl
theorem Ok.unlock (h0 : G.H0 a = none) (m0 : ¬ G.M0 a) (n0 : ¬ G.N0 a) (k : Ok K ct (G.lock a (.frz od (.dK kvs))) r S io s H) : Ok K ct G r S io s (upd H a (.dK kvs)) := by
  have hf : H a = some (.frz od (.dK kvs)) := k.stp.k1 a _ upd_same NI.frz
  have mo : Mown (G.lock a (.frz od (.dK kvs))) r s = Mown G r s := rfl
  have ml : ∀ {x}, Mall G r s x → Mall (G.lock a (.frz od (.dK kvs))) r s x := fun {x} h => h.elim (fun h => .inl (.inl h)) .inr
  have ma : Mall (G.lock a (.frz od (.dK kvs))) r s a := .inl (.inr rfl)
  have kp : ∀ N : Addr → Prop, N a → Kp N H (upd H a (.dK kvs)) := fun N na b u q ni z => by
    rw [upd_ne]
    · exact q
    · rintro rfl
      rcases z with z | z
      · exact z na
      · rw [hf] at q
        cases q
        exact frz_not_im z
  have ne : ∀ {b o}, H b = some o → o ≠ .frz od (.dK kvs) → b ≠ a := fun q n z => by
    subst z
    rw [hf] at q
    cases q
    exact n rfl
  have hn : ∀ {b o}, G.H0 b = some o → b ≠ a := fun q z => by
    subst z
    rw [h0] at q
    cases q
  have ar : ∀ {f d v}, ArgF K (Mall (G.lock a (.frz od (.dK kvs))) r s) (Mown G r s) io H f d v → ArgF K (Mall G r s) (Mown G r s) io (upd H a (.dK kvs)) f d v := fun {f d v} h => by
    have m : ∀ b, (∃ o, H b = some o) → ¬ Mall (G.lock a (.frz od (.dK kvs))) r s b → ¬ Mall G r s b := fun b _ n z => n (ml z)
    have go : (Rep K (Mall (G.lock a (.frz od (.dK kvs))) r s) io H d v ∨ ∃ b, v = .ref b ∧ OwnAt K (Mall (G.lock a (.frz od (.dK kvs))) r s) io H d b ∧ ¬ Mown G r s b) → (Rep K (Mall G r s) io (upd H a (.dK kvs)) d v ∨ ∃ b, v = .ref b ∧ OwnAt K (Mall G r s) io (upd H a (.dK kvs)) d b ∧ ¬ Mown G r s b) := fun h => by
      rcases h with h | ⟨b, e, h, z⟩
      · exact .inl (Rep.mono (kp _ ma) m io_refl h)
      · refine .inr ⟨b, e, h.mono (kp _ ma) m io_refl fun o q _ => ?_, z⟩
        rw [upd_ne]
        · exact q
        · rcases h with ⟨_, _, _, w, _⟩ | ⟨_, _, _, _, w, _⟩
          · exact ne w fun z => by cases z
          · exact ne w fun z => by cases z
    cases f with
    | c => exact Rep.mono (kp _ ma) m io_refl h
    | n => exact Rep.mono (kp _ ma) m io_refl h
    | b => exact go h
    | o => exact go h
    | t => exact Rep.mono (kp _ (.inr rfl)) (fun b _ n z => n (.inl z)) io_refl (Rep.av hf h)
  refine ⟨k.len, fun j f u q => ?_, fun j u q => ?_, k.inj, ?_, ?_, fun b h => ?_, fun b h => ?_, fun p hp => ar (k.held p hp)⟩
  · obtain ⟨v, h1, h2⟩ := k.arg j f u q
    exact ⟨v, h1, ar h2⟩
  · obtain ⟨b, h1, h2, h3, h4, h5⟩ := k.own j u q
    have nb : b ≠ a := fun z => h3 (.inr z)
    have h5 : (upd G.H0 a _) b = none := h5
    rw [upd_ne nb] at h5
    exact ⟨b, h1, h2.mono (kp _ ma) (fun _ _ n z => n (ml z)) io_refl fun o q _ => by rw [upd_ne nb]; exact q, fun z => h3 (.inl z), h4, h5⟩
  · exact k.sto.mono (kp _ ma) (fun _ _ n z => n (ml z)) (fun b C dx fs _ q => by rw [upd_ne (ne q fun z => by cases z)]; exact q) fun b ps q => by rw [upd_ne (ne q fun z => by cases z)]; exact q
  · have T := k.stp
    refine ⟨fun b o q n => ?_, fun b o q n nt => ?_, T.pre, fun b z n => ?_, fun b o q => ?_⟩
    · have nb := hn q
      rw [upd_ne nb]
      exact T.k1 b o (by show (upd G.H0 a _) b = some o; rw [upd_ne nb]; exact q) n
    · have nb := hn q
      rw [upd_ne nb]
      exact T.k2 b o (by show (upd G.H0 a _) b = some o; rw [upd_ne nb]; exact q) n nt
    · have q : (upd G.H0 a (HO.frz od (.dK kvs))) b = none := T.new b z n
      by_cases hb : b = a
      · subst hb
        exact h0
      · rw [upd_ne hb] at q
        exact q
    · have nb := hn q
      obtain ⟨o', q'⟩ := T.dom b o (by show (upd G.H0 a _) b = some o; rw [upd_ne nb]; exact q)
      exact ⟨o', by rw [upd_ne nb]; exact q'⟩
  · obtain ⟨o, q, n⟩ := k.m0 b (.inl h)
    exact ⟨o, by rw [upd_ne (show b ≠ a from fun z => m0 (z ▸ h))]; exact q, n⟩
  · obtain ⟨o, ⟨h1, h1'⟩, h2, h3, h4⟩ := k.n0 b h
    have nb : b ≠ a := fun z => n0 (z ▸ h)
    have h3 : (upd G.H0 a _) b = none := h3
    rw [upd_ne nb] at h3
    exact ⟨o, ⟨by rw [upd_ne nb]; exact h1, h1'⟩, fun z => h2 (.inl z), h3, h4⟩
end
/-! ### for k, x in d.items(), d one's own -/
def itemsD : List Key → List D → List D
  | k :: ks, x :: xs => .tup [kD k, x] :: itemsD ks xs
  | _, _ => []
theorem itemsD_len : ∀ (ks : List Key) (xs : List D), ks.length = xs.length → (itemsD ks xs).length = ks.length
  | [], [], _ => rfl
  | k :: ks, x :: xs, h => by
    show (itemsD ks xs).length + 1 = ks.length + 1
    rw [itemsD_len ks xs (by simpa using h)]
  | [], _ :: _, h => by cases h
  | _ :: _, [], h => by cases h
theorem itemsD_get : ∀ (ks : List Key) (xs : List D) (j : Nat) (k : Key) (x : D), ks[j]? = some k → xs[j]? = some x → (itemsD ks xs)[j]? = some (.tup [kD k, x])
  | k' :: ks, x' :: xs, 0, k, x, h1, h2 => by
    cases h1
    cases h2
    rfl
  | k' :: ks, x' :: xs, j + 1, k, x, h1, h2 => itemsD_get ks xs j k x h1 h2
  | [], _, _, _, _, h1, _ => by simp at h1
  | _ :: _, [], _, _, _, _, h2 => by simp at h2
def sItm (i : Nat) (g : GM) (b : SM) : SM := fun r S => match r[i]? with
  | some (.own (.dic ks xs)) => match forL g b (itemsD ks xs) (r.set i .no) S with
    | .nx r' S' => .nx r' S'
    | _ => .no
  | _ => .no
section
variable {X : Cx} {ct : CT} {pos : Pos}
theorem ms_itm {i kk : Nat} {y : Str} {p apos cpos tpos : Pos} {elts : List Expr} {body : List Stmt} {ts : List Nat} {g : GM} {b : SM} (hc : X.calm = true) (hx : PE X (.Name y p) (tVar i)) (hg : MG X ct (.Tuple elts kk tpos) ts g) (hb : MSs X ct body b)
    (hbase : attributeBase (.Name y p) "items" X.env (eval (.Name y p) X.env) = eval (.Name y p) X.env := by rfl) (hline : (apos.endLine == cpos.line) = true := by rfl)
    (hs : ∀ x, foldedSetIterable (.Call (.Attribute (.Name y p) "items" apos) [] [] cpos) X.env x = pure x := by intro _; rfl) : MS X ct (.For (.Tuple elts kk tpos) (.Call (.Attribute (.Name y p) "items" apos) [] [] cpos) body [] pos) (sItm i g b) := by
  refine ⟨fun G W tk po => (ps_lock (ps_for po hc (pi_items hx hbase hline) (PG.ex fun G' : Gx => hg.run G') (PSs.ex fun G' : Gx => hb.run G' W tk po) hs)).imp fun De s H h => ?_⟩
  obtain ⟨r, S, io, k, h⟩ := h
  unfold sItm at h
  split at h
  · rename_i ks xs e
    obtain ⟨a, ea, ow, m0, n0, h0⟩ := k.own i _ e
    obtain ⟨kvs, hH, rfl, hr⟩ := own_dic ow
    refine ⟨a, .dK kvs, hH, trivial, fun od => ⟨.ref a, ea, a, od, kvs, rfl, upd_same, ?_⟩⟩
    have kl := k.lock (od := od) e ea hH
    have ekl : (itemsD (kvs.map Prod.fst) xs).length = kvs.length := by
      rw [itemsD_len _ _ (by rw [List.length_map, hr.len, List.length_map]), List.length_map]
    -- the values of the dict are held
    have hv : ∀ p ∈ (List.zipWith (fun x (v : V) => (Fl.c, x, v)) xs (kvs.map Prod.snd)), ArgF X.K (Mall (G.lock a (.frz od (.dK kvs))) (r.set i .no) s) (Mown (G.lock a (.frz od (.dK kvs))) (r.set i .no) s) io (upd H a (.frz od (.dK kvs))) p.1 p.2.1 p.2.2 := fun p hp => by
      obtain ⟨j, hj⟩ := List.getElem?_of_mem hp
      rw [List.getElem?_zipWith] at hj
      have ex : ∃ x v, xs[j]? = some x ∧ (kvs.map Prod.snd)[j]? = some v ∧ p = (Fl.c, x, v) := by
        cases q1 : xs[j]? with
        | none => rw [q1] at hj; cases hj
        | some x =>
          cases q2 : (kvs.map Prod.snd)[j]? with
          | none => rw [q1, q2] at hj; cases hj
          | some v =>
            rw [q1, q2] at hj
            cases hj
            exact ⟨x, v, rfl, rfl, rfl⟩
      obtain ⟨x, v, q1, q2, rfl⟩ := ex
      obtain ⟨v', q3, q4⟩ := hr.get q1
      rw [q2] at q3
      cases q3
      -- a value of one's own dict does not hold what is one's own
      refine Rep.mono (M := Mall G r s) (fun b u q ni z => ?_) (fun b _ n z => n ?_) io_refl q4
      · rw [upd_ne]
        · exact q
        · rintro rfl
          rcases z with z | z
          · exact z (.inr (.inr ⟨i, _, e, ea⟩))
          · rw [hH] at q
            cases q
            exact not_im_dK z
      · rcases z with (z | z) | z
        · exact .inl z
        · exact .inr (.inr ⟨i, _, e, z ▸ ea⟩)
        · rcases z with z | ⟨j, u, z1, z2⟩
          · exact .inr (.inl z)
          · rcases get_set z1 with ⟨_, z1, _⟩ | ⟨_, z1⟩
            · cases z1
            · exact .inr (.inr ⟨j, u, z1, z2⟩)
    have kh := kl.hold hv
    generalize hhv : List.zipWith (fun x (v : V) => (Fl.c, x, v)) xs (kvs.map Prod.snd) = held at *
    generalize hds : itemsD (kvs.map Prod.fst) xs = ds at *
    have hfin : ∀ {r' S' s' io' H'}, Ok X.K ct { G.lock a (.frz od (.dK kvs)) with held := held ++ (G.lock a (.frz od (.dK kvs))).held } r' S' io' s' H' → H' a = some (.frz od (.dK kvs)) := fun k' => k'.stp.k1 a _ upd_same NI.frz
    have h1 : ∃ r1 S1, forL g b ds (r.set i .no) S = .nx r1 S1 ∧ SRes X.K ct G W De (.nx r1 S1) := by
      cases q : forL g b ds (r.set i .no) S with
      | nx r1 S1 => rw [q] at h; exact ⟨r1, S1, rfl, h⟩
      | ct r1 S1 => rw [q] at h; exact h.elim
      | bk r1 S1 => rw [q] at h; exact h.elim
      | rt d f S1 => rw [q] at h; exact h.elim
      | er c p r1 S1 => rw [q] at h; exact h.elim
      | no => rw [q] at h; exact h.elim
    obtain ⟨r1, S1, q1, h1⟩ := h1
    have h2 : SRes X.K ct (G.lock a (.frz od (.dK kvs))) W ⟨fun σ' H' => H' a = some (.frz od (.dK kvs)) ∧ De.nx σ' (upd H' a (.dK kvs)), fun v H' => H' a = some (.frz od (.dK kvs)) ∧ De.rt v (upd H' a (.dK kvs)), fun σ' H' => H' a = some (.frz od (.dK kvs)) ∧ De.bk σ' (upd H' a (.dK kvs)), fun σ' H' => H' a = some (.frz od (.dK kvs)) ∧ De.ct σ' (upd H' a (.dK kvs))⟩ (forL g b ds (r.set i .no) S) := by
      rw [q1]
      exact fun s' io' H' k' => ⟨k'.stp.k1 a _ upd_same NI.frz, h1 s' io' _ (k'.unlock h0 m0 n0)⟩
    generalize (⟨fun σ' H' => H' a = some (.frz od (.dK kvs)) ∧ De.nx σ' (upd H' a (.dK kvs)), fun v H' => H' a = some (.frz od (.dK kvs)) ∧ De.rt v (upd H' a (.dK kvs)), fun σ' H' => H' a = some (.frz od (.dK kvs)) ∧ De.bk σ' (upd H' a (.dK kvs)), fun σ' H' => H' a = some (.frz od (.dK kvs)) ∧ De.ct σ' (upd H' a (.dK kvs))⟩ : Ends) = D1 at *
    have w := walk_items (d := a) (o := od) (kvs := kvs)
    refine ⟨fun j m s H => m = ds.length - j ∧ j ≤ ds.length ∧ ∃ r S io, Ok X.K ct { G.lock a (.frz od (.dK kvs)) with held := held ++ (G.lock a (.frz od (.dK kvs))).held } r S io s H ∧ SRes X.K ct (G.lock a (.frz od (.dK kvs))) W D1 (forL g b (ds.drop j) r S), ⟨_, rfl, Nat.zero_le _, _, S, io, kh, h2⟩, fun j m s H ⟨hm, hj, r, S, io, k, h⟩ => ?_⟩
    by_cases hlt : j < ds.length
    · refine .inr ⟨w.goes j H (by omega) (hfin k), fun s' H' => ∃ r S io, Ok X.K ct { G.lock a (.frz od (.dK kvs)) with held := held ++ (G.lock a (.frz od (.dK kvs))).held } r S io s' H' ∧ SRes X.K ct (G.lock a (.frz od (.dK kvs))) W D1 (forL g b (ds.drop (j + 1)) r S), fun s' H' n => ⟨ds.length - (j + 1), by omega, rfl, hlt, n⟩, fun x H' y => ?_⟩
      obtain ⟨T, kx, vx, rfl, nT, rfl, e1, e2⟩ := w.yields j H x H' (by omega) (hfin k) y
      have hjk : j < kvs.length := by omega
      dsimp only at e1 e2
      rw [List.getElem?_eq_getElem hjk] at e1 e2
      cases e1
      cases e2
      have gv : (kvs.map Prod.snd)[j]? = some kvs[j].2 := by rw [List.getElem?_map, List.getElem?_eq_getElem hjk]; rfl
      have gk : (kvs.map Prod.fst)[j]? = some kvs[j].1 := by rw [List.getElem?_map, List.getElem?_eq_getElem hjk]; rfl
      obtain ⟨d, gd, _⟩ := hr.getV gv
      have hd : ds[j]? = some (.tup [kD kvs[j].1, d]) := by
        rw [← hds]
        exact itemsD_get _ _ _ _ _ gk gd
      have rd : Rep X.K (Mall (G.lock a (.frz od (.dK kvs))) r s) io H d kvs[j].2 := k.held (Fl.c, d, kvs[j].2) (List.mem_append_left _ (by
        rw [← hhv]
        refine List.mem_of_getElem? (i := j) ?_
        rw [List.getElem?_zipWith, gd, gv]))
      have ed : ds.drop j = .tup [kD kvs[j].1, d] :: ds.drop (j + 1) := by
        rw [List.drop_eq_getElem_cons hlt]
        rw [List.getElem?_eq_getElem hlt] at hd
        rw [Option.some.inj hd]
      rw [ed] at h
      have k' := k.step (Stp.upd nT) (k.sto.upd nT (o := .tup [kV kvs[j].1, kvs[j].2]))
      have rk : Rep X.K (Mall (G.lock a (.frz od (.dK kvs))) r s) io (upd H T (.tup [kV kvs[j].1, kvs[j].2])) (kD kvs[j].1) (kV kvs[j].1) := by
        cases kvs[j].1 with
        | inl i => exact .int i
        | inr z => exact .str z
      refine ⟨{ G.lock a (.frz od (.dK kvs)) with held := held ++ (G.lock a (.frz od (.dK kvs))).held }, r, S, io, _, k', .tup (SqT.of upd_same) (.cons rk (.cons (rd.stp (Stp.upd nT)) .nil)), ?_⟩
      unfold forL at h
      cases e2 : g (.tup [kD kvs[j].1, d]) r with
      | none => rw [e2] at h; exact h
      | some r1 =>
        rw [e2] at h
        intro s2 _ _ k2
        refine ⟨{ G.lock a (.frz od (.dK kvs)) with held := held ++ (G.lock a (.frz od (.dK kvs))).held }, r1, S, io, k2, ?_⟩
        have h : SRes X.K ct (G.lock a (.frz od (.dK kvs))) W D1 (match b r1 S with
          | .nx r' S' => forL g b (ds.drop (j + 1)) r' S'
          | .ct r' S' => forL g b (ds.drop (j + 1)) r' S'
          | .bk r' S' => .nx r' S'
          | x => x) := h
        cases e3 : b r1 S with
        | nx r' S' => rw [e3] at h; exact fun s' io' H' k' => ⟨r', S', io', k', h⟩
        | ct r' S' => rw [e3] at h; exact fun s' io' H' k' => ⟨r', S', io', k', h⟩
        | bk r' S' => rw [e3] at h; exact fun s' io' H' k' => h s' io' H' k'.drop
        | rt d f S' => rw [e3] at h; exact h
        | er c p r' S' => rw [e3] at h; exact fun dx s' io' H' k' e => h dx s' io' H' k'.drop e
        | no => rw [e3] at h; exact h
    · have ei : j = ds.length := by omega
      subst ei
      have hs2 := w.stops H (hfin k)
      rw [← ekl] at hs2
      refine .inl ⟨hs2, ?_⟩
      rw [List.drop_length] at h
      exact h s io H k.drop
  · exact h.elim
end
/-! ### x = y, y one's own: it is x's own from now on, y is known no more -/
section
variable {K : PySem.W.Frag} {ct : CT} {G : Gx} {r : Env} {S : Store} {io : List Addr} {s : St} {H : Hp} {i j : Nat} {d : D} {a : Addr}
theorem Ok.move (k : Ok K ct G r S io s H) (e : r[j]? = some (.own d)) (ea : s[j]? = some (some (V.ref a))) (hij : i ≠ j) (hi : i < r.length) : Ok K ct G ((r.set j .no).set i (.own d)) S io (s.set i (some (V.ref a))) H := by
  obtain ⟨a', e1, ow, m0, n0, h0⟩ := k.own j _ e
  rw [ea] at e1
  cases e1
  have at_ : ∀ {l u}, ((r.set j .no).set i (.own d))[l]? = some u → (l = i ∧ u = .own d) ∨ (l ≠ i ∧ l ≠ j ∧ r[l]? = some u) ∨ (l ≠ i ∧ u = .no) := fun {l u} q => by
    rcases get_set q with ⟨rfl, q, _⟩ | ⟨hl, q⟩
    · exact .inl ⟨rfl, q.symm⟩
    · rcases get_set q with ⟨rfl, q, _⟩ | ⟨hl', q⟩
      · exact .inr (.inr ⟨fun z => hl z.symm, q.symm⟩)
      · exact .inr (.inl ⟨fun z => hl z.symm, fun z => hl' z.symm, q⟩)
  have sl : i < s.length := by rw [← k.len]; exact hi
  have si : (s.set i (some (V.ref a)))[i]? = some (some (V.ref a)) := List.getElem?_set_self sl
  have sn : ∀ {l}, l ≠ i → (s.set i (some (V.ref a)))[l]? = s[l]? := fun h => List.getElem?_set_ne fun z => h z.symm
  have mo : ∀ {x}, Mown G ((r.set j .no).set i (.own d)) (s.set i (some (V.ref a))) x → Mown G r s x := fun {x} h => by
    rcases h with h | ⟨l, u, h1, h2⟩
    · exact .inl h
    · rcases at_ h1 with ⟨rfl, _⟩ | ⟨n1, n2, q⟩ | ⟨_, q⟩
      · rw [si] at h2
        cases h2
        exact .inr ⟨j, d, e, ea⟩
      · rw [sn n1] at h2
        exact .inr ⟨l, u, q, h2⟩
      · cases q
  have ml : ∀ {x}, Mall G ((r.set j .no).set i (.own d)) (s.set i (some (V.ref a))) x → Mall G r s x := fun h => h.elim .inl fun h => .inr (mo h)
  refine ⟨by simp [k.len], fun l f u q => ?_, fun l u q => ?_, fun l l' u u' b q q' z z' => ?_, k.sto.anti fun _ z => ml z, k.stp, k.m0, k.n0, fun p hp => (k.held p hp).mono Kp.refl Kp.refl (fun _ _ n z => n (ml z)) (fun _ _ n z => n (mo z)) io_refl⟩
  · rcases at_ q with ⟨_, q2⟩ | ⟨n1, n2, q2⟩ | ⟨_, q2⟩
    · cases q2
    · obtain ⟨v, h1, h2⟩ := k.arg l f u q2
      exact ⟨v, by rw [sn n1]; exact h1, h2.mono Kp.refl Kp.refl (fun _ _ n z => n (ml z)) (fun _ _ n z => n (mo z)) io_refl⟩
    · cases q2
  · rcases at_ q with ⟨rfl, q2⟩ | ⟨n1, n2, q2⟩ | ⟨_, q2⟩
    · cases q2
      exact ⟨a, si, ow.anti fun _ z => ml z, m0, n0, h0⟩
    · obtain ⟨b, h1, h2, h3⟩ := k.own l u q2
      exact ⟨b, by rw [sn n1]; exact h1, h2.anti fun _ z => ml z, h3⟩
    · cases q2
  · rcases at_ q with ⟨e1, _⟩ | ⟨n1, n2, q2⟩ | ⟨_, q2⟩
    · subst e1
      rcases at_ q' with ⟨e2, _⟩ | ⟨n1', n2', q2'⟩ | ⟨_, q2'⟩
      · exact e2.symm
      · rw [si] at z
        cases z
        rw [sn n1'] at z'
        exact absurd (k.inj l' j u' d a q2' e z' ea) n2'
      · cases q2'
    · rcases at_ q' with ⟨e2, _⟩ | ⟨n1', n2', q2'⟩ | ⟨_, q2'⟩
      · subst e2
        rw [si] at z'
        cases z'
        rw [sn n1] at z
        exact absurd (k.inj l j u d a q2 e z ea) n2
      · rw [sn n1] at z
        rw [sn n1'] at z'
        exact k.inj l l' u u' b q2 q2' z z'
      · cases q2'
    · cases q2
end
def sMove (i j : Nat) : SM := fun r S => match r[j]? with
  | some (.own d) => if i ≠ j ∧ i < r.length then .nx ((r.set j .no).set i (.own d)) S else .no
  | _ => .no
section
variable {X : Cx} {ct : CT} {pos : Pos}
theorem ms_move {i j : Nat} {x y : Str} {p pos' : Pos} (hN : X.N.Nodup) (hi : X.N[i]? = some x) (hx : Loc X.env.scope x) (hy : PE X (.Name y p) (tVar j)) (hs : swapsWith (.Name y p) (some (.Name x pos')) pos.line X.env = pure false := by rfl) (hf : X.fn x = true ∨ X.env.scope.names.lookup x = some .local := by first | exact .inl rfl | exact .inr rfl | assumption) :
    MS X ct (.Assign [.Name x pos'] (.Name y p) pos) (sMove i j) := ⟨fun G W tk _ => (ps_set hN hi hx hy hs hf).imp fun De s H ⟨r, S, io, k, h⟩ => by
  unfold sMove at h
  split at h
  · rename_i d e
    split at h
    · rename_i g
      obtain ⟨a, ea, _⟩ := k.own j _ e
      exact ⟨.ref a, ea, h _ io H (k.move e ea g.1 g.2)⟩
    · exact h.elim
  · exact h.elim⟩
/-! ### {k: (i, j)} of constants -/
def eDict1 (k i j : Int) : EM := fun _ S => .ok (.dic [.inl k] [.tup [.int i, .int j]], .n) S
theorem me_dict1 {k i j : Int} {p1 p2 p3 p4 : Pos} {k1 k2 k3 : Nat} {kt : Nat} : ME X ct (.Dict [some (.Constant (.int k) k1 p1)] [.Tuple [.Constant (.int i) k2 p2, .Constant (.int j) k3 p3] kt p4] pos) (eDict1 k i j) :=
  ⟨fun G W tk => (pe_disp (pps_cons (pe_int (i := k)) (pe_tup (pa_cons (pe_int (i := i)) (pa_cons (pe_int (i := j)) pa_nil))) pps_nil) rfl rfl (by simp) (Nat.le_of_ble_eq_true rfl)).imp fun s H Q ⟨r, S, io, kk, h⟩ p hp => by
    refine ⟨by show 2 ≤ sizeLine; decide, fun t ht => ?_⟩
    have nt : t ≠ p := fun z => by
      subst z
      rw [upd_same] at ht
      cases ht
    have hH : (upd (upd H p (.dK [])) t (.tup [.int i, .int j])) p = some (.dK []) := by
      rw [upd_ne nt.symm, upd_same]
    refine ⟨hH, [(.inl k, .ref t)], rfl, Nat.le_of_ble_eq_true rfl, ?_⟩
    have tH : H t = none := by
      rw [upd_ne nt] at ht
      exact ht
    have s1 : Stp io H io (upd (upd H t (.tup [.int i, .int j])) p (.dK [(.inl k, .ref t)])) := (Stp.upd tH).trans (Stp.upd (by rw [upd_ne nt.symm]; exact hp))
    have eH : upd (upd (upd H p (.dK [])) t (.tup [.int i, .int j])) p (.dK [(.inl k, .ref t)]) = upd (upd H t (.tup [.int i, .int j])) p (.dK [(.inl k, .ref t)]) := by
      funext b
      by_cases hb : b = p
      · subst hb
        rw [upd_same, upd_same]
      · rw [upd_ne hb, upd_ne hb]
        by_cases ht' : b = t
        · subst ht'
          rw [upd_same, upd_same]
        · rw [upd_ne ht', upd_ne ht', upd_ne hb]
    show Q (.ref p) (upd (upd (upd H p (.dK [])) t (.tup [.int i, .int j])) p (.dK [(.inl k, .ref t)]))
    rw [eH]
    have np : ¬ Mall G r s p := fun z => by
      obtain ⟨o, e, _⟩ := kk.mdom p z
      rw [hp] at e
      cases e
    have q1 : StoOk X.K ct (Mall G r s) io S (upd (upd H t (.tup [.int i, .int j])) p (.dK [(.inl k, .ref t)])) := (kk.sto.upd tH).upd (by rw [upd_ne nt.symm]; exact hp)
    have hu : (upd H t (.tup [.int i, .int j])) p = none := by rw [upd_ne nt.symm]; exact hp
    refine h io _ s1 q1 (.ref p) ⟨p, rfl, hp, np, .inr ⟨[.inl k], [.tup [.int i, .int j]], [(.inl k, .ref t)], rfl, upd_same, rfl, .cons (.tup (SqT.of ?_) (.cons (.int i) (.cons (.int j) .nil))) .nil⟩, ?_⟩
    · rw [upd_ne nt, upd_same]
    · exact ((kk.sto.upd tH).off hu).upd hu⟩
/-! ### k not in d; pairs compared; dict(d) -/
def gDNi : D × Fl → D × Fl → Option (D × Fl) := fun a b => match b.1 with
  | .dic ks xs => match keyD a.1 with
    | some k => some (.bl (!(getK ks xs k).isSome), .c)
    | none => none
  | _ => none
def rDNi : R2 := fun x y H Q => ∃ a o, y = .ref a ∧ DGet H a x o ∧ Q (.bl (!o.isSome)) H
theorem ok_dni {K : PySem.W.Frag} {ct : CT} : BinOk K ct rDNi gDNi := by
  rintro M N io S H x y ⟨a, fa⟩ ⟨b, fb⟩ res Q ra rb q md e w
  unfold gDNi at e
  dsimp only at e ra rb
  split at e
  · rename_i ks xs
    split at e
    · rename_i k ek
      cases e
      obtain ⟨p, kvs, rfl, h1, rfl, h2, h3⟩ := dic_of rb
      obtain rfl := key_val ek ra
      have g3 := getK_val k h3
      have w := w _ _ Stp.refl (ResOk.c (.bl _) q)
      refine ⟨p, valV kvs k, rfl, DGet.k h1, ?_⟩
      cases hg : getK (kvs.map Prod.fst) xs k with
      | none =>
        rw [hg] at g3 w
        have g3 : valV kvs k = none := g3
        rw [g3]
        exact w
      | some d =>
        rw [hg] at g3 w
        obtain ⟨v, y1, y2⟩ := g3
        rw [y1]
        exact w
    · cases e
  · cases e
theorem me_dni {a b : Expr} {ma mb : EM} (hu : X.A.units + 64 < cLine) (ha : ME X ct a ma) (hb : ME X ct b mb) (hm : behindInMarks .NotIn b = false := by rfl) : ME X ct (.Compare a [.NotIn] [b] pos) (eBin gDNi ma mb) :=
  ⟨fun G W tk => (pe_cmp (pc_dnotin (hu1 hu) (ha.run G W tk) (hb.run G W tk)) hm).imp fun s H Q h => bin_go ok_dni h⟩
theorem mt_dni {a b : Expr} {ma mb : EM} (hu : X.A.units + 64 < cLine) (ha : ME X ct a ma) (hb : ME X ct b mb) (hm : behindInMarks .NotIn b = false := by rfl) : MT X ct (.Compare a [.NotIn] [b] pos) (tVal (eBin gDNi ma mb)) :=
  ⟨fun G W tk => (pt_cmp (pc_dnotin (hu1 hu) (ha.run G W tk) (hb.run G W tk)) hm).imp fun s H Q h => by
    obtain ⟨r, S, io, k, h⟩ := h
    refine show tOp rDNi (tE X.K ct G W ma) (tE X.K ct G W mb) s H (fun v H' => ∃ b, v = .bl b ∧ Q b H') from bin_go ok_dni ⟨r, S, io, k, Res.first h fun x S1 io1 H1 e1 t1 q1 h1 v1 o1 => ?_⟩
    split at h1
    · rename_i b e
      have o2 := o1.repF
      rw [e] at o2
      exact ⟨b, bl_of o2, h1.here q1⟩
    · exact h1.elim⟩
end
end Mv

set_option maxRecDepth 100000
set_option maxHeartbeats 2000000
/-! Mv22: min of pairs of ints; pairs compared; dict(d); e[::s] -/
namespace MinP
open PySem PyProof.Rows
section
variable {prog : Program} {w : World} {A : Around} {R : Result → Shared → Prop} {I : Addr} {fp wr : List Addr} {n : Nat} {P : Nat → Value → Prop} {St : Nat → Heap → Prop}
/-- what is compared stands in the heap: B -/
structure CmpB (prog : Program) (w : World) (A : Around) (wr : List Addr) (S : Addr) (P : Nat → Value → Prop) (bt : Nat → Nat → Bool) (B : Heap → Prop) : Prop where
  keep : ∀ h h' : Heap, B h → (∀ b o, b ∉ wr → b ≠ S → h.get? b = some o → h'.get? b = some o) → B h'
  cmp : ∀ (i j : Nat) (vi vj : Value) (s : Shared) (Q : Value → Shared → Prop) (E : Value → Shared → Prop), B s.heap → P i vi → P j vj → Q (.bool (bt i j)) s → wpAny (model prog w) A (richCompare .Lt vi vj) Q E s
theorem loop (W : Walks prog w A.in1 I fp wr n P St) (bt : Nat → Nat → Bool) (B : Heap → Prop) (S : Addr) (C : CmpB prog w A.in1 wr S P bt B) (hSf : S ∉ fp) :
    ∀ (k j : Nat) (s : Shared) (vb : Value) (c : Nat), n - (j + 1) = k → j + 1 ≤ n → St (j + 1) s.heap → B s.heap → P (argBest bt j) vb →
    s.heap.get? S = some { cls := .type "list", dict := none, data := .seq #[vb, vb] c, slots := #[] } →
    (∀ v h' tk, P (argBest bt (n - 1)) v → (∀ b o, b ∉ wr → b ≠ S → s.heap.get? b = some o → h'.get? b = some o) → R (.ok (.ret v)) { s with heap := h', toks := tk }) →
    codeAny (model prog w) A (.builtin "min.loop" ⟨[.ref I, .none, .ref S], []⟩) R s := by
  have hSw : S ∉ wr := fun h => hSf (W.sub _ h)
  have nm : (toString "min" ++ toString ".loop" : String) = "min.loop" := by decide
  intro k
  induction k with
  | zero =>
    intro j s vb c hk hj hst hB hPb hS hR
    have hin : j + 1 = n := by omega
    refine codeAny_builtin F.entry_min_loop ?_
    rw [Around.under_plainId F.plain_min_loop _]
    show wpAny _ A.in1 (seqItems? (.ref S) >>= _) _ _ s
    refine wpAny_bind (wpAny_seqItems hS rfl ?_)
    show wpAny _ A.in1 (tryCatch (pyNext (.ref I)) _ >>= _) _ _ s
    refine wpAny_bind (wpAny_tryCatch (W.done s _ _ (hin ▸ hst) fun h' tk hk' => ?_))
    have hS' := hk' S _ hSw hS
    show wpAny _ A.in1 (updateSeq S (fun _ => #[]) >>= _) _ _ _
    refine wpAny_bind ?_
    refine wpAny_updateSeq hS' rfl (wpAny_bind (wpAny_letGo (wpAny_pure ?_)))
    exact hR vb _ tk (by rw [← hin]; exact hPb) fun b o hbw hbS e => (Heap.get?_update_other _ _ (Ne.symm hbS)).trans (hk' b o hbw e)
  | succ k ih =>
    intro j s vb c hk hj hst hB hPb hS hR
    have hlt : j + 1 < n := by omega
    refine codeAny_builtin F.entry_min_loop ?_
    rw [Around.under_plainId F.plain_min_loop _]
    show wpAny _ A.in1 (seqItems? (.ref S) >>= _) _ _ s
    refine wpAny_bind (wpAny_seqItems hS rfl ?_)
    show wpAny _ A.in1 (tryCatch (pyNext (.ref I)) _ >>= _) _ _ s
    refine wpAny_bind (wpAny_tryCatch (W.item (j + 1) s _ _ hlt hst fun v h' tk hP hst' hk' => ?_))
    have hS' := hk' S _ hSw hS
    have hB' : B h' := C.keep _ _ hB fun b o h1 _ e => hk' b o h1 e
    show wpAny _ A.in1 (tryCatch (holding [v, v] (richCompare .Lt v vb >>= _)) _ >>= _) _ _ _
    refine wpAny_bind (wpAny_tryCatch (wpAny_holding (wpAny_bind (C.cmp (j + 1) (argBest bt j) v vb _ _ _ hB' hP hPb ?_))))
    refine wpAny_bind (wpAny_holding (wpAny_truthy_bool ?_))
    refine wpAny_bind (wpAny_letGo (wpAny_pure ?_))
    cases hb : bt (j + 1) (argBest bt j) with
    | true =>
      simp only [if_true]
      refine wpAny_bind ?_
      refine wpAny_updateSeq hS' rfl (wpAny_bind (wpAny_letGo ?_))
      rw [nm]
      refine wpAny_pure ⟨plainId_quiet F.plain_min_loop _, ih (j + 1) _ v _ (by omega) hlt (W.frame _ _ _ hst' fun b hbf o e => ?_) (C.keep _ _ hB' fun b o _ hbS e => (Heap.get?_update_other _ _ (Ne.symm hbS)).trans e) (by simp only [argBest, hb, if_true]; exact hP) (Heap.get?_update_self _ hS' rfl)
        fun v' h'' tk'' hP' hk'' => ?_⟩
      · exact (Heap.get?_update_other _ _ (fun h : S = b => hSf (by rw [h]; exact hbf))).trans e
      · exact hR v' h'' tk'' hP' fun b o hbw hbS e => hk'' b o hbw hbS ((Heap.get?_update_other _ _ (Ne.symm hbS)).trans (hk' b o hbw e))
    | false =>
      simp only [Bool.false_eq_true, if_false]
      refine wpAny_bind (wpAny_letGo ?_)
      rw [nm]
      refine wpAny_pure ⟨plainId_quiet F.plain_min_loop _, ih (j + 1) _ vb c (by omega) hlt hst' hB' (by simp only [argBest, hb, Bool.false_eq_true, if_false]; exact hPb) hS' fun v' h'' tk'' hP' hk'' => ?_⟩
      exact hR v' h'' tk'' hP' fun b o hbw hbS e => hk'' b o hbw hbS (hk' b o hbw e)
theorem first (W : Walks prog w A.in1 I fp wr n P St) (bt : Nat → Nat → Bool) (B : Heap → Prop) (S : Addr) (C : CmpB prog w A.in1 wr S P bt B) (hSf : S ∉ fp) (hn : 0 < n) {s : Shared} {c : Nat} (hst : St 0 s.heap) (hB : B s.heap)
    (hS : s.heap.get? S = some { cls := .type "list", dict := none, data := .seq #[] c, slots := #[] })
    (hR : ∀ v h' tk, P (argBest bt (n - 1)) v → (∀ b o, b ∉ wr → b ≠ S → s.heap.get? b = some o → h'.get? b = some o) → R (.ok (.ret v)) { s with heap := h', toks := tk }) :
    codeAny (model prog w) A (.builtin "min.loop" ⟨[.ref I, .none, .ref S], []⟩) R s := by
  have hSw : S ∉ wr := fun h => hSf (W.sub _ h)
  have nm : (toString "min" ++ toString ".loop" : String) = "min.loop" := by decide
  refine codeAny_builtin F.entry_min_loop ?_
  rw [Around.under_plainId F.plain_min_loop _]
  show wpAny _ A.in1 (seqItems? (.ref S) >>= _) _ _ s
  refine wpAny_bind (wpAny_seqItems hS rfl ?_)
  show wpAny _ A.in1 (tryCatch (pyNext (.ref I)) _ >>= _) _ _ s
  refine wpAny_bind (wpAny_tryCatch (W.item 0 s _ _ hn hst fun v h' tk hP hst' hk' => ?_))
  have hS' := hk' S _ hSw hS
  have hB' : B h' := C.keep _ _ hB fun b o h1 _ e => hk' b o h1 e
  show wpAny _ A.in1 (updateSeq S (fun _ => #[v, v]) >>= _) _ _ _
  refine wpAny_bind ?_
  refine wpAny_updateSeq hS' rfl ?_
  rw [nm]
  refine wpAny_pure ⟨plainId_quiet F.plain_min_loop _, loop W bt B S C hSf _ 0 _ v _ rfl hn (W.frame _ _ _ hst' fun b hbf o e => ?_) (C.keep _ _ hB' fun b o _ hbS e => (Heap.get?_update_other _ _ (Ne.symm hbS)).trans e) hP (Heap.get?_update_self _ hS' rfl) fun v' h'' tk'' hP' hk'' => ?_⟩
  · exact (Heap.get?_update_other _ _ (fun h : S = b => hSf (by rw [h]; exact hbf))).trans e
  · exact hR v' h'' tk'' hP' fun b o hbw hbS e => hk'' b o hbw hbS ((Heap.get?_update_other _ _ (Ne.symm hbS)).trans (hk' b o hbw e))
end
section
variable {prog : Program} {w : World} {A : Around} {E : Value → Shared → Prop} {s : Shared}
theorem call {x : Value} {Q : Value → Shared → Prop}
    (h : wpAny (model prog w) A.in1 (pyIter x) (fun it s₂ => ∃ I fp wr n P St bt B, it = .ref I ∧ Walks prog w A.in1 I fp wr n P St ∧ St 0 s₂.heap ∧ (∀ b ∈ fp, b < s₂.heap.objs.size) ∧ 0 < n ∧ CmpB prog w A.in1 wr s₂.heap.objs.size P bt B ∧ B s₂.heap ∧
      ∀ v h' tk, P (argBest bt (n - 1)) v → (∀ b o, b ∉ wr → s₂.heap.get? b = some o → h'.get? b = some o) → Q v { s₂ with heap := h', toks := tk }) E s) :
    wpAny (model prog w) A (PySem.call (.builtin "min") [x]) Q E s := by
  have nm : (toString "min" ++ toString ".loop" : String) = "min.loop" := by decide
  refine call_function_tree F.kind_min F.plain_min F.entry_min (F.args_min1 _) ?_
  show wpAny _ A.in1 (Builtin.Builtins.bindParams "min" ["key", "default"] 0 ⟨[], []⟩ >>= _) _ _ s
  refine wpAny_bind (wpAny_of_eq (show Builtin.Builtins.bindParams "min" ["key", "default"] 0 ⟨[], []⟩ = pure [none, none] from rfl) ?_)
  refine wpAny_bind (wpAny_pure ?_)
  refine wpAny_bind (wpAny_mono h (fun it s₂ h₂ => ?_) fun _ _ e => e)
  obtain ⟨I, fp, wr, n, P, St, bt, B, rfl, W, hst, hfp, hn, C, hB, hQ⟩ := h₂
  refine wpAny_bind (wpAny_newObj_type ?_)
  have hSf : s₂.heap.objs.size ∉ fp := fun hm => Nat.lt_irrefl _ (hfp _ hm)
  rw [nm]
  refine wpAny_pure ⟨plainId_quiet F.plain_min_loop _, first W bt B s₂.heap.objs.size C hSf hn (W.frame _ _ _ hst fun b _ o e => Heap.get?_push_of_some _ e) (C.keep _ _ hB fun b o _ _ e => Heap.get?_push_of_some _ e) (Heap.get?_push_size _ rfl) fun v h' tk hP hk => ?_⟩
  exact hQ v h' tk hP fun b o hbw e => hk b o hbw (Nat.ne_of_lt (Heap.lt_size e)) (Heap.get?_push_of_some _ e)
end
end MinP
namespace Mv
open PySem PySem.Spec PyProof.Rows L2
theorem lexLt_B (p q : Int × Int) : HT.lexLt [p.1, p.2] [q.1, q.2] = SrtO.lexB p q := by
  unfold HT.lexLt SrtO.lexB
  by_cases h : p.1 = q.1
  · rw [if_pos h, if_pos h]
    unfold HT.lexLt
    by_cases h2 : p.2 = q.2
    · rw [if_pos h2]
      unfold HT.lexLt
      exact (decide_eq_false (by omega)).symm
    · rw [if_neg h2]
  · rw [if_neg h, if_neg h]
theorem argBest_lex (k : Nat → Int × Int) : ∀ m, argBest (fun i j => SrtO.lexB (k i) (k j)) m ≤ m ∧ ∀ j ≤ m, leP (k (argBest (fun i j => SrtO.lexB (k i) (k j)) m)) (k j) = true
  | 0 => ⟨Nat.le_refl _, fun j hj => by
    obtain rfl : j = 0 := by omega
    exact leP_iff.mpr (by show _ < _ ∨ _; simp [argBest])⟩
  | m + 1 => by
    obtain ⟨h1, h2⟩ := argBest_lex k m
    unfold argBest
    cases hb : SrtO.lexB (k (m + 1)) (k (argBest (fun i j => SrtO.lexB (k i) (k j)) m)) with
    | true =>
      rw [if_pos rfl]
      refine ⟨Nat.le_refl _, fun j hj => ?_⟩
      have q := SrtO.lexB_iff.mp hb
      by_cases e : j = m + 1
      · subst e
        exact leP_iff.mpr (by omega)
      · have := leP_iff.mp (h2 j (by omega))
        exact leP_iff.mpr (by omega)
    | false =>
      rw [if_neg (by decide)]
      refine ⟨by omega, fun j hj => ?_⟩
      have q := SrtO.lexB_no.mp hb
      by_cases e : j = m + 1
      · subst e
        exact leP_iff.mpr (by omega)
      · exact h2 j (by omega)
def rMinPT (K : PySem.W.Frag) : List V → Hp → VK → Prop := fun vs H Q => ∃ (a : Addr) (xs : List V) (ps : List (Int × Int)), vs = [V.ref a] ∧ SqL K H a xs ∧ Paired (PrV K H) xs ps ∧ ps ≠ [] ∧
  ∀ x p, p ∈ ps → (∀ q ∈ ps, leP p q = true) → PrV K H x p → Q x H
theorem paired_len {K : PySem.W.Frag} {H : Hp} {xs : List V} {ps : List (Int × Int)} (h : Paired (PrV K H) xs ps) : xs.length = ps.length := by
  induction h with
  | nil => rfl
  | cons h1 h2 ih => rw [List.length_cons, List.length_cons, ih]
theorem paired_at {K : PySem.W.Frag} {H : Hp} {xs : List V} {ps : List (Int × Int)} (h : Paired (PrV K H) xs ps) : ∀ (i : Nat) (x : V), xs[i]? = some x → ∃ p, ps[i]? = some p ∧ PrV K H x p := by
  induction h with
  | nil => intro i x e; simp at e
  | @cons y p xs ps h1 h2 ih =>
    intro i x e
    cases i with
    | zero =>
      cases e
      exact ⟨p, rfl, h1⟩
    | succ i => exact ih i x e
theorem vals_at {xs : List V} {us : List Value} (r : Vals xs us) : ∀ (i : Nat) (u : Value), us[i]? = some u → ∃ x, xs[i]? = some x ∧ RelV x u := by
  induction r with
  | nil => intro i u e; simp at e
  | @cons x u xs us h1 h2 ih =>
    intro i v e
    cases i with
    | zero =>
      cases e
      exact ⟨x, rfl, h1⟩
    | succ i => exact ih i v e
theorem cr_minPT {X : Cx} (hc : X.calm = true) (hu : X.A.units + 64 < cLine) : CallR X (.builtin "min") (rMinPT X.K) := by
  intro pins s σ H vs us Q I r h
  obtain ⟨a, xs, ps, rfl, hs, hp, hne, q⟩ := h
  obtain ⟨its, rv, hl, hz⟩ := I.list hs
  rw [Vals.ref1 r]
  have hlen := paired_len hp
  have hlen2 := rv.length
  have at_ : ∀ (i : Nat) (u : Value), its[i]? = some u → ∃ p x t, ps[i]? = some p ∧ xs[i]? = some x ∧ x = V.ref t ∧ u = Value.ref t ∧ SqT X.K H t [.int p.1, .int p.2] := fun i u e => by
    obtain ⟨x, e1, rx⟩ := vals_at rv i u e
    obtain ⟨p, e2, t, rfl, e3⟩ := paired_at hp i x e1
    exact ⟨p, _, t, e2, e1, rfl, rx, e3⟩
  have hlt : a < s.heap.objs.size := by obtain ⟨_, e, _⟩ := hl.isList; exact Heap.lt_size e
  refine MinP.call (wpAny_pyIter_list hl.isList ?_)
  refine ⟨_, _, _, _, _, _, fun i j => SrtO.lexB ((ps[i]?).getD (0, 0)) ((ps[j]?).getD (0, 0)), fun h => ∀ (i : Nat) (u : Value), its[i]? = some u → ∃ t p its2, u = Value.ref t ∧ t < s.heap.objs.size ∧ ps[i]? = some p ∧ h.IsTuple t its2 ∧ IntsAre its2.toList [p.1, p.2], rfl,
    Walks.list (A := X.A.in1) (I.ok.hd hc) s.heap.objs.size a (Nat.ne_of_lt hlt) its.toArray, ⟨⟨_, Heap.get?_push_size _ rfl, rfl, rfl⟩, hl.isList.push _⟩, fun b hb => ?_, ?_, ⟨fun h h' hB hk i u e => ?_, fun i j vi vj s' Q' E' hB hi hj hq => ?_⟩, fun i u e => ?_, fun v h' tk hP hk => ?_⟩
  · show b < (s.heap.push _).objs.size
    rw [Heap.size_push]
    rcases List.mem_cons.mp hb with rfl | hb
    · exact Nat.lt_succ_self _
    · rw [List.mem_singleton.mp hb]
      exact Nat.lt_succ_of_lt hlt
  · have h0 : 0 < ps.length := List.length_pos_iff.mpr hne
    show 0 < its.toArray.size
    rw [List.size_toArray, ← hlen2, hlen]
    exact h0
  · obtain ⟨t, p, its2, e1, e2, e3, ⟨o, e4, e5⟩, e6⟩ := hB i u e
    refine ⟨t, p, its2, e1, e2, e3, ⟨o, hk t o (fun z => ?_) (fun z => ?_) e4, e5⟩, e6⟩
    · rw [List.mem_singleton.mp z] at e2
      exact Nat.lt_irrefl _ e2
    · have z : t = (s.heap.push _).objs.size := z
      rw [Heap.size_push] at z
      rw [z] at e2
      exact Nat.lt_irrefl _ (Nat.lt_trans (Nat.lt_succ_self _) e2)
  · have hi : its[i]? = some vi := by simpa using hi
    have hj : its[j]? = some vj := by simpa using hj
    obtain ⟨t, p, its2, rfl, _, e3, e4, e5⟩ := hB i vi hi
    obtain ⟨t', p', its2', rfl, _, e3', e4', e5'⟩ := hB j vj hj
    rw [e3, e3'] at hq
    show wpAny (model X.prog X.w) X.A.in1 (compareOp .Lt (.ref t) (.ref t')) Q' E' s'
    refine HT.lt_tupInts e4 e4' e5 e5' ?_ ?_
    · show X.A.in1.units < cLine
      exact Nat.lt_of_le_of_lt (show X.A.in1.units ≤ X.A.units + 1 from Nat.le_refl _) (hu1 hu)
    · rw [lexLt_B]
      exact hq
  · obtain ⟨p, x, t, e1, e2, rfl, rfl, e3⟩ := at_ i u e
    obtain ⟨its2, r2, p2, _⟩ := I.tuple e3
    have lt : t < s.heap.objs.size := by
      obtain ⟨o, e, _⟩ := p2
      exact Heap.lt_size e
    refine ⟨t, p, its2.toArray, rfl, lt, e1, ?_, intsAre_of (ns := [p.1, p.2]) r2⟩
    obtain ⟨o, e4, e5⟩ := p2
    exact ⟨o, Heap.get?_push_of_some _ e4, e5⟩
  · have hP : its[argBest (fun i j => SrtO.lexB ((ps[i]?).getD (0, 0)) ((ps[j]?).getD (0, 0))) (its.toArray.size - 1)]? = some v := by simpa using hP
    obtain ⟨p, x, t, e1, e2, rfl, rfl, e3⟩ := at_ _ _ hP
    obtain ⟨b1, b2⟩ := argBest_lex (fun i => (ps[i]?).getD (0, 0)) (its.toArray.size - 1)
    refine ⟨.ref t, H, I.kept fun b o e => hk b o (fun z => ?_) (Heap.get?_push_of_some _ e), rfl, q _ p (List.mem_of_getElem? e1) (fun y hy => ?_) ⟨t, rfl, e3⟩⟩
    · rw [List.mem_singleton.mp z] at e
      exact absurd (Heap.lt_size e) (Nat.lt_irrefl _)
    · obtain ⟨j, hj⟩ := List.getElem?_of_mem hy
      have hjl := (List.getElem?_eq_some_iff.mp hj).1
      have := b2 j (by rw [List.size_toArray]; omega)
      rw [e1, hj] at this
      exact this
section
variable {K : PySem.W.Frag} {ct : CT} {M : Addr → Prop} {io : List Addr} {H : Hp}
def minP (ps : List (Int × Int)) : Option (Int × Int) := (sortP ps).head?
theorem minP_of {ps : List (Int × Int)} {p : Int × Int} (h : p ∈ ps) (u : ∀ q ∈ ps, leP p q = true) : minP ps = some p := by
  have m := (sortP_perm ps).mem_iff.mpr h
  have s := sortP_sorted ps
  have pm := sortP_perm ps
  unfold minP
  generalize sortP ps = L at *
  cases L with
  | nil => cases m
  | cons x L =>
    have h1 := leP_iff.mp (u x (pm.mem_iff.mp (.head _)))
    rcases List.mem_cons.mp m with e | m
    · rw [e]
      rfl
    · have h2 := leP_iff.mp ((List.pairwise_cons.mp s).1 p m)
      have : x = p := Prod.ext (by omega) (by omega)
      rw [this]
      rfl
def gMinP : List (Fl × D) → Option (D × Fl) := fun as => match as with
  | [(_, .lst ds)] => match pairsOf ds with
    | some ps => (minP ps).map fun p => (pD p, .c)
    | none => none
  | _ => none
theorem ok_minP : CalOk K ct (rMinPT K) gMinP := by
  intro M N io S H vs as res Q o q md e w
  unfold gMinP at e
  split at e
  · rename_i f ds
    split at e
    · rename_i ps e1
      obtain ⟨p, e2, rfl⟩ := Option.map_eq_some_iff.mp e
      obtain ⟨v, rfl, r⟩ := args1 o
      obtain ⟨a, us, rfl, h1, h2⟩ := lst_of r
      rw [pairs_eq e1] at h2
      refine ⟨a, us, ps, rfl, SqL.of h1, reps_prv h2, fun z => ?_, fun x p' hp' hu ⟨t, ex, et⟩ => ?_⟩
      · subst z
        have e2 : (sortP []).head? = some p := e2
        have : sortP [] = [] := List.length_eq_zero_iff.mp (by rw [(sortP_perm []).length_eq]; rfl)
        rw [this] at e2
        cases e2
      · rw [minP_of hp' hu] at e2
        cases e2
        exact w _ _ Stp.refl (ResOk.c (by rw [ex]; exact .tup et (.cons (.int _) (.cons (.int _) .nil))) q)
    · cases e
  · cases e
/-- t < u, tuples of ints -/
def gLtP : D × Fl → D × Fl → Option (D × Fl) := fun a b => match a.1, b.1 with
  | .tup xs, .tup ys => match intsOf xs, intsOf ys with
    | some is, some js => some (.bl (HT.lexLt is js), .c)
    | _, _ => none
  | _, _ => none
theorem ok_ltP : BinOk K ct (rLtT K) gLtP := by
  rintro M N io S H x y ⟨a, fa⟩ ⟨b, fb⟩ res Q ra rb q md e w
  unfold gLtP at e
  dsimp only at e ra rb
  split at e
  · rename_i xs ys
    split at e
    · rename_i is js e1 e2
      cases e
      obtain ⟨p, vs, rfl, h1, h2⟩ := tup_of ra
      obtain ⟨p', vs', rfl, h1', h2'⟩ := tup_of rb
      rw [intsOf_eq e1] at h2
      rw [intsOf_eq e2] at h2'
      rw [h2.ints] at h1
      rw [h2'.ints] at h1'
      exact ⟨p, p', is, js, rfl, rfl, h1, h1', w _ _ Stp.refl (ResOk.c (.bl _) q)⟩
    · cases e
  · cases e
/-- dict(d) -/
def gDictD : List (Fl × D) → Option (D × Fl) := fun as => match as with
  | [(f, .dic ks xs)] => if f = .t then none else some (.dic ks xs, .n)
  | _ => none
theorem ok_dictD : CalOk K ct (fun xs H Q => ∃ (a : Addr) (kvs : List (Key × V)), xs = [.ref a] ∧ Rd H a (.dK kvs) ∧ ∀ p, H p = none → Q (.ref p) (upd H p (.dK kvs))) gDictD := by
  intro M N io S H vs as res Q o q md e w
  unfold gDictD at e
  split at e
  · rename_i f ks xs
    split at e
    · cases e
    · rename_i g
      cases e
      obtain ⟨v, rfl, r⟩ := args1 o
      obtain ⟨a, kvs, rfl, h1, rfl, h2, _⟩ := dic_of r
      refine ⟨a, kvs, rfl, .inl h1, fun p hp => w _ _ (Stp.upd hp) ⟨p, rfl, hp, fun z => ?_, .inr ⟨_, xs, kvs, rfl, upd_same, rfl, ((h2 g).off hp).stp (Stp.upd hp)⟩, (q.off hp).upd hp⟩⟩
      obtain ⟨o, e, _⟩ := md p z
      rw [hp] at e
      cases e
  · cases e
end
end Mv

set_option maxRecDepth 100000
set_option maxHeartbeats 2000000
/-! Mv23: e[::s], s 1 or -1 -/
namespace Mv
open PySem PySem.Spec PyProof.Rows L2
theorem pick_one (items : List Value) : slicePick items.toArray none none (some 1) = items.toArray := by
  have e : slicePick items.toArray none none (some 1) = slicePick items.toArray none none none := rfl
  rw [e, slicePick_cut]
  congr 1
  rw [HT.sIx_none, HT.sIx_none, Nat.sub_zero, List.drop_zero]
  exact List.take_of_length_le (Nat.le_refl _)
def tStp (K : PySem.W.Frag) (te ts : TE) : TE := fun σ H Q => te σ H fun x H1 => tPart ts σ H1 fun o H2 => ∃ y, o = some y ∧ ∃ a xs, x = .ref a ∧ SqL K H2 a xs ∧
  ((y = -1 ∧ ∀ p, H2 p = none → Q (.ref p) (upd H2 p (.lst xs.reverse))) ∨ (y = 1 ∧ ∀ p, H2 p = none → Q (.ref p) (upd H2 p (.lst xs))))
section
variable {X : Cx} {ct : CT} {pos : Pos}
theorem pe_stp {e st : Expr} {te ts : TE} {p3 : Pos} (he : PE X e te) (hst : PE X st ts) : PE X (.Subscript e (.Slice none none (some st) p3) pos) (tStp X.K te ts) := by
  refine ⟨fun pins s σ H Q I h => ?_⟩
  refine Subscript_ (thn (he.run pins s σ H _ I h) fun v s1 ⟨x, H1, I1, r1, q1⟩ => ?_)
  refine wpAny_Slice (thn (po_none.run pins s1 σ H1 (fun o H2 => o = none ∧ H2 = H1) I1 ⟨rfl, rfl⟩) fun vl s2 ⟨l, H2, I2, pl, el, e2⟩ => ?_)
  subst el e2
  refine thn (po_none.run pins s2 σ H2 (fun o H3 => o = none ∧ H3 = H2) I2 ⟨rfl, rfl⟩) fun vu s3 ⟨u, H3, I3, pu, eu, e3⟩ => ?_
  subst eu e3
  refine thn ((po_some hst).run pins s3 σ H3 _ I3 q1) fun vs s4 ⟨o, H4, I4, ps, y, eo, a, xs, ex, hx, hq⟩ => ?_
  subst eo ex
  cases r1
  have I5 : Inv X pins σ H4 { s4 with heap := s4.heap.push { cls := .type "slice", data := .fields #[vl, vu, vs] } } := I4.kept (t' := s4.toks) fun b ob q => Heap.get?_push_of_some _ q
  obtain ⟨its, r, htl, hz⟩ := I5.list hx
  have hlen := r.length
  show wpAny (model X.prog X.w) X.A (subscriptTail e (.Slice none none (some st) p3) (.ref a) (.ref s4.heap.objs.size)) (EP X pins σ Q) X.xe { s4 with heap := s4.heap.push { cls := .type "slice", data := .fields #[vl, vu, vs] } }
  refine tail_any (ops := [.ref a, .ref s4.heap.objs.size]) htl.isList.typeIs (PySem.slot_list_getitem.lookup) ?_ (by with_unfolding_all rfl)
  rcases hq with ⟨rfl, q⟩ | ⟨rfl, q⟩
  · refine wpAny_getItem_list_slice htl.isList (Heap.IsSliceOf.new _ vl vu vs) pl pu ps (by decide) ?_ (by rw [List.size_toArray]; omega)
    rw [PySem.W.krv_pick]
    refine ⟨.ref _, _, I5.laid (t' := s4.toks) (o := .lst xs.reverse) (fun b ob q => Heap.get?_push_of_some _ q) (Nat.le_refl _) ?_, rfl, q _ (I5.hok.fresh (Nat.le_refl _))⟩
    exact ⟨by rw [List.length_reverse]; exact hz, _, 0, r.reverse, Heap.get?_push_size _ rfl⟩
  · refine wpAny_getItem_list_slice htl.isList (Heap.IsSliceOf.new _ vl vu vs) pl pu ps (by decide) ?_ (by rw [List.size_toArray]; omega)
    rw [pick_one]
    refine ⟨.ref _, _, I5.laid (t' := s4.toks) (o := .lst xs) (fun b ob q => Heap.get?_push_of_some _ q) (Nat.le_refl _) ?_, rfl, q _ (I5.hok.fresh (Nat.le_refl _))⟩
    exact ⟨hz, _, 0, r, Heap.get?_push_size _ rfl⟩
def gStp : D × Fl → D × Fl → Option (D × Fl) := fun a b => match a.1, b.1 with
  | .lst xs, .int i => if i = -1 then some (.lst xs.reverse, if a.2 = .t then .t else .n) else if i = 1 then some (.lst xs, if a.2 = .t then .t else .n) else none
  | _, _ => none
theorem me_stp {e st : Expr} {me ms : EM} {p3 : Pos} (he : ME X ct e me) (hs : ME X ct st ms) : ME X ct (.Subscript e (.Slice none none (some st) p3) pos) (eBin gStp me ms) :=
  ⟨fun G W tk => (pe_stp (he.run G W tk) (hs.run G W tk)).imp fun s H Q ⟨r, S, io, k, h⟩ => by
    refine ⟨r, S, io, k, Res.first h fun x S1 io1 H1 e1 t1 q1 h1 v1 o1 => ?_⟩
    have k1 := k.step t1 q1
    refine ⟨r, S1, io1, k1, Res.first h1 fun y S2 io2 H2 e2 t2 q2 h2 v2 o2 => ?_⟩
    have k2 := k1.step t2 q2
    unfold lift0 at h2
    split at h2
    · rename_i res eg
      unfold gStp at eg
      split at eg
      · rename_i xs i ex ey
        have r1 := o1.repF.stp t2
        have r2 := o2.repF
        rw [ex] at r1
        rw [ey] at r2
        obtain ⟨a, us, rfl, w1, w2, w3⟩ := seq_both (d := .lst xs) rfl r1
        refine ⟨i, int_of r2, i, rfl, a, us, rfl, w1, ?_⟩
        split at eg
        · rename_i gi
          cases eg
          refine .inl ⟨gi, fun p hp => h2.go (Stp.upd hp) (q2.upd hp) _ ?_⟩
          exact new_lstT hp (t1.free (t2.free hp)) k2.mdom q2 (fun z => (w2 z).rev) w3.rev
        · split at eg
          · rename_i gi
            cases eg
            refine .inr ⟨gi, fun p hp => h2.go (Stp.upd hp) (q2.upd hp) _ ?_⟩
            exact new_lstT hp (t1.free (t2.free hp)) k2.mdom q2 w2 w3
          · cases eg
      · cases eg
    · exact h2.elim⟩
end
end Mv

set_option maxRecDepth 100000
set_option maxHeartbeats 2000000
/-! Mv24: == of lists of lists of ints and of dicts of ints that are alike -/
namespace Mv
open PySem PySem.Spec PyProof.Rows L2
def elEq : D → D → Bool
  | .lst xs, .lst ys => match intsOf xs, intsOf ys with
    | some is, some js => decide (is = js)
    | _, _ => false
  | .dic ks xs, .dic ls ys => decide (ks.length = ls.length) && alikeD ls ys ks xs
  | _, _ => false
def elsEq : List D → List D → Bool
  | [], [] => true
  | x :: xs, y :: ys => elEq x y && elsEq xs ys
  | _, _ => false
def gEqV : D × Fl → D × Fl → Option (D × Fl) := fun a b => match a.1, b.1 with
  | .lst xs, .lst ys => if elsEq xs ys = true then some (.bl true, .c) else none
  | _, _ => none
section
variable {K : PySem.W.Frag} {ct : CT} {M : Addr → Prop} {io : List Addr} {H : Hp}
theorem ints_paired : ∀ is : List Int, Paired (EqV K H 1) (is.map V.int) (is.map V.int)
  | [] => .nil
  | i :: is => .cons (.inl ⟨rfl, rfl⟩) (ints_paired is)
theorem elEq_val {x y : D} {v u : V} (hx : Rep K M io H x v) (hy : Rep K M io H y u) (e : elEq x y = true) : EqV K H 2 v u := by
  unfold elEq at e
  split at e
  · rename_i xs ys
    split at e
    · rename_i is js e1 e2
      obtain rfl := of_decide_eq_true e
      cases hx with
      | @lst a vs _ h1 _ h2 =>
        cases hy with
        | @lst b us _ h3 _ h4 =>
          rw [intsOf_eq e1] at h2
          rw [intsOf_eq e2] at h4
          rw [h2.ints] at h1
          rw [h4.ints] at h3
          exact .inr (.inr (.inl ⟨a, b, _, _, rfl, rfl, SqL.of h1, SqL.of h3, ints_paired is⟩))
    · cases e
  · rename_i ks xs ls ys
    rw [Bool.and_eq_true, decide_eq_true_eq] at e
    cases hx with
    | @dic a kvs _ _ h1 _ hk h2 =>
      cases hy with
      | @dic b lvs _ _ h3 _ hl h4 =>
        subst hk hl
        rw [List.length_map, List.length_map] at e
        have al := alike_val h4 h2 e.2
        exact .inr (.inr (.inr ⟨a, b, kvs, lvs, rfl, rfl, h1, h3, e.1, fun p hp => ⟨p.2, (al p hp).1, .inl ⟨rfl, (al p hp).2⟩⟩⟩))
  · cases e
theorem elsEq_val : ∀ {xs ys : List D} {vs us : List V}, Reps K M io H xs vs → Reps K M io H ys us → elsEq xs ys = true → Paired (EqV K H 2) vs us
  | _, _, _, _, .nil, .nil, _ => .nil
  | _, _, _, _, .cons h1 t1, .cons h2 t2, e => by
    have e : (_ && _) = true := e
    rw [Bool.and_eq_true] at e
    exact .cons (elEq_val h1 h2 e.1) (elsEq_val t1 t2 e.2)
  | _, _, _, _, .nil, .cons _ _, e => by cases e
  | _, _, _, _, .cons _ _, .nil, e => by cases e
theorem ok_eqV : BinOk K ct (rEqV K) gEqV := by
  rintro M N io S H x y ⟨a, fa⟩ ⟨b, fb⟩ res Q ra rb q md e w
  unfold gEqV at e
  dsimp only at e ra rb
  split at e
  · rename_i xs ys
    split at e
    · rename_i g
      cases e
      obtain ⟨p, vs, rfl, h1, h2⟩ := lst_of ra
      obtain ⟨p', vs', rfl, h1', h2'⟩ := lst_of rb
      exact ⟨2, by decide, .inl ⟨p, p', vs, vs', rfl, rfl, SqL.of h1, SqL.of h1', elsEq_val h2 h2' g⟩, w _ _ Stp.refl (ResOk.c (.bl _) q)⟩
    · cases e
  · cases e
end
end Mv

set_option maxRecDepth 100000
/-! Ev: the combinators applied, with named continuations, so that simp only runs a mirror from left to right -/
namespace Ev
open Mv
open PySem (Str sizeLine sizeLine_eq)
open L2 (atI ixN)
section
variable {α β : Type}
@[simp] theorem bind_ok (a : α) (S : Store) (k : α → Store → Rs β) : (Rs.ok a S).bind k = k a S := Eq.trans rfl rfl
@[simp] theorem bind_er (c : Nat) (p : List D) (S : Store) (k : α → Store → Rs β) : (Rs.er c p S : Rs α).bind k = .er c p S := Eq.trans rfl rfl
@[simp] theorem sb_ok (a : α) (S : Store) (r : Env) (k : α → Store → SR) : (Rs.ok a S).sb r k = k a S := Eq.trans rfl rfl
@[simp] theorem sb_er (c : Nat) (p : List D) (S : Store) (r : Env) (k : α → Store → SR) : (Rs.er c p S : Rs α).sb r k = .er c p r S := Eq.trans rfl rfl
end
@[simp] theorem sr_nx (r : Env) (S : Store) (k : SM) : (SR.nx r S).bind k = k r S := Eq.trans rfl rfl
@[simp] theorem sr_rt (d : D) (f : Fl) (S : Store) (k : SM) : (SR.rt d f S).bind k = .rt d f S := Eq.trans rfl rfl
@[simp] theorem sr_bk (r : Env) (S : Store) (k : SM) : (SR.bk r S).bind k = .bk r S := Eq.trans rfl rfl
@[simp] theorem sr_ct (r : Env) (S : Store) (k : SM) : (SR.ct r S).bind k = .ct r S := Eq.trans rfl rfl
@[simp] theorem sr_er (c : Nat) (p : List D) (r : Env) (S : Store) (k : SM) : (SR.er c p r S).bind k = .er c p r S := Eq.trans rfl rfl
@[simp] theorem l0_some {α : Type} (a : α) (S : Store) : lift0 (some a) S = .ok a S := Eq.trans rfl rfl
abbrev B2 := D × Fl → D × Fl → Option (D × Fl)
variable (r : Env) (S S1 : Store) (ma mb mc m mo : EM) (t : AM) (tt ta tb : TM) (g g' : B2) (i j : Nat) (f f' f'' : Fl) (d d' : D) (a b : D × Fl)
/-! names -/
def kVar : Option Slot → Store → Rs (D × Fl)
  | some (.ar f d), S => .ok (d, inf f) S
  | some (.own d), S => .ok (d, .o) S
  | _, _ => .no
@[simp] theorem var_ap : eVar i r S = kVar r[i]? S := by
  unfold eVar kVar
  rcases r[i]? with _ | _ | _ | _ <;> rfl
@[simp] theorem kvar_ar : kVar (some (.ar f d)) S = .ok (d, inf f) S := Eq.trans rfl rfl
@[simp] theorem kvar_own : kVar (some (.own d)) S = .ok (d, .o) S := Eq.trans rfl rfl
@[simp] theorem inf_c : inf .c = .c := Eq.trans rfl rfl
@[simp] theorem inf_n : inf .n = .c := Eq.trans rfl rfl
@[simp] theorem inf_b : inf .b = .b := Eq.trans rfl rfl
@[simp] theorem inf_o : inf .o = .b := Eq.trans rfl rfl
@[simp] theorem inf_t : inf .t = .t := Eq.trans rfl rfl
@[simp] theorem outf_c : outf .c = .c := Eq.trans rfl rfl
@[simp] theorem outf_n : outf .n = .n := Eq.trans rfl rfl
@[simp] theorem outf_b : outf .b = .o := Eq.trans rfl rfl
@[simp] theorem outf_o : outf .o = .o := Eq.trans rfl rfl
@[simp] theorem outf_t : outf .t = .t := Eq.trans rfl rfl
@[simp] theorem gnd_non : gnd .non = true := Eq.trans rfl rfl
@[simp] theorem gnd_bl (x : Bool) : gnd (.bl x) = true := Eq.trans rfl rfl
@[simp] theorem gnd_int (x : Int) : gnd (.int x) = true := Eq.trans rfl rfl
@[simp] theorem gnd_str (x : Str) : gnd (.str x) = true := Eq.trans rfl rfl
@[simp] theorem gnd_ins (n : Nat) : gnd (.ins n) = true := Eq.trans rfl rfl
@[simp] theorem tyD_non : tyD .non = some "NoneType" := Eq.trans rfl rfl
@[simp] theorem tyD_bl (x : Bool) : tyD (.bl x) = some "bool" := Eq.trans rfl rfl
@[simp] theorem tyD_int (x : Int) : tyD (.int x) = some "int" := Eq.trans rfl rfl
@[simp] theorem tyD_str (x : Str) : tyD (.str x) = some "str" := Eq.trans rfl rfl
@[simp] theorem tyD_lst (x : List D) : tyD (.lst x) = some "list" := Eq.trans rfl rfl
@[simp] theorem tyD_frz (x : List D) : tyD (.frz x) = some "list" := Eq.trans rfl rfl
@[simp] theorem tyD_tup (x : List D) : tyD (.tup x) = some "tuple" := Eq.trans rfl rfl
@[simp] theorem tyD_dic (k) (x : List D) : tyD (.dic k x) = some "dict" := Eq.trans rfl rfl
@[simp] theorem isNon_non : isNon .non = true := Eq.trans rfl rfl
@[simp] theorem isNon_bl (x : Bool) : isNon (.bl x) = false := Eq.trans rfl rfl
@[simp] theorem isNon_int (x : Int) : isNon (.int x) = false := Eq.trans rfl rfl
@[simp] theorem isNon_str (x : Str) : isNon (.str x) = false := Eq.trans rfl rfl
@[simp] theorem isNon_lst (x : List D) : isNon (.lst x) = false := Eq.trans rfl rfl
@[simp] theorem isNon_tup (x : List D) : isNon (.tup x) = false := Eq.trans rfl rfl
@[simp] theorem isNon_frz (x : List D) : isNon (.frz x) = false := Eq.trans rfl rfl
@[simp] theorem isNon_dic (k) (x : List D) : isNon (.dic k x) = false := Eq.trans rfl rfl
@[simp] theorem isNon_ins (n : Nat) : isNon (.ins n) = false := Eq.trans rfl rfl
@[simp] theorem okI_c : okI .c = true := Eq.trans rfl rfl
@[simp] theorem okI_n : okI .n = true := Eq.trans rfl rfl
@[simp] theorem okI_b : okI .b = true := Eq.trans rfl rfl
@[simp] theorem isInt_non : isiInt "NoneType" = some false := Eq.trans rfl rfl
@[simp] theorem isInt_bl : isiInt "bool" = some true := Eq.trans rfl rfl
@[simp] theorem isInt_int : isiInt "int" = some true := Eq.trans rfl rfl
@[simp] theorem isInt_str : isiInt "str" = some false := Eq.trans rfl rfl
@[simp] theorem isInt_list : isiInt "list" = some false := Eq.trans rfl rfl
@[simp] theorem isInt_tuple : isiInt "tuple" = some false := Eq.trans rfl rfl
@[simp] theorem isInt_dict : isiInt "dict" = some false := Eq.trans rfl rfl
@[simp] theorem c_ap : eC d r S = .ok (d, .c) S := Eq.trans rfl rfl
/-! operators -/
def kB1 (g : B2) (mb : EM) (r : Env) (a : D × Fl) (S : Store) : Rs (D × Fl) := (mb r S).bind fun b S2 => lift0 (g a b) S2
def kB2 (g : B2) (a b : D × Fl) (S : Store) : Rs (D × Fl) := lift0 (g a b) S
@[simp] theorem bin_ap : eBin g ma mb r S = (ma r S).bind (kB1 g mb r) := Eq.trans rfl rfl
@[simp] theorem b1_ap : kB1 g mb r a S = (mb r S).bind (kB2 g a) := Eq.trans rfl rfl
@[simp] theorem b2_ap : kB2 g a b S = lift0 (g a b) S := Eq.trans rfl rfl
@[simp] theorem int_ap (c : Int → Int → Bool) (h : Int → Int → D) (x y : Int) : gInt c h (.int x, f) (.int y, f') = if c x y then some (h x y, .c) else none := Eq.trans rfl rfl
@[simp] theorem add_ii (x y : Int) : gAdd (.int x, f) (.int y, f') = some (.int (x + y), .c) := Eq.trans rfl rfl
@[simp] theorem add_ss (x y : Str) : gAdd (.str x, f) (.str y, f') = if x.length + y.length ≤ sizeLine then some (.str (x ++ y), .c) else none := Eq.trans rfl rfl
@[simp] theorem add_ll (x y : List D) : gAdd (.lst x, f) (.lst y, f') = if f ≠ .t ∧ f' ≠ .t ∧ x.length + y.length ≤ sizeLine then some (.lst (x ++ y), .n) else none := Eq.trans rfl rfl
@[simp] theorem mul_ii (x y : Int) : gMul (.int x, f) (.int y, f') = if mulOk x y then some (.int (x * y), .c) else none := Eq.trans rfl rfl
@[simp] theorem mul_li (x : List D) (y : Int) : gMul (.lst x, f) (.int y, f') = if f ≠ .t ∧ -(2 ^ 63) ≤ y ∧ y < 2 ^ 63 ∧ x.length * y.toNat ≤ sizeLine then some (.lst (List.replicate y.toNat x).flatten, .n) else none := Eq.trans rfl rfl
@[simp] theorem eq_ap (neg : Bool) : gEq neg a b = (eqO a.1 b.1).map fun k => (.bl (if neg then !k else k), .c) := Eq.trans rfl rfl
@[simp] theorem eqO_ii (x y : Int) : eqO (.int x) (.int y) = some (decide (x = y)) := Eq.trans rfl rfl
@[simp] theorem eqO_ss (x y : Str) : eqO (.str x) (.str y) = some (decide (x = y)) := Eq.trans rfl rfl
@[simp] theorem eqO_bb (x y : Bool) : eqO (.bl x) (.bl y) = some (decide (x = y)) := Eq.trans rfl rfl
@[simp] theorem isN_ap (neg : Bool) : gIsN neg (d, f) (.non, f') = some (.bl (if neg then !isNon d else isNon d), .c) := Eq.trans rfl rfl
@[simp] theorem ix_l (x : List D) (y : Int) : gIx (.lst x, f) (.int y, f') = (atI x y).map fun d => (d, if f = .t then .t else .c) := Eq.trans rfl rfl
@[simp] theorem ix_f (x : List D) (y : Int) : gIx (.frz x, f) (.int y, f') = (atI x y).map fun d => (d, if f = .t then .t else .c) := Eq.trans rfl rfl
@[simp] theorem ix_t (x : List D) (y : Int) : gIx (.tup x, f) (.int y, f') = (atI x y).map fun d => (d, if f = .t then .t else .c) := Eq.trans rfl rfl
/-! chains, unary -/
def kC1 (g g' : B2) (mb mc : EM) (r : Env) (a : D × Fl) (S : Store) : Rs (D × Fl) := (mb r S).bind fun b S2 => match g a b with
  | some (.bl true, _) => (mc r S2).bind fun c S3 => lift0 (g' b c) S3
  | some (.bl false, _) => .ok (.bl false, .c) S2
  | _ => .no
def kC2 (g g' : B2) (mc : EM) (r : Env) (a b : D × Fl) (S : Store) : Rs (D × Fl) := match g a b with
  | some (.bl true, _) => (mc r S).bind fun c S3 => lift0 (g' b c) S3
  | some (.bl false, _) => .ok (.bl false, .c) S
  | _ => .no
def kC3 (g' : B2) (mc : EM) (r : Env) (b : D × Fl) (S : Store) : Option (D × Fl) → Rs (D × Fl)
  | some (.bl true, _) => (mc r S).bind fun c S3 => lift0 (g' b c) S3
  | some (.bl false, _) => .ok (.bl false, .c) S
  | _ => .no
@[simp] theorem chain_ap : eChain g g' ma mb mc r S = (ma r S).bind (kC1 g g' mb mc r) := Eq.trans rfl rfl
@[simp] theorem c1_ap : kC1 g g' mb mc r a S = (mb r S).bind (kC2 g g' mc r a) := Eq.trans rfl rfl
@[simp] theorem c2_ap : kC2 g g' mc r a b S = kC3 g' mc r b S (g a b) := by
  unfold kC2 kC3
  rcases g a b with _ | ⟨_ | (_ | _) | _ | _ | _ | _ | _ | _ | _ | _, _⟩ <;> rfl
@[simp] theorem c3_ap (x : Bool) : kC3 g' mc r b S (some (.bl x, f)) = if x then (mc r S).bind (kB2 g' b) else .ok (.bl false, .c) S := by cases x <;> rfl
def kU (g : D → Option D) (x : D × Fl) (S : Store) : Rs (D × Fl) := lift0 ((g x.1).map fun d => (d, .c)) S
@[simp] theorem un_ap (h : D → Option D) : eUn h m r S = (m r S).bind (kU h) := Eq.trans rfl rfl
@[simp] theorem neg_i (x : Int) : kU gNeg (.int x, f) S = .ok (.int (-x), .c) S := Eq.trans rfl rfl
/-! tests -/
def kT (x : D × Fl) (S : Store) : Rs Bool := match x.1 with
  | .bl b => .ok b S
  | _ => .no
@[simp] theorem val_ap : tVal m r S = (m r S).bind kT := Eq.trans rfl rfl
@[simp] theorem kt_b (x : Bool) : kT (.bl x, f) S = .ok x S := Eq.trans rfl rfl
def kAnd (tb : TM) (r : Env) (x : Bool) (S : Store) : Rs Bool := if x then tb r S else .ok false S
def kOr (tb : TM) (r : Env) (x : Bool) (S : Store) : Rs Bool := if x then .ok true S else tb r S
def kNot (x : Bool) (S : Store) : Rs Bool := .ok (!x) S
@[simp] theorem and_ap : tAndM ta tb r S = (ta r S).bind (kAnd tb r) := Eq.trans rfl rfl
@[simp] theorem or_ap : tOrM ta tb r S = (ta r S).bind (kOr tb r) := Eq.trans rfl rfl
@[simp] theorem not_ap : tNotM ta r S = (ta r S).bind kNot := Eq.trans rfl rfl
@[simp] theorem kand_t : kAnd tb r true S = tb r S := Eq.trans rfl rfl
@[simp] theorem kand_f : kAnd tb r false S = .ok false S := Eq.trans rfl rfl
@[simp] theorem kor_t : kOr tb r true S = .ok true S := Eq.trans rfl rfl
@[simp] theorem kor_f : kOr tb r false S = tb r S := Eq.trans rfl rfl
@[simp] theorem knot_ap (x : Bool) : kNot x S = .ok (!x) S := Eq.trans rfl rfl
def kIf (ma mb : EM) (r : Env) (x : Bool) (S : Store) : Rs (D × Fl) := if x then ma r S else mb r S
@[simp] theorem if_ap : eIf tt ma mb r S = (tt r S).bind (kIf ma mb r) := Eq.trans rfl rfl
@[simp] theorem kif_t : kIf ma mb r true S = ma r S := Eq.trans rfl rfl
@[simp] theorem kif_f : kIf ma mb r false S = mb r S := Eq.trans rfl rfl
theorem bind_id (x : Rs (D × Fl)) : (x.bind fun y S2 => .ok y S2) = x := by cases x <;> rfl
def kEA (mb : EM) (r : Env) (x : D × Fl) (S : Store) : Rs (D × Fl) := match x.1 with
  | .bl true => mb r S
  | .bl false => .ok (.bl false, .c) S
  | _ => .no
def kEO (mb : EM) (r : Env) (x : D × Fl) (S : Store) : Rs (D × Fl) := match x.1 with
  | .bl false => mb r S
  | .bl true => .ok (.bl true, .c) S
  | _ => .no
def kEN (x : D × Fl) (S : Store) : Rs (D × Fl) := match x.1 with
  | .bl b => .ok (.bl (!b), .c) S
  | _ => .no
@[simp] theorem eand_ap : eAnd ma mb r S = (ma r S).bind (kEA mb r) := by
  unfold eAnd kEA
  simp only [bind_id]
  all_goals rfl
@[simp] theorem eor_ap : eOr ma mb r S = (ma r S).bind (kEO mb r) := by
  unfold eOr kEO
  simp only [bind_id]
  all_goals rfl
@[simp] theorem enot_ap : eNot ma r S = (ma r S).bind kEN := Eq.trans rfl rfl
@[simp] theorem kea_t : kEA mb r (.bl true, f) S = mb r S := Eq.trans rfl rfl
@[simp] theorem kea_f : kEA mb r (.bl false, f) S = .ok (.bl false, .c) S := Eq.trans rfl rfl
@[simp] theorem keo_t : kEO mb r (.bl true, f) S = .ok (.bl true, .c) S := Eq.trans rfl rfl
@[simp] theorem keo_f : kEO mb r (.bl false, f) S = mb r S := Eq.trans rfl rfl
@[simp] theorem ken_b (x : Bool) : kEN (.bl x, f) S = .ok (.bl (!x), .c) S := Eq.trans rfl rfl
/-! arguments, displays -/
def kA1 (t : AM) (r : Env) (x : D × Fl) (S : Store) : Rs (List (Fl × D)) := (t r S).bind fun xs S2 => .ok ((x.2, x.1) :: xs) S2
def kA2 (x : D × Fl) (xs : List (Fl × D)) (S : Store) : Rs (List (Fl × D)) := .ok ((x.2, x.1) :: xs) S
@[simp] theorem anil_ap : aNil r S = .ok [] S := Eq.trans rfl rfl
@[simp] theorem acons_ap : aCons m t r S = (m r S).bind (kA1 t r) := Eq.trans rfl rfl
@[simp] theorem ka1_ap : kA1 t r a S = (t r S).bind (kA2 a) := Eq.trans rfl rfl
@[simp] theorem ka2_ap (xs : List (Fl × D)) : kA2 (d, f) xs S = .ok ((f, d) :: xs) S := Eq.trans rfl rfl
def kL (as : List (Fl × D)) (S : Store) : Rs (D × Fl) := if as.length ≤ sizeLine then (if as.all fun x => okst x.1 x.2 then .ok (.lst (as.map Prod.snd), .n) S else .ok (.lst (as.map Prod.snd), .t) S) else .no
def kTp (as : List (Fl × D)) (S : Store) : Rs (D × Fl) := if as.length ≤ sizeLine then (if as.all fun x => okst x.1 x.2 then .ok (.tup (as.map Prod.snd), .c) S else .ok (.tup (as.map Prod.snd), .t) S) else .no
@[simp] theorem lst_ap : eLst t r S = (t r S).bind kL := Eq.trans rfl rfl
@[simp] theorem tup_ap : eTup t r S = (t r S).bind kTp := Eq.trans rfl rfl
def sm : Nat → Bool := fun n => decide (n ≤ 16777216)
@[simp] theorem kl_ap (as : List (Fl × D)) (h : sm as.length = true) (h2 : (as.all fun x => okst x.1 x.2) = true) : kL as S = .ok (.lst (as.map Prod.snd), .n) S := by
  unfold kL
  rw [if_pos (by rw [sizeLine_eq]; exact of_decide_eq_true h), if_pos h2]
@[simp] theorem ktp_ap (as : List (Fl × D)) (h : sm as.length = true) (h2 : (as.all fun x => okst x.1 x.2) = true) : kTp as S = .ok (.tup (as.map Prod.snd), .c) S := by
  unfold kTp
  rw [if_pos (by rw [sizeLine_eq]; exact of_decide_eq_true h), if_pos h2]
@[simp] theorem ok_c : okst .c d = true := Eq.trans rfl rfl
@[simp] theorem ok_n : okst .n d = true := Eq.trans rfl rfl
@[simp] theorem ok_g (h : gnd d = true) : okst f d = true := by unfold okst; rw [h, Bool.or_true]
/-! calls -/
def kK (g : List (Fl × D) → Option (D × Fl)) (as : List (Fl × D)) (S : Store) : Rs (D × Fl) := lift0 (g as) S
@[simp] theorem cal_ap (h : List (Fl × D) → Option (D × Fl)) : eCal h t r S = (t r S).bind (kK h) := Eq.trans rfl rfl
@[simp] theorem kk_ap (h : List (Fl × D) → Option (D × Fl)) (as : List (Fl × D)) : kK h as S = lift0 (h as) S := Eq.trans rfl rfl
@[simp] theorem len_l (x : List D) : gLen [(f, .lst x)] = some (.int x.length, .c) := Eq.trans rfl rfl
@[simp] theorem len_f (x : List D) : gLen [(f, .frz x)] = some (.int x.length, .c) := Eq.trans rfl rfl
@[simp] theorem len_t (x : List D) : gLen [(f, .tup x)] = some (.int x.length, .c) := Eq.trans rfl rfl
@[simp] theorem list_l (x : List D) : gList [(f, .lst x)] = some (.lst x, if f = .t then .t else .n) := Eq.trans rfl rfl
@[simp] theorem list_f (x : List D) : gList [(f, .frz x)] = some (.lst x, if f = .t then .t else .n) := Eq.trans rfl rfl
@[simp] theorem list_t (x : List D) : gList [(f, .tup x)] = if f = .t then none else some (.lst x, .n) := Eq.trans rfl rfl
@[simp] theorem intsOf_m (x : List Int) : intsOf (x.map D.int) = some x := by
  induction x with
  | nil => rfl
  | cons a x ih => rw [List.map_cons]; unfold intsOf; rw [ih]; rfl
@[simp] theorem blsOf_m (x : List Bool) : blsOf (x.map D.bl) = some x := by
  induction x with
  | nil => rfl
  | cons a x ih => rw [List.map_cons]; unfold blsOf; rw [ih]; rfl
@[simp] theorem ints_l (h : List Int → Option D) (x : List Int) : gInts h [(f, .lst (x.map D.int))] = (h x).map fun d => (d, .c) := by
  unfold gInts seqOf
  dsimp only
  rw [intsOf_m]
@[simp] theorem ints_f (h : List Int → Option D) (x : List Int) : gInts h [(f, .frz (x.map D.int))] = (h x).map fun d => (d, .c) := by
  unfold gInts seqOf
  dsimp only
  rw [intsOf_m]
@[simp] theorem bls_l (h : List Bool → Bool) (x : List Bool) : gBls h [(f, .lst (x.map D.bl))] = some (.bl (h x), .c) := by
  unfold gBls seqOf
  dsimp only
  rw [blsOf_m]
@[simp] theorem intT_i (x : Int) : gIntT [(f, .int x)] = some (.int x, .c) := Eq.trans rfl rfl
@[simp] theorem intT_b (x : Bool) : gIntT [(f, .bl x)] = some (.int (if x then 1 else 0), .c) := Eq.trans rfl rfl
@[simp] theorem isi_ap (T : String) (h : String → Option Bool) : gIsi T h [(f, d), (f', .cst (.ty T))] = (match tyD d with
    | some t => (h t).map fun b => (.bl b, .c)
    | none => none) := by
  unfold gIsi
  dsimp only
  rw [if_pos rfl]
  all_goals rfl
def kF (np : Nat) (m : FM) (as : List (Fl × D)) (S : Store) : Rs (D × Fl) := if as.length = np then (m as S).bind fun x S2 => .ok (x.1, outf x.2) S2 else .no
def kO (x : D × Fl) (S : Store) : Rs (D × Fl) := .ok (x.1, outf x.2) S
@[simp] theorem fn_ap (np : Nat) (m : FM) : eFn np m t r S = (t r S).bind (kF np m) := Eq.trans rfl rfl
@[simp] theorem kf_ap (np : Nat) (m : FM) (as : List (Fl × D)) (h : (as.length == np) = true) : kF np m as S = (m as S).bind kO := if_pos (beq_iff_eq.mp h)
@[simp] theorem ko_ap : kO (d, f) S = .ok (d, outf f) S := Eq.trans rfl rfl
def kM2 (n np : Nat) (m : FM) (as : List (Fl × D)) (S : Store) : Rs (D × Fl) := if (as.length + 1) = np then (m ((.c, .ins n) :: as) S).bind fun x S3 => .ok (x.1, outf x.2) S3 else .no
def kMc (np : Nat) (t : AM) (r : Env) (n : Nat) (S : Store) : Option FM → Rs (D × Fl)
  | some m => (t r S).bind (kM2 n np m)
  | none => .no
def kMb (np : Nat) (tab : Nat → Option FM) (t : AM) (r : Env) (n : Nat) (S : Store) : Option (Nat × List D) → Rs (D × Fl)
  | some (C, _) => kMc np t r n S (tab C)
  | none => .no
def kMa (np : Nat) (tab : Nat → Option FM) (t : AM) (r : Env) : Rs (D × Fl) → Rs (D × Fl)
  | .ok (.ins n, _) S => kMb np tab t r n S S[n]?
  | _ => .no
@[simp] theorem me_ap (np : Nat) (tab : Nat → Option FM) : eMe np tab mo t r S = kMa np tab t r (mo r S) := by
  unfold eMe kMa
  rcases mo r S with ⟨⟨_ | _ | _ | _ | _ | _ | _ | _ | n | _, _⟩, S1⟩ | _ | _ <;> try rfl
@[simp] theorem kma_ap (np n : Nat) (tab : Nat → Option FM) : kMa np tab t r (.ok (.ins n, f) S) = kMb np tab t r n S S[n]? := Eq.trans rfl rfl
@[simp] theorem kmb_ap (np n C : Nat) (tab : Nat → Option FM) (fs : List D) : kMb np tab t r n S (some (C, fs)) = kMc np t r n S (tab C) := Eq.trans rfl rfl
@[simp] theorem kmc_ap (np n : Nat) (m : FM) : kMc np t r n S (some m) = (t r S).bind (kM2 n np m) := Eq.trans rfl rfl
@[simp] theorem km2_ap (n np : Nat) (m : FM) (as : List (Fl × D)) (h : (as.length + 1 == np) = true) : kM2 n np m as S = (m ((.c, .ins n) :: as) S).bind kO := if_pos (beq_iff_eq.mp h)
def kFc (S : Store) : Option D → Rs (D × Fl)
  | some d => .ok (d, .c) S
  | none => .no
def kFb (cs : List Nat) (i : Nat) (S : Store) : Option (Nat × List D) → Rs (D × Fl)
  | some (C, vs) => if cs.contains C then kFc S vs[i]? else .no
  | none => .no
def kFa (cs : List Nat) (i : Nat) (x : D × Fl) (S : Store) : Rs (D × Fl) := match x.1 with
  | .ins n => kFb cs i S S[n]?
  | _ => .no
@[simp] theorem fld_ap (cs : List Nat) : eFld cs i mo r S = (mo r S).bind (kFa cs i) := by
  unfold eFld
  congr 1
@[simp] theorem kfa_ap (cs : List Nat) (n : Nat) : kFa cs i (.ins n, f) S = kFb cs i S S[n]? := Eq.trans rfl rfl
@[simp] theorem kfb_ap (cs : List Nat) (C : Nat) (fs : List D) (h : cs.contains C = true) : kFb cs i S (some (C, fs)) = kFc S fs[i]? := if_pos h
@[simp] theorem kfc_ap : kFc S (some d) = .ok (d, .c) S := Eq.trans rfl rfl
def kN (C np : Nat) (m : FM) (as : List (Fl × D)) (S : Store) : Rs (D × Fl) := if as.length + 1 = np then (m ((.c, .ins S.length) :: as) (S ++ [(C, [])])).bind fun x S2 => match x.1 with
  | .non => .ok (.ins S.length, .c) S2
  | _ => .no else .no
def kN2 (n : Nat) (x : D × Fl) (S : Store) : Rs (D × Fl) := match x.1 with
  | .non => .ok (.ins n, .c) S
  | _ => .no
@[simp] theorem new_ap (C np : Nat) (m : FM) : eNew C np m t r S = (t r S).bind (kN C np m) := Eq.trans rfl rfl
@[simp] theorem kn_ap (C np : Nat) (m : FM) (as : List (Fl × D)) (h : (as.length + 1 == np) = true) : kN C np m as S = (m ((.c, .ins S.length) :: as) (S ++ [(C, [])])).bind (kN2 S.length) := if_pos (beq_iff_eq.mp h)
@[simp] theorem kn2_ap (n : Nat) : kN2 n (.non, f) S = .ok (.ins n, .c) S := Eq.trans rfl rfl
def kG1 (g : D × Fl → Option (D × Fl)) (x : D × Fl) (S : Store) : Rs (D × Fl) := lift0 (g x) S
@[simp] theorem g1_ap (h : D × Fl → Option (D × Fl)) : eG1 h m r S = (m r S).bind (kG1 h) := Eq.trans rfl rfl
@[simp] theorem kg1_ap (h : D × Fl → Option (D × Fl)) : kG1 h a S = lift0 (h a) S := Eq.trans rfl rfl
@[simp] theorem tupOf_l (x : List D) : gTupOf (.lst x, f) = some (.tup x, if f = .t then .t else .c) := Eq.trans rfl rfl
@[simp] theorem dict0_ap : eDict0 r S = .ok (.dic [] [], .n) S := Eq.trans rfl rfl
def kX (l1 : List (String × Bool)) (l : List (Nat × Bool)) (x : D × Fl) (S : Store) : Rs (D × Fl) := match kindB l1 l x.1 S with
  | some b => .ok (.bl b, .c) S
  | none => .no
@[simp] theorem isx_ap (l1 : List (String × Bool)) (l : List (Nat × Bool)) : eIsx l1 l m r S = (m r S).bind (kX l1 l) := Eq.trans rfl rfl
@[simp] theorem kx_ap (l1 : List (String × Bool)) (l : List (Nat × Bool)) {b : Bool} (h : kindB l1 l d S = some b) : kX l1 l (d, f) S = .ok (.bl b, .c) S := by
  unfold kX
  dsimp only
  rw [h]
/-! slices -/
def kS1 (lo hi : OM) (r : Env) (a : D × Fl) (S : Store) : Rs (D × Fl) := (lo r S).bind fun l S2 => (hi r S2).bind fun u S3 => lift0 (gSl a l u) S3
def kS2 (hi : OM) (r : Env) (a : D × Fl) (l : Option Int) (S : Store) : Rs (D × Fl) := (hi r S).bind fun u S3 => lift0 (gSl a l u) S3
def kS3 (a : D × Fl) (l u : Option Int) (S : Store) : Rs (D × Fl) := lift0 (gSl a l u) S
@[simp] theorem sl_ap (lo hi : OM) : eSl ma lo hi r S = (ma r S).bind (kS1 lo hi r) := Eq.trans rfl rfl
@[simp] theorem ks1_ap (lo hi : OM) : kS1 lo hi r a S = (lo r S).bind (kS2 hi r a) := Eq.trans rfl rfl
@[simp] theorem ks2_ap (hi : OM) (l : Option Int) : kS2 hi r a l S = (hi r S).bind (kS3 a l) := Eq.trans rfl rfl
@[simp] theorem ks3_l (x : List D) (l u : Option Int) : kS3 (.lst x, f) l u S = .ok (.lst (cutD x l u), if f = .t then .t else .n) S := Eq.trans rfl rfl
@[simp] theorem ono_ap : oNo r S = .ok none S := Eq.trans rfl rfl
def kOs (x : D × Fl) (S : Store) : Rs (Option Int) := match x.1 with
  | .int i => .ok (some i) S
  | _ => .no
@[simp] theorem oso_ap : oSo m r S = (m r S).bind kOs := Eq.trans rfl rfl
@[simp] theorem kos_ap (x : Int) : kOs (.int x, f) S = .ok (some x) S := Eq.trans rfl rfl
/-! statements -/
@[simp] theorem seq_ap (p q : SM) : sSeq p q r S = (p r S).bind q := Eq.trans rfl rfl
@[simp] theorem nil_ap : sNil r S = .nx r S := Eq.trans rfl rfl
def kSt (i : Nat) (r : Env) (x : D × Fl) (S : Store) : SR := if okst x.2 x.1 then .nx (r.set i (.ar .c x.1)) S else if x.2 = .b then .nx (r.set i (.ar .b x.1)) S else .no
@[simp] theorem set_ap : sSet i m r S = (m r S).sb r (kSt i r) := Eq.trans rfl rfl
@[simp] theorem kst_c (h : okst f d = true) : kSt i r (d, f) S = .nx (r.set i (.ar .c d)) S := if_pos h
@[simp] theorem kst_b (h : okst .b d = false) : kSt i r (d, .b) S = .nx (r.set i (.ar .b d)) S := by
  unfold kSt
  dsimp only
  rw [h]
  rfl
def kOw (i : Nat) (r : Env) (x : D × Fl) (S : Store) : SR := if x.2 = .n then .nx (r.set i (.own x.1)) S else .no
@[simp] theorem own_ap : sOwn i m r S = (m r S).sb r (kOw i r) := Eq.trans rfl rfl
@[simp] theorem kow_ap : kOw i r (d, .n) S = .nx (r.set i (.own d)) S := Eq.trans rfl rfl
def kI (p q : SM) (r : Env) (x : Bool) (S : Store) : SR := if x then p r S else q r S
@[simp] theorem sif_ap (p q : SM) : sIf tt p q r S = (tt r S).sb r (kI p q r) := Eq.trans rfl rfl
@[simp] theorem ki_t (p q : SM) : kI p q r true S = p r S := Eq.trans rfl rfl
@[simp] theorem ki_f (p q : SM) : kI p q r false S = q r S := Eq.trans rfl rfl
def kR (x : D × Fl) (S : Store) : SR := .rt x.1 x.2 S
@[simp] theorem ret_ap : sRet m r S = (m r S).sb r kR := Eq.trans rfl rfl
@[simp] theorem kr_ap : kR (d, f) S = .rt d f S := Eq.trans rfl rfl
def kRV (S : Store) : Option Slot → SR
  | some (.own d) => .rt d .n S
  | some (.ar f d) => .rt d (inf f) S
  | _ => .no
@[simp] theorem retV_ap : sRetV i r S = kRV S r[i]? := by
  unfold sRetV kRV
  rcases r[i]? with _ | _ | _ | _ <;> rfl
@[simp] theorem krv_own : kRV S (some (.own d)) = .rt d .n S := Eq.trans rfl rfl
@[simp] theorem krv_ar : kRV S (some (.ar f d)) = .rt d (inf f) S := Eq.trans rfl rfl
@[simp] theorem retN_ap : sRetN r S = .rt .non .c S := Eq.trans rfl rfl
def kE (r : Env) (x : D × Fl) (S : Store) : SR := .nx r S
@[simp] theorem expr_ap : sExpr m r S = (m r S).sb r (kE r) := Eq.trans rfl rfl
@[simp] theorem ke_ap : kE r a S = .nx r S := Eq.trans rfl rfl
def kAs (g : GM) (r : Env) (x : D × Fl) (S : Store) : SR := if okst x.2 x.1 then (match g x.1 r with
  | some r' => .nx r' S
  | none => .no) else .no
@[simp] theorem asg_ap (g : GM) : sAsg g m r S = (m r S).sb r (kAs g r) := Eq.trans rfl rfl
def kAs2 (S : Store) : Option Env → SR
  | some r' => .nx r' S
  | none => .no
@[simp] theorem kas_ap (g : GM) (h : okst f d = true) : kAs g r (d, f) S = kAs2 S (g d r) := by
  unfold kAs kAs2
  dsimp only
  rw [if_pos h]
@[simp] theorem kas2_ap : kAs2 S (some r) = .nx r S := Eq.trans rfl rfl
@[simp] theorem gn_ap : gN i d r = some (r.set i (.ar .c d)) := Eq.trans rfl rfl
@[simp] theorem gt_ap (n : Nat) (gs : List D → Env → Option Env) (ds : List D) (h : (ds.length == n) = true) : gT n gs (.tup ds) r = gs ds r := if_pos (beq_iff_eq.mp h)
@[simp] theorem gsn_ap : gsN [] r = some r := Eq.trans rfl rfl
@[simp] theorem gsc_ap (g : GM) (gs : List D → Env → Option Env) (ds : List D) : gsC g gs (d :: ds) r = (g d r).bind (gs ds) := Eq.trans rfl rfl
def kAp (i : Nat) (r : Env) (xs : List D) (x : D × Fl) (S : Store) : SR := if okst x.2 x.1 && decide (xs.length < sizeLine) then .nx (r.set i (.own (.lst (xs ++ [x.1])))) S else .no
def kApS (i : Nat) (m : EM) (r : Env) (S : Store) : Option Slot → SR
  | some (.own (.lst xs)) => (m r S).sb r (kAp i r xs)
  | _ => .no
@[simp] theorem app_ap : sApp i m r S = kApS i m r S r[i]? := by
  unfold sApp kApS
  rcases r[i]? with _ | _ | _ | (_ | _ | _ | _ | _ | _ | _ | _ | _ | _) <;> rfl
@[simp] theorem kaps_ap (xs : List D) : kApS i m r S (some (.own (.lst xs))) = (m r S).sb r (kAp i r xs) := Eq.trans rfl rfl
@[simp] theorem kap_ap (xs : List D) (h : okst f d = true) (h2 : xs.length < 16777216) : kAp i r xs (d, f) S = .nx (r.set i (.own (.lst (xs ++ [d])))) S := by
  unfold kAp
  dsimp only
  rw [h, sizeLine_eq, decide_eq_true h2]
  rfl
def kEx (i : Nat) (r : Env) (xs : List D) (x : D × Fl) (S : Store) : SR := match x.1 with
  | .lst ys => if x.2 ≠ .t ∧ xs.length + ys.length ≤ sizeLine then .nx (r.set i (.own (.lst (xs ++ ys)))) S else .no
  | _ => .no
def kExS (i : Nat) (m : EM) (r : Env) (S : Store) : Option Slot → SR
  | some (.own (.lst xs)) => (m r S).sb r (kEx i r xs)
  | _ => .no
@[simp] theorem ext_ap : sExt i m r S = kExS i m r S r[i]? := by
  unfold sExt kExS
  rcases r[i]? with _ | _ | _ | (_ | _ | _ | _ | _ | _ | _ | _ | _ | _) <;> rfl
@[simp] theorem kexs_ap (xs : List D) : kExS i m r S (some (.own (.lst xs))) = (m r S).sb r (kEx i r xs) := Eq.trans rfl rfl
@[simp] theorem kex_ap (xs ys : List D) (h : f ≠ .t) (h2 : xs.length + ys.length ≤ 16777216) : kEx i r xs (.lst ys, f) S = .nx (r.set i (.own (.lst (xs ++ ys)))) S := by
  unfold kEx
  dsimp only
  rw [if_pos ⟨h, by rw [sizeLine_eq]; exact h2⟩]
def kClS (i : Nat) (r : Env) (S : Store) : Option Slot → SR
  | some (.own (.lst _)) => .nx (r.set i (.own (.lst []))) S
  | _ => .no
@[simp] theorem clr_ap : sClr i r S = kClS i r S r[i]? := by
  unfold sClr kClS
  rcases r[i]? with _ | _ | _ | (_ | _ | _ | _ | _ | _ | _ | _ | _ | _) <;> rfl
@[simp] theorem kcls_ap (xs : List D) : kClS i r S (some (.own (.lst xs))) = .nx (r.set i (.own (.lst []))) S := Eq.trans rfl rfl
def kDm (i : Nat) (p : SM) (r : Env) (S : Store) : Option Slot → SR
  | some (.own d) => p (r.set i (.ar .c d)) S
  | _ => p r S
@[simp] theorem dem_ap (p : SM) : sDem i p r S = kDm i p r S r[i]? := by
  unfold sDem kDm
  rcases r[i]? with _ | _ | _ | _ <;> rfl
@[simp] theorem kdm_own (p : SM) : kDm i p r S (some (.own d)) = p (r.set i (.ar .c d)) S := Eq.trans rfl rfl
@[simp] theorem kdm_ar (p : SM) : kDm i p r S (some (.ar f d)) = p r S := Eq.trans rfl rfl
@[simp] theorem kdm_no (p : SM) : kDm i p r S (some .no) = p r S := Eq.trans rfl rfl
def kAtb (cs : List Nat) (i : Nat) (r : Env) (n : Nat) (x : D × Fl) (S : Store) : Option (Nat × List D) → SR
  | some (C, vs) => if cs.contains C && okst x.2 x.1 && decide (i ≤ vs.length) then .nx r (S.set n (C, putD i x.1 vs)) else .no
  | none => .no
def kAta (cs : List Nat) (i : Nat) (r : Env) (x o : D × Fl) (S : Store) : SR := match o.1 with
  | .ins n => kAtb cs i r n x S S[n]?
  | _ => .no
def kAt (cs : List Nat) (i : Nat) (mo : EM) (r : Env) (x : D × Fl) (S : Store) : SR := (mo r S).sb r (kAta cs i r x)
@[simp] theorem at_ap (cs : List Nat) : sAt cs i mo m r S = (m r S).sb r (kAt cs i mo r) := by
  unfold sAt
  congr 1
@[simp] theorem kat_ap (cs : List Nat) : kAt cs i mo r a S = (mo r S).sb r (kAta cs i r a) := Eq.trans rfl rfl
@[simp] theorem kata_ap (cs : List Nat) (n : Nat) : kAta cs i r a (.ins n, f) S = kAtb cs i r n a S S[n]? := Eq.trans rfl rfl
@[simp] theorem katb_ap (cs : List Nat) (n C : Nat) (vs : List D) (h : cs.contains C = true) (h2 : okst f d = true) (h3 : i ≤ vs.length) : kAtb cs i r n (d, f) S (some (C, vs)) = .nx r (S.set n (C, putD i d vs)) := by
  unfold kAtb
  dsimp only
  rw [h, h2, decide_eq_true h3]
  rfl
def kInS (i : Nat) (m : EM) (r : Env) (S : Store) : Option Slot → SR
  | some (.ar _ (.int a)) => (m r S).sb r fun x S1 => match x.1 with
    | .int b => .nx (r.set i (.ar .c (.int (a + b)))) S1
    | _ => .no
  | _ => .no
def kIn2 (i : Nat) (r : Env) (a : Int) (x : D × Fl) (S : Store) : SR := match x.1 with
  | .int b => .nx (r.set i (.ar .c (.int (a + b)))) S
  | _ => .no
@[simp] theorem inc_ap : sInc i m r S = kInS i m r S r[i]? := by
  unfold sInc kInS
  rcases r[i]? with _ | _ | ⟨_, (_ | _ | _ | _ | _ | _ | _ | _ | _ | _)⟩ | _ <;> rfl
@[simp] theorem kins_ap (x : Int) : kInS i m r S (some (.ar f (.int x))) = (m r S).sb r (kIn2 i r x) := Eq.trans rfl rfl
@[simp] theorem kin2_ap (x y : Int) : kIn2 i r x (.int y, f) S = .nx (r.set i (.ar .c (.int (x + y)))) S := Eq.trans rfl rfl
def kSub (i : Nat) (mi : EM) (r : Env) (x : D × Fl) (S : Store) : SR := match r[i]? with
  | some (.own (.lst xs)) => (mi r S).sb r fun j S2 => match j.1 with
    | .int k => match ixN xs.length k with
      | some n => if okst x.2 x.1 then .nx (r.set i (.own (.lst (xs.set n x.1)))) S2 else .no
      | none => .no
    | _ => .no
  | _ => .no
def kSub3 (i : Nat) (r : Env) (xs : List D) (x : D × Fl) (S : Store) : Option Nat → SR
  | some n => if okst x.2 x.1 then .nx (r.set i (.own (.lst (xs.set n x.1)))) S else .no
  | none => .no
def kSub2 (i : Nat) (r : Env) (xs : List D) (x j : D × Fl) (S : Store) : SR := match j.1 with
  | .int k => kSub3 i r xs x S (ixN xs.length k)
  | _ => .no
def kSub1 (i : Nat) (mi : EM) (r : Env) (x : D × Fl) (S : Store) : Option Slot → SR
  | some (.own (.lst xs)) => (mi r S).sb r (kSub2 i r xs x)
  | _ => .no
@[simp] theorem sub_ap (mi : EM) : sSub i mi m r S = (m r S).sb r (kSub i mi r) := Eq.trans rfl rfl
@[simp] theorem ksub_ap (mi : EM) : kSub i mi r a S = kSub1 i mi r a S r[i]? := by
  unfold kSub kSub1
  rcases r[i]? with _ | _ | _ | (_ | _ | _ | xs | _ | _ | _ | _ | _ | _) <;> try rfl
@[simp] theorem ksub1_ap (mi : EM) (xs : List D) : kSub1 i mi r a S (some (.own (.lst xs))) = (mi r S).sb r (kSub2 i r xs a) := Eq.trans rfl rfl
@[simp] theorem ksub2_ap (xs : List D) (k : Int) : kSub2 i r xs a (.int k, f) S = kSub3 i r xs a S (ixN xs.length k) := Eq.trans rfl rfl
@[simp] theorem ksub3_ap (xs : List D) (n : Nat) (h : okst f d = true) : kSub3 i r xs (d, f) S (some n) = .nx (r.set i (.own (.lst (xs.set n d)))) S := if_pos h
def kPa1 (i j : Nat) (mb : EM) (r : Env) (x : D × Fl) (S : Store) : SR := (mb r S).sb r fun y S2 => if okst x.2 x.1 && okst y.2 y.1 then .nx ((r.set i (.ar .c x.1)).set j (.ar .c y.1)) S2 else .no
def kPa2 (i j : Nat) (r : Env) (x y : D × Fl) (S : Store) : SR := if okst x.2 x.1 && okst y.2 y.1 then .nx ((r.set i (.ar .c x.1)).set j (.ar .c y.1)) S else .no
@[simp] theorem par_ap : sPar i j ma mb r S = (ma r S).sb r (kPa1 i j mb r) := Eq.trans rfl rfl
@[simp] theorem kpa1_ap : kPa1 i j mb r a S = (mb r S).sb r (kPa2 i j r a) := Eq.trans rfl rfl
@[simp] theorem kpa2_ap (h : okst f d = true) (h2 : okst f' d' = true) : kPa2 i j r (d, f) (d', f') S = .nx ((r.set i (.ar .c d)).set j (.ar .c d')) S := by
  unfold kPa2
  dsimp only
  rw [h, h2]
  rfl
/-! try -/
def kTrS (j : Nat) (c : Nat) (p : List D) (r : Env) (S : Store) : Option Slot → SR
  | some .no => .nx (r.set j (.ar .c (.ins S.length))) (S ++ [(c, p)])
  | _ => .no
def kTrB (i j : Nat) (c : Nat) (p : List D) (r : Env) (S : Store) : Option Bool → SR
  | some true => kTrS j c p r S r[i]?
  | some false => .er c p r S
  | none => .no
def kTr (l : List (Nat × Bool)) (i j : Nat) : SR → SR
  | .er c p r S => kTrB i j c p r S (l.lookup c)
  | x => x
@[simp] theorem try_ap (l : List (Nat × Bool)) (p : SM) : sTry l i j p r S = kTr l i j (p r S) := by
  unfold sTry kTr
  rcases p r S with _ | _ | _ | _ | ⟨c, p, r', S'⟩ | _ <;> try rfl
@[simp] theorem ktr_er (l : List (Nat × Bool)) (c : Nat) (p : List D) : kTr l i j (.er c p r S) = kTrB i j c p r S (l.lookup c) := Eq.trans rfl rfl
@[simp] theorem ktr_nx (l : List (Nat × Bool)) : kTr l i j (.nx r S) = .nx r S := Eq.trans rfl rfl
@[simp] theorem ktr_rt (l : List (Nat × Bool)) : kTr l i j (.rt d f S) = .rt d f S := Eq.trans rfl rfl
@[simp] theorem ktrb_t (c : Nat) (p : List D) : kTrB i j c p r S (some true) = kTrS j c p r S r[i]? := Eq.trans rfl rfl
@[simp] theorem ktrb_f (c : Nat) (p : List D) : kTrB i j c p r S (some false) = .er c p r S := Eq.trans rfl rfl
@[simp] theorem ktrs_ap (c : Nat) (p : List D) : kTrS j c p r S (some .no) = .nx (r.set j (.ar .c (.ins S.length))) (S ++ [(c, p)]) := Eq.trans rfl rfl
def kFor (g : GM) (p : SM) (r : Env) (ds : List D) (S : Store) : SR := forL g p ds r S
@[simp] theorem for_ap (mi : Env → Store → Rs (List D)) (g : GM) (p : SM) : sFor mi g p r S = (mi r S).sb r (kFor g p r) := Eq.trans rfl rfl
@[simp] theorem kfor_ap (g : GM) (p : SM) (ds : List D) : kFor g p r ds S = forL g p ds r S := Eq.trans rfl rfl
def kQ (x : D × Fl) (S : Store) : Rs (List D) := if okI x.2 then (match x.1 with
  | .lst ds => .ok ds S
  | .frz ds => .ok ds S
  | .tup ds => .ok ds S
  | .str z => .ok (strD z) S
  | _ => .no) else .no
@[simp] theorem iseq_ap : iSeq m r S = (m r S).bind kQ := Eq.trans rfl rfl
@[simp] theorem kq_l (ds : List D) (h : okI f = true) : kQ (.lst ds, f) S = .ok ds S := if_pos h
@[simp] theorem kq_f (ds : List D) (h : okI f = true) : kQ (.frz ds, f) S = .ok ds S := if_pos h
@[simp] theorem kq_t (ds : List D) (h : okI f = true) : kQ (.tup ds, f) S = .ok ds S := if_pos h
def kIA (h : List (Fl × D) → Option (List D)) (as : List (Fl × D)) (S : Store) : Rs (List D) := lift0 (h as) S
@[simp] theorem iargs_ap (h : List (Fl × D) → Option (List D)) : iArgs h t r S = (t r S).bind (kIA h) := Eq.trans rfl rfl
@[simp] theorem kia_ap (h : List (Fl × D) → Option (List D)) (as : List (Fl × D)) : kIA h as S = lift0 (h as) S := Eq.trans rfl rfl
@[simp] theorem rng1_ap (x : Int) (h : inR x = true) : gRng1 [(f, .int x)] = some (rangeD 0 1 x.toNat) := if_pos h
@[simp] theorem rng2_ap (x y : Int) (h : (inR x && inR y) = true) : gRng2 [(f, .int x), (f', .int y)] = some (rangeD x 1 (y - x).toNat) := if_pos h
@[simp] theorem zip_ll (x y : List D) (h : (okI f && okI f') = true) : gZip [(f, .lst x), (f', .lst y)] = some (zipD x y) := if_pos h
@[simp] theorem seq1_l (h : List D → List D) (x : List D) (e : okI f = true) : gSeq1 h [(f, .lst x)] = some (h x) := if_pos e
def kCp (vs : List Nat) (g : GM) (tt : TM) (te : EM) (r : Env) (ds : List D) (S : Store) : Rs (D × Fl) := if ds.length ≤ sizeLine then (match compL g tt te (wipeE r vs) ds S with
  | .ok xs S2 => .ok (.lst xs, .n) S2
  | _ => .no) else .no
@[simp] theorem lc_ap (mi : Env → Store → Rs (List D)) (vs : List Nat) (g : GM) (tt : TM) (te : EM) (h : freeE r vs = true) : eLc mi vs g tt te r S = (mi r S).bind (kCp vs g tt te r) := if_pos h
@[simp] theorem kcp_ap (vs : List Nat) (g : GM) (tt : TM) (te : EM) (ds xs : List D) (S2 : Store) (h : ds.length ≤ 16777216) (h2 : compL g tt te (wipeE r vs) ds S = .ok xs S2) : kCp vs g tt te r ds S = .ok (.lst xs, .n) S2 := by
  unfold kCp
  rw [if_pos (by rw [sizeLine_eq]; exact h), h2]
/-- a comprehension whose parts leave the store alone -/
theorem comp_map (g : GM) (tt : TM) (te : EM) (h : D → D) : ∀ (ds : List D), (∀ d ∈ ds, ∃ r1, g d r = some r1 ∧ tt r1 S = .ok true S ∧ ∃ f, te r1 S = .ok (h d, f) S ∧ okst f (h d) = true) → compL g tt te r ds S = .ok (ds.map h) S
  | [], _ => rfl
  | d :: ds, q => by
    obtain ⟨r1, h1, h2, f, h3, h4⟩ := q d List.mem_cons_self
    unfold compL
    rw [h1]
    dsimp only
    rw [h2]
    dsimp only
    rw [h3]
    dsimp only
    rw [if_pos h4, comp_map g tt te h ds fun x hx => q x (List.mem_cons_of_mem _ hx)]
    rfl
@[simp] theorem yes_ap : tYesM r S = .ok true S := Eq.trans rfl rfl
/-- a for loop by an invariant that knows how many went by -/
theorem for_inv {P : Nat → Env → Store → Prop} {g : GM} {p : SM} : ∀ (ds : List D) (k : Nat) (r : Env) (S : Store), P k r S → (∀ (n : Nat) (d : D) (r : Env) (S : Store), ds[n]? = some d → P (k + n) r S → ∃ r1, g d r = some r1 ∧ ∃ r2 S2, p r1 S = .nx r2 S2 ∧ P (k + n + 1) r2 S2) →
    ∃ r2 S2, forL g p ds r S = .nx r2 S2 ∧ P (k + ds.length) r2 S2
  | [], k, r, S, h, _ => ⟨r, S, rfl, h⟩
  | d :: ds, k, r, S, h, q => by
    obtain ⟨r1, h1, r2, S2, h2, h3⟩ := q 0 d r S rfl h
    obtain ⟨r3, S3, h4, h5⟩ := for_inv (P := P) ds (k + 1) r2 S2 h3 fun n d' r' S' e z => by
      obtain ⟨r4, y1, r5, S5, y2, y3⟩ := q (n + 1) d' r' S' (by simpa using e) (by rw [show k + (n + 1) = k + 1 + n by omega]; exact z)
      exact ⟨r4, y1, r5, S5, y2, by rw [show k + 1 + n + 1 = k + (n + 1) + 1 by omega]; exact y3⟩
    refine ⟨r3, S3, ?_, by rw [List.length_cons, show k + (ds.length + 1) = k + 1 + ds.length by omega]; exact h5⟩
    unfold forL
    rw [h1]
    dsimp only
    rw [h2]
    exact h4
def kFr : Option Slot → Bool
  | some (.own _) => false
  | _ => true
@[simp] theorem start_ap (as : List (Fl × D)) (n : Nat) : startE as n = as.map (fun x => .ar x.1 x.2) ++ List.replicate (n - as.length) .no := Eq.trans rfl rfl
def kFn : SR → Rs (D × Fl)
  | .rt d f S => .ok (d, f) S
  | .nx _ S => .ok (.non, .c) S
  | .er c p _ S => .er c p S
  | _ => .no
@[simp] theorem fnM_ap (N : Nat) (p : SM) (as : List (Fl × D)) : fnM N p as S = kFn (p (startE as N) S) := by
  unfold fnM kFn
  rcases p (startE as N) S <;> rfl
@[simp] theorem kfn_rt : kFn (.rt d f S) = .ok (d, f) S := Eq.trans rfl rfl
@[simp] theorem kfn_nx : kFn (.nx r S) = .ok (.non, .c) S := Eq.trans rfl rfl
@[simp] theorem kfn_er (c : Nat) (p : List D) : kFn (.er c p r S) = .er c p S := Eq.trans rfl rfl
@[simp] theorem raise_ap (c : Nat) : sRaise c r S = .er c [] r S := Eq.trans rfl rfl
end Ev

namespace Ev
open Mv
open PySem (Str sizeLine sizeLine_eq PyData SeqAt.shaped)
open L2 (atI ixN)
@[simp] theorem sm_ap (n : Nat) : sm n = decide (n ≤ 16777216) := Eq.trans rfl rfl
@[simp] theorem kl_nil (S : Store) : kL [] S = .ok (.lst [], .n) S := by
  unfold kL
  rw [if_pos (by rw [sizeLine_eq]; exact Nat.zero_le _)]
  rfl
@[simp] theorem ktp_nil (S : Store) : kTp [] S = .ok (.tup [], .c) S := by
  unfold kTp
  rw [if_pos (by rw [sizeLine_eq]; exact Nat.zero_le _)]
  rfl
theorem toPys_i : ∀ xs : List Int, toPys (xs.map D.int) = some (xs.map PyData.int)
  | [] => rfl
  | x :: xs => by
    rw [List.map_cons]
    unfold toPys toPy
    rw [toPys_i xs]
    rfl
theorem lay_i : ∀ xs : List Int, PyData.canLayAll0 (xs.map PyData.int) = true
  | [] => rfl
  | x :: xs => by
    rw [List.map_cons]
    unfold PyData.canLayAll0 PyData.canLay0
    rw [lay_i xs]
    rfl
theorem dep_i : ∀ xs : List Int, PyData.depthAll (xs.map PyData.int) = 0
  | [] => rfl
  | x :: xs => by
    rw [List.map_cons]
    unfold PyData.depthAll PyData.depth
    rw [dep_i xs]
    rfl
theorem shaped_i (xs : List Int) : SeqAt.shaped (.list (xs.map PyData.int)) = true := by
  unfold SeqAt.shaped
  unfold PyData.canLay0 PyData.depth
  rw [lay_i, dep_i]
  rfl
theorem eqv_i : ∀ xs ys : List Int, PyData.eqvAll (xs.map PyData.int) (ys.map PyData.int) = decide (xs = ys)
  | [], [] => rfl
  | [], y :: ys => rfl
  | x :: xs, [] => rfl
  | x :: xs, y :: ys => by
    rw [List.map_cons, List.map_cons]
    unfold PyData.eqvAll PyData.eqv
    rw [eqv_i xs ys]
    by_cases h : x = y <;> by_cases h2 : xs = ys <;> simp [h, h2]
theorem eqO_lists {d e : D} {xs ys : List Int} (h1 : toPy d = some (.list (xs.map PyData.int))) (h2 : toPy e = some (.list (ys.map PyData.int))) (hd : ∀ i, d ≠ .int i) (hs : ∀ i, d ≠ .str i) (hb : ∀ i, d ≠ .bl i) : eqO d e = some (decide (xs = ys)) := by
  unfold eqO
  split
  · exact absurd rfl (hd _)
  · exact absurd rfl (hs _)
  · exact absurd rfl (hb _)
  · rw [h1, h2]
    dsimp only
    rw [shaped_i, shaped_i]
    unfold PyData.eqv
    rw [eqv_i]
    rfl
theorem toPy_l (xs : List Int) : toPy (.lst (xs.map D.int)) = some (.list (xs.map PyData.int)) := by
  unfold toPy
  rw [toPys_i]
  rfl
theorem toPy_f (xs : List Int) : toPy (.frz (xs.map D.int)) = some (.list (xs.map PyData.int)) := by
  unfold toPy
  rw [toPys_i]
  rfl
@[simp] theorem eqO_ll (xs ys : List Int) : eqO (.lst (xs.map D.int)) (.lst (ys.map D.int)) = some (decide (xs = ys)) := eqO_lists (toPy_l xs) (toPy_l ys) (by simp) (by simp) (by simp)
@[simp] theorem eqO_fl (xs ys : List Int) : eqO (.frz (xs.map D.int)) (.lst (ys.map D.int)) = some (decide (xs = ys)) := eqO_lists (toPy_f xs) (toPy_l ys) (by simp) (by simp) (by simp)
@[simp] theorem eqO_l0 (xs : List Int) : eqO (.lst (xs.map D.int)) (.lst []) = some (decide (xs = [])) := eqO_ll xs []
@[simp] theorem eqO_f0 (xs : List Int) : eqO (.frz (xs.map D.int)) (.lst []) = some (decide (xs = [])) := eqO_fl xs []
@[simp] theorem eqO_00 : eqO (.lst []) (.lst []) = some true := eqO_ll [] []
@[simp] theorem eqO_f00 : eqO (.frz []) (.lst []) = some true := eqO_fl [] []
theorem mulOk_l {i j : Int} (h : -(2 ^ 64) < i ∧ i < 2 ^ 64) : mulOk i j = true := by
  unfold mulOk
  rw [decide_eq_true h]
  rfl
theorem mulOk_r {i j : Int} (h : -(2 ^ 64) < j ∧ j < 2 ^ 64) : mulOk i j = true := by
  unfold mulOk
  rw [decide_eq_true h, Bool.or_true]
  rfl
/-- an item of a list of ints -/
theorem atI_i {xs : List Int} {i : Int} (h0 : 0 ≤ i) (h1 : i < xs.length) : atI (xs.map D.int) i = some (.int (xs.getD i.toNat 0)) := by
  unfold atI ixN
  rw [if_pos h0, List.length_map, if_pos h1]
  have h2 : i.toNat < xs.length := by omega
  simp [List.getElem?_eq_getElem h2]
theorem comp_rng (r : Env) (S : Store) (g : GM) (tt : TM) (te : EM) (h : Nat → D) (lo : Int) (n : Nat) (q : ∀ j < n, ∃ r1, g (.int (lo + j)) r = some r1 ∧ tt r1 S = .ok true S ∧ ∃ f, te r1 S = .ok (h j, f) S ∧ okst f (h j) = true) : compL g tt te r (rangeD lo 1 n) S = .ok ((List.range n).map h) S := by
  have e : (rangeD lo 1 n).map (fun d => match d with
      | .int x => h (x - lo).toNat
      | d => d) = (List.range n).map h := by
    unfold rangeD
    rw [List.map_map]
    refine List.map_congr_left fun j hj => ?_
    show h (lo + (j : Nat) * 1 - lo).toNat = h j
    congr 1
    omega
  rw [← e]
  refine comp_map r S g tt te _ _ fun d hd => ?_
  unfold rangeD at hd
  obtain ⟨j, hj, rfl⟩ := List.mem_map.mp hd
  have hj := List.mem_range.mp hj
  have e1 : (lo + (j : Nat) * 1 : Int) = lo + j := by omega
  have e2 : (lo + (j : Nat) * 1 - lo).toNat = j := by omega
  dsimp only
  rw [e2, e1]
  exact q j hj
theorem comp_ints (r : Env) (S : Store) (g : GM) (tt : TM) (te : EM) (h : Int → D) (xs : List Int) (q : ∀ x ∈ xs, ∃ r1, g (.int x) r = some r1 ∧ tt r1 S = .ok true S ∧ ∃ f, te r1 S = .ok (h x, f) S ∧ okst f (h x) = true) : compL g tt te r (xs.map D.int) S = .ok (xs.map h) S := by
  have e : (xs.map D.int).map (fun d => match d with
      | .int x => h x
      | d => d) = xs.map h := by
    rw [List.map_map]
    exact List.map_congr_left fun j hj => rfl
  rw [← e]
  refine comp_map r S g tt te _ _ fun d hd => ?_
  obtain ⟨j, hj, rfl⟩ := List.mem_map.mp hd
  exact q j hj
@[simp] theorem rangeD_len (lo c : Int) (n : Nat) : (rangeD lo c n).length = n := rangeD_length lo c n
/-- a for loop that carries a value along; the loop's own slot is anything -/
theorem for_acc {A : Type} (E : A → Slot → Env) (stp : A → D → A) (I : Nat → A → Prop) (S : Store) (g : GM) (p : SM) : ∀ (ds : List D) (k : Nat) (a : A) (x : Slot), I k a →
    (∀ (n : Nat) (d : D) (a : A) (x : Slot), ds[n]? = some d → I (k + n) a → ∃ r1, g d (E a x) = some r1 ∧ (∃ x', p r1 S = .nx (E (stp a d) x') S) ∧ I (k + n + 1) (stp a d)) →
    ∃ x', forL g p ds (E a x) S = .nx (E (ds.foldl stp a) x') S ∧ I (k + ds.length) (ds.foldl stp a)
  | [], k, a, x, h, _ => ⟨x, rfl, h⟩
  | d :: ds, k, a, x, h, q => by
    obtain ⟨r1, h1, ⟨x1, h2⟩, h3⟩ := q 0 d a x rfl h
    obtain ⟨x2, h4, h5⟩ := for_acc E stp I S g p ds (k + 1) (stp a d) x1 h3 fun n d' a' x' e z => by
      obtain ⟨r4, y1, y2, y3⟩ := q (n + 1) d' a' x' (by simpa using e) (by rw [show k + (n + 1) = k + 1 + n by omega]; exact z)
      exact ⟨r4, y1, y2, by rw [show k + 1 + n + 1 = k + (n + 1) + 1 by omega]; exact y3⟩
    refine ⟨x2, ?_, by rw [List.length_cons, show k + (ds.length + 1) = k + 1 + ds.length by omega]; exact h5⟩
    unfold forL
    rw [h1]
    dsimp only
    rw [h2]
    exact h4
theorem foldl_app {B : Type} (h : Int → List B) (stp : List B → D → List B) (hs : ∀ a i, stp a (.int i) = a ++ h i) : ∀ (xs : List Int) (a : List B), (xs.map D.int).foldl stp a = a ++ (xs.map h).flatten
  | [], a => by simp
  | x :: xs, a => by
    rw [List.map_cons, List.foldl_cons, hs, foldl_app h stp hs xs]
    simp
theorem for_cons {g : GM} {p : SM} {d : D} {ds : List D} {r r1 r2 : Env} {S S2 : Store} (h1 : g d r = some r1) (h2 : p r1 S = .nx r2 S2) : forL g p (d :: ds) r S = forL g p ds r2 S2 := by
  rw [forL, h1]
  dsimp only
  rw [h2]
theorem for_nil {g : GM} {p : SM} {r : Env} {S : Store} : forL g p [] r S = .nx r S := by rw [forL]
def kindC (l : List (Nat × Bool)) : Option (Nat × List D) → Option Bool
  | some (c, []) => l.lookup c
  | _ => none
@[simp] theorem kindB_ins (l1 : List (String × Bool)) (l : List (Nat × Bool)) (n : Nat) (S : Store) : kindB l1 l (.ins n) S = kindC l S[n]? := Eq.trans rfl rfl
@[simp] theorem kindC_ap (l : List (Nat × Bool)) (c : Nat) : kindC l (some (c, [])) = l.lookup c := Eq.trans rfl rfl
@[simp] theorem kindB_non (l1 : List (String × Bool)) (l : List (Nat × Bool)) (S : Store) : kindB l1 l .non S = l1.lookup "NoneType" := Eq.trans rfl rfl
def kX2 (S : Store) : Option Bool → Rs (D × Fl)
  | some b => .ok (.bl b, .c) S
  | none => .no
theorem kx_k (l1 : List (String × Bool)) (l : List (Nat × Bool)) (d : D) (f : Fl) (S : Store) : kX l1 l (d, f) S = kX2 S (kindB l1 l d S) := by
  unfold kX kX2
  dsimp only
@[simp] theorem kx2_ap (b : Bool) (S : Store) : kX2 S (some b) = .ok (.bl b, .c) S := Eq.trans rfl rfl
/-! comprehensions item by item -/
def kCm4 (d : D) : Rs (List D) → Rs (List D)
  | .ok xs S => .ok (d :: xs) S
  | _ => .no
def kCm3 (g : GM) (tt : TM) (te : EM) (r : Env) (ds : List D) : Rs (D × Fl) → Rs (List D)
  | .ok x S => if okst x.2 x.1 then kCm4 x.1 (compL g tt te r ds S) else .no
  | _ => .no
def kCm2 (g : GM) (tt : TM) (te : EM) (r r1 : Env) (ds : List D) : Rs Bool → Rs (List D)
  | .ok true S => kCm3 g tt te r ds (te r1 S)
  | .ok false S => compL g tt te r ds S
  | _ => .no
def kCm1 (g : GM) (tt : TM) (te : EM) (r : Env) (ds : List D) (S : Store) : Option Env → Rs (List D)
  | some r1 => kCm2 g tt te r r1 ds (tt r1 S)
  | none => .no
section
variable (g : GM) (tt : TM) (te : EM) (r r1 : Env) (ds : List D) (S : Store) (d : D) (f : Fl)
theorem cm_nil : compL g tt te r [] S = .ok [] S := by rw [compL]
theorem cm_cons : compL g tt te r (d :: ds) S = kCm1 g tt te r ds S (g d r) := by
  rw [compL]
  unfold kCm1
  rcases g d r with _ | r1
  · rfl
  · dsimp only
    unfold kCm2
    rcases tt r1 S with ⟨_ | _, S1⟩ | _ | _ <;> try rfl
theorem cm1_ap : kCm1 g tt te r ds S (some r1) = kCm2 g tt te r r1 ds (tt r1 S) := rfl
theorem cm2_t : kCm2 g tt te r r1 ds (.ok true S) = kCm3 g tt te r ds (te r1 S) := rfl
theorem cm2_f : kCm2 g tt te r r1 ds (.ok false S) = compL g tt te r ds S := rfl
theorem cm3_ap (h : okst f d = true) : kCm3 g tt te r ds (.ok (d, f) S) = kCm4 d (compL g tt te r ds S) := if_pos h
theorem cm4_ap (xs : List D) : kCm4 d (.ok xs S) = .ok (d :: xs) S := rfl
def kCp2 : Rs (List D) → Rs (D × Fl)
  | .ok xs S => .ok (.lst xs, .n) S
  | _ => .no
theorem cp_k (vs : List Nat) (h : sm ds.length = true) : kCp vs g tt te r ds S = kCp2 (compL g tt te (wipeE r vs) ds S) := by
  unfold kCp
  rw [if_pos (by rw [sizeLine_eq]; exact of_decide_eq_true h)]
  unfold kCp2
  rcases compL g tt te (wipeE r vs) ds S with _ | _ | _ <;> rfl
theorem cp2_ap (xs : List D) : kCp2 (.ok xs S) = .ok (.lst xs, .n) S := rfl
end
end Ev

set_option maxRecDepth 100000
set_option maxHeartbeats 4000000
/-! Ev2: a list's methods, a lambda handed over, whole numbers that are none below 0 -/
namespace Ev
open Mv
open L2 PyProof.Rows
open PySem (sizeLine sizeLine_eq)
def kBm1 (g : List D → List (Fl × D) → Option (D × Fl)) (xs : List D) (as : List (Fl × D)) (S : Store) : Rs (D × Fl) := lift0 (g xs as) S
def kBm (g : List D → List (Fl × D) → Option (D × Fl)) (t : AM) (r : Env) (x : D × Fl) (S : Store) : Rs (D × Fl) := match x.1 with
  | .lst xs => (t r S).bind (kBm1 g xs)
  | _ => .no
@[simp] theorem bm_ap (g : List D → List (Fl × D) → Option (D × Fl)) (mo : EM) (t : AM) (r : Env) (S : Store) : eBm g mo t r S = (mo r S).bind (kBm g t r) := Eq.trans rfl rfl
@[simp] theorem kbm_ap (g : List D → List (Fl × D) → Option (D × Fl)) (t : AM) (r : Env) (xs : List D) (f : Fl) (S : Store) : kBm g t r (.lst xs, f) S = (t r S).bind (kBm1 g xs) := Eq.trans rfl rfl
@[simp] theorem kbm1_ap (g : List D → List (Fl × D) → Option (D × Fl)) (xs : List D) (as : List (Fl × D)) (S : Store) : kBm1 g xs as S = lift0 (g xs as) S := Eq.trans rfl rfl
def kRfB (n j : Nat) (mr : SM) (c : Nat) (p : List D) (S : Store) : Option Bool → Rs (D × Fl)
  | some true => refEnd (mr (.no :: (List.replicate n Slot.no).set j (.ar .c (.ins S.length))) (S ++ [(c, p)]))
  | _ => .no
def kRf (n j : Nat) (l : List (Nat × Bool)) (mr : SM) : Rs (D × Fl) → Rs (D × Fl)
  | .ok _ S1 => refEnd (mr (.no :: (List.replicate n Slot.no).set j (.ar .c .non)) S1)
  | .er c p S1 => kRfB n j mr c p S1 (l.lookup c)
  | .no => .no
@[simp] theorem ref_ap (n j : Nat) (l : List (Nat × Bool)) (mr : SM) (m : EM) (r : Env) (S : Store) : eRef n j l mr m r S = kRf n j l mr (m r S) := by
  unfold eRef kRf
  cases m r S with
  | ok a S1 => rfl
  | no => rfl
  | er c p S1 =>
    dsimp only
    unfold kRfB
    rcases l.lookup c with _ | _ | _ <;> rfl
@[simp] theorem krf_ok (n j : Nat) (l : List (Nat × Bool)) (mr : SM) (a : D × Fl) (S : Store) : kRf n j l mr (.ok a S) = refEnd (mr (.no :: (List.replicate n Slot.no).set j (.ar .c .non)) S) := Eq.trans rfl rfl
@[simp] theorem krf_er (n j : Nat) (l : List (Nat × Bool)) (mr : SM) (c : Nat) (p : List D) (S : Store) : kRf n j l mr (.er c p S) = kRfB n j mr c p S (l.lookup c) := Eq.trans rfl rfl
@[simp] theorem krfb_t (n j : Nat) (mr : SM) (c : Nat) (p : List D) (S : Store) : kRfB n j mr c p S (some true) = refEnd (mr (.no :: (List.replicate n Slot.no).set j (.ar .c (.ins S.length))) (S ++ [(c, p)])) := Eq.trans rfl rfl
@[simp] theorem refEnd_rt (d : D) (f : Fl) (S : Store) : refEnd (.rt d f S) = .ok (d, outf f) S := Eq.trans rfl rfl
@[simp] theorem ks3_f (x : List D) (f : Fl) (l u : Option Int) (S : Store) : kS3 (.frz x, f) l u S = .ok (.lst (cutD x l u), if f = .t then .t else .n) S := Eq.trans rfl rfl
/-! whole numbers -/
theorem shl_n (a j : Nat) (f f' : Fl) (ha : a < 18446744073709551616) (hj : j ≤ 1000000) : gShl (.int (a : Int), f) (.int (j : Int), f') = some (.int ((a * 2 ^ j : Nat) : Int), .c) := by
  have h1 : (j : Int) ≤ 1000000 := by omega
  have h2 : (a : Int).natAbs < 2 ^ 64 := by
    rw [Int.natAbs_natCast]
    exact ha
  show (if (decide (0 ≤ (j : Int)) && decide ((j : Int) ≤ 1000000) && decide ((a : Int).natAbs < 2 ^ 64)) = true then some (D.int ((a : Int) * 2 ^ (j : Int).toNat), Fl.c) else none) = _
  rw [decide_eq_true (show 0 ≤ (j : Int) by omega), decide_eq_true h1, decide_eq_true h2, Int.toNat_natCast]
  simp
theorem shr_n (a j : Nat) (f f' : Fl) : gShr (.int (a : Int), f) (.int (j : Int), f') = some (.int ((a / 2 ^ j : Nat) : Int), .c) := by
  show (if decide (0 ≤ (j : Int)) = true then some (D.int ((a : Int) / 2 ^ (j : Int).toNat), Fl.c) else none) = _
  rw [decide_eq_true (show 0 ≤ (j : Int) by omega), Int.toNat_natCast]
  simp
theorem xor_n (a b : Nat) : PySem.Builtin.bitXor (a : Int) (b : Int) = ((a ^^^ b : Nat) : Int) := by
  exact Bits.bitXor_pp (Int.natCast_nonneg a) (Int.natCast_nonneg b)
theorem or_n (a b : Nat) : PySem.Builtin.bitOr (a : Int) (b : Int) = ((a ||| b : Nat) : Int) := by
  exact Bits.bitOr_pp (Int.natCast_nonneg a) (Int.natCast_nonneg b)
theorem and_n (a b : Nat) : PySem.Builtin.bitAnd (a : Int) (b : Int) = ((a &&& b : Nat) : Int) := by
  simp [PySem.Builtin.bitAnd, (by omega : (0 : Int) ≤ a), (by omega : (0 : Int) ≤ b)]
theorem and1_i (v : Int) (f f' : Fl) : gAnd (.int v, f) (.int 1, f') = some (.int (v % 2), .c) := by
  show some (D.int (PySem.Builtin.bitAnd v 1), Fl.c) = _
  rw [PyProof.Rows.bitAnd_m1]
theorem xor_g (a b : Nat) (f f' : Fl) : gXor (.int (a : Int), f) (.int (b : Int), f') = some (.int ((a ^^^ b : Nat) : Int), .c) := by
  show some (D.int (PySem.Builtin.bitXor a b), Fl.c) = _
  rw [xor_n]
theorem or_g (a b : Nat) (f f' : Fl) : gOr (.int (a : Int), f) (.int (b : Int), f') = some (.int ((a ||| b : Nat) : Int), .c) := by
  show some (D.int (PySem.Builtin.bitOr a b), Fl.c) = _
  rw [or_n]
theorem sub_i (a b : Int) (f f' : Fl) : gSub (.int a, f) (.int b, f') = some (.int (a - b), .c) := Eq.trans rfl rfl
theorem gt_i (a b : Int) (f f' : Fl) : gGt (.int a, f) (.int b, f') = some (.bl (decide (b < a)), .c) := Eq.trans rfl rfl
theorem ge_i (a b : Int) (f f' : Fl) : gGe (.int a, f) (.int b, f') = some (.bl (decide (b ≤ a)), .c) := Eq.trans rfl rfl
theorem mod_i (a b : Int) (f f' : Fl) (h : 0 < b) : gMod (.int a, f) (.int b, f') = some (.int (a % b), .c) := by
  show (if decide (0 < b) = true then some (D.int (a % b), Fl.c) else none) = _
  rw [decide_eq_true h]
  rfl
theorem div_i (a b : Int) (f f' : Fl) (h : 0 < b) (h2 : b.natAbs.log2 < 9000) : gDiv (.int a, f) (.int b, f') = some (.int (a / b), .c) := by
  show (if (decide (0 < b) && decide (b.natAbs.log2 < 9000)) = true then some (D.int (a / b), Fl.c) else none) = _
  rw [decide_eq_true h, decide_eq_true h2]
  rfl
theorem lt_i (a b : Int) (f f' : Fl) : gLt (.int a, f) (.int b, f') = some (.bl (decide (a < b)), .c) := Eq.trans rfl rfl
theorem le_i (a b : Int) (f f' : Fl) : gLe (.int a, f) (.int b, f') = some (.bl (decide (a ≤ b)), .c) := Eq.trans rfl rfl
theorem rangeD_succ (lo c : Int) (n : Nat) : rangeD lo c (n + 1) = .int lo :: rangeD (lo + c) c n := by
  unfold rangeD
  rw [List.range_succ_eq_map, List.map_cons, List.map_map]
  refine congr (congrArg _ (by simp)) (List.map_congr_left fun j _ => ?_)
  show D.int _ = D.int _
  congr 1
  push_cast
  rw [Int.add_mul]
  omega
theorem rangeD_zero (lo c : Int) : rangeD lo c 0 = [] := rfl
end Ev

set_option maxHeartbeats 4000000
/-! the mirrors of codewright_k19_whole_spans, printed by gen.py -/
namespace Mir
open PySem Mv
set_option maxRecDepth 100000
noncomputable def b__law_mixed : SM :=
    (sRet (eBin gDiv (eBin gMod (eBin gMul (eBin gMod (eBin gMul (eBin gAdd (eBin gAdd (eBin gAdd (eVar 0) (eBin gMul (eBin gMul (eC (.int 7919)) (eVar 1)) (eVar 1))) (eBin gMul (eC (.int 31)) (eVar 1))) (eC (.int 1))) (eC (.int 48271))) (eC (.int 2147483647))) (eC (.int 69621))) (eC (.int 2147483629))) (eC (.int 8))))
noncomputable def m__law_mixed : FM := fnM 2 b__law_mixed
noncomputable def b__law_close : SM :=
    (sSeq (sSet 2 (eBin gAdd (eC (.int 1)) (eBin gMod (eVar 0) (eVar 1))))
    (sSeq (sSet 3 (eCal gMax (aCons (eC (.int 0)) (aCons (eBin gSub (eVar 2) (eC (.int 12))) aNil))))
    (sSeq (sSet 4 (eBin gAdd (eCal gMax (aCons (eC (.int 1)) (aCons (eVar 3) aNil))) (eBin gMod (eFn 2 m__law_mixed (aCons (eVar 0) (aCons (eC (.int 1)) aNil))) (eBin gSub (eC (.int 13)) (eCal gMax (aCons (eC (.int 1)) (aCons (eVar 3) aNil)))))))
    (sSeq (sIf (tVal (eBin gLt (eVar 1) (eC (.int 13)))) (sSet 4 (eBin gAdd (eC (.int 1)) (eBin gMod (eVar 4) (eC (.int 5))))) sNil)
    (sSeq (sOwn 5 (eLst aNil))
    (sSeq (sFor (iArgs gRng1 (aCons (eVar 4) aNil)) (gN 6) (sSeq (sSet 7 (eBin gDiv (eFn 2 m__law_mixed (aCons (eVar 0) (aCons (eBin gAdd (eC (.int 2)) (eVar 6)) aNil))) (eC (.int 8))))
    (sSeq (sSet 8 (eBin gShl (eC (.int 1)) (eBin gSub (eBin gSub (eVar 2) (eC (.int 1))) (eBin gMod (eVar 6) (eVar 2)))))
    (sApp 5 (eIf (tVal (eBin gLt (eVar 6) (eVar 3))) (eBin gAdd (eVar 8) (eBin gMod (eVar 7) (eVar 8))) (eBin gMod (eVar 7) (eBin gShl (eC (.int 1)) (eVar 2))))))))
    (sRet (eTup (aCons (eVar 2) (aCons (eBin gStp (eVar 5) (eBin gIx (eLst (aCons (eC (.int 1)) (aCons (eUn gNeg (eC (.int 1))) aNil))) (eBin gMod (eBin gDiv (eVar 0) (eC (.int 24))) (eC (.int 2))))) aNil))))))))))
noncomputable def m__law_close : FM := fnM 9 b__law_close
noncomputable def b__law_weight : SM :=
    (sRet (eCal gSum (aCons (eLc (iArgs gRng1 (aCons (eC (.int 32)) aNil)) [1] (gN 1) tYesM (eBin gAnd (eBin gShr (eVar 0) (eVar 1)) (eC (.int 1)))) aNil)))
noncomputable def m__law_weight : FM := fnM 2 b__law_weight
noncomputable def b_Span_basis : SM :=
    (sRet (eCal gList (aCons (eFld [0] 1 (eVar 0)) aNil)))
noncomputable def m_Span_basis : FM := fnM 1 b_Span_basis
noncomputable def b_weight : SM :=
    (sSeq (sSet 1 (eC (.int 0)))
    (sSeq (sWhile (tVal (eBin gGt (eVar 0) (eC (.int 0)))) (sSeq (sSet 1 (eBin gAdd (eVar 1) (eBin gAnd (eVar 0) (eC (.int 1)))))
    (sSet 0 (eBin gShr (eVar 0) (eC (.int 1))))))
    (sRetV 1)))
noncomputable def m_weight : FM := fnM 2 b_weight
noncomputable def b_sums_of : SM :=
    (sSeq (sSet 1 (eLst (aCons (eC (.int 0)) aNil)))
    (sSeq (sFor (iSeq (eVar 0)) (gN 2) (sSet 1 (eBin gAdd (eVar 1) (eLc (iSeq (eVar 1)) [3] (gN 3) tYesM (eBin gXor (eVar 3) (eVar 2))))))
    (sRetV 1)))
noncomputable def m_sums_of : FM := fnM 4 b_sums_of
noncomputable def b_Span_words : SM :=
    (sRet (eCal gSorted (aCons (eFn 1 m_sums_of (aCons (eFld [0] 1 (eVar 0)) aNil)) aNil)))
noncomputable def m_Span_words : FM := fnM 1 b_Span_words
noncomputable def tab_words : Nat → Option FM := fun C => if C = 0 then some m_Span_words else none
noncomputable def b_Span_lightest : SM :=
    (sSeq (sSet 1 (eCal gSortP (aCons (eLc (iSeq (eMe 1 tab_words (eVar 0) aNil)) [2] (gN 2) tYesM (eTup (aCons (eFn 1 m_weight (aCons (eVar 2) aNil)) (aCons (eVar 2) aNil)))) aNil)))
    (sRet (eIf (tVal (eBin gGt (eCal gLen (aCons (eVar 1) aNil)) (eC (.int 1)))) (eBin gIx (eBin gIx (eVar 1) (eC (.int 1))) (eC (.int 1))) (eC .non))))
noncomputable def m_Span_lightest : FM := fnM 3 b_Span_lightest
noncomputable def tab_lightest : Nat → Option FM := fun C => if C = 0 then some m_Span_lightest else none
noncomputable def b_Span_distance : SM :=
    (sSeq (sSet 1 (eMe 1 tab_lightest (eVar 0) aNil))
    (sRet (eIf (tVal (eBin (gIsN false) (eVar 1) (eC .non))) (eC .non) (eFn 1 m_weight (aCons (eVar 1) aNil)))))
noncomputable def m_Span_distance : FM := fnM 2 b_Span_distance
noncomputable def b_is_odd : SM :=
    (sRet (eBin (gEq false) (eBin gMod (eFn 1 m_weight (aCons (eVar 0) aNil)) (eC (.int 2))) (eC (.int 1))))
noncomputable def m_is_odd : FM := fnM 1 b_is_odd
noncomputable def b_Span_mark_by : SM :=
    (sRet (eCal gSum (aCons (eLc (iArgs (gSeq1 enumD) (aCons (eFld [0] 2 (eVar 0)) aNil)) [2, 3] (gT 2 (gsC (gN 2) (gsC (gN 3) gsN))) (tVal (eFn 1 m_is_odd (aCons (eBin gAnd (eVar 1) (eVar 3)) aNil))) (eBin gShl (eC (.int 1)) (eVar 2))) aNil)))
noncomputable def m_Span_mark_by : FM := fnM 4 b_Span_mark_by
noncomputable def b_is_whole : SM :=
    (sRet (eAnd (eCal (gIsi "int" isiInt) (aCons (eVar 0) (aCons (eC (.cst (.ty "int"))) aNil))) (eNot (eCal (gIsi "bool" (isiOne "bool")) (aCons (eVar 0) (aCons (eC (.cst (.ty "bool"))) aNil))))))
noncomputable def m_is_whole : FM := fnM 1 b_is_whole
noncomputable def b_is_among : SM :=
    (sRet (eAnd (eFn 1 m_is_whole (aCons (eVar 0) aNil)) (eChain gLe gLe (eVar 1) (eVar 0) (eVar 2))))
noncomputable def m_is_among : FM := fnM 3 b_is_among
noncomputable def b_need : SM :=
    (sIf (tNotM (tVal (eVar 0))) (sRaise 3) sNil)
noncomputable def m_need : FM := fnM 1 b_need
noncomputable def b_Span_need_number : SM :=
    (sExpr (eFn 1 m_need (aCons (eFn 3 m_is_among (aCons (eVar 1) (aCons (eC (.int 0)) (aCons (eBin gSub (eBin gShl (eC (.int 1)) (eFld [0] 0 (eVar 0))) (eC (.int 1))) aNil)))) aNil)))
noncomputable def m_Span_need_number : FM := fnM 2 b_Span_need_number
noncomputable def tab_need_number : Nat → Option FM := fun C => if C = 0 then some m_Span_need_number else none
noncomputable def tab_mark_by : Nat → Option FM := fun C => if C = 0 then some m_Span_mark_by else none
noncomputable def b_Span_has : SM :=
    (sSeq (sExpr (eMe 2 tab_need_number (eVar 0) (aCons (eVar 1) aNil)))
    (sRet (eBin (gEq false) (eMe 2 tab_mark_by (eVar 0) (aCons (eVar 1) aNil)) (eC (.int 0)))))
noncomputable def m_Span_has : FM := fnM 2 b_Span_has
noncomputable def b_Span_all_best : SM :=
    (sSeq (sOwn 1 (eDict1 0 0 0))
    (sSeq (sFor (iArgs gRng1 (aCons (eFld [0] 0 (eVar 0)) aNil)) (gN 2) (sSeq (sSet 3 (eMe 2 tab_mark_by (eVar 0) (aCons (eBin gShl (eC (.int 1)) (eVar 2)) aNil)))
    (sSeq (sOwn 4 (eCal gDictD (aCons (eVar 1) aNil)))
    (sSeq (sItm 1 (gT 2 (gsC (gN 5) (gsC (gN 6) gsN))) (sSeq (sSet 7 (eTup (aCons (eBin gAdd (eBin gIx (eVar 6) (eC (.int 0))) (eC (.int 1))) (aCons (eBin gAdd (eBin gIx (eVar 6) (eC (.int 1))) (eBin gShl (eC (.int 1)) (eVar 2))) aNil))))
    (sIf (tOrM (tVal (eBin gDNi (eBin gXor (eVar 5) (eVar 3)) (eVar 4))) (tVal (eBin gLtP (eVar 7) (eBin gDIx (eVar 4) (eBin gXor (eVar 5) (eVar 3)))))) (sDSub 4 (eBin gXor (eVar 5) (eVar 3)) (eVar 7)) sNil)))
    (sMove 1 4)))))
    (sRetV 1)))
noncomputable def m_Span_all_best : FM := fnM 8 b_Span_all_best
noncomputable def tab_all_best : Nat → Option FM := fun C => if C = 0 then some m_Span_all_best else none
noncomputable def b_Span_leader : SM :=
    (sSeq (sExpr (eFn 1 m_need (aCons (eFn 3 m_is_among (aCons (eVar 1) (aCons (eC (.int 0)) (aCons (eBin gSub (eBin gShl (eC (.int 1)) (eCal gLen (aCons (eFld [0] 2 (eVar 0)) aNil))) (eC (.int 1))) aNil)))) aNil)))
    (sSeq (sIf (tVal (eBin (gIsN false) (eFld [0] 3 (eVar 0)) (eC .non))) (sAt [0] 3 (eVar 0) (eMe 1 tab_all_best (eVar 0) aNil)) sNil)
    (sRet (eBin gIx (eBin gDIx (eFld [0] 3 (eVar 0)) (eVar 1)) (eC (.int 1))))))
noncomputable def m_Span_leader : FM := fnM 2 b_Span_leader
noncomputable def tab_leader : Nat → Option FM := fun C => if C = 0 then some m_Span_leader else none
noncomputable def b_Span_nearest : SM :=
    (sSeq (sExpr (eMe 2 tab_need_number (eVar 0) (aCons (eVar 1) aNil)))
    (sRet (eBin gXor (eVar 1) (eMe 2 tab_leader (eVar 0) (aCons (eMe 2 tab_mark_by (eVar 0) (aCons (eVar 1) aNil)) aNil)))))
noncomputable def m_Span_nearest : FM := fnM 2 b_Span_nearest
noncomputable def b_Span_weights : SM :=
    (sSeq (sOwn 1 eDict0)
    (sSeq (sFor (iSeq (eCal gSorted (aCons (eLc (iSeq (eMe 1 tab_words (eVar 0) aNil)) [3] (gN 3) tYesM (eFn 1 m_weight (aCons (eVar 3) aNil))) aNil))) (gN 2) (sDSub 1 (eVar 2) (eBin gAdd (eDGet (eVar 1) (eVar 2) (eC (.int 0))) (eC (.int 1)))))
    (sRetV 1)))
noncomputable def m_Span_weights : FM := fnM 4 b_Span_weights
noncomputable def tab_distance : Nat → Option FM := fun C => if C = 0 then some m_Span_distance else none
noncomputable def tab_basis : Nat → Option FM := fun C => if C = 0 then some m_Span_basis else none
noncomputable def tab_nearest : Nat → Option FM := fun C => if C = 0 then some m_Span_nearest else none
noncomputable def tab_weights : Nat → Option FM := fun C => if C = 0 then some m_Span_weights else none
noncomputable def tab_has : Nat → Option FM := fun C => if C = 0 then some m_Span_has else none
noncomputable def b__law_come_back : SM :=
    (sSeq (sSet 3 (eMe 1 tab_words (eVar 0) aNil))
    (sSeq (sSet 4 (eMe 1 tab_distance (eVar 0) aNil))
    (sSeq (sIf (tVal (eBin (gIsN false) (eVar 4) (eC .non))) (sRet (eAnd (eBin (gEq false) (eVar 3) (eLst (aCons (eC (.int 0)) aNil))) (eAnd (eBin (gIsN false) (eMe 1 tab_lightest (eVar 0) aNil) (eC .non)) (eBin (gEq false) (eMe 1 tab_basis (eVar 0) aNil) (eLst aNil))))) sNil)
    (sSeq (sFor (iArgs gRng1 (aCons (eC (.int 4)) aNil)) (gN 5) (sSeq (sSet 6 (eBin gIx (eVar 3) (eBin gMod (eFn 2 m__law_mixed (aCons (eVar 2) (aCons (eBin gAdd (eC (.int 50)) (eVar 5)) aNil))) (eCal gLen (aCons (eVar 3) aNil)))))
    (sSeq (sSet 7 (eVar 6))
    (sSeq (sFor (iArgs gRng1 (aCons (eBin gDiv (eBin gSub (eVar 4) (eC (.int 1))) (eC (.int 2))) aNil)) (gN 8) (sSet 7 (eBin gXor (eVar 7) (eBin gShl (eC (.int 1)) (eBin gMod (eFn 2 m__law_mixed (aCons (eVar 2) (aCons (eBin gAdd (eBin gAdd (eC (.int 54)) (eBin gMul (eC (.int 9)) (eVar 5))) (eVar 8)) aNil))) (eVar 1))))))
    (sIf (tVal (eBin (gEq true) (eMe 2 tab_nearest (eVar 0) (aCons (eVar 7) aNil)) (eVar 6))) (sRet (eC (.bl false))) sNil)))))
    (sSeq (sSet 9 (eMe 1 tab_weights (eVar 0) aNil))
    (sSeq (sIf (tOrM (tVal (eBin (gEq true) (eCal gSum (aCons (eLc (iSeq (eCal gListD (aCons (eVar 9) aNil))) [10] (gN 10) tYesM (eBin gDIx (eVar 9) (eVar 10))) aNil)) (eBin gShl (eC (.int 1)) (eCal gLen (aCons (eMe 1 tab_basis (eVar 0) aNil) aNil))))) (tVal (eBin (gEq true) (eSl (eCal gListD (aCons (eVar 9) aNil)) oNo (oSo (eC (.int 2)))) (eLst (aCons (eC (.int 0)) (aCons (eVar 4) aNil)))))) (sRet (eC (.bl false))) sNil)
    (sRet (eAnd (eMe 2 tab_has (eVar 0) (aCons (eMe 1 tab_lightest (eVar 0) aNil) aNil)) (eBin (gEq false) (eFn 1 m__law_weight (aCons (eMe 1 tab_lightest (eVar 0) aNil) aNil)) (eVar 4))))))))))
noncomputable def m__law_come_back : FM := fnM 11 b__law_come_back
noncomputable def b_Span_checks : SM :=
    (sRet (eCal gList (aCons (eFld [0] 2 (eVar 0)) aNil)))
noncomputable def m_Span_checks : FM := fnM 1 b_Span_checks
noncomputable def b_high_place : SM :=
    (sSeq (sSet 1 (eUn gNeg (eC (.int 1))))
    (sSeq (sWhile (tVal (eBin gGt (eVar 0) (eC (.int 0)))) (sSeq (sSet 1 (eBin gAdd (eVar 1) (eC (.int 1))))
    (sSet 0 (eBin gShr (eVar 0) (eC (.int 1))))))
    (sRetV 1)))
noncomputable def m_high_place : FM := fnM 2 b_high_place
noncomputable def b_need_form : SM :=
    (sIf (tNotM (tVal (eFn 3 m_is_among (aCons (eVar 0) (aCons (eC (.int 0)) (aCons (eC (.int 4294967295)) aNil)))))) (sRaise 2) sNil)
noncomputable def m_need_form : FM := fnM 1 b_need_form
noncomputable def b_degree : SM :=
    (sSeq (sExpr (eFn 1 m_need_form (aCons (eVar 0) aNil)))
    (sRet (eFn 1 m_high_place (aCons (eVar 0) aNil))))
noncomputable def m_degree : FM := fnM 1 b_degree
noncomputable def b_basis_of : SM :=
    (sSeq (sOwn 1 (eLst aNil))
    (sSeq (sFor (iSeq (eVar 0)) (gN 2) (sSeq (sDem 1 (sFor (iSeq (eVar 1)) (gN 3) (sIf (tVal (eBin (gEq false) (eBin gAnd (eBin gShr (eVar 2) (eFn 1 m_degree (aCons (eVar 3) aNil))) (eC (.int 1))) (eC (.int 1)))) (sSet 2 (eBin gXor (eVar 2) (eVar 3))) sNil)))
    (sIf (tVal (eBin gGt (eVar 2) (eC (.int 0)))) (sSeq (sSet 4 (eFn 1 m_degree (aCons (eVar 2) aNil)))
    (sSeq (sDem 1 (sOwn 1 (eLc (iSeq (eVar 1)) [3] (gN 3) tYesM (eIf (tVal (eBin (gEq false) (eBin gAnd (eBin gShr (eVar 3) (eVar 4)) (eC (.int 1))) (eC (.int 1)))) (eBin gXor (eVar 3) (eVar 2)) (eVar 3)))))
    (sApp 1 (eVar 2)))) sNil)))
    (sRet (eCal gSorted (aCons (eVar 1) aNil)))))
noncomputable def m_basis_of : FM := fnM 5 b_basis_of
noncomputable def b_checks_of : SM :=
    (sSeq (sSet 2 (eLc (iSeq (eVar 1)) [6] (gN 6) tYesM (eFn 1 m_degree (aCons (eVar 6) aNil))))
    (sSeq (sOwn 3 (eLst aNil))
    (sSeq (sFor (iArgs gRng1 (aCons (eVar 0) aNil)) (gN 4) (sIf (tVal (eBin (gIn true) (eVar 4) (eVar 2))) (sSeq (sSet 5 (eLc (iArgs gZip (aCons (eVar 2) (aCons (eVar 1) aNil))) [7, 6] (gT 2 (gsC (gN 7) (gsC (gN 6) gsN))) (tVal (eBin (gEq false) (eBin gAnd (eBin gShr (eVar 6) (eVar 4)) (eC (.int 1))) (eC (.int 1)))) (eBin gShl (eC (.int 1)) (eVar 7))))
    (sApp 3 (eBin gAdd (eCal gSum (aCons (eVar 5) aNil)) (eBin gShl (eC (.int 1)) (eVar 4))))) sNil))
    (sRet (eFn 1 m_basis_of (aCons (eVar 3) aNil))))))
noncomputable def m_checks_of : FM := fnM 8 b_checks_of
noncomputable def b_Span___init__ : SM :=
    (sSeq (sExpr (eFn 1 m_need (aCons (eAnd (eFn 3 m_is_among (aCons (eVar 1) (aCons (eC (.int 1)) (aCons (eC (.int 24)) aNil)))) (eAnd (eCal (gIsi "list" (isiOne "list")) (aCons (eVar 2) (aCons (eC (.cst (.ty "list"))) aNil))) (eChain gLe gLe (eC (.int 1)) (eCal gLen (aCons (eVar 2) aNil)) (eC (.int 12))))) aNil)))
    (sSeq (sExpr (eFn 1 m_need (aCons (eCal gAll (aCons (eLc (iSeq (eVar 2)) [3] (gN 3) tYesM (eFn 3 m_is_among (aCons (eVar 3) (aCons (eC (.int 0)) (aCons (eBin gSub (eBin gShl (eC (.int 1)) (eVar 1)) (eC (.int 1))) aNil))))) aNil)) aNil)))
    (sSeq (sAt [0] 0 (eVar 0) (eVar 1))
    (sSeq (sAt [0] 1 (eVar 0) (eFn 1 m_basis_of (aCons (eVar 2) aNil)))
    (sSeq (sAt [0] 2 (eVar 0) (eFn 2 m_checks_of (aCons (eVar 1) (aCons (eFld [0] 1 (eVar 0)) aNil))))
    (sAt [0] 3 (eVar 0) (eC .non)))))))
noncomputable def m_Span___init__ : FM := fnM 4 b_Span___init__
noncomputable def tab_checks : Nat → Option FM := fun C => if C = 0 then some m_Span_checks else none
noncomputable def b__law_duals_good : SM :=
    (sSeq (sPar 2 3 (eMe 1 tab_basis (eVar 0) aNil) (eMe 1 tab_checks (eVar 0) aNil))
    (sSeq (sIf (tOrM (tVal (eBin (gEq false) (eVar 3) (eLst aNil))) (tVal (eBin (gEq true) (eBin gAdd (eCal gLen (aCons (eVar 2) aNil)) (eCal gLen (aCons (eVar 3) aNil))) (eVar 1)))) (sRet (eAnd (eBin (gEq false) (eVar 3) (eLst aNil)) (eBin (gEq false) (eCal gLen (aCons (eVar 2) aNil)) (eVar 1)))) sNil)
    (sSeq (sSet 4 (eNew 0 3 m_Span___init__ (aCons (eVar 1) (aCons (eVar 3) aNil))))
    (sRet (eAnd (eBin (gEq false) (eMe 1 tab_basis (eVar 4) aNil) (eVar 3)) (eBin (gEq false) (eMe 1 tab_checks (eVar 4) aNil) (eVar 2)))))))
noncomputable def m__law_duals_good : FM := fnM 5 b__law_duals_good
noncomputable def b__law_number : SM :=
    (sSeq (sSet 2 (eC (.int 17)))
    (sSeq (sIf (tVal (eBin gGt (eCal gLen (aCons (eVar 0) aNil)) (eC (.int 0)))) (sSet 2 (eBin gMod (eBin gIx (eVar 0) (eBin gMod (eVar 1) (eCal gLen (aCons (eVar 0) aNil)))) (eC (.int 2147483647)))) sNil)
    (sRet (eBin gDiv (eBin gMod (eBin gMul (eBin gMod (eBin gMul (eBin gAdd (eBin gAdd (eBin gAdd (eVar 2) (eBin gMul (eBin gMul (eC (.int 7919)) (eVar 1)) (eVar 1))) (eBin gMul (eC (.int 31)) (eVar 1))) (eC (.int 11))) (eC (.int 48271))) (eC (.int 2147483647))) (eC (.int 69621))) (eC (.int 2147483629))) (eC (.int 8))))))
noncomputable def m__law_number : FM := fnM 3 b__law_number
noncomputable def b__law_same : SM :=
    (sRet (eBin gEqV (eLst (aCons (eMe 1 tab_basis (eVar 0) aNil) (aCons (eMe 1 tab_checks (eVar 0) aNil) (aCons (eMe 1 tab_weights (eVar 0) aNil) aNil)))) (eLst (aCons (eMe 1 tab_basis (eVar 1) aNil) (aCons (eMe 1 tab_checks (eVar 1) aNil) (aCons (eMe 1 tab_weights (eVar 1) aNil) aNil))))))
noncomputable def m__law_same : FM := fnM 2 b__law_same
noncomputable def b_Span_mark : SM :=
    (sSeq (sExpr (eMe 2 tab_need_number (eVar 0) (aCons (eVar 1) aNil)))
    (sRet (eMe 2 tab_mark_by (eVar 0) (aCons (eVar 1) aNil))))
noncomputable def m_Span_mark : FM := fnM 2 b_Span_mark
noncomputable def tab_mark : Nat → Option FM := fun C => if C = 0 then some m_Span_mark else none
noncomputable def b__law_sums_good : SM :=
    (sSeq (sSet 3 (eMe 1 tab_words (eVar 0) aNil))
    (sSeq (sAsg (gL 2 (gsC (gN 4) (gsC (gN 5) gsN))) (eLc (iArgs gRng1 (aCons (eC (.int 2)) aNil)) [8] (gN 8) tYesM (eBin gMod (eFn 2 m__law_mixed (aCons (eVar 2) (aCons (eBin gAdd (eC (.int 40)) (eVar 8)) aNil))) (eBin gShl (eC (.int 1)) (eVar 1)))))
    (sSeq (sSet 6 (eBin gIx (eVar 3) (eBin gMod (eFn 2 m__law_mixed (aCons (eVar 2) (aCons (eC (.int 42)) aNil))) (eCal gLen (aCons (eVar 3) aNil)))))
    (sSeq (sIf (tOrM (tVal (eBin (gEq true) (eMe 2 tab_mark (eVar 0) (aCons (eBin gXor (eVar 4) (eVar 5)) aNil)) (eBin gXor (eMe 2 tab_mark (eVar 0) (aCons (eVar 4) aNil)) (eMe 2 tab_mark (eVar 0) (aCons (eVar 5) aNil))))) (tVal (eBin (gEq true) (eMe 2 tab_mark (eVar 0) (aCons (eVar 6) aNil)) (eC (.int 0))))) (sRet (eC (.bl false))) sNil)
    (sSeq (sIf (tOrM (tVal (eBin (gEq true) (eMe 2 tab_mark (eVar 0) (aCons (eVar 4) aNil)) (eMe 2 tab_mark (eVar 0) (aCons (eBin gXor (eVar 4) (eVar 6)) aNil)))) (tVal (eBin (gEq true) (eMe 2 tab_has (eVar 0) (aCons (eVar 4) aNil)) (eBin (gEq false) (eMe 2 tab_mark (eVar 0) (aCons (eVar 4) aNil)) (eC (.int 0)))))) (sRet (eC (.bl false))) sNil)
    (sSeq (sSet 7 (eMe 2 tab_nearest (eVar 0) (aCons (eVar 4) aNil)))
    (sSeq (sIf (tOrM (tNotM (tVal (eMe 2 tab_has (eVar 0) (aCons (eVar 7) aNil)))) (tOrM (tVal (eBin (gEq true) (eBin gXor (eVar 7) (eMe 2 tab_leader (eVar 0) (aCons (eMe 2 tab_mark (eVar 0) (aCons (eVar 4) aNil)) aNil))) (eVar 4))) (tVal (eBin (gEq true) (eMe 2 tab_nearest (eVar 0) (aCons (eBin gXor (eVar 4) (eVar 6)) aNil)) (eBin gXor (eVar 7) (eVar 6)))))) (sRet (eC (.bl false))) sNil)
    (sRet (eAnd (eBin (gEq false) (eMe 2 tab_nearest (eVar 0) (aCons (eVar 6) aNil)) (eVar 6)) (eBin gLe (eFn 1 m__law_weight (aCons (eBin gXor (eVar 4) (eVar 7)) aNil)) (eFn 1 m__law_weight (aCons (eBin gXor (eVar 4) (eVar 6)) aNil))))))))))))
noncomputable def m__law_sums_good : FM := fnM 9 b__law_sums_good
noncomputable def b__law_turned : SM :=
    (sSeq (sOwn 2 (eCal gList (aCons (eRevL (eVar 0)) aNil)))
    (sSeq (sFor (iArgs gRng1 (aCons (eCal gLen (aCons (eVar 2) aNil)) aNil)) (gN 3) (sSeq (sSet 4 (eBin gMod (eFn 2 m__law_mixed (aCons (eVar 1) (aCons (eBin gAdd (eC (.int 80)) (eVar 3)) aNil))) (eCal gLen (aCons (eVar 2) aNil))))
    (sIf (tVal (eBin (gEq true) (eVar 4) (eVar 3))) (sSub 2 (eVar 3) (eBin gXor (eBin gIx (eVar 2) (eVar 3)) (eBin gIx (eVar 2) (eVar 4)))) sNil)))
    (sRetV 2)))
noncomputable def m__law_turned : FM := fnM 5 b__law_turned
noncomputable def b_law : SM :=
    (sSeq (sFor (iArgs gRng1 (aCons (eCal gMax (aCons (eC (.int 1)) (aCons (eCal gMin (aCons (eC (.int 30)) (aCons (eCal gLen (aCons (eVar 0) aNil)) aNil))) aNil))) aNil)) (gN 1) (sSeq (sSet 2 (eFn 2 m__law_number (aCons (eVar 0) (aCons (eVar 1) aNil))))
    (sSeq (sAsg (gT 2 (gsC (gN 3) (gsC (gN 4) gsN))) (eFn 2 m__law_close (aCons (eVar 2) (aCons (eBin gIx (eLst (aCons (eC (.int 12)) (aCons (eC (.int 24)) aNil))) (eCal gIntT (aCons (eBin (gEq false) (eVar 1) (eC (.int 0))) aNil))) aNil))))
    (sSeq (sSet 5 (eNew 0 3 m_Span___init__ (aCons (eVar 3) (aCons (eVar 4) aNil))))
    (sSeq (sIf (tOrM (tNotM (tVal (eFn 2 m__law_same (aCons (eVar 5) (aCons (eNew 0 3 m_Span___init__ (aCons (eVar 3) (aCons (eFn 2 m__law_turned (aCons (eVar 4) (aCons (eVar 2) aNil))) aNil))) aNil))))) (tNotM (tVal (eFn 2 m__law_duals_good (aCons (eVar 5) (aCons (eVar 3) aNil)))))) (sRet (eC (.bl false))) sNil)
    (sIf (tOrM (tNotM (tVal (eFn 3 m__law_sums_good (aCons (eVar 5) (aCons (eVar 3) (aCons (eVar 2) aNil)))))) (tNotM (tVal (eFn 3 m__law_come_back (aCons (eVar 5) (aCons (eVar 3) (aCons (eVar 2) aNil))))))) (sRet (eC (.bl false))) sNil))))))
    (sRet (eC (.bl true))))
noncomputable def m_law : FM := fnM 6 b_law
end Mir

set_option maxRecDepth 100000
set_option maxHeartbeats 4000000
/-! k15: rows of bits, their sums, plain -/
namespace Fin
/-- how many bits -/
def bl : Nat → Nat
  | 0 => 0
  | n + 1 => bl ((n + 1) / 2) + 1
theorem bl_pos {n : Nat} (h : 0 < n) : bl n = bl (n / 2) + 1 := by
  cases n with
  | zero => omega
  | succ n => rw [bl]
theorem lt_iff : ∀ (k n : Nat), n < 2 ^ k ↔ bl n ≤ k := by
  intro k
  induction k with
  | zero =>
    intro n
    cases n with
    | zero => simp [bl]
    | succ n => rw [bl]; omega
  | succ k ih =>
    intro n
    cases n with
    | zero => simp [bl, Nat.two_pow_pos]
    | succ n =>
      rw [bl, Nat.succ_le_succ_iff, ← ih, Nat.pow_succ]
      omega
theorem le_bl {n : Nat} (h : 0 < n) : 2 ^ (bl n - 1) ≤ n := by
  rcases Nat.lt_or_ge n (2 ^ (bl n - 1)) with q | q
  · have := (lt_iff _ n).mp q
    have := bl_pos h
    omega
  · exact q
theorem bl_eq {n k : Nat} (h1 : 2 ^ k ≤ n) (h2 : n < 2 ^ (k + 1)) : bl n = k + 1 := by
  have a := (lt_iff (k + 1) n).mp h2
  rcases Nat.lt_or_ge k (bl n) with q | q
  · omega
  · have := (lt_iff k n).mpr q
    omega
def top (n : Nat) : Nat := bl n - 1
theorem top_bit {n : Nat} (h : 0 < n) : n.testBit (top n) = true := by
  have h1 := le_bl h
  have h2 : n < 2 ^ (top n + 1) := (lt_iff _ _).mpr (by unfold top; have := bl_pos h; omega)
  rw [Nat.testBit_eq_decide_div_mod_eq, decide_eq_true_eq]
  unfold top at *
  have h3 := Nat.div_lt_of_lt_mul (show n < 2 ^ (bl n - 1) * 2 by rw [← Nat.pow_succ]; exact h2)
  have h4 := Nat.div_pos h1 (Nat.two_pow_pos (bl n - 1))
  generalize n / 2 ^ (bl n - 1) = v at h3 h4
  omega
theorem over_top {n j : Nat} (h : top n < j) : n.testBit j = false := by
  refine Nat.testBit_lt_two_pow ((lt_iff j n).mpr ?_)
  unfold top at h
  omega
theorem top_of {n t : Nat} (h1 : n.testBit t = true) (h2 : ∀ j, t < j → n.testBit j = false) : 0 < n ∧ top n = t := by
  have hp : 0 < n := by
    rcases Nat.eq_zero_or_pos n with q | q
    · rw [q, Nat.zero_testBit] at h1
      cases h1
    · exact q
  refine ⟨hp, ?_⟩
  rcases Nat.lt_trichotomy (top n) t with q | q | q
  · rw [over_top q] at h1
    cases h1
  · exact q
  · have := h2 _ q
    rw [top_bit hp] at this
    cases this
/-! ### sums -/
inductive Sp (xs : List Nat) : Nat → Prop
  | zero : Sp xs 0
  | add {x y : Nat} : x ∈ xs → Sp xs y → Sp xs (x ^^^ y)
theorem Sp.mem {xs : List Nat} {x : Nat} (h : x ∈ xs) : Sp xs x := by
  have := Sp.add h (Sp.zero (xs := xs))
  rwa [Nat.xor_zero] at this
theorem Sp.xor {xs : List Nat} {a b : Nat} (ha : Sp xs a) (hb : Sp xs b) : Sp xs (a ^^^ b) := by
  induction ha with
  | zero => rwa [Nat.zero_xor]
  | add h _ ih => rw [Nat.xor_assoc]; exact .add h ih
theorem Sp.sub {xs ys : List Nat} (h : ∀ x ∈ xs, Sp ys x) {y : Nat} (hy : Sp xs y) : Sp ys y := by
  induction hy with
  | zero => exact .zero
  | add hx _ ih => exact (h _ hx).xor ih
theorem Sp.iff {xs ys : List Nat} (h1 : ∀ x ∈ xs, Sp ys x) (h2 : ∀ y ∈ ys, Sp xs y) (z : Nat) : Sp xs z ↔ Sp ys z := ⟨Sp.sub h1, Sp.sub h2⟩
theorem xx (a b : Nat) : (a ^^^ b) ^^^ b = a := by rw [Nat.xor_assoc, Nat.xor_self, Nat.xor_zero]
theorem xxl (a b : Nat) : a ^^^ (a ^^^ b) = b := by rw [← Nat.xor_assoc, Nat.xor_self, Nat.zero_xor]
theorem sp_snoc {xs : List Nat} {x y : Nat} : Sp (xs ++ [x]) y ↔ Sp xs y ∨ Sp xs (y ^^^ x) := by
  constructor
  · intro h
    induction h with
    | zero => exact .inl .zero
    | @add z w hz _ ih =>
      rcases List.mem_append.mp hz with hz | hz
      · rcases ih with ih | ih
        · exact .inl (.add hz ih)
        · exact .inr (by rw [Nat.xor_assoc]; exact .add hz ih)
      · rw [List.mem_singleton.mp hz]
        rcases ih with ih | ih
        · exact .inr (by rw [Nat.xor_comm x, xx]; exact ih)
        · exact .inl (by rw [Nat.xor_comm]; exact ih)
  · intro h
    rcases h with h | h
    · exact h.sub fun z hz => .mem (List.mem_append_left _ hz)
    · have h2 : Sp (xs ++ [x]) (y ^^^ x) := h.sub fun z hz => .mem (List.mem_append_left _ hz)
      have h3 := h2.xor (Sp.mem (List.mem_append_right xs (.head [])))
      rwa [xx] at h3
/-- the program's sums -/
def sumS (found : List Nat) (x : Nat) : List Nat := found ++ found.map (· ^^^ x)
def sumF (rows : List Nat) : List Nat := rows.foldl sumS [0]
/-- the law's sums -/
def lsS (found : List Nat) (x : Nat) : List Nat := if x ∈ found then found else sumS found x
def lsF (rows : List Nat) : List Nat := rows.foldl lsS [0]
theorem mem_sumS {found done : List Nat} {x : Nat} (h : ∀ y, y ∈ found ↔ Sp done y) (y : Nat) : y ∈ sumS found x ↔ Sp (done ++ [x]) y := by
  unfold sumS
  rw [List.mem_append, sp_snoc, h, List.mem_map]
  constructor
  · rintro (a | ⟨z, hz, rfl⟩)
    · exact .inl a
    · exact .inr (by rw [xx]; exact (h z).mp hz)
  · rintro (a | a)
    · exact .inl a
    · exact .inr ⟨_, (h _).mpr a, xx y x⟩
theorem fold_mem : ∀ (rows found done : List Nat), (∀ y, y ∈ found ↔ Sp done y) → ∀ y, y ∈ rows.foldl sumS found ↔ Sp (done ++ rows) y
  | [], found, done, h, y => by rw [List.append_nil]; exact h y
  | x :: rows, found, done, h, y => by
    rw [List.foldl_cons, fold_mem rows _ (done ++ [x]) (mem_sumS h), List.append_assoc]
    rfl
theorem sp_nil (y : Nat) : y ∈ [0] ↔ Sp [] y := by
  rw [List.mem_singleton]
  constructor
  · rintro rfl
    exact .zero
  · intro h
    cases h with
    | zero => rfl
    | add h _ => cases h
theorem mem_sumF (rows : List Nat) (y : Nat) : y ∈ sumF rows ↔ Sp rows y := by
  have := fold_mem rows [0] [] sp_nil y
  exact this
theorem mem_lsS {found done : List Nat} {x : Nat} (h : ∀ y, y ∈ found ↔ Sp done y) (y : Nat) : y ∈ lsS found x ↔ Sp (done ++ [x]) y := by
  unfold lsS
  split
  · rename_i hx
    have hx' := (h x).mp hx
    rw [h, sp_snoc]
    constructor
    · exact .inl
    · rintro (a | a)
      · exact a
      · have := a.xor hx'
        rwa [xx] at this
  · exact mem_sumS h y
theorem nd_sumS {found done : List Nat} {x : Nat} (h : ∀ y, y ∈ found ↔ Sp done y) (nd : found.Nodup) (hx : x ∉ found) : (sumS found x).Nodup := by
  unfold sumS
  rw [List.nodup_append]
  refine ⟨nd, ?_, fun a ha b hb e => ?_⟩
  · rw [List.nodup_iff_pairwise_ne, List.pairwise_map]
    exact (List.nodup_iff_pairwise_ne.mp nd).imp fun {a b} hne e => hne (by
      have := congrArg (· ^^^ x) e
      simpa only [xx] using this)
  · obtain ⟨c, hc, rfl⟩ := List.mem_map.mp hb
    subst e
    have := ((h _).mp hc).xor ((h _).mp ha)
    rw [xxl] at this
    exact hx ((h x).mpr this)
theorem lsfold : ∀ (rows found done : List Nat), (∀ y, y ∈ found ↔ Sp done y) → found.Nodup → (∀ y, y ∈ rows.foldl lsS found ↔ Sp (done ++ rows) y) ∧ (rows.foldl lsS found).Nodup
  | [], found, done, h, nd => ⟨fun y => by rw [List.append_nil]; exact h y, nd⟩
  | x :: rows, found, done, h, nd => by
    have := lsfold rows (lsS found x) (done ++ [x]) (mem_lsS h) (by
      unfold lsS
      split
      · exact nd
      · exact nd_sumS h nd (by assumption))
    rw [List.append_assoc] at this
    exact this
theorem mem_lsF (rows : List Nat) (y : Nat) : y ∈ lsF rows ↔ Sp rows y := (lsfold rows [0] [] sp_nil (by simp)).1 y
theorem nd_lsF (rows : List Nat) : (lsF rows).Nodup := (lsfold rows [0] [] sp_nil (by simp)).2
/-! ### rows each with its own highest bit -/
def Rl (a b : Nat) : Prop := a.testBit (top b) = false ∧ b.testBit (top a) = false
structure RR (rows : List Nat) : Prop where
  pos : ∀ r ∈ rows, 0 < r
  pw : rows.Pairwise Rl
theorem Rl.symm {a b : Nat} (h : Rl a b) : Rl b a := ⟨h.2, h.1⟩
theorem RR.perm {xs ys : List Nat} (h : RR xs) (p : xs.Perm ys) : RR ys := ⟨fun r hr => h.pos r (p.mem_iff.mpr hr), (p.pairwise_iff (fun h => h.symm)).mp h.pw⟩
/-- in rows of their own, a sum of the others hasn't a row's highest bit -/
theorem sp_bit {rows : List Nat} {t : Nat} (h : ∀ r ∈ rows, r.testBit t = false) {y : Nat} (hy : Sp rows y) : y.testBit t = false := by
  induction hy with
  | zero => exact Nat.zero_testBit t
  | add hx _ ih => rw [Nat.testBit_xor, h _ hx, ih]; rfl
theorem ls_eq : ∀ (rows found done : List Nat), (∀ y, y ∈ found ↔ Sp done y) → (∀ r ∈ rows, 0 < r) → rows.Pairwise Rl → (∀ r ∈ rows, ∀ d ∈ done, d.testBit (top r) = false) → rows.foldl lsS found = rows.foldl sumS found
  | [], _, _, _, _, _, _ => rfl
  | x :: rows, found, done, h, hp, pw, q => by
    have nx : x ∉ found := fun z => by
      have := sp_bit (q x (.head _)) ((h x).mp z)
      rw [top_bit (hp x (.head _))] at this
      cases this
    have e : lsS found x = sumS found x := if_neg nx
    rw [List.foldl_cons, List.foldl_cons, e]
    refine ls_eq rows _ (done ++ [x]) (mem_sumS h) (fun r hr => hp r (.tail _ hr)) (List.pairwise_cons.mp pw).2 fun r hr d hd => ?_
    rcases List.mem_append.mp hd with hd | hd
    · exact q r (.tail _ hr) d hd
    · rw [List.mem_singleton.mp hd]
      exact ((List.pairwise_cons.mp pw).1 r hr).1
theorem RR.ls {rows : List Nat} (h : RR rows) : lsF rows = sumF rows := ls_eq rows [0] [] sp_nil h.pos h.pw fun _ _ _ hd => nomatch hd
theorem len_sum : ∀ (rows found : List Nat), (rows.foldl sumS found).length = found.length * 2 ^ rows.length
  | [], found => by simp
  | x :: rows, found => by
    rw [List.foldl_cons, len_sum rows, List.length_cons, Nat.pow_succ]
    unfold sumS
    rw [List.length_append, List.length_map, ← Nat.two_mul, Nat.mul_comm 2, Nat.mul_assoc, Nat.mul_comm 2]
theorem len_sumF (rows : List Nat) : (sumF rows).length = 2 ^ rows.length := by
  have := len_sum rows [0]
  rw [List.length_singleton, Nat.one_mul] at this
  exact this
theorem perm_sums {xs ys : List Nat} (nx : xs.Nodup) (ny : ys.Nodup) (h : ∀ z, z ∈ xs ↔ z ∈ ys) : xs.Perm ys := (List.perm_ext_iff_of_nodup nx ny).mpr h
/-- one of a bit -/
theorem one_bit {rows : List Nat} (h : RR rows) {r : Nat} (hr : r ∈ rows) : (rows.filter fun o => o.testBit (top r)) = [r] := by
  obtain ⟨A, B, rfl⟩ := List.append_of_mem hr
  have pw := List.pairwise_append.mp h.pw
  have pb := List.pairwise_cons.mp pw.2.1
  rw [List.filter_append, List.filter_cons_of_pos (by exact top_bit (h.pos r hr)), List.filter_eq_nil_iff.mpr (fun a ha => by rw [(pw.2.2 a ha r (.head _)).1]; simp), List.filter_eq_nil_iff.mpr (fun a ha => by rw [(pb.1 a ha).2]; simp)]
  rfl
end Fin

set_option maxRecDepth 100000
set_option maxHeartbeats 4000000
/-! k15: the basis, the checks, plain -/
namespace Fin
def redS (x r : Nat) : Nat := if x.testBit (top r) then x ^^^ r else x
def redF (rows : List Nat) (x : Nat) : Nat := rows.foldl redS x
def nr (y r : Nat) : Nat := if r.testBit (top y) then r ^^^ y else r
def insF (rows : List Nat) (x : Nat) : List Nat := if 0 < redF rows x then rows.map (nr (redF rows x)) ++ [redF rows x] else rows
def basR (xs : List Nat) : List Nat := xs.foldl insF []
theorem red_sp : ∀ (rows : List Nat) (x : Nat), Sp rows (x ^^^ redF rows x)
  | [], x => by
    show Sp [] (x ^^^ x)
    rw [Nat.xor_self]
    exact .zero
  | r :: rows, x => by
    have ih := (red_sp rows (redS x r)).sub (ys := r :: rows) fun z hz => .mem (.tail _ hz)
    show Sp (r :: rows) (x ^^^ redF rows (redS x r))
    unfold redS at ih ⊢
    by_cases hq : x.testBit (top r) = true
    · rw [if_pos hq] at ih ⊢
      have := (Sp.mem (xs := r :: rows) (.head _)).xor ih
      rw [← Nat.xor_assoc, Nat.xor_comm r, xx] at this
      exact this
    · rw [if_neg hq] at ih ⊢
      exact ih
theorem red_bit : ∀ (rest done : List Nat) (x : Nat), (done ++ rest).Pairwise Rl → (∀ r ∈ rest, 0 < r) → (∀ d ∈ done, x.testBit (top d) = false) → ∀ r ∈ done ++ rest, (redF rest x).testBit (top r) = false
  | [], done, x, _, _, h, r, hr => by
    rw [List.append_nil] at hr
    exact h r hr
  | q :: rest, done, x, pw, hp, h, r, hr => by
    have e : done ++ q :: rest = (done ++ [q]) ++ rest := by simp
    refine red_bit rest (done ++ [q]) (redS x q) (by rw [← e]; exact pw) (fun r hr => hp r (.tail _ hr)) (fun d hd => ?_) r (by rw [← e]; exact hr)
    have pq := List.pairwise_append.mp pw
    unfold redS
    rcases List.mem_append.mp hd with hd | hd
    · have z := (pq.2.2 d hd q (.head _)).2
      split
      · rw [Nat.testBit_xor, h d hd, z]
        rfl
      · exact h d hd
    · rw [List.mem_singleton.mp hd]
      split
      · rename_i hq
        rw [Nat.testBit_xor, hq, top_bit (hp q (.head _))]
        rfl
      · rename_i hq
        exact eq_false_of_ne_true hq
theorem nr_top {y r : Nat} (hr : 0 < r) (hy : 0 < y) (hz : y.testBit (top r) = false) : 0 < nr y r ∧ top (nr y r) = top r := by
  unfold nr
  split
  · rename_i h
    refine top_of (by rw [Nat.testBit_xor, top_bit hr, hz]; rfl) fun j hj => ?_
    have h1 : top y ≤ top r := by
      rcases Nat.lt_or_ge (top r) (top y) with q | q
      · rw [over_top q] at h
        cases h
      · exact q
    rw [Nat.testBit_xor, over_top hj, over_top (Nat.lt_of_le_of_lt h1 hj)]
    rfl
  · exact ⟨hr, rfl⟩
theorem nr_bit {y r t : Nat} (h1 : r.testBit t = false) (h2 : y.testBit t = false) : (nr y r).testBit t = false := by
  unfold nr
  split
  · rw [Nat.testBit_xor, h1, h2]
    rfl
  · exact h1
theorem nr_own {y r : Nat} (hy : 0 < y) : (nr y r).testBit (top y) = false := by
  unfold nr
  split
  · rename_i h
    rw [Nat.testBit_xor, h, top_bit hy]
    rfl
  · rename_i h
    exact eq_false_of_ne_true h
theorem ins_rr {rows : List Nat} (h : RR rows) (x : Nat) : RR (insF rows x) := by
  have hz := red_bit rows [] x h.pw h.pos (fun _ hd => nomatch hd)
  rw [List.nil_append] at hz
  unfold insF
  split
  · rename_i hy
    generalize redF rows x = y at *
    refine ⟨fun r hr => ?_, List.pairwise_append.mpr ⟨?_, List.pairwise_singleton _ _, fun a ha b hb => ?_⟩⟩
    · rcases List.mem_append.mp hr with hr | hr
      · obtain ⟨q, hq, rfl⟩ := List.mem_map.mp hr
        exact (nr_top (h.pos q hq) hy (hz q hq)).1
      · rw [List.mem_singleton.mp hr]
        exact hy
    · rw [List.pairwise_map]
      refine h.pw.imp_of_mem fun {a b} ha hb hR => ?_
      unfold Rl
      rw [(nr_top (h.pos a ha) hy (hz a ha)).2, (nr_top (h.pos b hb) hy (hz b hb)).2]
      exact ⟨nr_bit hR.1 (hz b hb), nr_bit hR.2 (hz a ha)⟩
    · obtain ⟨q, hq, rfl⟩ := List.mem_map.mp ha
      rw [List.mem_singleton.mp hb]
      unfold Rl
      rw [(nr_top (h.pos q hq) hy (hz q hq)).2]
      exact ⟨nr_own hy, hz q hq⟩
  · exact h
theorem ins_sp (rows : List Nat) (x z : Nat) : Sp (insF rows x) z ↔ Sp (rows ++ [x]) z := by
  have hs := red_sp rows x
  have up : ∀ {w}, Sp rows w → Sp (rows ++ [x]) w := fun h => h.sub fun q hq => .mem (List.mem_append_left _ hq)
  have xm : Sp (rows ++ [x]) x := .mem (List.mem_append_right _ (.head _))
  unfold insF
  split
  · generalize redF rows x = y at *
    have ym : Sp (rows ++ [x]) y := by
      have := xm.xor (up hs)
      rwa [xxl] at this
    have ym' : Sp (rows.map (nr y) ++ [y]) y := .mem (List.mem_append_right _ (.head _))
    have rm : ∀ r ∈ rows, Sp (rows.map (nr y) ++ [y]) r := fun r hr => by
      have q : Sp (rows.map (nr y) ++ [y]) (nr y r) := .mem (List.mem_append_left _ (List.mem_map_of_mem hr))
      unfold nr at q
      split at q
      · have := q.xor ym'
        rwa [xx] at this
      · exact q
    refine Sp.iff (fun r hr => ?_) (fun r hr => ?_) z
    · rcases List.mem_append.mp hr with hr | hr
      · obtain ⟨q, hq, rfl⟩ := List.mem_map.mp hr
        unfold nr
        split
        · exact (up (.mem hq)).xor ym
        · exact up (.mem hq)
      · rw [List.mem_singleton.mp hr]
        exact ym
    · rcases List.mem_append.mp hr with hr | hr
      · exact rm r hr
      · rw [List.mem_singleton.mp hr]
        have := (hs.sub rm).xor ym'
        rwa [xx] at this
  · rename_i hy
    have : redF rows x = 0 := by omega
    rw [this, Nat.xor_zero] at hs
    refine Sp.iff (fun r hr => up (.mem hr)) (fun r hr => ?_) z
    rcases List.mem_append.mp hr with hr | hr
    · exact .mem hr
    · rw [List.mem_singleton.mp hr]
      exact hs
theorem bas_fold : ∀ (xs rows done : List Nat), RR rows → (∀ z, Sp rows z ↔ Sp done z) → RR (xs.foldl insF rows) ∧ ∀ z, Sp (xs.foldl insF rows) z ↔ Sp (done ++ xs) z
  | [], rows, done, h, e => ⟨h, fun z => by rw [List.append_nil]; exact e z⟩
  | x :: xs, rows, done, h, e => by
    have := bas_fold xs (insF rows x) (done ++ [x]) (ins_rr h x) (fun z => by
      rw [ins_sp, sp_snoc, sp_snoc, e, e])
    rw [List.append_assoc] at this
    exact this
theorem bas_rr (xs : List Nat) : RR (basR xs) := (bas_fold xs [] [] ⟨(fun _ h => nomatch h), List.Pairwise.nil⟩ fun _ => Iff.rfl).1
theorem bas_sp (xs : List Nat) (z : Nat) : Sp (basR xs) z ↔ Sp xs z := (bas_fold xs [] [] ⟨(fun _ h => nomatch h), List.Pairwise.nil⟩ fun _ => Iff.rfl).2 z
theorem sp_lt {xs : List Nat} {w : Nat} (h : ∀ x ∈ xs, x < 2 ^ w) {y : Nat} (hy : Sp xs y) : y < 2 ^ w := by
  induction hy with
  | zero => exact Nat.two_pow_pos w
  | add hx _ ih => exact Nat.xor_lt_two_pow (h _ hx) ih
/-! ### odd and even -/
def par : Nat → Bool
  | 0 => false
  | n + 1 => ((n + 1) % 2 == 1) != par ((n + 1) / 2)
theorem par0 : par 0 = false := by simp [par]
theorem par_eq (n : Nat) : par n = ((n % 2 == 1) != par (n / 2)) := by
  cases n with
  | zero => simp [par]
  | succ n => rw [par]
theorem par_xor : ∀ a b : Nat, par (a ^^^ b) = (par a != par b) := by
  intro a
  induction a using Nat.strongRecOn with
  | _ a ih =>
    intro b
    rcases Nat.eq_zero_or_pos a with h | h
    · subst h
      simp [par]
    · rw [par_eq (a ^^^ b), Nat.xor_div_two, ih (a / 2) (by omega), par_eq a, par_eq b]
      have e : ((a ^^^ b) % 2 == 1) = ((a % 2 == 1) != (b % 2 == 1)) := by
        have := @Nat.xor_mod_two_eq_one a b
        have h1 : a % 2 = 0 ∨ a % 2 = 1 := by omega
        have h2 : b % 2 = 0 ∨ b % 2 = 1 := by omega
        have h3 : (a ^^^ b) % 2 = 0 ∨ (a ^^^ b) % 2 = 1 := by omega
        rcases h1 with h1 | h1 <;> rcases h2 with h2 | h2 <;> rcases h3 with h3 | h3 <;> rw [h1, h2, h3] <;> simp_all
      rw [e]
      generalize (a % 2 == 1) = p
      generalize (b % 2 == 1) = q
      generalize par (a / 2) = u
      generalize par (b / 2) = v
      cases p <;> cases q <;> cases u <;> cases v <;> rfl
def ev (x c : Nat) : Bool := par (x &&& c)
theorem ev_l (x y c : Nat) : ev (x ^^^ y) c = (ev x c != ev y c) := by
  unfold ev
  rw [Nat.and_xor_distrib_right, par_xor]
theorem ev_r (x c d : Nat) : ev x (c ^^^ d) = (ev x c != ev x d) := by
  unfold ev
  rw [Nat.and_xor_distrib_left, par_xor]
theorem par_pow (t : Nat) : par (2 ^ t) = true := by
  induction t with
  | zero => simp [par]
  | succ t ih =>
    rw [par_eq, Nat.pow_succ, Nat.mul_div_cancel _ (by decide), ih, Nat.mul_mod_left]
    rfl
theorem ev_pow (x t : Nat) : ev x (2 ^ t) = x.testBit t := by
  have e : x &&& 2 ^ t = if x.testBit t then 2 ^ t else 0 := by
    apply Nat.eq_of_testBit_eq
    intro i
    rw [Nat.testBit_and, Nat.testBit_two_pow]
    by_cases h : t = i
    · subst h
      cases x.testBit t <;> simp [Nat.testBit_two_pow]
    · cases x.testBit t <;> simp [Nat.testBit_two_pow, h]
  unfold ev
  rw [e]
  split
  · rename_i h
    rw [h, par_pow]
  · rename_i h
    rw [eq_false_of_ne_true h]
    exact par0
theorem ev_zero (x : Nat) : ev x 0 = false := by
  unfold ev
  rw [Nat.and_zero]
  exact par0
theorem add_pow (n t : Nat) (h : n.testBit t = false) : n + 2 ^ t = n ^^^ 2 ^ t := by
  have e := Bits.nat_xor_add_and n (2 ^ t)
  have z : n &&& 2 ^ t = 0 := by
    apply Nat.eq_of_testBit_eq
    intro i
    rw [Nat.testBit_and, Nat.testBit_two_pow, Nat.zero_testBit]
    by_cases q : t = i
    · subst q
      rw [h]
      rfl
    · simp [q]
  omega
def xorB (l : List Bool) : Bool := l.foldr (fun a b => a != b) false
def pows (ts : List Nat) : Nat := (ts.map fun t => 2 ^ t).sum
theorem pow_bit : ∀ (ts : List Nat), ts.Nodup → ∀ j, (pows ts).testBit j = decide (j ∈ ts)
  | [], _, j => by simp [pows]
  | t :: ts, nd, j => by
    have q := List.nodup_cons.mp nd
    have ih := pow_bit ts q.2
    have e : pows (t :: ts) = pows ts ^^^ 2 ^ t := by
      rw [← add_pow _ _ (by rw [ih]; exact decide_eq_false q.1)]
      unfold pows
      rw [List.map_cons, List.sum_cons, Nat.add_comm]
    rw [e, Nat.testBit_xor, ih, Nat.testBit_two_pow]
    by_cases h : t = j
    · subst h
      have n := q.1
      simp [n]
    · have h' : ¬ j = t := fun e => h e.symm
      simp [h, h']
theorem ev_pows (x : Nat) : ∀ (ts : List Nat), ts.Nodup → ev x (pows ts) = xorB (ts.map x.testBit)
  | [], _ => ev_zero x
  | t :: ts, nd => by
    have q := List.nodup_cons.mp nd
    have e : pows (t :: ts) = pows ts ^^^ 2 ^ t := by
      rw [← add_pow _ _ (by rw [pow_bit ts q.2]; exact decide_eq_false q.1)]
      unfold pows
      rw [List.map_cons, List.sum_cons, Nat.add_comm]
    rw [e, ev_r, ev_pows x ts q.2, ev_pow]
    show (_ != _) = (x.testBit t != xorB (ts.map x.testBit))
    generalize xorB (ts.map x.testBit) = u
    cases u <;> cases x.testBit t <;> rfl
/-- the raw check of a place -/
def chk (rows : List Nat) (p : Nat) : Nat := pows ((rows.filter fun r => r.testBit p).map top) + 2 ^ p
def rawF (w : Nat) (rows : List Nat) : List Nat := ((List.range w).filter fun p => decide (p ∉ rows.map top)).map (chk rows)
theorem xorB_filter (f g : Nat → Bool) : ∀ rows : List Nat, xorB ((rows.filter g).map f) = xorB (rows.map fun r => g r && f r)
  | [] => rfl
  | r :: rows => by
    cases h : g r with
    | true =>
      rw [List.filter_cons_of_pos h]
      show (f r != xorB _) = ((g r && f r) != xorB _)
      rw [h, xorB_filter f g rows]
      rfl
    | false =>
      rw [List.filter_cons_of_neg (by rw [h]; decide)]
      show _ = ((g r && f r) != xorB _)
      rw [h, xorB_filter f g rows]
      simp
theorem tops_nd {rows : List Nat} (h : RR rows) : (rows.map top).Nodup := by
  rw [List.nodup_iff_pairwise_ne, List.pairwise_map]
  refine h.pw.imp_of_mem fun {a b} ha hb hR e => ?_
  have := hR.1
  rw [← e, top_bit (h.pos a ha)] at this
  cases this
theorem ev_chk {rows : List Nat} (h : RR rows) (x p : Nat) (hp : p ∉ rows.map top) : ev x (chk rows p) = (x.testBit p != xorB (rows.map fun r => r.testBit p && x.testBit (top r))) := by
  have nd : ((rows.filter fun r => r.testBit p).map top).Nodup := List.Nodup.sublist ((List.filter_sublist).map top) (tops_nd h)
  have np : p ∉ (rows.filter fun r => r.testBit p).map top := fun z => hp (((List.filter_sublist).map top).subset z)
  unfold chk
  rw [add_pow _ _ (by rw [pow_bit _ nd]; exact decide_eq_false np), ev_r, ev_pow, ev_pows x _ nd, List.map_map, xorB_filter (x.testBit ∘ top) fun r => r.testBit p]
  show (xorB (rows.map fun r => r.testBit p && x.testBit (top r)) != x.testBit p) = _
  generalize xorB (rows.map fun r => r.testBit p && x.testBit (top r)) = u
  cases u <;> cases x.testBit p <;> rfl
def comb (rows : List Nat) (sel : Nat → Bool) : Nat := rows.foldr (fun r acc => (if sel r then r else 0) ^^^ acc) 0
theorem comb_sp (sel : Nat → Bool) : ∀ rows : List Nat, Sp rows (comb rows sel)
  | [] => .zero
  | r :: rows => by
    have ih := (comb_sp sel rows).sub (ys := r :: rows) fun z hz => .mem (.tail _ hz)
    show Sp (r :: rows) ((if sel r then r else 0) ^^^ comb rows sel)
    split
    · exact .add (.head _) ih
    · rw [Nat.zero_xor]
      exact ih
theorem comb_bit (sel : Nat → Bool) (j : Nat) : ∀ rows : List Nat, (comb rows sel).testBit j = xorB (rows.map fun r => sel r && r.testBit j)
  | [] => Nat.zero_testBit j
  | r :: rows => by
    show ((if sel r then r else 0) ^^^ comb rows sel).testBit j = ((sel r && r.testBit j) != xorB _)
    rw [Nat.testBit_xor, comb_bit sel j rows]
    cases sel r <;> simp
theorem xorB_app : ∀ a b : List Bool, xorB (a ++ b) = (xorB a != xorB b)
  | [], b => by
    show xorB b = (false != xorB b)
    simp
  | x :: a, b => by
    show (x != xorB (a ++ b)) = ((x != xorB a) != xorB b)
    rw [xorB_app a b]
    cases x <;> cases xorB a <;> cases xorB b <;> rfl
theorem xorB_f {f : Nat → Bool} : ∀ {l : List Nat}, (∀ a ∈ l, f a = false) → xorB (l.map f) = false
  | [], _ => rfl
  | a :: l, h => by
    show (f a != xorB (l.map f)) = false
    rw [h a (.head _), xorB_f fun b hb => h b (.tail _ hb)]
    rfl
/-- only the row itself has its highest bit -/
theorem xor_one {rows : List Nat} (h : RR rows) {r : Nat} (hr : r ∈ rows) (f : Nat → Nat → Bool) (hf : ∀ a, Rl a r → f a r = false) : xorB (rows.map fun a => f a r) = f r r := by
  obtain ⟨A, B, rfl⟩ := List.append_of_mem hr
  have pw := List.pairwise_append.mp h.pw
  have pb := List.pairwise_cons.mp pw.2.1
  rw [List.map_append, xorB_app, xorB_f (fun a ha => hf a (pw.2.2 a ha r (.head _))), List.map_cons]
  show (false != (f r r != xorB _)) = f r r
  rw [xorB_f (fun a ha => hf a (pb.1 a ha).symm)]
  cases f r r <;> rfl
theorem has_iff {rows : List Nat} (h : RR rows) {w x : Nat} (hr : ∀ r ∈ rows, r < 2 ^ w) (hx : x < 2 ^ w) : (∀ c ∈ rawF w rows, ev x c = false) ↔ Sp rows x := by
  constructor
  · intro q
    have z : x ^^^ comb rows (fun r => x.testBit (top r)) = 0 := by
      apply Nat.eq_of_testBit_eq
      intro j
      rw [Nat.testBit_xor, comb_bit, Nat.zero_testBit]
      rcases Nat.lt_or_ge j w with hj | hj
      · by_cases ht : j ∈ rows.map top
        · obtain ⟨r, hr1, rfl⟩ := List.mem_map.mp ht
          rw [xor_one h hr1 (fun a r => x.testBit (top a) && a.testBit (top r)) (fun a hR => by rw [hR.1, Bool.and_false]), top_bit (h.pos r hr1)]
          cases x.testBit (top r) <;> rfl
        · have e := q (chk rows j) (List.mem_map.mpr ⟨j, List.mem_filter.mpr ⟨List.mem_range.mpr hj, decide_eq_true ht⟩, rfl⟩)
          rw [ev_chk h x j ht] at e
          have c : (rows.map fun r => x.testBit (top r) && r.testBit j) = rows.map fun r => r.testBit j && x.testBit (top r) := List.map_congr_left fun r _ => Bool.and_comm _ _
          rw [c]
          exact e
      · have p := Nat.pow_le_pow_right (show 0 < 2 by decide) hj
        rw [Nat.testBit_lt_two_pow (Nat.lt_of_lt_of_le hx p), xorB_f (fun r hr1 => by rw [Nat.testBit_lt_two_pow (Nat.lt_of_lt_of_le (hr r hr1) p), Bool.and_false])]
        rfl
    have e : x = comb rows (fun r => x.testBit (top r)) := by
      have := congrArg (· ^^^ comb rows (fun r => x.testBit (top r))) z
      simp only [Nat.zero_xor] at this
      rwa [xx] at this
    rw [e]
    exact comb_sp _ rows
  · intro hs c hc
    obtain ⟨p, hp, rfl⟩ := List.mem_map.mp hc
    have hp2 := of_decide_eq_true (List.mem_filter.mp hp).2
    induction hs with
    | zero =>
      unfold ev
      rw [Nat.zero_and]
      exact par0
    | @add r y hr1 _ ih =>
      have hy : y < 2 ^ w := sp_lt hr (by assumption)
      rw [ev_l, ih hy, ev_chk h r p hp2, xor_one h hr1 (fun a r => a.testBit p && r.testBit (top a)) (fun a hR => by rw [hR.2, Bool.and_false]), top_bit (h.pos r hr1), Bool.and_true]
      cases r.testBit p <;> rfl
theorem ev_span {cs : List Nat} {x c : Nat} (h : ∀ d ∈ cs, ev x d = false) (hc : Sp cs c) : ev x c = false := by
  induction hc with
  | zero => exact ev_zero x
  | add hd _ ih => rw [ev_r, h _ hd, ih]; rfl
end Fin

set_option maxRecDepth 100000
set_option maxHeartbeats 4000000
namespace Fin
open Mv Mir Ev
open PySem (sizeLine sizeLine_eq)
open L2 (atI ixN)
/-! k16: the small functions -/
theorem s_is_whole (d : D) (f : Fl) (S : Store) (h : (tyD d).isSome = true) : ∃ b, m_is_whole [(f, d)] S = .ok (.bl b, .c) S ∧ b = (match d with | .int _ => true | _ => false) := by
  cases d with
  | ins n => cases h
  | cst v => cases h
  | _ => exact ⟨_, by simp [m_is_whole, b_is_whole, isiOne], rfl⟩
def amongD (d : D) (lo hi : Int) : Bool := match d with
  | .int i => decide (lo ≤ i ∧ i ≤ hi)
  | _ => false
theorem s_is_among (d : D) (lo hi : Int) (f f1 f2 : Fl) (S : Store) (h : (tyD d).isSome = true) : m_is_among [(f, d), (f1, .int lo), (f2, .int hi)] S = .ok (.bl (amongD d lo hi), .c) S := by
  obtain ⟨b, e, hb⟩ := s_is_whole d (inf f) S h
  cases d with
  | ins n => cases h
  | cst v => cases h
  | int i =>
    subst hb
    simp [m_is_among, b_is_among, e, amongD]
    split <;> simp [*]
  | _ =>
    subst hb
    simp [m_is_among, b_is_among, e, amongD]
theorem inf_inf (f : Fl) : inf (inf f) = inf f := by cases f <;> rfl
theorem s_high (n : Nat) (f : Fl) (S : Store) : m_high_place [(f, .int n)] S = .ok (.int ((bl n : Int) - 1), .c) S := by
  have go : ∀ (fuel n : Nat) (g : Fl) (acc : Int), n ≤ fuel → ∃ g' , loopN (tVal (eBin gGt (eVar 0) (eC (.int 0)))) (sSeq (sSet 1 (eBin gAdd (eVar 1) (eC (.int 1))))
    (sSet 0 (eBin gShr (eVar 0) (eC (.int 1))))) (fuel + 1) [.ar g (.int n), .ar .c (.int acc)] S = .nx [.ar g' (.int 0), .ar .c (.int (acc + bl n))] S := by
    intro fuel
    induction fuel with
    | zero =>
      intro n g acc h
      have : n = 0 := by omega
      subst this
      exact ⟨g, by simp [loopN, bl]⟩
    | succ k ih =>
      intro n g acc h
      cases n with
      | zero => exact ⟨g, by simp [loopN, bl]⟩
      | succ n =>
        obtain ⟨g', q⟩ := ih ((n + 1) / 2) .c (acc + 1) (by omega)
        refine ⟨g', ?_⟩
        have e3 : (bl (n + 1) : Int) = bl ((n + 1) / 2) + 1 := by
          rw [bl]
          simp
        simp at q
        rw [loopN]
        simp
        rw [q, e3, Int.add_assoc, Int.add_comm 1]
  obtain ⟨g', q⟩ := go n n f (-1) (Nat.le_refl _)
  have q2 := sWhile_of q (by simp)
  have e : (-1 : Int) + bl n = bl n - 1 := by omega
  simp [m_high_place, b_high_place, q2, e]
theorem s_degree (n : Nat) (f : Fl) (S : Store) (h0 : 0 < n) (h : n < 4294967296) : m_degree [(f, .int n)] S = .ok (.int (top n : Nat), .c) S := by
  have h1 : (0 : Int) ≤ n ∧ (n : Int) ≤ 4294967295 := by omega
  have e : ((bl n : Int) - 1) = ((top n : Nat) : Int) := by
    unfold top
    have := bl_pos h0
    omega
  have hh := s_high n (inf f) S
  rw [e] at hh
  simp [m_degree, b_degree, m_need_form, b_need_form, s_is_among, amongD, h1, hh]
/-- popcount -/
def wtF : Nat → Int
  | 0 => 0
  | n + 1 => ((n + 1) % 2 : Nat) + wtF ((n + 1) / 2)
theorem s_weight (n : Nat) (f : Fl) (S : Store) : m_weight [(f, .int n)] S = .ok (.int (wtF n), .c) S := by
  have go : ∀ (fuel n : Nat) (g : Fl) (acc : Int), n ≤ fuel → ∃ g' , loopN (tVal (eBin gGt (eVar 0) (eC (.int 0)))) (sSeq (sSet 1 (eBin gAdd (eVar 1) (eBin gAnd (eVar 0) (eC (.int 1)))))
    (sSet 0 (eBin gShr (eVar 0) (eC (.int 1))))) (fuel + 1) [.ar g (.int n), .ar .c (.int acc)] S = .nx [.ar g' (.int 0), .ar .c (.int (acc + wtF n))] S := by
    intro fuel
    induction fuel with
    | zero =>
      intro n g acc h
      have : n = 0 := by omega
      subst this
      exact ⟨g, by simp [loopN, wtF]⟩
    | succ k ih =>
      intro n g acc h
      cases n with
      | zero => exact ⟨g, by simp [loopN, wtF]⟩
      | succ n =>
        obtain ⟨g', q⟩ := ih ((n + 1) / 2) .c (acc + ((n + 1) % 2 : Nat)) (by omega)
        refine ⟨g', ?_⟩
        have e3 : wtF (n + 1) = ((n : Int) + 1) % 2 + wtF ((n + 1) / 2) := by
          rw [wtF]
          simp
        simp at q
        rw [loopN]
        simp [PyProof.Rows.bitAnd_m1]
        rw [q, e3, Int.add_assoc]
  obtain ⟨g', q⟩ := go n n f 0 (Nat.le_refl _)
  have q2 := sWhile_of q (by simp)
  simp [m_weight, b_weight, q2]
theorem wt_par (n : Nat) : (wtF n % 2 = 1) ↔ par n = true := by
  induction n using Nat.strongRecOn with
  | _ n ih =>
    cases n with
    | zero => simp [wtF, par]
    | succ n =>
      have i := ih ((n + 1) / 2) (by omega)
      rw [wtF, par]
      have h2 : (n + 1) % 2 = 0 ∨ (n + 1) % 2 = 1 := by omega
      generalize wtF ((n + 1) / 2) = w at i ⊢
      generalize par ((n + 1) / 2) = p at i ⊢
      rcases h2 with h | h <;> rw [h] <;> cases p <;> simp at i ⊢ <;> omega
theorem s_is_odd (n : Nat) (f : Fl) (S : Store) : m_is_odd [(f, .int n)] S = .ok (.bl (par n), .c) S := by
  have e : decide (wtF n % 2 = 1) = par n := by
    have := wt_par n
    cases h : par n with
    | true => exact decide_eq_true (this.mpr h)
    | false => exact decide_eq_false fun z => by rw [this.mp z] at h; cases h
  rw [← e]
  simp [m_is_odd, b_is_odd, s_weight]
def mixF (c k : Int) : Int := (c + 7919 * k * k + 31 * k + 1) * 48271 % 2147483647 * 69621 % 2147483629 / 8
theorem s_mixed (c k : Int) (f f2 : Fl) (S : Store) (hk : 0 ≤ k ∧ k ≤ 1000) : m__law_mixed [(f, .int c), (f2, .int k)] S = .ok (.int (mixF c k), .c) S := by
  have m1 : mulOk 7919 k = true := mulOk_l (by decide)
  have m2 : mulOk (7919 * k) k = true := mulOk_r (by omega)
  have m3 : ∀ x : Int, mulOk x 48271 = true := fun x => mulOk_r (by decide)
  have m4 : mulOk 31 k = true := mulOk_l (by decide)
  have m5 : ∀ x : Int, mulOk x 69621 = true := fun x => mulOk_r (by decide)
  have lg : Nat.log2 8 < 9000 := by decide +kernel
  simp [m__law_mixed, b__law_mixed, m1, m2, m3, m4, m5, mixF, lg]
theorem mix_nn (c k : Int) : 0 ≤ mixF c k := Int.ediv_nonneg (Int.emod_nonneg _ (by decide)) (by decide)
theorem s_number (ns : List Int) (k : Int) (f2 : Fl) (S : Store) (hk : 0 ≤ k ∧ k ≤ 1000) : ∃ n : Nat, m__law_number [(.c, .frz (ns.map D.int)), (f2, .int k)] S = .ok (.int (n : Nat), .c) S := by
  have m1 : mulOk 7919 k = true := mulOk_l (by decide)
  have m2 : mulOk (7919 * k) k = true := mulOk_r (by omega)
  have m3 : ∀ x : Int, mulOk x 48271 = true := fun x => mulOk_r (by decide)
  have m4 : mulOk 31 k = true := mulOk_l (by decide)
  have m5 : ∀ x : Int, mulOk x 69621 = true := fun x => mulOk_r (by decide)
  have lg : Nat.log2 8 < 9000 := by decide +kernel
  have fin : ∀ c : Int, ∃ n : Nat, (c + 7919 * k * k + 31 * k + 11) * 48271 % 2147483647 * 69621 % 2147483629 / 8 = (n : Int) := fun c => Int.eq_ofNat_of_zero_le (Int.ediv_nonneg (Int.emod_nonneg _ (by decide)) (by decide))
  by_cases h : ns = []
  · subst h
    obtain ⟨n, e⟩ := fin 17
    exact ⟨n, by simp [m__law_number, b__law_number, m1, m2, m3, m4, m5, lg]; exact e⟩
  · have hl : 0 < ns.length := List.length_pos_iff.mpr h
    have a : atI (ns.map D.int) (k % ns.length) = some (.int (ns.getD (k % ns.length).toNat 0)) := atI_i (Int.emod_nonneg _ (by omega)) (Int.emod_lt_of_pos _ (by omega))
    obtain ⟨n, e⟩ := fin (ns.getD (k % ns.length).toNat 0 % 2147483647)
    refine ⟨n, ?_⟩
    generalize ns.getD (k % ns.length).toNat 0 = v at a e
    simp [m__law_number, b__law_number, h, a, m1, m2, m3, m4, m5, hl, lg]
    exact e
def nI (bs : List Nat) : List D := bs.map fun (b : Nat) => D.int (b : Int)
theorem nI_len (bs : List Nat) : (nI bs).length = bs.length := List.length_map _
theorem nI_app (a b : List Nat) : nI (a ++ b) = nI a ++ nI b := List.map_append
theorem nI_eq (bs : List Nat) : nI bs = (bs.map fun (b : Nat) => (b : Int)).map D.int := by
  unfold nI
  rw [List.map_map]
  rfl
theorem cast_inj : ∀ a b : List Nat, (a.map fun (b : Nat) => (b : Int)) = (b.map fun (b : Nat) => (b : Int)) → a = b
  | [], [], _ => rfl
  | [], _ :: _, h => by cases h
  | _ :: _, [], h => by cases h
  | x :: a, y :: b, h => by
    rw [List.map_cons, List.map_cons] at h
    injection h with h1 h2
    rw [cast_inj a b h2]
    congr 1
    omega
theorem eq_nI (a b : List Nat) : eqO (.lst (nI a)) (.lst (nI b)) = some (decide (a = b)) := by
  rw [nI_eq, nI_eq, eqO_ll]
  congr 1
  by_cases h : a = b
  · rw [decide_eq_true h, decide_eq_true (by rw [h])]
  · rw [decide_eq_false h, decide_eq_false (fun e => h (cast_inj a b e))]
/-- sorted -/
def srt (xs : List Nat) : List Nat := (sortI (xs.map fun (b : Nat) => (b : Int))).map Int.toNat
theorem srt_cast (xs : List Nat) : (srt xs).map (fun (b : Nat) => (b : Int)) = sortI (xs.map fun (b : Nat) => (b : Int)) := by
  unfold srt
  rw [List.map_map]
  refine (List.map_congr_left fun x hx => ?_).trans (List.map_id _)
  have := (sortI_perm _).mem_iff.mp hx
  obtain ⟨b, _, rfl⟩ := List.mem_map.mp this
  show ((Int.toNat (b : Int) : Nat) : Int) = b
  rw [Int.toNat_natCast]
theorem srt_perm (xs : List Nat) : (srt xs).Perm xs := by
  have := (sortI_perm (xs.map fun (b : Nat) => (b : Int))).map Int.toNat
  rw [List.map_map] at this
  have e : xs.map (Int.toNat ∘ fun (b : Nat) => (b : Int)) = xs := (List.map_congr_left fun x _ => Int.toNat_natCast x).trans (List.map_id _)
  rw [e] at this
  exact this
theorem srt_eq {xs ys : List Nat} (h : xs.Perm ys) : srt xs = srt ys := by
  unfold srt
  rw [sorted_one (((sortI_perm _).trans (h.map _)).trans (sortI_perm _).symm) (sortI_sorted _) (sortI_sorted _)]
theorem srt_srt (xs : List Nat) : srt (srt xs) = srt xs := srt_eq (srt_perm xs)
theorem sorted_g (xs : List Nat) (f : Fl) : gSorted [(f, .lst (nI xs))] = some (.lst (nI (srt xs)), .n) := by
  rw [nI_eq, nI_eq, srt_cast]
  show (match seqOf (D.lst ((xs.map fun (b : Nat) => (b : Int)).map D.int)) with
    | some xs => match intsOf xs with
      | some is => some (D.lst ((sortI is).map .int), Fl.n)
      | none => none
    | none => none) = _
  show (match intsOf ((xs.map fun (b : Nat) => (b : Int)).map D.int) with
      | some is => some (D.lst ((sortI is).map .int), Fl.n)
      | none => none) = _
  rw [intsOf_map]
/-- a comprehension with a test -/
theorem comp_fm (r : Env) (S : Store) (g : GM) (tt : TM) (te : EM) (p : D → Bool) (h : D → D) : ∀ (ds : List D), (∀ d ∈ ds, ∃ r1, g d r = some r1 ∧ tt r1 S = .ok (p d) S ∧ (p d = true → ∃ f, te r1 S = .ok (h d, f) S ∧ okst f (h d) = true)) → compL g tt te r ds S = .ok ((ds.filter p).map h) S
  | [], _ => rfl
  | d :: ds, q => by
    obtain ⟨r1, h1, h2, h3⟩ := q d (.head _)
    have ih := comp_fm r S g tt te p h ds fun d hd => q d (.tail _ hd)
    unfold compL
    rw [h1]
    dsimp only
    rw [h2]
    cases hp : p d with
    | false =>
      dsimp only
      rw [ih, List.filter_cons_of_neg (by rw [hp]; decide)]
    | true =>
      obtain ⟨f, h4, h5⟩ := h3 hp
      dsimp only
      rw [h4]
      dsimp only
      rw [if_pos h5, ih, List.filter_cons_of_pos hp]
      rfl
theorem in_nI (x : Nat) (xs : List Nat) (neg : Bool) (f f' : Fl) : gIn neg (.int (x : Int), f) (.lst (nI xs), f') = some (.bl (if neg then !decide (x ∈ xs) else decide (x ∈ xs)), .c) := by
  have fl : (nI xs).all flatD = true := by
    rw [List.all_eq_true]
    intro d hd
    unfold nI at hd
    obtain ⟨b, _, rfl⟩ := List.mem_map.mp hd
    rfl
  have e : inD (.int (x : Int)) (nI xs) = decide (x ∈ xs) := by
    have go : ∀ ys : List Nat, inD (.int (x : Int)) (nI ys) = decide (x ∈ ys) := by
      intro ys
      induction ys with
      | nil => rfl
      | cons y ys ih =>
        show (L2.eqV (.int (y : Int)) (.int (x : Int)) || inD (.int (x : Int)) (nI ys)) = _
        rw [ih]
        have q : L2.eqV (.int (y : Int)) (.int (x : Int)) = decide (x = y) := by
          show ((y : Int) == (x : Int)) = _
          by_cases h : x = y
          · subst h
            simp
          · have : ¬ (y : Int) = (x : Int) := by omega
            simp [h, this]
        rw [q]
        simp [List.mem_cons]
    exact go xs
  show (if (flatD (D.int (x : Int)) && (nI xs).all flatD) = true then some (D.bl (if neg then !inD (.int (x : Int)) (nI xs) else inD (.int (x : Int)) (nI xs)), Fl.c) else none) = _
  rw [fl, e]
  rfl
end Fin

set_option maxRecDepth 100000
set_option maxHeartbeats 4000000
namespace Fin
open Mv Mir Ev
open PySem (sizeLine sizeLine_eq)
open L2 (atI ixN)
/-- (x >> t) & 1 == 1 -/
theorem bt (x t : Nat) (f f' : Fl) : ∃ v : Nat, gShr (.int (x : Int), f) (.int (t : Int), f') = some (.int (v : Int), .c) ∧ decide ((v : Int) % 2 = 1) = x.testBit t := by
  refine ⟨x / 2 ^ t, shr_n x t f f', ?_⟩
  rw [Nat.testBit_eq_decide_div_mod_eq]
  by_cases h : x / 2 ^ t % 2 = 1
  · rw [decide_eq_true h, decide_eq_true (by omega)]
  · rw [decide_eq_false h, decide_eq_false (by omega)]
noncomputable abbrev rdS : SM := sIf (tVal (eBin (gEq false) (eBin gAnd (eBin gShr (eVar 2) (eFn 1 m_degree (aCons (eVar 3) aNil))) (eC (.int 1))) (eC (.int 1)))) (sSet 2 (eBin gXor (eVar 2) (eVar 3))) sNil
theorem red_loop (a0 a1 a4 : Slot) (S : Store) : ∀ (rows : List Nat) (x : Nat) (x3 : Slot), (∀ r ∈ rows, 0 < r ∧ r < 4294967296) → ∃ x3', forL (gN 3) rdS (nI rows) [a0, a1, .ar .c (.int x), x3, a4] S = .nx [a0, a1, .ar .c (.int (redF rows x : Nat)), x3', a4] S ∧ ((∀ d, x3 ≠ .own d) → ∀ d, x3' ≠ .own d)
  | [], x, x3, _ => ⟨x3, for_nil, id⟩
  | r :: rows, x, x3, h => by
    have hr := h r (.head _)
    obtain ⟨x3', q, no⟩ := red_loop a0 a1 a4 S rows (redS x r) (.ar .c (.int r)) fun r hr => h r (.tail _ hr)
    refine ⟨x3', ?_, fun _ => no fun d z => by cases z⟩
    show forL (gN 3) rdS (.int (r : Nat) :: nI rows) _ S = .nx [a0, a1, .ar .c (.int (redF rows (redS x r) : Nat)), x3', a4] S
    rw [← q]
    refine for_cons (r1 := [a0, a1, .ar .c (.int x), .ar .c (.int r), a4]) rfl ?_
    have d := s_degree r .c S hr.1 hr.2
    obtain ⟨v, e1, e2⟩ := bt x (top r) .c .c
    unfold redS
    rw [← e2]
    by_cases hv : (v : Int) % 2 = 1
    · simp [d, e1, and1_i, hv, xor_g, -int_ap]
    · simp [d, e1, and1_i, hv, -int_ap]
theorem comp_n (r : Env) (S : Store) (g : GM) (tt : TM) (te : EM) (p : Nat → Bool) (h : Nat → D) : ∀ (xs : List Nat), (∀ x ∈ xs, ∃ r1, g (.int (x : Nat)) r = some r1 ∧ tt r1 S = .ok (p x) S ∧ (p x = true → ∃ f, te r1 S = .ok (h x, f) S ∧ okst f (h x) = true)) → compL g tt te r (nI xs) S = .ok ((xs.filter p).map h) S
  | [], _ => rfl
  | x :: xs, q => by
    obtain ⟨r1, h1, h2, h3⟩ := q x (.head _)
    have ih := comp_n r S g tt te p h xs fun d hd => q d (.tail _ hd)
    show compL g tt te r (.int (x : Nat) :: nI xs) S = _
    unfold compL
    rw [h1]
    dsimp only
    rw [h2]
    cases hp : p x with
    | false =>
      dsimp only
      rw [ih, List.filter_cons_of_neg (by rw [hp]; decide)]
    | true =>
      obtain ⟨f, h4, h5⟩ := h3 hp
      dsimp only
      rw [h4]
      dsimp only
      rw [if_pos h5, ih, List.filter_cons_of_pos hp]
      rfl
theorem filter_t (xs : List Nat) : xs.filter (fun _ => true) = xs := by
  rw [List.filter_eq_self]
  exact fun _ _ => rfl
theorem c_nr (rows : List Nat) (y : Nat) (a0 a1 : Slot) (S : Store) : compL (gN 3) tYesM (eIf (tVal (eBin (gEq false) (eBin gAnd (eBin gShr (eVar 3) (eVar 4)) (eC (.int 1))) (eC (.int 1)))) (eBin gXor (eVar 3) (eVar 2)) (eVar 3)) [a0, a1, .ar .c (.int y), .no, .ar .c (.int (top y : Nat))] (nI rows) S = .ok (nI (rows.map (nr y))) S := by
  have := comp_n [a0, a1, .ar .c (.int y), .no, .ar .c (.int (top y : Nat))] S (gN 3) tYesM (eIf (tVal (eBin (gEq false) (eBin gAnd (eBin gShr (eVar 3) (eVar 4)) (eC (.int 1))) (eC (.int 1)))) (eBin gXor (eVar 3) (eVar 2)) (eVar 3)) (fun _ => true) (fun r => .int (nr y r : Nat)) rows fun r hr => ⟨[a0, a1, .ar .c (.int y), .ar .c (.int r), .ar .c (.int (top y : Nat))], rfl, rfl, fun _ => ⟨.c, by
    obtain ⟨v, e1, e2⟩ := bt r (top y) .c .c
    unfold nr
    rw [← e2]
    by_cases hv : (v : Int) % 2 = 1
    · simp [e1, and1_i, hv, xor_g, -int_ap]
    · simp [e1, and1_i, hv, -int_ap], rfl⟩⟩
  rw [this, filter_t]
  unfold nI
  rw [List.map_map]
  rfl
noncomputable abbrev bsS : SM := sSeq (sDem 1 (sFor (iSeq (eVar 1)) (gN 3) rdS)) (sIf (tVal (eBin gGt (eVar 2) (eC (.int 0)))) (sSeq (sSet 4 (eFn 1 m_degree (aCons (eVar 2) aNil)))
    (sSeq (sDem 1 (sOwn 1 (eLc (iSeq (eVar 1)) [3] (gN 3) tYesM (eIf (tVal (eBin (gEq false) (eBin gAnd (eBin gShr (eVar 3) (eVar 4)) (eC (.int 1))) (eC (.int 1)))) (eBin gXor (eVar 3) (eVar 2)) (eVar 3)))))
    (sApp 1 (eVar 2)))) sNil)
def OwnOr (s : Slot) (d : D) : Prop := s = .own d ∨ s = .ar .c d
theorem ins_step (R : List Nat) (x : Nat) (a0 s1 x3 x4 : Slot) (S : Store) (h1 : OwnOr s1 (.lst (nI R))) (hR : ∀ r ∈ R, 0 < r ∧ r < 4294967296) (hl : R.length ≤ 1000) (hx : redF R x < 4294967296) (x3ok : ∀ d, x3 ≠ .own d) :
    ∃ y1 y2 y3 y4, bsS [a0, s1, .ar .c (.int x), x3, x4] S = .nx [a0, y1, y2, y3, y4] S ∧ OwnOr y1 (.lst (nI (insF R x))) ∧ ∀ d, y3 ≠ .own d := by
  obtain ⟨x3', q, no⟩ := red_loop a0 (.ar .c (.lst (nI R))) x4 S R x x3 hR
  have no := no x3ok
  have fre : freeE [a0, .ar .c (.lst (nI R)), .ar .c (.int (redF R x : Nat)), x3', .ar .c (.int (top (redF R x) : Nat))] [3] = true := by
    cases x3' with
    | own d => exact absurd rfl (no d)
    | no => rfl
    | ar f d => rfl
  have c := c_nr R (redF R x) a0 (.ar .c (.lst (nI R))) S
  have c2 := kcp_ap [a0, .ar .c (.lst (nI R)), .ar .c (.int (redF R x : Nat)), x3', .ar .c (.int (top (redF R x) : Nat))] S [3] (gN 3) tYesM _ (nI R) _ S (by rw [nI_len]; omega) c
  have ln : (nI (R.map (nr (redF R x)))).length < 16777216 := by rw [nI_len, List.length_map]; omega
  have app : nI (R.map (nr (redF R x)) ++ [redF R x]) = nI (R.map (nr (redF R x))) ++ [D.int (redF R x : Nat)] := nI_app _ _
  by_cases hy : 0 < redF R x
  · have dg := s_degree (redF R x) .c S hy hx
    refine ⟨.own (.lst (nI (insF R x))), .ar .c (.int (redF R x : Nat)), x3', .ar .c (.int (top (redF R x) : Nat)), ?_, .inl rfl, no⟩
    unfold insF
    rw [if_pos hy, app]
    have hy' : (0 : Int) < ((redF R x : Nat) : Int) := by omega
    generalize nI (R.map (nr (redF R x))) = Y at *
    generalize nI R = X at *
    generalize redF R x = y at *
    generalize top y = t at *
    rcases h1 with rfl | rfl
    · simp [bsS, q, gt_i, hy, hy', dg, fre, c2, ln, -int_ap]
    · simp [bsS, q, gt_i, hy, hy', dg, fre, c2, ln, -int_ap]
  · refine ⟨.ar .c (.lst (nI R)), .ar .c (.int (redF R x : Nat)), x3', x4, ?_, .inr (by unfold insF; rw [if_neg hy]), no⟩
    have hy' : ¬ (0 : Int) < ((redF R x : Nat) : Int) := by omega
    clear c c2 fre ln app
    generalize nI R = X at *
    generalize redF R x = y at *
    rcases h1 with rfl | rfl
    · simp [bsS, q, gt_i, hy, hy', -int_ap]
    · simp [bsS, q, gt_i, hy, hy', -int_ap]
def basF (xs : List Nat) : List Nat := srt (basR xs)
theorem bas_rr' (xs : List Nat) : RR (basF xs) := (bas_rr xs).perm (srt_perm _).symm
theorem sp_perm {xs ys : List Nat} (p : xs.Perm ys) (z : Nat) : Sp xs z ↔ Sp ys z := Sp.iff (fun _ h => .mem (p.mem_iff.mp h)) (fun _ h => .mem (p.mem_iff.mpr h)) z
theorem bas_sp' (xs : List Nat) (z : Nat) : Sp (basF xs) z ↔ Sp xs z := (sp_perm (srt_perm _) z).trans (bas_sp xs z)
theorem ins_len (R : List Nat) (x : Nat) : (insF R x).length ≤ R.length + 1 := by
  unfold insF
  split
  · rw [List.length_append, List.length_map]
    exact Nat.le_refl _
  · omega
theorem bas_len_fold : ∀ (xs R : List Nat), (xs.foldl insF R).length ≤ R.length + xs.length
  | [], R => Nat.le_refl _
  | x :: xs, R => by
    have := bas_len_fold xs (insF R x)
    have := ins_len R x
    rw [List.foldl_cons, List.length_cons]
    omega
theorem bas_len (xs : List Nat) : (basF xs).length ≤ xs.length := by
  unfold basF basR
  rw [(srt_perm _).length_eq]
  have := bas_len_fold xs []
  simp at this
  exact this
theorem bas_lt (xs : List Nat) (w : Nat) (h : ∀ x ∈ xs, x < 2 ^ w) : ∀ r ∈ basF xs, r < 2 ^ w := fun r hr => sp_lt h ((bas_sp' xs r).mp (.mem hr))
theorem s_basis (xs : List Nat) (f : Fl) (S : Store) (hf : okI (inf f) = true) (hl : xs.length ≤ 100) (hb : ∀ x ∈ xs, x < 16777216) : m_basis_of [(f, .lst (nI xs))] S = .ok (.lst (nI (basF xs)), .n) S := by
  obtain ⟨r2, S2, e, rfl, s1, x2, x3, x4, rfl, ho, no⟩ := for_inv (P := fun k r S' => S' = S ∧ ∃ s1 x2 x3 x4, r = [.ar f (.lst (nI xs)), s1, x2, x3, x4] ∧ OwnOr s1 (.lst (nI ((xs.take k).foldl insF []))) ∧ ∀ d, x3 ≠ .own d) (g := gN 2) (p := bsS) (nI xs) 0 [.ar f (.lst (nI xs)), .own (.lst (nI [])), .no, .no, .no] S ⟨rfl, _, .no, .no, .no, rfl, .inl rfl, fun d z => by cases z⟩ (fun n d r S' hd ⟨e1, s1, x2, x3, x4, e2, ho, no⟩ => by
    subst e1 e2
    rw [Nat.zero_add] at ho ⊢
    have hn : n < xs.length := by
      have := (List.getElem?_eq_some_iff.mp hd).1
      rwa [nI_len] at this
    unfold nI at hd
    rw [List.getElem?_map, List.getElem?_eq_getElem hn] at hd
    cases hd
    have tk : (xs.take (n + 1)).foldl insF [] = insF ((xs.take n).foldl insF []) xs[n] := by
      rw [List.take_succ_eq_append_getElem hn, List.foldl_append]
      rfl
    have bR := bas_rr (xs.take n)
    have sR := bas_sp (xs.take n)
    have lR := bas_len_fold (xs.take n) []
    have b24 : ∀ r, Sp (basR (xs.take n)) r → r < 2 ^ 24 := fun r hr => sp_lt (fun x hx => hb x (List.mem_of_mem_take hx)) ((sR r).mp hr)
    have hxn := hb xs[n] (List.getElem_mem hn)
    have rs := red_sp (basR (xs.take n)) xs[n]
    have hred : redF (basR (xs.take n)) xs[n] < 2 ^ 24 := by
      have := Nat.xor_lt_two_pow (n := 24) hxn (b24 _ rs)
      rwa [xxl] at this
    rw [tk]
    unfold basR at *
    generalize (xs.take n).foldl insF [] = R at *
    generalize xs[n] = x at *
    rw [List.length_take] at lR
    obtain ⟨y1, y2, y3, y4, q, o2, n2⟩ := ins_step R x (.ar f (.lst (nI xs))) s1 x3 x4 S' ho (fun r hr => ⟨bR.pos r hr, by have := b24 r (.mem hr); omega⟩) (by simp at lR; omega) (by omega) no
    exact ⟨_, rfl, _, _, q, rfl, y1, y2, y3, y4, rfl, o2, n2⟩)
  rw [nI_len, Nat.zero_add, List.take_length] at ho
  have sg1 := sorted_g (xs.foldl insF []) .b
  have sg2 := sorted_g (xs.foldl insF []) .c
  have sg3 := sorted_g (xs.foldl insF []) .o
  unfold basF basR
  rw [show nI [] = [] from rfl] at e
  generalize nI (srt (xs.foldl insF [])) = Y at *
  generalize nI (xs.foldl insF []) = Z at *
  generalize nI xs = X at *
  rcases ho with rfl | rfl
  · simp [m_basis_of, b_basis_of, hf, e, sg1, sg2, sg3]
  · simp [m_basis_of, b_basis_of, hf, e, sg1, sg2, sg3]
end Fin

set_option maxRecDepth 100000
set_option maxHeartbeats 4000000
namespace Fin
open Mv Mir Ev
open PySem (sizeLine sizeLine_eq)
open L2 (atI ixN)
theorem comp_F (r : Env) (S : Store) (g : GM) (tt : TM) (te : EM) (F : Nat → D) (p : Nat → Bool) (h : Nat → D) : ∀ (xs : List Nat), (∀ x ∈ xs, ∃ r1, g (F x) r = some r1 ∧ tt r1 S = .ok (p x) S ∧ (p x = true → ∃ f, te r1 S = .ok (h x, f) S ∧ okst f (h x) = true)) → compL g tt te r (xs.map F) S = .ok ((xs.filter p).map h) S
  | [], _ => rfl
  | x :: xs, q => by
    obtain ⟨r1, h1, h2, h3⟩ := q x (.head _)
    have ih := comp_F r S g tt te F p h xs fun d hd => q d (.tail _ hd)
    rw [List.map_cons]
    unfold compL
    rw [h1]
    dsimp only
    rw [h2]
    cases hp : p x with
    | false =>
      dsimp only
      rw [ih, List.filter_cons_of_neg (by rw [hp]; decide)]
    | true =>
      obtain ⟨f, h4, h5⟩ := h3 hp
      dsimp only
      rw [h4]
      dsimp only
      rw [if_pos h5, ih, List.filter_cons_of_pos hp]
      rfl
theorem zip_top : ∀ rows : List Nat, zipD (nI (rows.map top)) (nI rows) = rows.map fun r => D.tup [.int (top r : Nat), .int (r : Nat)]
  | [] => rfl
  | r :: rows => by
    have := zip_top rows
    unfold zipD nI at *
    rw [List.map_cons, List.map_cons, List.map_cons, List.map_cons, List.zipWith_cons_cons, this]
theorem sum_cast (h : Nat → Nat) : ∀ xs : List Nat, (xs.map fun x => ((h x : Nat) : Int)).sum = (((xs.map h).sum : Nat) : Int)
  | [] => rfl
  | x :: xs => by
    rw [List.map_cons, List.sum_cons, sum_cast h xs, List.map_cons, List.sum_cons]
    push_cast
    rfl
theorem sum_g (h : Nat → Nat) (xs : List Nat) (f : Fl) : gSum [(f, .lst (xs.map fun x => D.int ((h x : Nat) : Int)))] = some (.int (((xs.map h).sum : Nat) : Int), .c) := by
  have e : (xs.map fun x => D.int ((h x : Nat) : Int)) = (xs.map fun x => ((h x : Nat) : Int)).map D.int := by
    rw [List.map_map]
    rfl
  rw [e, ← sum_cast]
  exact ints_l _ _ _
theorem chk_lt {rows : List Nat} (h : RR rows) {w p : Nat} (hr : ∀ r ∈ rows, r < 2 ^ w) (hp : p < w) (hn : p ∉ rows.map top) : chk rows p < 2 ^ w := by
  have nd : ((rows.filter fun r => r.testBit p).map top).Nodup := List.Nodup.sublist ((List.filter_sublist).map top) (tops_nd h)
  have np : p ∉ (rows.filter fun r => r.testBit p).map top := fun z => hn (((List.filter_sublist).map top).subset z)
  unfold chk
  rw [add_pow _ _ (by rw [pow_bit _ nd]; exact decide_eq_false np)]
  refine Nat.xor_lt_two_pow ?_ (Nat.pow_lt_pow_right (by decide) hp)
  refine Nat.lt_pow_two_of_testBit _ fun i hi => ?_
  rw [pow_bit _ nd]
  refine decide_eq_false fun z => ?_
  obtain ⟨r, hr1, rfl⟩ := List.mem_map.mp z
  have hr2 := (List.mem_filter.mp hr1).1
  have := top_bit (h.pos r hr2)
  rw [Nat.testBit_lt_two_pow (Nat.lt_of_lt_of_le (hr r hr2) (Nat.pow_le_pow_right (by decide) hi))] at this
  cases this
def rawK (rows : List Nat) (k : Nat) : List Nat := ((List.range k).filter fun p => decide (p ∉ rows.map top)).map (chk rows)
theorem rawK_len (rows : List Nat) (k : Nat) : (rawK rows k).length ≤ k := by
  unfold rawK
  rw [List.length_map]
  exact Nat.le_trans (List.length_filter_le _ _) (by rw [List.length_range]; exact Nat.le_refl _)
theorem rawK_succ (rows : List Nat) (k : Nat) : rawK rows (k + 1) = if k ∈ rows.map top then rawK rows k else rawK rows k ++ [chk rows k] := by
  unfold rawK
  rw [List.range_succ, List.filter_append, List.map_append]
  split
  · rename_i h
    rw [List.filter_cons_of_neg (by simpa using h)]
    simp
  · rename_i h
    rw [List.filter_cons_of_pos (by simpa using h)]
    simp
noncomputable abbrev ckS : SM := sIf (tVal (eBin (gIn true) (eVar 4) (eVar 2))) (sSeq (sSet 5 (eLc (iArgs gZip (aCons (eVar 2) (aCons (eVar 1) aNil))) [7, 6] (gT 2 (gsC (gN 7) (gsC (gN 6) gsN))) (tVal (eBin (gEq false) (eBin gAnd (eBin gShr (eVar 6) (eVar 4)) (eC (.int 1))) (eC (.int 1)))) (eBin gShl (eC (.int 1)) (eVar 7))))
    (sApp 3 (eBin gAdd (eCal gSum (aCons (eVar 5) aNil)) (eBin gShl (eC (.int 1)) (eVar 4))))) sNil
theorem ck_step (rows : List Nat) (w : Int) (k : Nat) (raw : List Nat) (f f2 : Fl) (x5 : Slot) (S : Store) (hf2 : okI (inf f2) = true) (hr : ∀ r ∈ rows, 0 < r ∧ r < 4294967296) (hk : k ≤ 24) (hl : rows.length ≤ 100) (hraw : raw.length ≤ 100) :
    ∃ y5, ckS [.ar f (.int w), .ar f2 (.lst (nI rows)), .ar .c (.lst (nI (rows.map top))), .own (.lst (nI raw)), .ar .c (.int k), x5, .no, .no] S =
      .nx [.ar f (.int w), .ar f2 (.lst (nI rows)), .ar .c (.lst (nI (rows.map top))), .own (.lst (nI (if k ∈ rows.map top then raw else raw ++ [chk rows k]))), .ar .c (.int k), y5, .no, .no] S := by
  have i1 := in_nI k (rows.map top) true .c .c
  by_cases hk2 : k ∈ rows.map top
  · refine ⟨x5, ?_⟩
    rw [if_pos hk2]
    rw [decide_eq_true hk2] at i1
    generalize nI (rows.map top) = T at *
    simp [ckS, i1]
  · rw [if_neg hk2]
    rw [decide_eq_false hk2] at i1
    have tl : ∀ r ∈ rows, top r ≤ 32 := fun r h => by
      have := (lt_iff 32 r).mp (hr r h).2
      unfold top
      omega
    have c := comp_F [.ar f (.int w), .ar f2 (.lst (nI rows)), .ar .c (.lst (nI (rows.map top))), .own (.lst (nI raw)), .ar .c (.int k), x5, .no, .no] S (gT 2 (gsC (gN 7) (gsC (gN 6) gsN))) (tVal (eBin (gEq false) (eBin gAnd (eBin gShr (eVar 6) (eVar 4)) (eC (.int 1))) (eC (.int 1)))) (eBin gShl (eC (.int 1)) (eVar 7))
      (fun r => D.tup [.int (top r : Nat), .int (r : Nat)]) (fun r => r.testBit k) (fun r => D.int ((1 * 2 ^ top r : Nat) : Int)) rows fun r h => ⟨[.ar f (.int w), .ar f2 (.lst (nI rows)), .ar .c (.lst (nI (rows.map top))), .own (.lst (nI raw)), .ar .c (.int k), x5, .ar .c (.int r), .ar .c (.int (top r : Nat))], rfl, by
        obtain ⟨v, e1, e2⟩ := bt r k .c .c
        rw [← e2]
        simp [e1, and1_i, -int_ap], fun _ => ⟨.c, by
        have := shl_n 1 (top r) .c .c (by decide) (by have := tl r h; omega)
        rw [show ((1 : Nat) : Int) = 1 from rfl] at this
        generalize 1 * 2 ^ top r = y at *
        simp [this, -int_ap], rfl⟩⟩
    have zt := zip_top rows
    rw [← zt] at c
    have wp : wipeE [.ar f (.int w), .ar f2 (.lst (nI rows)), .ar .c (.lst (nI (rows.map top))), .own (.lst (nI raw)), .ar .c (.int k), x5, .no, .no] [7, 6] = [.ar f (.int w), .ar f2 (.lst (nI rows)), .ar .c (.lst (nI (rows.map top))), .own (.lst (nI raw)), .ar .c (.int k), x5, .no, .no] := rfl
    have c2 := kcp_ap [.ar f (.int w), .ar f2 (.lst (nI rows)), .ar .c (.lst (nI (rows.map top))), .own (.lst (nI raw)), .ar .c (.int k), x5, .no, .no] S [7, 6] (gT 2 (gsC (gN 7) (gsC (gN 6) gsN))) _ _ (zipD (nI (rows.map top)) (nI rows)) _ S (by rw [zt, List.length_map]; omega) (by rw [wp]; exact c)
    have sg := sum_g (fun r => 1 * 2 ^ top r) (rows.filter fun r => r.testBit k) .c
    have zp : gZip [(.c, .lst (nI (rows.map top))), (inf f2, .lst (nI rows))] = some (zipD (nI (rows.map top)) (nI rows)) := zip_ll _ _ _ _ (by rw [hf2]; rfl)
    have sh : gShl (.int 1, .c) (.int (k : Int), .c) = some (.int ((2 ^ k : Nat) : Int), .c) := by
      have := shl_n 1 k .c .c (by decide) (by omega)
      rw [Nat.one_mul] at this
      exact this
    have e : (((rows.filter fun r => r.testBit k).map fun r => 1 * 2 ^ top r).sum : Nat) + 2 ^ k = chk rows k := by
      unfold chk pows
      rw [List.map_map]
      congr 2
      exact List.map_congr_left fun r _ => Nat.one_mul _
    have e' : ((((rows.filter fun r => r.testBit k).map fun r => 1 * 2 ^ top r).sum : Nat) : Int) + ((2 ^ k : Nat) : Int) = ((chk rows k : Nat) : Int) := by
      rw [← e]
      push_cast
      rfl
    refine ⟨.ar .c (.lst ((rows.filter fun r => r.testBit k).map fun r => D.int ((1 * 2 ^ top r : Nat) : Int))), ?_⟩
    rw [nI_app, show nI [chk rows k] = [D.int (chk rows k : Nat)] from rfl]
    have rl : (nI raw).length < 16777216 := by rw [nI_len]; omega
    generalize ((rows.filter fun r => r.testBit k).map fun r => D.int ((1 * 2 ^ top r : Nat) : Int)) = U at *
    generalize (((rows.filter fun r => r.testBit k).map fun r => 1 * 2 ^ top r).sum : Nat) = u at *
    generalize chk rows k = v at *
    generalize 2 ^ k = z at *
    generalize zipD (nI (rows.map top)) (nI rows) = ZZ at *
    generalize nI (rows.map top) = T at *
    generalize nI raw = W at *
    generalize nI rows = RW at *
    simp [ckS, i1, zp, freeE, c2, sg, sh, e', rl, -int_ap]
end Fin

set_option maxRecDepth 100000
set_option maxHeartbeats 4000000
namespace Fin
open Mv Mir Ev
open PySem (sizeLine sizeLine_eq)
open L2 (atI ixN)
theorem inR_of (a : Int) (h : -1000000 ≤ a ∧ a ≤ 1000000) : inR a = true := by
  unfold inR
  rw [Bool.and_eq_true, decide_eq_true_eq, decide_eq_true_eq]
  omega
theorem raw_mem_lt {rows : List Nat} (h : RR rows) {w : Nat} (hr : ∀ r ∈ rows, r < 2 ^ w) : ∀ c ∈ rawF w rows, c < 2 ^ w := fun c hc => by
  obtain ⟨p, hp, rfl⟩ := List.mem_map.mp hc
  exact chk_lt h hr (List.mem_range.mp (List.mem_filter.mp hp).1) (of_decide_eq_true (List.mem_filter.mp hp).2)
theorem s_checks (w : Nat) (rows : List Nat) (f f2 : Fl) (S : Store) (hw : w ≤ 24) (hf2 : okI (inf f2) = true) (h : RR rows) (hr : ∀ r ∈ rows, r < 2 ^ w) (hl : rows.length ≤ 100) : m_checks_of [(f, .int (w : Nat)), (f2, .lst (nI rows))] S = .ok (.lst (nI (basF (rawF w rows))), .n) S := by
  have p24 : 2 ^ w ≤ 16777216 := Nat.le_trans (Nat.pow_le_pow_right (by decide) hw) (by decide)
  have hr2 : ∀ r ∈ rows, 0 < r ∧ r < 4294967296 := fun r hr1 => ⟨h.pos r hr1, by have := hr r hr1; omega⟩
  have c := comp_n [.ar f (.int (w : Nat)), .ar f2 (.lst (nI rows)), .no, .no, .no, .no, .no, .no] S (gN 6) tYesM (eFn 1 m_degree (aCons (eVar 6) aNil)) (fun _ => true) (fun r => .int (top r : Nat)) rows fun r hr1 => ⟨[.ar f (.int (w : Nat)), .ar f2 (.lst (nI rows)), .no, .no, .no, .no, .ar .c (.int r), .no], rfl, rfl, fun _ => ⟨.c, by simp [s_degree r .c S (hr2 r hr1).1 (hr2 r hr1).2], rfl⟩⟩
  rw [filter_t] at c
  have tn : (rows.map fun r => D.int (top r : Nat)) = nI (rows.map top) := by
    unfold nI
    rw [List.map_map]
    rfl
  rw [tn] at c
  have c2 := kcp_ap [.ar f (.int (w : Nat)), .ar f2 (.lst (nI rows)), .no, .no, .no, .no, .no, .no] S [6] (gN 6) tYesM _ (nI rows) _ S (by rw [nI_len]; omega) c
  have rl := rawK_len rows w
  have bs := s_basis (rawK rows w) .o S rfl (by omega) (fun x hx => by have := raw_mem_lt h hr x hx; omega)
  have bs2 : m_basis_of [(.o, .lst (nI (rawK rows w)))] S = .ok (.lst (nI (basF (rawF w rows))), .n) S := bs
  clear bs
  obtain ⟨r2, S2, e, rfl, x4, x5, rfl⟩ := for_inv (P := fun k r S' => S' = S ∧ ∃ x4 x5, r = [.ar f (.int (w : Nat)), .ar f2 (.lst (nI rows)), .ar .c (.lst (nI (rows.map top))), .own (.lst (nI (rawK rows k))), x4, x5, .no, .no]) (g := gN 4) (p := ckS) (rangeD 0 1 w) 0 [.ar f (.int (w : Nat)), .ar f2 (.lst (nI rows)), .ar .c (.lst (nI (rows.map top))), .own (.lst (nI (rawK rows 0))), .no, .no, .no, .no] S ⟨rfl, .no, .no, rfl⟩ (fun n d r S' hd ⟨e1, x4, x5, e2⟩ => by
    subst e1 e2
    have hn : n < w := by
      have := (List.getElem?_eq_some_iff.mp hd).1
      rwa [rangeD_len] at this
    rw [rangeD_get hn] at hd
    have hd := (Option.some.inj hd).symm
    subst hd
    have e0 : ((0 : Int) + (n : Nat) * 1) = (n : Nat) := by omega
    have rl := rawK_len rows n
    rw [e0, Nat.zero_add]
    obtain ⟨y5, q⟩ := ck_step rows (w : Nat) n (rawK rows n) f f2 x5 S' hf2 hr2 (by omega) hl (by omega)
    rw [← rawK_succ] at q
    exact ⟨_, rfl, _, _, q, rfl, _, _, rfl⟩)
  rw [rangeD_len, Nat.zero_add] at e
  have rn := rng1_ap (f := inf f) (w : Int) (inR_of _ (by omega))
  rw [Int.toNat_natCast] at rn
  rw [show nI (rawK rows 0) = [] from rfl] at e
  generalize nI (basF (rawF w rows)) = Y at *
  generalize nI (rawK rows w) = Z at *
  generalize nI (rows.map top) = T at *
  generalize nI rows = X at *
  simp [m_checks_of, b_checks_of, freeE, hf2, c2, rn, e, bs2, -rng1_ap]
theorem sumS_nI (found : List Nat) (x : Nat) : nI (sumS found x) = nI found ++ found.map fun y => D.int ((y ^^^ x : Nat) : Int) := by
  unfold sumS
  rw [nI_app]
  unfold nI
  rw [List.map_map]
  rfl
theorem c_sum (found : List Nat) (x : Nat) (a0 a1 : Slot) (S : Store) : compL (gN 3) tYesM (eBin gXor (eVar 3) (eVar 2)) [a0, a1, .ar .c (.int x), .no] (nI found) S = .ok (found.map fun y => D.int ((y ^^^ x : Nat) : Int)) S := by
  have := comp_n [a0, a1, .ar .c (.int x), .no] S (gN 3) tYesM (eBin gXor (eVar 3) (eVar 2)) (fun _ => true) (fun y => D.int ((y ^^^ x : Nat) : Int)) found fun y hy => ⟨[a0, a1, .ar .c (.int x), .ar .c (.int y)], rfl, rfl, fun _ => ⟨.c, by simp [xor_g, -int_ap], rfl⟩⟩
  rw [filter_t] at this
  exact this
theorem sum_len (found : List Nat) (x : Nat) : (sumS found x).length = 2 * found.length := by
  unfold sumS
  rw [List.length_append, List.length_map]
  omega
theorem s_sums (rows : List Nat) (f : Fl) (S : Store) (hf : okI (inf f) = true) (hl : rows.length ≤ 20) : m_sums_of [(f, .lst (nI rows))] S = .ok (.lst (nI (sumF rows)), .c) S := by
  obtain ⟨r2, S2, e, rfl, x2, rfl⟩ := for_inv (P := fun k r S' => S' = S ∧ ∃ x2, r = [.ar f (.lst (nI rows)), .ar .c (.lst (nI (sumF (rows.take k)))), x2, .no]) (g := gN 2) (p := sSet 1 (eBin gAdd (eVar 1) (eLc (iSeq (eVar 1)) [3] (gN 3) tYesM (eBin gXor (eVar 3) (eVar 2))))) (nI rows) 0 [.ar f (.lst (nI rows)), .ar .c (.lst (nI (sumF (rows.take 0)))), .no, .no] S ⟨rfl, .no, rfl⟩ (fun n d r S' hd ⟨e1, x2, e2⟩ => by
    subst e1 e2
    rw [Nat.zero_add]
    have hn : n < rows.length := by
      have := (List.getElem?_eq_some_iff.mp hd).1
      rwa [nI_len] at this
    unfold nI at hd
    rw [List.getElem?_map, List.getElem?_eq_getElem hn] at hd
    cases hd
    have tk : sumF (rows.take (n + 1)) = sumS (sumF (rows.take n)) rows[n] := by
      unfold sumF
      rw [List.take_succ_eq_append_getElem hn, List.foldl_append]
      rfl
    have lf : (sumF (rows.take n)).length ≤ 1048576 := by
      rw [len_sumF, List.length_take]
      exact Nat.le_trans (Nat.pow_le_pow_right (by decide) (show min n rows.length ≤ 20 by omega)) (by decide)
    generalize rows[n] = x at *
    refine ⟨[.ar f (.lst (nI rows)), .ar .c (.lst (nI (sumF (rows.take n)))), .ar .c (.int x), .no], rfl, [.ar f (.lst (nI rows)), .ar .c (.lst (nI (sumF (rows.take (n + 1))))), .ar .c (.int x), .no], S', ?_, rfl, .ar .c (.int x), rfl⟩
    rw [tk, sumS_nI]
    generalize sumF (rows.take n) = F at *
    have c := c_sum F x (.ar f (.lst (nI rows))) (.ar .c (.lst (nI F))) S'
    have c2 := kcp_ap [.ar f (.lst (nI rows)), .ar .c (.lst (nI F)), .ar .c (.int x), .no] S' [3] (gN 3) tYesM _ (nI F) _ S' (by rw [nI_len]; omega) c
    have ln : (nI F).length + (F.map fun y => D.int ((y ^^^ x : Nat) : Int)).length ≤ sizeLine := by rw [nI_len, List.length_map, sizeLine_eq]; omega
    generalize (F.map fun y => D.int ((y ^^^ x : Nat) : Int)) = U at *
    generalize nI F = X at *
    generalize nI rows = RW at *
    simp [freeE, c2, ln])
  rw [nI_len, Nat.zero_add, List.take_length] at e
  rw [show nI (sumF (rows.take 0)) = [D.int 0] from rfl] at e
  generalize nI (sumF rows) = Y at *
  generalize nI rows = X at *
  simp [m_sums_of, b_sums_of, hf, e]
theorem lsF_len (rows : List Nat) : (lsF rows).length ≤ 2 ^ rows.length := by
  have go : ∀ (rows found : List Nat), (rows.foldl lsS found).length ≤ found.length * 2 ^ rows.length := by
    intro rows
    induction rows with
    | nil => intro found; simp
    | cons x rows ih =>
      intro found
      have := ih (lsS found x)
      have l2 : (lsS found x).length ≤ 2 * found.length := by
        unfold lsS
        split
        · omega
        · rw [sum_len]; omega
      rw [List.foldl_cons, List.length_cons, Nat.pow_succ]
      refine Nat.le_trans this ?_
      rw [Nat.mul_comm _ 2, ← Nat.mul_assoc, Nat.mul_comm _ 2]
      exact Nat.mul_le_mul_right _ l2
  have := go rows [0]
  rw [List.length_singleton, Nat.one_mul] at this
  exact this
end Fin

set_option maxRecDepth 100000
set_option maxHeartbeats 4000000
namespace Fin
open Mv Mir Ev
open PySem (sizeLine sizeLine_eq)
open L2 (atI ixN)
def spanD (w : Nat) (xs : List Nat) : List D := [.int (w : Nat), .lst (nI (basF xs)), .lst (nI (basF (rawF w (basF xs)))), .non]
theorem two_cast (w : Nat) : ((2 ^ w : Nat) : Int) - 1 = ((2 ^ w - 1 : Nat) : Int) := by
  have := Nat.two_pow_pos w
  omega
theorem sh1 (w : Nat) (hw : w ≤ 1000) (f : Fl) : gShl (.int 1, .c) (.int (w : Int), f) = some (.int ((2 ^ w : Nat) : Int), .c) := by
  have := shl_n 1 w .c f (by decide) (by omega)
  rw [Nat.one_mul] at this
  exact this
/-- all(is_among(x, 0, 2^w - 1)) -/
theorem c_amg (ds : List D) (w : Nat) (f0 f1 f2 : Fl) (d0 : D) (S : Store) (hw : w ≤ 24) (h : ∀ d ∈ ds, (tyD d).isSome = true) : compL (gN 3) tYesM (eFn 3 m_is_among (aCons (eVar 3) (aCons (eC (.int 0)) (aCons (eBin gSub (eBin gShl (eC (.int 1)) (eVar 1)) (eC (.int 1))) aNil)))) [.ar f0 d0, .ar f1 (.int (w : Nat)), .ar f2 (.lst ds), .no] ds S = .ok ((ds.map fun d => amongD d 0 ((2 ^ w : Nat) - 1 : Int)).map D.bl) S := by
  rw [List.map_map]
  refine comp_map _ S _ _ _ (D.bl ∘ fun d => amongD d 0 ((2 ^ w : Nat) - 1 : Int)) ds fun d hd => ⟨[.ar f0 d0, .ar f1 (.int (w : Nat)), .ar f2 (.lst ds), .ar .c d], rfl, rfl, .c, ?_, rfl⟩
  have a := s_is_among d 0 ((2 ^ w : Nat) - 1 : Int) .c .c .c S (h d hd)
  have sh := sh1 w (by omega) (inf f1)
  generalize ((2 ^ w : Nat) : Int) = z at *
  simp [sh, sub_i, a, -int_ap]
theorem s_init (n w : Nat) (xs : List Nat) (f0 f1 f2 : Fl) (S : Store) (hS : S[n]? = some (0, [])) (hw : 1 ≤ w ∧ w ≤ 24) (hl : 1 ≤ xs.length ∧ xs.length ≤ 12) (hf : okI (inf f2) = true) (hb : ∀ x ∈ xs, x < 2 ^ w) : m_Span___init__ [(f0, .ins n), (f1, .int (w : Nat)), (f2, .lst (nI xs))] S = .ok (.non, .c) (S.set n (0, spanD w xs)) := by
  have hn : n < S.length := (List.getElem?_eq_some_iff.mp hS).1
  have s1 : ∀ x, (S.set n x)[n]? = some x := fun x => List.getElem?_set_self hn
  have a := s_is_among (.int (w : Nat)) 1 24 (inf f1) .c .c S rfl
  rw [show amongD (.int (w : Nat)) 1 24 = true from decide_eq_true (by omega)] at a
  have h1 : (1 : Int) ≤ ((nI xs).length : Int) := by rw [nI_len]; omega
  have h2 : ((nI xs).length : Int) ≤ 12 := by rw [nI_len]; omega
  have nt : ∀ d ∈ nI xs, (tyD d).isSome = true := fun d hd => by
    unfold nI at hd
    obtain ⟨b, _, rfl⟩ := List.mem_map.mp hd
    rfl
  have c := c_amg (nI xs) w f0 f1 f2 (.ins n) S hw.2 nt
  have c2 := kcp_ap [.ar f0 (.ins n), .ar f1 (.int (w : Nat)), .ar f2 (.lst (nI xs)), .no] S [3] (gN 3) tYesM _ (nI xs) _ S (by rw [nI_len]; omega) c
  have all : ((nI xs).map fun d => amongD d 0 ((2 ^ w : Nat) - 1 : Int)).all id = true := by
    rw [List.all_eq_true]
    intro b hb1
    obtain ⟨d, hd, rfl⟩ := List.mem_map.mp hb1
    unfold nI at hd
    obtain ⟨x, hx, rfl⟩ := List.mem_map.mp hd
    have := hb x hx
    exact decide_eq_true (by omega)
  have p24 : 2 ^ w ≤ 16777216 := Nat.le_trans (Nat.pow_le_pow_right (by decide) hw.2) (by decide)
  have bs := s_basis xs (inf f2) (S.set n (0, [.int (w : Nat)])) (by rw [inf_inf]; exact hf) (by omega) (fun x hx => by have := hb x hx; omega)
  have ck := s_checks w (basF xs) (inf f1) .c ((S.set n (0, [.int (w : Nat)])).set n (0, [.int (w : Nat), .lst (nI (basF xs))])) hw.2 rfl (bas_rr' xs) (bas_lt xs w hb) (by have := bas_len xs; omega)
  unfold spanD
  generalize nI (basF (rawF w (basF xs))) = E at *
  generalize nI (basF xs) = R at *
  generalize ((nI xs).map fun d => amongD d 0 ((2 ^ w : Nat) - 1 : Int)) = B at *
  generalize nI xs = X at *
  simp only [List.set_set] at ck
  simp only [m_Span___init__, b_Span___init__, fnM_ap]
  simp [a, m_need, b_need, isiOne, le_i, h1, h2, freeE, hf, c2, all, hS, s1, bs, ck, putD, -int_ap]
end Fin

set_option maxRecDepth 100000
set_option maxHeartbeats 4000000
namespace Fin
open Mv Mir Ev
open PySem (sizeLine sizeLine_eq)
open L2 (atI ixN)
def mkL (x : Nat) : Nat → List Nat → List Nat
  | _, [] => []
  | i, c :: cs => if ev x c then 2 ^ i :: mkL x (i + 1) cs else mkL x (i + 1) cs
def en : Nat → List Nat → List D
  | _, [] => []
  | i, c :: cs => .tup [.int (i : Nat), .int (c : Nat)] :: en (i + 1) cs
theorem en_get : ∀ (cs : List Nat) (i j : Nat), (en i cs)[j]? = cs[j]?.map fun c => D.tup [.int ((i + j : Nat) : Int), .int (c : Nat)]
  | [], i, j => by rw [en]; simp
  | c :: cs, i, 0 => by rw [en]; rfl
  | c :: cs, i, j + 1 => by
    rw [en, List.getElem?_cons_succ, List.getElem?_cons_succ, en_get cs (i + 1) j, show i + 1 + j = i + (j + 1) by omega]
theorem enum_en (cs : List Nat) : enumD (nI cs) = en 0 cs := by
  apply List.ext_getElem?
  intro j
  rw [en_get, Nat.zero_add]
  rcases Nat.lt_or_ge j cs.length with h | h
  · rw [List.getElem?_eq_getElem h]
    refine enumD_get ?_
    unfold nI
    rw [List.getElem?_map, List.getElem?_eq_getElem h]
    rfl
  · rw [List.getElem?_eq_none h, List.getElem?_eq_none (by rw [enumD_length, nI_len]; exact h)]
    rfl
theorem c_mark (x : Nat) (a0 : Slot) (f : Fl) (S : Store) : ∀ (cs : List Nat) (i : Nat), i + cs.length ≤ 1000 → compL (gT 2 (gsC (gN 2) (gsC (gN 3) gsN))) (tVal (eFn 1 m_is_odd (aCons (eBin gAnd (eVar 1) (eVar 3)) aNil))) (eBin gShl (eC (.int 1)) (eVar 2)) [a0, .ar f (.int (x : Nat)), .no, .no] (en i cs) S = .ok (nI (mkL x i cs)) S
  | [], _, _ => rfl
  | c :: cs, i, h => by
    have ih := c_mark x a0 f S cs (i + 1) (by rw [List.length_cons] at h; omega)
    have an : gAnd (.int (x : Int), inf f) (.int (c : Int), .c) = some (.int ((x &&& c : Nat) : Int), .c) := by
      show some (D.int (PySem.Builtin.bitAnd (x : Int) (c : Int)), Fl.c) = _
      rw [and_n]
    have od := s_is_odd (x &&& c) .c S
    have sh := sh1 i (by omega) .c
    have tt : tVal (eFn 1 m_is_odd (aCons (eBin gAnd (eVar 1) (eVar 3)) aNil)) [a0, .ar f (.int (x : Nat)), .ar .c (.int (i : Nat)), .ar .c (.int (c : Nat))] S = .ok (ev x c) S := by
      unfold ev
      generalize x &&& c = z at *
      simp [an, od, -int_ap]
    have tv : eBin gShl (eC (.int 1)) (eVar 2) [a0, .ar f (.int (x : Nat)), .ar .c (.int (i : Nat)), .ar .c (.int (c : Nat))] S = .ok (.int ((2 ^ i : Nat) : Int), .c) S := by
      generalize 2 ^ i = z at *
      simp [sh, -int_ap]
    rw [en, mkL]
    unfold compL
    rw [show gT 2 (gsC (gN 2) (gsC (gN 3) gsN)) (.tup [.int (i : Nat), .int (c : Nat)]) [a0, .ar f (.int (x : Nat)), .no, .no] = some [a0, .ar f (.int (x : Nat)), .ar .c (.int (i : Nat)), .ar .c (.int (c : Nat))] from rfl]
    dsimp only
    rw [tt]
    cases ev x c with
    | false =>
      dsimp only
      rw [ih]
      rfl
    | true =>
      dsimp only
      rw [tv]
      dsimp only
      rw [if_pos rfl, ih]
      rfl
theorem mkzero (x : Nat) : ∀ (cs : List Nat) (i : Nat), (mkL x i cs).sum = 0 ↔ ∀ c ∈ cs, ev x c = false
  | [], _ => by simp [mkL]
  | c :: cs, i => by
    have ih := mkzero x cs (i + 1)
    rw [mkL]
    cases h : ev x c with
    | false =>
      rw [if_neg (by decide), ih]
      constructor
      · intro q d hd
        rcases List.mem_cons.mp hd with rfl | hd
        · exact h
        · exact q d hd
      · exact fun q d hd => q d (.tail _ hd)
    | true =>
      rw [if_pos rfl, List.sum_cons]
      constructor
      · intro q
        have := Nat.two_pow_pos i
        omega
      · intro q
        have := q c (.head _)
        rw [h] at this
        cases this
theorem mk_len (x : Nat) : ∀ (cs : List Nat) (i : Nat), (mkL x i cs).length ≤ cs.length
  | [], _ => Nat.le_refl _
  | c :: cs, i => by
    have := mk_len x cs (i + 1)
    rw [mkL]
    split
    · rw [List.length_cons, List.length_cons]; omega
    · rw [List.length_cons]; omega
theorem s_mark (n x : Nat) (cs : List Nat) (d0 d1 d3 : D) (f f2 : Fl) (S : Store) (hS : S[n]? = some (0, [d0, d1, .lst (nI cs), d3])) (hl : cs.length ≤ 100) : m_Span_mark_by [(f, .ins n), (f2, .int (x : Nat))] S = .ok (.int (((mkL x 0 cs).sum : Nat) : Int), .c) S := by
  have c := c_mark x (.ar f (.ins n)) f2 S cs 0 (by omega)
  have c2 := kcp_ap [.ar f (.ins n), .ar f2 (.int (x : Nat)), .no, .no] S [2, 3] (gT 2 (gsC (gN 2) (gsC (gN 3) gsN))) _ _ (en 0 cs) _ S (by rw [← enum_en, enumD_length, nI_len]; omega) c
  have sg := sum_g id (mkL x 0 cs) .n
  rw [List.map_id] at sg
  have sg' : gSum [(.n, .lst (nI (mkL x 0 cs)))] = some (.int (((mkL x 0 cs).sum : Nat) : Int), .c) := sg
  have ee := enum_en cs
  generalize (mkL x 0 cs).sum = m at *
  generalize nI (mkL x 0 cs) = M at *
  generalize en 0 cs = EN at *
  generalize nI cs = C at *
  simp [m_Span_mark_by, b_Span_mark_by, hS, ee, freeE, c2, sg']
theorem need_num (n x w : Nat) (d1 d2 d3 : D) (f f2 : Fl) (S : Store) (hS : S[n]? = some (0, [.int (w : Nat), d1, d2, d3])) (hw : w ≤ 24) (hx : x < 2 ^ w) : m_Span_need_number [(f, .ins n), (f2, .int (x : Nat))] S = .ok (.non, .c) S := by
  have a := s_is_among (.int (x : Nat)) 0 ((2 ^ w : Nat) - 1 : Int) (inf f2) .c .c S rfl
  rw [show amongD (.int (x : Nat)) 0 ((2 ^ w : Nat) - 1 : Int) = true from decide_eq_true (by omega)] at a
  have sh := sh1 w (by omega) .c
  generalize ((2 ^ w : Nat) : Int) = z at *
  simp only [m_Span_need_number, b_Span_need_number, fnM_ap]
  simp [hS, sh, sub_i, a, m_need, b_need, -int_ap]
theorem tabN : tab_need_number 0 = some m_Span_need_number := rfl
theorem tabM : tab_mark_by 0 = some m_Span_mark_by := rfl
theorem tabH : tab_has 0 = some m_Span_has := rfl
theorem tabB : tab_basis 0 = some m_Span_basis := rfl
theorem tabW : tab_words 0 = some m_Span_words := rfl
theorem raw_len (w : Nat) (rows : List Nat) : (rawF w rows).length ≤ w := rawK_len rows w
end Fin

set_option maxRecDepth 100000
set_option maxHeartbeats 4000000
namespace Fin
open Mv Mir Ev
open PySem (sizeLine sizeLine_eq)
open L2 (atI ixN)
theorem nI_at (bs : List Nat) (p : Nat) (h : p < bs.length) : atI (nI bs) (p : Int) = some (.int ((bs[p] : Nat) : Int)) := by
  unfold atI ixN
  rw [if_pos (by omega), nI_len, if_pos (by omega), Int.toNat_natCast]
  unfold nI
  rw [Option.bind_some, List.getElem?_map, List.getElem?_eq_getElem h]
  rfl
end Fin

set_option maxRecDepth 100000
set_option maxHeartbeats 4000000
/-! k16: how many checks, and what they are even with -/
namespace Fin
theorem ev_comm (a b : Nat) : ev a b = ev b a := by
  unfold ev
  rw [Nat.and_comm]
/-- rows each with a bit that no other one has -/
theorem ls_own (β : Nat → Nat) : ∀ (rows found done : List Nat), (∀ y, y ∈ found ↔ Sp done y) → (∀ r ∈ rows, r.testBit (β r) = true) → rows.Pairwise (fun a b => a.testBit (β b) = false) → (∀ r ∈ rows, ∀ d ∈ done, d.testBit (β r) = false) → rows.foldl lsS found = rows.foldl sumS found
  | [], _, _, _, _, _, _ => rfl
  | x :: rows, found, done, h, hp, pw, q => by
    have nx : x ∉ found := fun z => by
      have := sp_bit (q x (.head _)) ((h x).mp z)
      rw [hp x (.head _)] at this
      cases this
    have e : lsS found x = sumS found x := if_neg nx
    rw [List.foldl_cons, List.foldl_cons, e]
    refine ls_own β rows _ (done ++ [x]) (mem_sumS h) (fun r hr => hp r (.tail _ hr)) (List.pairwise_cons.mp pw).2 fun r hr d hd => ?_
    rcases List.mem_append.mp hd with hd | hd
    · exact q r (.tail _ hr) d hd
    · rw [List.mem_singleton.mp hd]
      exact (List.pairwise_cons.mp pw).1 r hr
theorem chk_bit {rows : List Nat} (h : RR rows) {p q : Nat} (hp : p ∉ rows.map top) (hq : q ∉ rows.map top) : (chk rows p).testBit q = decide (p = q) := by
  have nd : ((rows.filter fun r => r.testBit p).map top).Nodup := List.Nodup.sublist ((List.filter_sublist).map top) (tops_nd h)
  have np : p ∉ (rows.filter fun r => r.testBit p).map top := fun z => hp (((List.filter_sublist).map top).subset z)
  have nq : q ∉ (rows.filter fun r => r.testBit p).map top := fun z => hq (((List.filter_sublist).map top).subset z)
  unfold chk
  rw [add_pow _ _ (by rw [pow_bit _ nd]; exact decide_eq_false np), Nat.testBit_xor, pow_bit _ nd, decide_eq_false nq, Nat.testBit_two_pow]
  simp
theorem raw_free {rows : List Nat} (h : RR rows) (w : Nat) : (lsF (rawF w rows)).length = 2 ^ (rawF w rows).length := by
  have e : lsF (rawF w rows) = sumF (rawF w rows) := by
    have inj : ∀ p q, p ∉ rows.map top → q ∉ rows.map top → chk rows p = chk rows q → p = q := fun p q hp hq e => by
      have h1 := chk_bit h hp hp
      rw [e, chk_bit h hq hp, decide_eq_true rfl] at h1
      exact (of_decide_eq_true h1).symm
    have ex : ∀ c, ∃ b, ∀ p, p ∉ rows.map top → chk rows p = c → p = b := fun c => by
      by_cases hc : ∃ p, p ∉ rows.map top ∧ chk rows p = c
      · obtain ⟨p, h1, h2⟩ := hc
        exact ⟨p, fun q h3 h4 => inj q p h3 h1 (h4.trans h2.symm)⟩
      · exact ⟨0, fun p h1 h2 => absurd ⟨p, h1, h2⟩ hc⟩
    obtain ⟨β, hβ⟩ := Classical.axiomOfChoice ex
    have bp : ∀ p, p ∉ rows.map top → β (chk rows p) = p := fun p hp => (hβ _ p hp rfl).symm
    refine ls_own β (rawF w rows) [0] [] sp_nil (fun c hc => ?_) ?_ fun _ _ _ hd => nomatch hd
    · obtain ⟨p, hp, rfl⟩ := List.mem_map.mp hc
      have hp2 := of_decide_eq_true (List.mem_filter.mp hp).2
      rw [bp p hp2, chk_bit h hp2 hp2, decide_eq_true rfl]
    · unfold rawF
      rw [List.pairwise_map]
      refine ((List.nodup_iff_pairwise_ne.mp (List.nodup_range (n := w))).sublist List.filter_sublist).imp_of_mem fun {a b} ha hb ne => ?_
      have ha2 := of_decide_eq_true (List.mem_filter.mp ha).2
      have hb2 := of_decide_eq_true (List.mem_filter.mp hb).2
      rw [bp b hb2, chk_bit h ha2 hb2, decide_eq_false ne]
  rw [e, len_sumF]
theorem split_len (p : Nat → Bool) : ∀ l : List Nat, (l.filter p).length + (l.filter fun x => !p x).length = l.length
  | [] => rfl
  | x :: l => by
    have ih := split_len p l
    cases h : p x with
    | true =>
      rw [List.filter_cons_of_pos h, List.filter_cons_of_neg (by rw [h]; decide), List.length_cons, List.length_cons]
      omega
    | false =>
      rw [List.filter_cons_of_neg (by rw [h]; decide), List.filter_cons_of_pos (by rw [h]; rfl), List.length_cons, List.length_cons]
      omega
theorem rl_of {rows : List Nat} (h : RR rows) {r q : Nat} (hr : r ∈ rows) (hq : q ∈ rows) (ne : r ≠ q) : Rl r q := by
  obtain ⟨A, B, rfl⟩ := List.append_of_mem hr
  have pw := List.pairwise_append.mp h.pw
  have pb := List.pairwise_cons.mp pw.2.1
  rcases List.mem_append.mp hq with hq | hq
  · exact (pw.2.2 q hq r (.head _)).symm
  · rcases List.mem_cons.mp hq with hq | hq
    · exact absurd hq.symm ne
    · exact pb.1 q hq
theorem pow_inj {a b : Nat} (h : 2 ^ a = 2 ^ b) : a = b := by
  rcases Nat.lt_trichotomy a b with q | q | q
  · have := Nat.pow_lt_pow_right (show 1 < 2 by decide) q
    omega
  · exact q
  · have := Nat.pow_lt_pow_right (show 1 < 2 by decide) q
    omega
theorem raw_count {rows : List Nat} (h : RR rows) {w : Nat} (hr : ∀ r ∈ rows, r < 2 ^ w) : (rawF w rows).length + rows.length = w := by
  have e : ((List.range w).filter fun p => decide (p ∈ rows.map top)).length = (rows.map top).length := by
    refine ((List.perm_ext_iff_of_nodup ((List.nodup_range).sublist List.filter_sublist) (tops_nd h)).mpr fun t => ?_).length_eq
    rw [List.mem_filter, List.mem_range, decide_eq_true_eq]
    constructor
    · exact fun z => z.2
    · refine fun z => ⟨?_, z⟩
      obtain ⟨r, hr1, rfl⟩ := List.mem_map.mp z
      rcases Nat.lt_or_ge (top r) w with q | q
      · exact q
      · have := top_bit (h.pos r hr1)
        rw [Nat.testBit_lt_two_pow (Nat.lt_of_lt_of_le (hr r hr1) (Nat.pow_le_pow_right (by decide) q))] at this
        cases this
  have f : (rawF w rows).length = ((List.range w).filter fun p => !decide (p ∈ rows.map top)).length := by
    unfold rawF
    rw [List.length_map]
    congr 1
    exact List.filter_congr fun p _ => decide_not
  have s := split_len (fun p => decide (p ∈ rows.map top)) (List.range w)
  rw [List.length_range] at s
  rw [List.length_map] at e
  omega
theorem bas_count {rows : List Nat} (h : RR rows) (w : Nat) : (basF (rawF w rows)).length = (rawF w rows).length := by
  have e1 := raw_free h w
  have e2 : (lsF (basF (rawF w rows))).length = 2 ^ (basF (rawF w rows)).length := by
    rw [(bas_rr' _).ls, len_sumF]
  have e3 : (lsF (basF (rawF w rows))).length = (lsF (rawF w rows)).length := (perm_sums (nd_lsF _) (nd_lsF _) fun z => by rw [mem_lsF, mem_lsF, bas_sp']).length_eq
  rw [e1, e2] at e3
  exact pow_inj e3
open Classical in
/-- even with all rows: a sum of checks -/
theorem ann {rows : List Nat} (h : RR rows) {w y : Nat} (hr : ∀ r ∈ rows, r < 2 ^ w) (hy : y < 2 ^ w) : (∀ r ∈ rows, ev r y = false) ↔ Sp (rawF w rows) y := by
  have orth : ∀ c ∈ rawF w rows, ∀ r ∈ rows, ev r c = false := fun c hc r hr1 => (has_iff h hr (hr r hr1)).mpr (.mem hr1) c hc
  constructor
  · intro q
    have cs : Sp (rawF w rows) (comb (rawF w rows) fun c => decide (∃ p, p ∉ rows.map top ∧ c = chk rows p ∧ y.testBit p = true)) := comb_sp _ _
    generalize hz : comb (rawF w rows) (fun c => decide (∃ p, p ∉ rows.map top ∧ c = chk rows p ∧ y.testBit p = true)) = z at cs
    have inj : ∀ p q, p ∉ rows.map top → q ∉ rows.map top → chk rows p = chk rows q → p = q := fun p q hp hq e => by
      have h1 := chk_bit h hp hp
      rw [e, chk_bit h hq hp, decide_eq_true rfl] at h1
      exact (of_decide_eq_true h1).symm
    have zb : ∀ p, p < w → p ∉ rows.map top → z.testBit p = y.testBit p := fun p hp hn => by
      have go : ∀ l : List Nat, (∀ a ∈ l, a ∉ rows.map top) → l.Nodup → xorB ((l.map (chk rows)).map fun c => decide (∃ p, p ∉ rows.map top ∧ c = chk rows p ∧ y.testBit p = true) && c.testBit p) = (decide (p ∈ l) && y.testBit p) := by
        intro l
        induction l with
        | nil => intro _ _; rfl
        | cons a l ih =>
          intro h1 nd
          have ha := h1 a (.head _)
          have nd2 := List.nodup_cons.mp nd
          rw [List.map_cons, List.map_cons]
          show (_ != xorB ((l.map (chk rows)).map _)) = _
          rw [ih (fun b hb => h1 b (.tail _ hb)) nd2.2, chk_bit h ha hn]
          have e : decide (∃ p, p ∉ rows.map top ∧ chk rows a = chk rows p ∧ y.testBit p = true) = y.testBit a := by
            cases hya : y.testBit a with
            | true => exact decide_eq_true ⟨a, ha, rfl, hya⟩
            | false =>
              refine decide_eq_false ?_
              rintro ⟨q, h2, h3, h4⟩
              rw [← inj a q ha h2 h3, hya] at h4
              cases h4
          rw [e]
          by_cases hap : a = p
          · subst hap
            have n := nd2.1
            simp [n]
          · have hpa : ¬ p = a := fun e => hap e.symm
            simp [hap, hpa, List.mem_cons]
      rw [← hz, comb_bit]
      unfold rawF
      rw [go _ (fun a ha => of_decide_eq_true (List.mem_filter.mp ha).2) ((List.nodup_range).sublist List.filter_sublist)]
      rw [decide_eq_true (List.mem_filter.mpr ⟨List.mem_range.mpr hp, decide_eq_true hn⟩), Bool.true_and]
    have zw : z < 2 ^ w := sp_lt (raw_mem_lt h hr) cs
    have zr : ∀ r ∈ rows, ev r z = false := fun r hr1 => ev_span (fun c hc => orth c hc r hr1) cs
    have u0 : y ^^^ z = 0 := by
      apply Nat.eq_of_testBit_eq
      intro j
      rw [Nat.zero_testBit]
      rcases Nat.lt_or_ge j w with hj | hj
      · by_cases ht : j ∈ rows.map top
        · obtain ⟨r, hr1, rfl⟩ := List.mem_map.mp ht
          have e : ev r (y ^^^ z) = false := by rw [ev_r, q r hr1, zr r hr1]; rfl
          have a : r &&& (y ^^^ z) = if (y ^^^ z).testBit (top r) then 2 ^ top r else 0 := by
            apply Nat.eq_of_testBit_eq
            intro i
            rw [Nat.testBit_and]
            by_cases hi : i = top r
            · subst hi
              rw [top_bit (h.pos r hr1)]
              cases (y ^^^ z).testBit (top r) <;> simp [Nat.testBit_two_pow]
            · have rhs : (if (y ^^^ z).testBit (top r) then 2 ^ top r else 0).testBit i = false := by
                split
                · rw [Nat.testBit_two_pow]
                  exact decide_eq_false fun e => hi e.symm
                · exact Nat.zero_testBit i
              rw [rhs]
              rcases Nat.lt_or_ge i w with hiw | hiw
              · by_cases hit : i ∈ rows.map top
                · obtain ⟨r2, hr2, rfl⟩ := List.mem_map.mp hit
                  have ne : r ≠ r2 := fun e => hi (by rw [e])
                  have rl : Rl r r2 := rl_of h hr1 hr2 ne
                  rw [rl.1]
                  rfl
                · rw [Nat.testBit_xor, zb i hiw hit]
                  cases y.testBit i <;> simp
              · rw [Nat.testBit_lt_two_pow (Nat.lt_of_lt_of_le (hr r hr1) (Nat.pow_le_pow_right (by decide) hiw))]
                rfl
          unfold ev at e
          rw [a] at e
          cases hb : (y ^^^ z).testBit (top r) with
          | false => rfl
          | true =>
            rw [hb, if_pos rfl, par_pow] at e
            cases e
        · rw [Nat.testBit_xor, zb j hj ht]
          cases y.testBit j <;> rfl
      · have p := Nat.pow_le_pow_right (show 0 < 2 by decide) hj
        rw [Nat.testBit_xor, Nat.testBit_lt_two_pow (Nat.lt_of_lt_of_le hy p), Nat.testBit_lt_two_pow (Nat.lt_of_lt_of_le zw p)]
        rfl
    have : y = z := by
      have := congrArg (· ^^^ z) u0
      simp only [Nat.zero_xor] at this
      rwa [xx] at this
    rw [this]
    exact cs
  · exact fun hs r hr1 => ev_span (fun c hc => orth c hc r hr1) hs
end Fin

set_option maxRecDepth 100000
set_option maxHeartbeats 4000000
namespace Fin
open Mv Mir Ev
open PySem (sizeLine sizeLine_eq)
open L2 (atI ixN)
def lw (x : Nat) : Nat := ((List.range 32).map fun p => x / 2 ^ p % 2).sum
theorem s_lweight (x : Nat) (f : Fl) (S : Store) : m__law_weight [(f, .int (x : Nat))] S = .ok (.int ((lw x : Nat) : Int), .c) S := by
  have c := comp_rng [.ar f (.int (x : Nat)), .no] S (gN 1) tYesM (eBin gAnd (eBin gShr (eVar 0) (eVar 1)) (eC (.int 1))) (fun j => .int ((x / 2 ^ j % 2 : Nat) : Int)) 0 32 fun j hj => ⟨[.ar f (.int (x : Nat)), .ar .c (.int ((0 : Int) + j))], rfl, rfl, .c, by
    have s := shr_n x j (inf f) .c
    have e2 : ((x / 2 ^ j : Nat) : Int) % 2 = ((x / 2 ^ j % 2 : Nat) : Int) := by omega
    rw [show (0 : Int) + (j : Nat) = ((j : Nat) : Int) by omega]
    generalize x / 2 ^ j % 2 = w at e2 ⊢
    generalize x / 2 ^ j = v at s e2
    simp [s, and1_i, e2, -int_ap], rfl⟩
  have c2 := kcp_ap [.ar f (.int (x : Nat)), .no] S [1] (gN 1) tYesM _ (rangeD 0 1 32) _ S (by rw [rangeD_len]; decide) c
  have r32 := rng1_ap (f := .c) 32 (by decide)
  have sg := sum_g (fun j => x / 2 ^ j % 2) (List.range 32) .n
  have sg' : gSum [(.n, .lst ((List.range 32).map fun j => D.int ((x / 2 ^ j % 2 : Nat) : Int)))] = some (.int ((lw x : Nat) : Int), .c) := sg
  generalize ((List.range 32).map fun j => D.int ((x / 2 ^ j % 2 : Nat) : Int)) = L at *
  generalize lw x = m at *
  simp [m__law_weight, b__law_weight, r32, freeE, c2, sg', -rng1_ap]
abbrev evens (w : Nat) (xs : List Nat) : List Nat := basF (rawF w (basF xs))
theorem tabC : tab_checks 0 = some m_Span_checks := rfl
theorem tabK : tab_mark 0 = some m_Span_mark := rfl
theorem key (w x : Nat) (xs : List Nat) (hb : ∀ y ∈ xs, y < 2 ^ w) (hx : x < 2 ^ w) : (mkL x 0 (evens w xs)).sum = 0 ↔ x ∈ lsF xs := by
  rw [mkzero, mem_lsF, ← bas_sp' xs x, ← has_iff (bas_rr' xs) (bas_lt xs w hb) hx]
  constructor
  · exact fun q c hc => ev_span q ((bas_sp' _ c).mpr (.mem hc))
  · exact fun q c hc => ev_span q ((bas_sp' _ c).mp (.mem hc))
theorem ev_lt (w : Nat) (xs : List Nat) (hb : ∀ y ∈ xs, y < 2 ^ w) : ∀ c ∈ evens w xs, c < 2 ^ w := bas_lt _ w (raw_mem_lt (bas_rr' xs) (bas_lt xs w hb))
theorem dims (w : Nat) (xs : List Nat) (hb : ∀ y ∈ xs, y < 2 ^ w) : (lsF xs).length * 2 ^ (evens w xs).length = 2 ^ w := by
  have e1 : (lsF xs).length = 2 ^ (basF xs).length := by
    rw [← len_sumF, ← (bas_rr' xs).ls]
    exact (perm_sums (nd_lsF _) (nd_lsF _) fun z => by rw [mem_lsF, mem_lsF, bas_sp']).length_eq
  have e2 := bas_count (bas_rr' xs) w
  have e3 := raw_count (bas_rr' xs) (bas_lt xs w hb)
  rw [e1, ← Nat.pow_add]
  congr 1
  unfold evens
  omega
end Fin

set_option maxRecDepth 100000
set_option maxHeartbeats 4000000
namespace Fin
open Mv Mir Ev
open PySem (sizeLine sizeLine_eq)
open L2 (atI ixN)
theorem wt_eq (x : Nat) : wtF x = ((x % 2 : Nat) : Int) + wtF (x / 2) := by
  cases x with
  | zero => simp [wtF]
  | succ n => rw [wtF]
theorem wt_sum : ∀ (k x : Nat), x < 2 ^ k → wtF x = ((((List.range k).map fun p => x / 2 ^ p % 2).sum : Nat) : Int)
  | 0, x, h => by
    have : x = 0 := by simpa using h
    subst this
    simp [wtF]
  | k + 1, x, h => by
    have ih := wt_sum k (x / 2) (by rw [Nat.pow_succ] at h; omega)
    rw [List.range_succ_eq_map, List.map_cons, List.sum_cons, List.map_map]
    have e : (List.range k).map ((fun p => x / 2 ^ p % 2) ∘ Nat.succ) = (List.range k).map fun p => x / 2 / 2 ^ p % 2 := List.map_congr_left fun p _ => by
      show x / 2 ^ (p + 1) % 2 = _
      rw [Nat.pow_succ, Nat.mul_comm, Nat.div_div_eq_div_mul]
    rw [e, wt_eq, ih, Nat.pow_zero, Nat.div_one]
    push_cast
    rfl
theorem wt_lw (x : Nat) (h : x < 4294967296) : wtF x = ((lw x : Nat) : Int) := wt_sum 32 x h
theorem lw_zero : lw 0 = 0 := by decide
def prI (w : Nat) : Int × Int := (((lw w : Nat) : Int), (w : Int))
def PP (xs : List Nat) : List (Int × Int) := sortP (xs.map prI)
theorem PP_perm {xs ys : List Nat} (h : xs.Perm ys) : PP xs = PP ys := leP_one (((sortP_perm _).trans (h.map prI)).trans (sortP_perm _).symm) (sortP_sorted _) (sortP_sorted _)
theorem PP_mem {xs : List Nat} {p : Int × Int} : p ∈ PP xs ↔ ∃ w ∈ xs, p = prI w := by
  unfold PP
  rw [(sortP_perm _).mem_iff, List.mem_map]
  constructor
  · rintro ⟨w, h, rfl⟩
    exact ⟨w, h, rfl⟩
  · rintro ⟨w, h, rfl⟩
    exact ⟨w, h, rfl⟩
theorem PP_len (xs : List Nat) : (PP xs).length = xs.length := by
  unfold PP
  rw [(sortP_perm _).length_eq, List.length_map]
/-- the weights, rising -/
theorem PP_wts {xs ys : List Nat} (h : xs.Perm ys) (hy : ∀ y ∈ ys, y < 4294967296) : (PP xs).map Prod.fst = sortI (ys.map wtF) := by
  refine sorted_one ?_ ?_ (sortI_sorted _)
  · have e : ys.map wtF = (ys.map prI).map Prod.fst := by
      rw [List.map_map]
      exact List.map_congr_left fun y hy1 => wt_lw y (hy y hy1)
    rw [e]
    exact (((sortP_perm _).trans (h.map prI)).map Prod.fst).trans (sortI_perm _).symm
  · rw [List.pairwise_map]
    refine (sortP_sorted _).imp fun {p q} h => ?_
    have := leP_iff.mp h
    omega
/-- the first one is nought; the second one is the lightest -/
theorem PP_first {xs : List Nat} (h0 : 0 ∈ xs) : (PP xs)[0]? = some (prI 0) := by
  have m : prI 0 ∈ PP xs := PP_mem.mpr ⟨0, h0, rfl⟩
  have s := sortP_sorted (xs.map prI)
  have s' : (PP xs).Pairwise fun p q => leP p q = true := s
  have mm : ∀ p ∈ PP xs, ∃ w ∈ xs, p = prI w := fun p hp => PP_mem.mp hp
  generalize PP xs = L at *
  cases L with
  | nil => cases m
  | cons p L =>
    obtain ⟨w, _, rfl⟩ := mm p (.head _)
    rcases List.mem_cons.mp m with e | m
    · rw [e]
      rfl
    · have h := leP_iff.mp ((List.pairwise_cons.mp s').1 _ m)
      have z : prI 0 = (0, 0) := by
        unfold prI
        rw [lw_zero]
        rfl
      rw [z] at h
      unfold prI at h
      have : w = 0 := by
        simp only at h
        omega
      rw [this]
      rfl
theorem PP_second {xs : List Nat} (nd : xs.Nodup) (h0 : 0 ∈ xs) {w : Nat} (hw : w ∈ xs) (hn : w ≠ 0) : ∃ v ∈ xs, (PP xs)[1]? = some (prI v) ∧ lw v ≤ lw w := by
  have f := PP_first h0
  have m : prI w ∈ PP xs := PP_mem.mpr ⟨w, hw, rfl⟩
  have s' : (PP xs).Pairwise fun p q => leP p q = true := sortP_sorted (xs.map prI)
  have mm : ∀ p ∈ PP xs, ∃ w ∈ xs, p = prI w := fun p hp => PP_mem.mp hp
  generalize PP xs = L at *
  cases L with
  | nil => cases m
  | cons p L =>
    obtain rfl : p = prI 0 := Option.some.inj f
    have m : prI w ∈ L := by
      rcases List.mem_cons.mp m with e | m
      · have := congrArg Prod.snd e
        unfold prI at this
        simp only at this
        omega
      · exact m
    cases L with
    | nil => cases m
    | cons q L =>
      obtain ⟨v, hv, rfl⟩ := mm q (.tail _ (.head _))
      refine ⟨v, hv, rfl, ?_⟩
      rcases List.mem_cons.mp m with e | m
      · have := congrArg Prod.fst e
        unfold prI at this
        simp only at this
        omega
      · have h := leP_iff.mp ((List.pairwise_cons.mp (List.pairwise_cons.mp s').2).1 _ m)
        unfold prI at h
        simp only at h
        omega
/-! dicts of counts -/
abbrev KV := List (Int × Int)
def keysK (kv : KV) : List L2.Key := kv.map fun p => Sum.inl p.1
def valsK (kv : KV) : List D := kv.map fun p => D.int p.2
def kvD (kv : KV) : D := .dic (keysK kv) (valsK kv)
def look : KV → Int → Option Int
  | [], _ => none
  | p :: kv, w => if p.1 = w then some p.2 else look kv w
def putI (kv : KV) (w c : Int) : KV := if kv.any (fun p => decide (p.1 = w)) = true then kv.map (fun p => if p.1 = w then (p.1, c) else p) else kv ++ [(w, c)]
def bump (kv : KV) (w : Int) : KV := putI kv w ((look kv w).getD 0 + 1)
theorem getK_look : ∀ (kv : KV) (w : Int), getK (keysK kv) (valsK kv) (Sum.inl w) = (look kv w).map D.int
  | [], _ => rfl
  | p :: kv, w => by
    show (if (Sum.inl p.1 : L2.Key) = Sum.inl w then some (D.int p.2) else getK (keysK kv) (valsK kv) (Sum.inl w)) = (if p.1 = w then some p.2 else look kv w).map D.int
    by_cases h : p.1 = w
    · rw [if_pos h, if_pos (by rw [h])]
      rfl
    · rw [if_neg h, if_neg (fun e => h (Sum.inl.inj e))]
      exact getK_look kv w
theorem putX_put (w c : Int) : ∀ kv : KV, putX (keysK kv) (valsK kv) (Sum.inl w) (.int c) = valsK (kv.map fun p => if p.1 = w then (p.1, c) else p)
  | [] => rfl
  | p :: kv => by
    show (if (Sum.inl p.1 : L2.Key) = Sum.inl w then D.int c else D.int p.2) :: putX (keysK kv) (valsK kv) (Sum.inl w) (.int c) = D.int (if p.1 = w then (p.1, c) else p).2 :: valsK (kv.map fun p => if p.1 = w then (p.1, c) else p)
    rw [putX_put w c kv]
    by_cases h : p.1 = w
    · rw [if_pos h, if_pos (by rw [h])]
    · rw [if_neg h, if_neg (fun e => h (Sum.inl.inj e))]
theorem putKD_put (kv : KV) (w c : Int) : putKD (keysK kv) (valsK kv) (Sum.inl w) (.int c) = (keysK (putI kv w c), valsK (putI kv w c)) := by
  have a : ((keysK kv).any fun j => decide (j = Sum.inl w)) = kv.any fun p => decide (p.1 = w) := by
    unfold keysK
    rw [List.any_map]
    congr 1
    funext p
    show decide ((Sum.inl p.1 : L2.Key) = Sum.inl w) = decide (p.1 = w)
    by_cases h : p.1 = w
    · rw [decide_eq_true h, decide_eq_true (by rw [h])]
    · rw [decide_eq_false h, decide_eq_false (fun e => h (Sum.inl.inj e))]
  unfold putKD putI
  rw [a]
  split
  · rw [putX_put]
    congr 1
    unfold keysK
    rw [List.map_map]
    refine List.map_congr_left fun p _ => ?_
    show (Sum.inl p.1 : L2.Key) = Sum.inl (if p.1 = w then (p.1, c) else p).1
    split <;> rfl
  · unfold keysK valsK
    rw [List.map_append, List.map_append]
    rfl
theorem put_fst (kv : KV) (w c : Int) : (putI kv w c).map Prod.fst = if kv.any (fun p => decide (p.1 = w)) = true then kv.map Prod.fst else kv.map Prod.fst ++ [w] := by
  unfold putI
  split
  · rw [List.map_map]
    refine List.map_congr_left fun p _ => ?_
    show (if p.1 = w then (p.1, c) else p).1 = p.1
    split <;> rfl
  · rw [List.map_append]
    rfl
theorem put_len (kv : KV) (w c : Int) : (putI kv w c).length ≤ kv.length + 1 := by
  unfold putI
  split
  · rw [List.length_map]
    omega
  · rw [List.length_append]
    exact Nat.le_refl _
theorem put_nd {kv : KV} (h : (kv.map Prod.fst).Nodup) (w c : Int) : ((putI kv w c).map Prod.fst).Nodup := by
  rw [put_fst]
  split
  · exact h
  · rename_i n
    refine List.nodup_append.mpr ⟨h, by simp, fun a ha b hb e => n ?_⟩
    obtain ⟨p, hp, rfl⟩ := List.mem_map.mp ha
    rw [List.mem_singleton.mp hb] at e
    exact List.any_eq_true.mpr ⟨p, hp, decide_eq_true e⟩
def cntF (ws : List Int) : KV := ws.foldl bump []
theorem cnt_snoc (ws : List Int) (w : Int) : cntF (ws ++ [w]) = bump (cntF ws) w := by
  unfold cntF
  rw [List.foldl_append]
  rfl
theorem cnt_len : ∀ ws : List Int, (cntF ws).length ≤ ws.length := by
  have go : ∀ (ws : List Int) (kv : KV), (ws.foldl bump kv).length ≤ kv.length + ws.length := by
    intro ws
    induction ws with
    | nil => exact fun _ => Nat.le_refl _
    | cons w ws ih =>
      intro kv
      have h1 := ih (bump kv w)
      have h2 := put_len kv w ((look kv w).getD 0 + 1)
      rw [List.foldl_cons, List.length_cons]
      unfold bump at *
      omega
  intro ws
  have := go ws []
  rw [List.length_nil, Nat.zero_add] at this
  exact this
theorem cnt_nd : ∀ ws : List Int, ((cntF ws).map Prod.fst).Nodup := by
  have go : ∀ (ws : List Int) (kv : KV), (kv.map Prod.fst).Nodup → ((ws.foldl bump kv).map Prod.fst).Nodup := by
    intro ws
    induction ws with
    | nil => exact fun _ h => h
    | cons w ws ih => exact fun kv h => ih _ (put_nd h _ _)
  exact fun ws => go ws [] (by simp)
theorem look_mem : ∀ {kv : KV}, (kv.map Prod.fst).Nodup → ∀ p ∈ kv, look kv p.1 = some p.2
  | [], _, p, h => nomatch h
  | q :: kv, nd, p, h => by
    have nd := List.nodup_cons.mp nd
    show (if q.1 = p.1 then some q.2 else look kv p.1) = some p.2
    rcases List.mem_cons.mp h with rfl | h
    · rw [if_pos rfl]
    · rw [if_neg (fun e => nd.1 (List.mem_map.mpr ⟨p, h, e.symm⟩))]
      exact look_mem nd.2 p h
theorem alike_ok {kv : KV} : ∀ {kv' : KV}, (∀ p ∈ kv', look kv p.1 = some p.2) → alikeD (keysK kv) (valsK kv) (keysK kv') (valsK kv') = true
  | [], _ => rfl
  | p :: kv', h => by
    show ((match getK (keysK kv) (valsK kv) (Sum.inl p.1) with
      | some (.int j) => decide (j = p.2)
      | _ => false) && alikeD (keysK kv) (valsK kv) (keysK kv') (valsK kv')) = true
    rw [getK_look, h p (.head _), alike_ok fun q hq => h q (.tail _ hq)]
    simp
end Fin

set_option maxRecDepth 100000
set_option maxHeartbeats 4000000
namespace Fin
open Mv Mir Ev
open PySem (sizeLine sizeLine_eq)
open L2 (atI ixN)
def spanE (w : Nat) (xs : List Nat) (d : D) : List D := [.int (w : Nat), .lst (nI (basF xs)), .lst (nI (evens w xs)), d]
theorem s_has (n w x : Nat) (xs : List Nat) (f f2 : Fl) (S : Store) {d : D} (hS : S[n]? = some (0, spanE w xs d)) (hw : w ≤ 24) (hb : ∀ y ∈ xs, y < 2 ^ w) (hx : x < 2 ^ w) : m_Span_has [(f, .ins n), (f2, .int (x : Nat))] S = .ok (.bl (decide (x ∈ lsF xs)), .c) S := by
  have el : (evens w xs).length ≤ 100 := Nat.le_trans (bas_len _) (Nat.le_trans (raw_len _ _) (by omega))
  have nn := need_num n x w (.lst (nI (basF xs))) (.lst (nI (evens w xs))) d .c (inf f2) S hS hw hx
  have mk := s_mark n x (evens w xs) (.int (w : Nat)) (.lst (nI (basF xs))) d .c (inf f2) S hS el
  have key : (mkL x 0 (evens w xs)).sum = 0 ↔ x ∈ lsF xs := by
    rw [mkzero, mem_lsF, ← bas_sp' xs x, ← has_iff (bas_rr' xs) (bas_lt xs w hb) hx]
    constructor
    · exact fun q c hc => ev_span q ((bas_sp' _ c).mpr (.mem hc))
    · exact fun q c hc => ev_span q ((bas_sp' _ c).mp (.mem hc))
  have e : decide (x ∈ lsF xs) = decide ((((mkL x 0 (evens w xs)).sum : Nat) : Int) = 0) := by
    by_cases h : x ∈ lsF xs
    · rw [decide_eq_true h, decide_eq_true (by have := key.mpr h; omega)]
    · rw [decide_eq_false h, decide_eq_false (fun z => h (key.mp (by omega)))]
  rw [e]
  unfold spanE at hS
  generalize (mkL x 0 (evens w xs)).sum = m at *
  generalize nI (evens w xs) = E at *
  generalize nI (basF xs) = R at *
  simp [m_Span_has, b_Span_has, hS, tabN, tabM, nn, mk]
theorem s_bas (n w : Nat) (xs : List Nat) (f : Fl) (S : Store) {d : D} (hS : S[n]? = some (0, spanE w xs d)) : m_Span_basis [(f, .ins n)] S = .ok (.lst (nI (basF xs)), .n) S := by
  unfold spanE at hS
  generalize nI (basF xs) = R at *
  simp [m_Span_basis, b_Span_basis, hS]
theorem s_words (n w : Nat) (xs : List Nat) (f : Fl) (S : Store) {d : D} (hS : S[n]? = some (0, spanE w xs d)) (hl : xs.length ≤ 20) : m_Span_words [(f, .ins n)] S = .ok (.lst (nI (srt (sumF (basF xs)))), .n) S := by
  have sm := s_sums (basF xs) .c S rfl (by have := bas_len xs; omega)
  have sg := sorted_g (sumF (basF xs)) .c
  unfold spanE at hS
  generalize nI (srt (sumF (basF xs))) = Y at *
  generalize nI (sumF (basF xs)) = Z at *
  generalize nI (basF xs) = R at *
  simp [m_Span_words, b_Span_words, hS, sm, sg]
noncomputable abbrev dsB (i j : Nat) : SM := sDSub i (eVar j) (eBin gAdd (eDGet (eVar i) (eVar j) (eC (.int 0))) (eC (.int 1)))
theorem ds_step (i j : Nat) (r : Env) (S : Store) (kv : KV) (w : Int) (h1 : r[i]? = some (.own (kvD kv))) (h2 : r[j]? = some (.ar .c (.int w))) (hl : kv.length < 1000000) : dsB i j r S = .nx (r.set i (.own (kvD (bump kv w)))) S := by
  have g : eDGet (eVar i) (eVar j) (eC (.int 0)) r S = .ok (.int ((look kv w).getD 0), .c) S := by
    unfold eDGet
    have e1 : eVar i r S = .ok (kvD kv, .o) S := by simp [h1]
    have e2 : eVar j r S = .ok (.int w, .c) S := by simp [h2]
    rw [e1]
    show (eVar j r S).bind _ = _
    rw [e2]
    show (match getK (keysK kv) (valsK kv) (Sum.inl w) with
      | some d => Rs.ok (d, if Fl.o = Fl.t then Fl.t else Fl.c) S
      | none => if okst Fl.c (D.int 0) = true then Rs.ok (D.int 0, Fl.c) S else Rs.no) = _
    rw [getK_look]
    cases look kv w <;> rfl
  have v : eBin gAdd (eDGet (eVar i) (eVar j) (eC (.int 0))) (eC (.int 1)) r S = .ok (.int ((look kv w).getD 0 + 1), .c) S := by
    generalize (look kv w).getD 0 = m at *
    simp [g]
  unfold dsB sDSub
  rw [v]
  show (match r[i]? with
    | some (.own (.dic ks xs)) => (eVar j r S).sb r fun j S2 => match keyD j.1 with
      | some k => if okst Fl.c (D.int ((look kv w).getD 0 + 1)) && decide (ks.length < sizeLine) then SR.nx (r.set i (.own (.dic (putKD ks xs k (D.int ((look kv w).getD 0 + 1))).1 (putKD ks xs k (D.int ((look kv w).getD 0 + 1))).2))) S2 else SR.no
      | none => SR.no
    | _ => SR.no) = _
  rw [h1]
  have e2 : eVar j r S = .ok (.int w, .c) S := by simp [h2]
  show (eVar j r S).sb r _ = _
  rw [e2]
  show (if okst Fl.c (D.int ((look kv w).getD 0 + 1)) && decide ((keysK kv).length < sizeLine) then SR.nx (r.set i (.own (.dic (putKD (keysK kv) (valsK kv) (Sum.inl w) (D.int ((look kv w).getD 0 + 1))).1 (putKD (keysK kv) (valsK kv) (Sum.inl w) (D.int ((look kv w).getD 0 + 1))).2))) S else SR.no) = _
  rw [putKD_put]
  have l : (keysK kv).length < sizeLine := by
    unfold keysK
    rw [List.length_map, sizeLine_eq]
    omega
  rw [decide_eq_true l]
  rfl
theorem s_weights (n w : Nat) (xs : List Nat) (f : Fl) (S : Store) {d : D} (hS : S[n]? = some (0, spanE w xs d)) (hl : xs.length ≤ 12) : m_Span_weights [(f, .ins n)] S = .ok (kvD (cntF (sortI ((srt (sumF (basF xs))).map wtF))), .n) S := by
  have wd := s_words n w xs .c S hS (by omega)
  have wl : (srt (sumF (basF xs))).length ≤ 4096 := by
    rw [(srt_perm _).length_eq, len_sumF]
    exact Nat.le_trans (Nat.pow_le_pow_right (by decide) (Nat.le_trans (bas_len xs) hl)) (by decide)
  generalize srt (sumF (basF xs)) = W at *
  have c := comp_n [.ar f (.ins n), .own (.dic [] []), .no, .no] S (gN 3) tYesM (eFn 1 m_weight (aCons (eVar 3) aNil)) (fun _ => true) (fun x => .int (wtF x)) W fun x hx => ⟨[.ar f (.ins n), .own (.dic [] []), .no, .ar .c (.int (x : Nat))], rfl, rfl, fun _ => ⟨.c, by
    have sw := s_weight x .c S
    generalize wtF x = m at *
    simp [sw], rfl⟩⟩
  rw [filter_t] at c
  have c2 := kcp_ap [.ar f (.ins n), .own (.dic [] []), .no, .no] S [3] (gN 3) tYesM _ (nI W) _ S (by rw [nI_len]; omega) c
  have e : (W.map fun x => D.int (wtF x)) = (W.map wtF).map D.int := by rw [List.map_map]; rfl
  rw [e] at c2
  have sl : (sortI (W.map wtF)).length ≤ 4096 := by rw [(sortI_perm _).length_eq, List.length_map]; exact wl
  have sg : gSorted [(.n, .lst ((W.map wtF).map D.int))] = some (.lst ((sortI (W.map wtF)).map D.int), .n) := by
    show (match seqOf (D.lst ((W.map wtF).map D.int)) with
      | some xs => match intsOf xs with
        | some is => some (D.lst ((sortI is).map .int), Fl.n)
        | none => none
      | none => none) = _
    show (match intsOf ((W.map wtF).map D.int) with
        | some is => some (D.lst ((sortI is).map .int), Fl.n)
        | none => none) = _
    rw [intsOf_m]
  generalize (W.map wtF).map D.int = CL at *
  generalize sortI (W.map wtF) = V at *
  obtain ⟨r2, S2, q, hS2, x2, rfl⟩ := for_inv (P := fun k r S' => S' = S ∧ ∃ x2, r = [.ar f (.ins n), .own (kvD (cntF (V.take k))), x2, .no]) (g := gN 2) (p := dsB 1 2) (V.map D.int) 0 [.ar f (.ins n), .own (.dic [] []), .no, .no] S ⟨rfl, .no, rfl⟩ (fun k d r S' hd ⟨e1, x2, e2⟩ => by
    subst e1 e2
    rw [List.getElem?_map] at hd
    cases hv : V[k]? with
    | none => rw [hv] at hd; cases hd
    | some v =>
      rw [hv] at hd
      obtain rfl := Option.some.inj hd
      have l := cnt_len (V.take (0 + k))
      have l2 : (V.take (0 + k)).length ≤ 4096 := by rw [List.length_take]; omega
      have st := ds_step 1 2 [.ar f (.ins n), .own (kvD (cntF (V.take (0 + k)))), .ar .c (.int v), .no] S' (cntF (V.take (0 + k))) v rfl rfl (by omega)
      refine ⟨_, rfl, _, _, st, rfl, .ar .c (.int v), ?_⟩
      rw [← cnt_snoc, Nat.zero_add, List.take_add_one, hv]
      rfl)
  rw [List.length_map, Nat.zero_add, List.take_length] at q
  rw [hS2] at q
  unfold kvD at q ⊢
  generalize keysK (cntF V) = KK at *
  generalize valsK (cntF V) = VV at *
  generalize V.map D.int = VD at *
  generalize nI W = WD at *
  unfold spanE at hS
  generalize nI (evens w xs) = R at *
  generalize nI (basF xs) = RB at *
  unfold dsB at q
  simp [m_Span_weights, b_Span_weights, hS, tabW, wd, freeE, c2, sg, q]
theorem sorts_eq (xs : List Nat) : srt (lsF (basF xs)) = srt (lsF xs) := srt_eq (perm_sums (nd_lsF _) (nd_lsF _) fun z => by rw [mem_lsF, mem_lsF, bas_sp'])
theorem words_eq (xs : List Nat) : srt (sumF (basF xs)) = srt (lsF xs) := by rw [← (bas_rr' xs).ls, sorts_eq]
theorem len_eq (xs : List Nat) : (lsF xs).length = 2 ^ (basF xs).length := by
  rw [← len_sumF, ← (bas_rr' xs).ls]
  exact (perm_sums (nd_lsF _) (nd_lsF _) fun z => by rw [mem_lsF, mem_lsF, bas_sp']).length_eq
theorem tabLi : tab_lightest 0 = some m_Span_lightest := rfl
theorem tabDi : tab_distance 0 = some m_Span_distance := rfl
theorem tabWe : tab_weights 0 = some m_Span_weights := rfl
theorem PP_words (xs : List Nat) : PP (srt (sumF (basF xs))) = PP (lsF xs) := by
  rw [words_eq]
  exact PP_perm (srt_perm _)
def secD (f : Int × Int → Int) (xs : List Nat) : D := match (PP (lsF xs))[1]? with
  | some p => .int (f p)
  | none => .non
theorem sortP_g (ps : List (Int × Int)) (f : Fl) : gSortP [(f, .lst (ps.map pD))] = some (.lst ((sortP ps).map pD), .n) := by
  show (pairsOf (ps.map pD)).map _ = _
  rw [pairs_of]
  rfl
theorem atP (ps : List (Int × Int)) (i : Nat) : atI (ps.map pD) (i : Int) = ps[i]?.map pD := by
  unfold atI ixN
  rw [if_pos (by omega), List.length_map]
  by_cases h : i < ps.length
  · rw [if_pos (by omega), Int.toNat_natCast]
    show (ps.map pD)[i]? = _
    rw [List.getElem?_map]
  · rw [if_neg (by omega), List.getElem?_eq_none (by omega)]
    rfl
theorem s_lightest (n w : Nat) (xs : List Nat) (f : Fl) (S : Store) {d : D} (hS : S[n]? = some (0, spanE w xs d)) (hw : w ≤ 24) (hl : xs.length ≤ 12) (hb : ∀ y ∈ xs, y < 2 ^ w) : m_Span_lightest [(f, .ins n)] S = .ok (secD Prod.snd xs, .c) S := by
  have p24 : 2 ^ w ≤ 16777216 := Nat.le_trans (Nat.pow_le_pow_right (by decide) hw) (by decide)
  have wd := s_words n w xs .c S hS (by omega)
  have wl : (srt (sumF (basF xs))).length ≤ 4096 := by
    rw [(srt_perm _).length_eq, len_sumF]
    exact Nat.le_trans (Nat.pow_le_pow_right (by decide) (Nat.le_trans (bas_len xs) hl)) (by decide)
  have wb : ∀ y ∈ srt (sumF (basF xs)), y < 4294967296 := fun y hy => by
    rw [words_eq] at hy
    have := sp_lt hb ((mem_lsF xs y).mp ((srt_perm _).mem_iff.mp hy))
    omega
  have pp := PP_words xs
  have ppl := PP_len (lsF xs)
  unfold secD
  rw [← pp] at ppl ⊢
  rw [len_eq xs, ← len_sumF, ← (srt_perm (sumF (basF xs))).length_eq] at ppl
  generalize srt (sumF (basF xs)) = W at *
  have c := comp_n [.ar f (.ins n), .no, .no] S (gN 2) tYesM (eTup (aCons (eFn 1 m_weight (aCons (eVar 2) aNil)) (aCons (eVar 2) aNil))) (fun _ => true) (fun x => pD (prI x)) W fun x hx => ⟨[.ar f (.ins n), .no, .ar .c (.int (x : Nat))], rfl, rfl, fun _ => ⟨.c, by
    have sw := s_weight x .c S
    have e := wt_lw x (wb x hx)
    rw [e] at sw
    unfold prI pD
    generalize lw x = m at *
    simp [sw, sizeLine_eq], rfl⟩⟩
  rw [filter_t] at c
  have c2 := kcp_ap [.ar f (.ins n), .no, .no] S [2] (gN 2) tYesM _ (nI W) _ S (by rw [nI_len]; omega) c
  have e : (W.map fun x => pD (prI x)) = (W.map prI).map pD := by rw [List.map_map]; rfl
  rw [e] at c2
  have sg : gSortP [(.n, .lst ((W.map prI).map pD))] = some (.lst ((PP W).map pD), .n) := sortP_g (W.map prI) .n
  have a1 := atP (PP W) 1
  have ll : ((PP W).map pD).length = W.length := by rw [List.length_map, ppl]
  generalize (W.map prI).map pD = CL at *
  generalize nI W = WD at *
  unfold spanE at hS
  generalize nI (evens w xs) = R at *
  generalize nI (basF xs) = RB at *
  rw [← ll] at ppl wl
  by_cases h : 1 < (PP W).length
  · have g : (PP W)[1]? = some ((PP W)[1]) := List.getElem?_eq_getElem h
    rw [g] at a1 ⊢
    generalize (PP W)[1] = p at *
    have h' : (1 : Int) < (((PP W).map pD).length : Int) := by omega
    generalize (PP W).map pD = L at *
    have a0 : atI [D.int p.1, D.int p.2] 1 = some (.int p.2) := rfl
    have a1' : atI L 1 = some (.tup [D.int p.1, D.int p.2]) := a1
    simp [m_Span_lightest, b_Span_lightest, hS, tabW, wd, freeE, c2, sg, gt_i, h', a1', a0, sizeLine_eq, wl]
  · have g : (PP W)[1]? = none := List.getElem?_eq_none (by omega)
    rw [g]
    have h' : ¬ (1 : Int) < (((PP W).map pD).length : Int) := by omega
    generalize (PP W).map pD = L at *
    simp [m_Span_lightest, b_Span_lightest, hS, tabW, wd, freeE, c2, sg, gt_i, h', sizeLine_eq, wl]
theorem sec_of (xs : List Nat) : (∃ v ∈ lsF xs, (PP (lsF xs))[1]? = some (prI v)) ∨ (PP (lsF xs))[1]? = none := by
  cases h : (PP (lsF xs))[1]? with
  | none => exact .inr rfl
  | some p =>
    obtain ⟨v, hv, rfl⟩ := PP_mem.mp (List.mem_of_getElem? h)
    exact .inl ⟨v, hv, rfl⟩
theorem s_distance (n w : Nat) (xs : List Nat) (f : Fl) (S : Store) {d : D} (hS : S[n]? = some (0, spanE w xs d)) (hw : w ≤ 24) (hl : xs.length ≤ 12) (hb : ∀ y ∈ xs, y < 2 ^ w) : m_Span_distance [(f, .ins n)] S = .ok (secD Prod.fst xs, .c) S := by
  have p24 : 2 ^ w ≤ 16777216 := Nat.le_trans (Nat.pow_le_pow_right (by decide) hw) (by decide)
  have li := s_lightest n w xs .c S hS hw hl hb
  unfold secD at li ⊢
  unfold spanE at hS
  rcases sec_of xs with ⟨v, hv, e⟩ | e
  · have vb := sp_lt hb ((mem_lsF xs v).mp hv)
    have sw := s_weight v .c S
    rw [wt_lw v (by omega)] at sw
    rw [e] at li ⊢
    generalize nI (evens w xs) = R at *
    generalize nI (basF xs) = RB at *
    unfold prI at *
    generalize lw v = m at *
    simp at li
    simp [m_Span_distance, b_Span_distance, hS, tabLi, li, sw]
  · rw [e] at li ⊢
    generalize nI (evens w xs) = R at *
    generalize nI (basF xs) = RB at *
    simp [m_Span_distance, b_Span_distance, hS, tabLi, li]
end Fin

set_option maxRecDepth 100000
set_option maxHeartbeats 4000000
namespace Fin
open Mv Mir Ev
open PySem (sizeLine sizeLine_eq)
open L2 (atI ixN)
/-- the mark: a bit for each check -/
def mkS (x : Nat) : List Nat → Nat
  | [] => 0
  | c :: cs => (if ev x c then 1 else 0) + 2 * mkS x cs
theorem mkL_S (x : Nat) : ∀ (cs : List Nat) (i : Nat), (mkL x i cs).sum = 2 ^ i * mkS x cs
  | [], i => by simp [mkL, mkS]
  | c :: cs, i => by
    have ih := mkL_S x cs (i + 1)
    rw [mkL, mkS]
    cases ev x c with
    | true =>
      simp only [if_true]
      rw [List.sum_cons, ih, Nat.mul_add, Nat.mul_one, Nat.pow_succ, Nat.mul_assoc]
    | false =>
      simp only [Bool.false_eq_true, if_false]
      rw [ih, Nat.zero_add, Nat.pow_succ, Nat.mul_assoc]
theorem mk_eq (x : Nat) (cs : List Nat) : (mkL x 0 cs).sum = mkS x cs := by rw [mkL_S, Nat.pow_zero, Nat.one_mul]
theorem bit_cons_xor (a b : Bool) (m n : Nat) : ((if a then 1 else 0) + 2 * m) ^^^ ((if b then 1 else 0) + 2 * n) = (if (a != b) then 1 else 0) + 2 * (m ^^^ n) := by
  apply Nat.eq_of_testBit_eq
  intro j
  have d : ∀ (c : Bool) (k : Nat), ((if c then 1 else 0) + 2 * k) / 2 = k := fun c k => by cases c <;> simp <;> omega
  have z : ∀ (c : Bool) (k : Nat), ((if c then 1 else 0) + 2 * k).testBit 0 = c := fun c k => by
    rw [Nat.testBit_zero]
    cases c <;> simp <;> omega
  rw [Nat.testBit_xor]
  cases j with
  | zero => rw [z, z, z]
  | succ j => rw [Nat.testBit_succ, Nat.testBit_succ, Nat.testBit_succ, d, d, d, Nat.testBit_xor]
theorem mkS_xor (x y : Nat) : ∀ cs : List Nat, mkS (x ^^^ y) cs = mkS x cs ^^^ mkS y cs
  | [] => by simp [mkS]
  | c :: cs => by
    rw [mkS, mkS, mkS, mkS_xor x y cs, ev_l, bit_cons_xor]
theorem mkS_lt (x : Nat) : ∀ cs : List Nat, mkS x cs < 2 ^ cs.length
  | [] => by simp [mkS]
  | c :: cs => by
    have ih := mkS_lt x cs
    rw [mkS, List.length_cons, Nat.pow_succ]
    split <;> omega
theorem mkS_zero (x : Nat) : ∀ cs : List Nat, (∀ c ∈ cs, ev x c = false) → mkS x cs = 0
  | [], _ => rfl
  | c :: cs, h => by rw [mkS, h c (.head _), mkS_zero x cs fun d hd => h d (.tail _ hd)]; rfl
/-- a number for each mark -/
def sol : List Nat → Nat → Nat
  | [], _ => 0
  | c :: cs, m => (if m % 2 = 1 then 2 ^ top c else 0) ^^^ sol cs (m / 2)
theorem sol_lt {w : Nat} : ∀ (cs : List Nat) (m : Nat), (∀ c ∈ cs, 0 < c ∧ c < 2 ^ w) → sol cs m < 2 ^ w
  | [], _, _ => Nat.two_pow_pos w
  | c :: cs, m, h => by
    have ih := sol_lt cs (m / 2) fun d hd => h d (.tail _ hd)
    obtain ⟨h1, h2⟩ := h c (.head _)
    refine Nat.xor_lt_two_pow ?_ ih
    split
    · refine Nat.pow_lt_pow_right (by decide) ?_
      rcases Nat.lt_or_ge (top c) w with q | q
      · exact q
      · have := top_bit h1
        rw [Nat.testBit_lt_two_pow (Nat.lt_of_lt_of_le h2 (Nat.pow_le_pow_right (by decide) q))] at this
        cases this
    · exact Nat.two_pow_pos w
theorem ev_top (c d : Nat) : ev (2 ^ top d) c = c.testBit (top d) := by rw [ev_comm, ev_pow]
theorem sol_off : ∀ (cs : List Nat) (m c : Nat), (∀ d ∈ cs, c.testBit (top d) = false) → ev (sol cs m) c = false
  | [], _, c, _ => by
    show ev 0 c = false
    rw [ev_comm, ev_zero]
  | d :: cs, m, c, h => by
    show ev ((if m % 2 = 1 then 2 ^ top d else 0) ^^^ sol cs (m / 2)) c = false
    rw [ev_l, sol_off cs (m / 2) c fun e he => h e (.tail _ he)]
    split
    · rw [ev_top, h d (.head _)]
      rfl
    · rw [ev_comm, ev_zero]
      rfl
theorem sol_mk : ∀ (cs : List Nat) (m z : Nat), (∀ c ∈ cs, 0 < c) → cs.Pairwise Rl → (∀ c ∈ cs, ev z c = false) → m < 2 ^ cs.length → mkS (z ^^^ sol cs m) cs = m
  | [], m, z, _, _, _, h => by
    have : m = 0 := by simpa using h
    rw [this]
    rfl
  | c :: cs, m, z, hp, pw, hz, h => by
    have pw := List.pairwise_cons.mp pw
    have hm : m / 2 < 2 ^ cs.length := by rw [List.length_cons, Nat.pow_succ] at h; omega
    have e1 : ev (z ^^^ sol (c :: cs) m) c = decide (m % 2 = 1) := by
      rw [ev_l, hz c (.head _)]
      show (false != ev ((if m % 2 = 1 then 2 ^ top c else 0) ^^^ sol cs (m / 2)) c) = _
      rw [ev_l, sol_off cs (m / 2) c fun d hd => (pw.1 d hd).1]
      by_cases q : m % 2 = 1
      · rw [if_pos q, ev_top, top_bit (hp c (.head _)), decide_eq_true q]
        rfl
      · rw [if_neg q, ev_comm, ev_zero, decide_eq_false q]
        rfl
    have e2 : z ^^^ sol (c :: cs) m = (z ^^^ (if m % 2 = 1 then 2 ^ top c else 0)) ^^^ sol cs (m / 2) := by
      show z ^^^ ((if m % 2 = 1 then 2 ^ top c else 0) ^^^ sol cs (m / 2)) = _
      rw [Nat.xor_assoc]
    have ih := sol_mk cs (m / 2) (z ^^^ (if m % 2 = 1 then 2 ^ top c else 0)) (fun d hd => hp d (.tail _ hd)) pw.2 (fun d hd => by
      rw [ev_l, hz d (.tail _ hd)]
      split
      · rw [ev_top, (pw.1 d hd).2]
        rfl
      · rw [ev_comm, ev_zero]
        rfl) hm
    rw [mkS, e1]
    rw [← e2] at ih
    rw [ih]
    by_cases q : m % 2 = 1
    · rw [decide_eq_true q, if_pos rfl]
      omega
    · rw [decide_eq_false q, if_neg (by decide)]
      omega
abbrev MK (w : Nat) (xs : List Nat) (x : Nat) : Nat := mkS x (evens w xs)
theorem mk_onto (w : Nat) (xs : List Nat) (hb : ∀ y ∈ xs, y < 2 ^ w) (m : Nat) (hm : m < 2 ^ (evens w xs).length) : ∃ x, x < 2 ^ w ∧ MK w xs x = m := by
  have R : RR (evens w xs) := bas_rr' _
  have h := sol_mk (evens w xs) m 0 R.pos R.pw (fun c _ => by rw [ev_comm, ev_zero]) hm
  rw [Nat.zero_xor] at h
  exact ⟨_, sol_lt _ _ fun c hc => ⟨R.pos c hc, ev_lt w xs hb c hc⟩, h⟩
theorem mk_same (w : Nat) (xs : List Nat) (hb : ∀ y ∈ xs, y < 2 ^ w) {x y : Nat} (hx : x < 2 ^ w) (hy : y < 2 ^ w) : MK w xs x = MK w xs y ↔ x ^^^ y ∈ lsF xs := by
  rw [← key w (x ^^^ y) xs hb (Nat.xor_lt_two_pow hx hy), mk_eq, mkS_xor]
  constructor
  · intro h
    show mkS x _ ^^^ mkS y _ = 0
    rw [show mkS x (evens w xs) = mkS y (evens w xs) from h, Nat.xor_self]
  · intro h
    have := congrArg (· ^^^ mkS y (evens w xs)) h
    simp only [Nat.zero_xor] at this
    rwa [xx] at this
theorem lw_add : ∀ (p x : Nat), x < 2 ^ p → wtF (x + 2 ^ p) = wtF x + 1
  | 0, x, h => by
    have : x = 0 := by simpa using h
    subst this
    simp [wtF]
  | p + 1, x, h => by
    have ih := lw_add p (x / 2) (by rw [Nat.pow_succ] at h; omega)
    rw [wt_eq (x + 2 ^ (p + 1)), wt_eq x]
    have e1 : (x + 2 ^ (p + 1)) / 2 = x / 2 + 2 ^ p := by rw [Nat.pow_succ]; omega
    have e2 : (x + 2 ^ (p + 1)) % 2 = x % 2 := by rw [Nat.pow_succ]; omega
    rw [e1, e2, ih]
    omega
theorem prI_add (p x : Nat) (h : x < 2 ^ p) (hp : p < 32) : prI (x + 2 ^ p) = ((prI x).1 + 1, (prI x).2 + ((2 ^ p : Nat) : Int)) := by
  have h1 := lw_add p x h
  have p2 : 2 ^ (p + 1) ≤ 2 ^ 32 := Nat.pow_le_pow_right (by decide) (by omega)
  rw [Nat.pow_succ] at p2
  rw [wt_lw _ (by omega), wt_lw x (by omega)] at h1
  unfold prI
  refine Prod.ext ?_ ?_
  · exact h1
  · show ((x + 2 ^ p : Nat) : Int) = (x : Int) + ((2 ^ p : Nat) : Int)
    push_cast
    rfl
/-- what a dict of best pairs says of all numbers of p bits -/
structure Bst (E : List Nat) (p : Nat) (L : Nat → Option (Int × Int)) : Prop where
  of : ∀ m pr, L m = some pr → ∃ x, x < 2 ^ p ∧ mkS x E = m ∧ pr = prI x ∧ ∀ y, y < 2 ^ p → mkS y E = m → leP (prI x) (prI y) = true
  all : ∀ x, x < 2 ^ p → ∃ pr, L (mkS x E) = some pr
def cmb : Option (Int × Int) → Option (Int × Int) → Option (Int × Int)
  | none, b => b
  | some a, none => some a
  | some a, some b => if SrtO.lexB b a then some b else some a
def shP (p : Nat) (a : Int × Int) : Int × Int := (a.1 + 1, a.2 + ((2 ^ p : Nat) : Int))
theorem leP_refl (a : Int × Int) : leP a a = true := leP_iff.mpr (by omega)
theorem leP_tr {a b c : Int × Int} (h1 : leP a b = true) (h2 : leP b c = true) : leP a c = true := by
  have := leP_iff.mp h1
  have := leP_iff.mp h2
  exact leP_iff.mpr (by omega)
theorem Bst.step {E : List Nat} {p : Nat} {L : Nat → Option (Int × Int)} (B : Bst E p L) (hp : p < 32) : Bst E (p + 1) (fun m => cmb (L m) ((L (m ^^^ mkS (2 ^ p) E)).map (shP p))) := by
  have sx : ∀ x, x < 2 ^ p → mkS (x + 2 ^ p) E = mkS x E ^^^ mkS (2 ^ p) E := fun x hx => by
    rw [add_pow _ _ (Nat.testBit_lt_two_pow hx), mkS_xor]
  have hi : ∀ y, y < 2 ^ (p + 1) → ¬ y < 2 ^ p → ∃ x, x < 2 ^ p ∧ y = x + 2 ^ p := fun y h1 h2 => ⟨y - 2 ^ p, by rw [Nat.pow_succ] at h1; omega, by omega⟩
  have shl : ∀ {x y}, x < 2 ^ p → y < 2 ^ p → leP (prI x) (prI y) = true → leP (prI (x + 2 ^ p)) (prI (y + 2 ^ p)) = true := fun {x y} hx hy h => by
    rw [prI_add p x hx hp, prI_add p y hy hp]
    have := leP_iff.mp h
    exact leP_iff.mpr (by dsimp only; omega)
  constructor
  · intro m pr h
    -- the lower ones and the upper ones
    have lo : ∀ a, L m = some a → ∃ x, x < 2 ^ p ∧ mkS x E = m ∧ a = prI x ∧ ∀ y, y < 2 ^ p → mkS y E = m → leP a (prI y) = true := fun a e => by
      obtain ⟨x, h1, h2, h3, h4⟩ := B.of m a e
      exact ⟨x, h1, h2, h3, fun y a1 a2 => by rw [h3]; exact h4 y a1 a2⟩
    have up : ∀ b, (L (m ^^^ mkS (2 ^ p) E)).map (shP p) = some b → ∃ x, x < 2 ^ p ∧ mkS (x + 2 ^ p) E = m ∧ b = prI (x + 2 ^ p) ∧ ∀ y, y < 2 ^ p → mkS (y + 2 ^ p) E = m → leP b (prI (y + 2 ^ p)) = true := fun b e => by
      obtain ⟨a, e1, rfl⟩ := Option.map_eq_some_iff.mp e
      obtain ⟨x, h1, h2, h3, h4⟩ := B.of _ a e1
      have hm : mkS (x + 2 ^ p) E = m := by rw [sx x h1, h2, xx]
      refine ⟨x, h1, hm, by rw [prI_add p x h1 hp, h3]; rfl, fun y a1 a2 => ?_⟩
      rw [show shP p a = prI (x + 2 ^ p) by rw [prI_add p x h1 hp, h3]; rfl]
      refine shl h1 a1 (h4 y a1 ?_)
      rw [sx y a1] at a2
      rw [← a2, xx]
    have nlo : L m = none → ∀ y, y < 2 ^ p → mkS y E ≠ m := fun e y hy z => by
      obtain ⟨pr, q⟩ := B.all y hy
      rw [z, e] at q
      cases q
    have nup : (L (m ^^^ mkS (2 ^ p) E)).map (shP p) = none → ∀ y, y < 2 ^ p → mkS (y + 2 ^ p) E ≠ m := fun e y hy z => by
      obtain ⟨pr, q⟩ := B.all y hy
      rw [sx y hy] at z
      have z2 : mkS y E = m ^^^ mkS (2 ^ p) E := by rw [← z, xx]
      rw [← z2, q] at e
      cases e
    have lt2 : ∀ {x}, x < 2 ^ p → x < 2 ^ (p + 1) := fun h => by rw [Nat.pow_succ]; omega
    have lt3 : ∀ {x}, x < 2 ^ p → x + 2 ^ p < 2 ^ (p + 1) := fun h => by rw [Nat.pow_succ]; omega
    cases e1 : L m with
    | none =>
      rw [e1] at h
      have h : (L (m ^^^ mkS (2 ^ p) E)).map (shP p) = some pr := h
      obtain ⟨x, h1, h2, h3, h4⟩ := up pr h
      refine ⟨x + 2 ^ p, lt3 h1, h2, h3, fun y a1 a2 => ?_⟩
      by_cases hy : y < 2 ^ p
      · exact absurd a2 (nlo e1 y hy)
      · obtain ⟨z, z1, rfl⟩ := hi y a1 hy
        rw [← h3]
        exact h4 z z1 a2
    | some a =>
      rw [e1] at h
      obtain ⟨x, h1, h2, h3, h4⟩ := lo a e1
      cases e2 : (L (m ^^^ mkS (2 ^ p) E)).map (shP p) with
      | none =>
        rw [e2] at h
        have h : some a = some pr := h
        cases h
        refine ⟨x, lt2 h1, h2, h3, fun y a1 a2 => ?_⟩
        by_cases hy : y < 2 ^ p
        · rw [← h3]; exact h4 y hy a2
        · obtain ⟨z, z1, rfl⟩ := hi y a1 hy
          exact absurd a2 (nup e2 z z1)
      | some b =>
        rw [e2] at h
        obtain ⟨u, k1, k2, k3, k4⟩ := up b e2
        have h : (if SrtO.lexB b a then some b else some a) = some pr := h
        cases q : SrtO.lexB b a with
        | true =>
          rw [q, if_pos rfl] at h
          have h := Option.some.inj h
          subst h
          have le : leP b a = true := leP_iff.mpr (by have := SrtO.lexB_iff.mp q; omega)
          refine ⟨u + 2 ^ p, lt3 k1, k2, k3, fun y a1 a2 => ?_⟩
          rw [← k3]
          by_cases hy : y < 2 ^ p
          · exact leP_tr le (h4 y hy a2)
          · obtain ⟨z, z1, rfl⟩ := hi y a1 hy
            exact k4 z z1 a2
        | false =>
          rw [q, if_neg (by decide)] at h
          have h := Option.some.inj h
          subst h
          have le : leP a b = true := by unfold leP; rw [q]; rfl
          refine ⟨x, lt2 h1, h2, h3, fun y a1 a2 => ?_⟩
          rw [← h3]
          by_cases hy : y < 2 ^ p
          · exact h4 y hy a2
          · obtain ⟨z, z1, rfl⟩ := hi y a1 hy
            exact leP_tr le (k4 z z1 a2)
  · intro x hx
    have some_cmb : ∀ a b : Option (Int × Int), a ≠ none ∨ b ≠ none → ∃ pr, cmb a b = some pr := fun a b h => by
      cases a with
      | none =>
        cases b with
        | none => simp at h
        | some b => exact ⟨b, rfl⟩
      | some a =>
        cases b with
        | none => exact ⟨a, rfl⟩
        | some b =>
          show ∃ pr, (if SrtO.lexB b a then some b else some a) = some pr
          split
          · exact ⟨_, rfl⟩
          · exact ⟨_, rfl⟩
    refine some_cmb _ _ ?_
    by_cases hy : x < 2 ^ p
    · obtain ⟨pr, q⟩ := B.all x hy
      exact .inl (by rw [q]; simp)
    · obtain ⟨z, z1, rfl⟩ := hi x hx hy
      obtain ⟨pr, q⟩ := B.all z z1
      refine .inr ?_
      rw [sx z z1, xx, q]
      simp
theorem Bst.zero (E : List Nat) : Bst E 0 (fun m => if m = 0 then some (0, 0) else none) := by
  have z : mkS 0 E = 0 := mkS_zero 0 E fun c _ => by rw [ev_comm, ev_zero]
  have pz : prI 0 = (0, 0) := by
    unfold prI
    rw [lw_zero]
    rfl
  refine ⟨fun m pr h => ?_, fun x hx => ?_⟩
  · by_cases e : m = 0
    · rw [if_pos e] at h
      cases h
      refine ⟨0, by decide, by rw [e]; exact z, pz.symm, fun y hy _ => ?_⟩
      have : y = 0 := by simpa using hy
      rw [this]
      exact leP_refl _
    · rw [if_neg e] at h
      cases h
  · have : x = 0 := by simpa using hx
    rw [this, z]
    exact ⟨_, if_pos rfl⟩
end Fin

set_option maxRecDepth 100000
set_option maxHeartbeats 4000000
namespace Fin
open Mv Mir Ev
open PySem (sizeLine sizeLine_eq)
open L2 (atI ixN)
abbrev KP := List (Nat × (Int × Int))
def keyI (m : Nat) : L2.Key := Sum.inl (m : Int)
theorem keyI_inj {a b : Nat} (h : keyI a = keyI b) : a = b := Int.ofNat.inj (Sum.inl.inj h)
def keysP (kv : KP) : List L2.Key := kv.map fun p => keyI p.1
def valsP (kv : KP) : List D := kv.map fun p => pD p.2
def kvP (kv : KP) : D := .dic (keysP kv) (valsP kv)
def lookP : KP → Nat → Option (Int × Int)
  | [], _ => none
  | p :: kv, w => if p.1 = w then some p.2 else lookP kv w
def putP (kv : KP) (w : Nat) (c : Int × Int) : KP := if kv.any (fun p => decide (p.1 = w)) = true then kv.map (fun p => if p.1 = w then (p.1, c) else p) else kv ++ [(w, c)]
theorem getK_lookP : ∀ (kv : KP) (w : Nat), getK (keysP kv) (valsP kv) (keyI w) = (lookP kv w).map pD
  | [], _ => rfl
  | p :: kv, w => by
    show (if keyI p.1 = keyI w then some (pD p.2) else getK (keysP kv) (valsP kv) (keyI w)) = (if p.1 = w then some p.2 else lookP kv w).map pD
    by_cases h : p.1 = w
    · rw [if_pos h, if_pos (by rw [h])]
      rfl
    · rw [if_neg h, if_neg (fun e => h (keyI_inj e))]
      exact getK_lookP kv w
theorem putX_putP (w : Nat) (c : Int × Int) : ∀ kv : KP, putX (keysP kv) (valsP kv) (keyI w) (pD c) = valsP (kv.map fun p => if p.1 = w then (p.1, c) else p)
  | [] => rfl
  | p :: kv => by
    show (if keyI p.1 = keyI w then pD c else pD p.2) :: putX (keysP kv) (valsP kv) (keyI w) (pD c) = pD (if p.1 = w then (p.1, c) else p).2 :: valsP (kv.map fun p => if p.1 = w then (p.1, c) else p)
    rw [putX_putP w c kv]
    by_cases h : p.1 = w
    · rw [if_pos h, if_pos (by rw [h])]
    · rw [if_neg h, if_neg (fun e => h (keyI_inj e))]
theorem putKD_putP (kv : KP) (w : Nat) (c : Int × Int) : putKD (keysP kv) (valsP kv) (keyI w) (pD c) = (keysP (putP kv w c), valsP (putP kv w c)) := by
  have a : ((keysP kv).any fun j => decide (j = keyI w)) = kv.any fun p => decide (p.1 = w) := by
    unfold keysP
    rw [List.any_map]
    congr 1
    funext p
    show decide (keyI p.1 = keyI w) = decide (p.1 = w)
    by_cases h : p.1 = w
    · rw [decide_eq_true h, decide_eq_true (by rw [h])]
    · rw [decide_eq_false h, decide_eq_false (fun e => h (keyI_inj e))]
  unfold putKD putP
  rw [a]
  split
  · rw [putX_putP]
    congr 1
    unfold keysP
    rw [List.map_map]
    refine List.map_congr_left fun p _ => ?_
    show keyI p.1 = keyI (if p.1 = w then (p.1, c) else p).1
    split <;> rfl
  · unfold keysP valsP
    rw [List.map_append, List.map_append]
    rfl
theorem putP_fst (kv : KP) (w : Nat) (c : Int × Int) : (putP kv w c).map Prod.fst = if kv.any (fun p => decide (p.1 = w)) = true then kv.map Prod.fst else kv.map Prod.fst ++ [w] := by
  unfold putP
  split
  · rw [List.map_map]
    refine List.map_congr_left fun p _ => ?_
    show (if p.1 = w then (p.1, c) else p).1 = p.1
    split <;> rfl
  · rw [List.map_append]
    rfl
theorem putP_len (kv : KP) (w : Nat) (c : Int × Int) : (putP kv w c).length ≤ kv.length + 1 := by
  unfold putP
  split
  · rw [List.length_map]
    omega
  · rw [List.length_append]
    exact Nat.le_refl _
theorem putP_nd {kv : KP} (h : (kv.map Prod.fst).Nodup) (w : Nat) (c : Int × Int) : ((putP kv w c).map Prod.fst).Nodup := by
  rw [putP_fst]
  split
  · exact h
  · rename_i n
    refine List.nodup_append.mpr ⟨h, by simp, fun a ha b hb e => n ?_⟩
    obtain ⟨p, hp, rfl⟩ := List.mem_map.mp ha
    rw [List.mem_singleton.mp hb] at e
    exact List.any_eq_true.mpr ⟨p, hp, decide_eq_true e⟩
theorem lookP_none : ∀ {kv : KP} {w : Nat}, w ∉ kv.map Prod.fst → lookP kv w = none
  | [], _, _ => rfl
  | p :: kv, w, h => by
    have h1 : p.1 ≠ w := fun e => h (by rw [← e]; exact List.mem_cons_self)
    show (if p.1 = w then some p.2 else lookP kv w) = none
    rw [if_neg h1]
    exact lookP_none fun z => h (List.mem_cons_of_mem _ z)
theorem lookP_app : ∀ (kv : KP) (w j : Nat) (c : Int × Int), (kv.any fun p => decide (p.1 = w)) ≠ true → lookP (kv ++ [(w, c)]) j = if j = w then some c else lookP kv j
  | [], w, j, c, _ => by
    show (if w = j then some c else none) = if j = w then some c else none
    by_cases h : w = j
    · rw [if_pos h, if_pos h.symm]
    · rw [if_neg h, if_neg fun e => h e.symm]
  | p :: kv, w, j, c, h => by
    rw [List.any_cons] at h
    have h1 : p.1 ≠ w := fun e => h (by rw [decide_eq_true e]; rfl)
    have ih := lookP_app kv w j c fun e => h (by rw [e, Bool.or_true])
    show (if p.1 = j then some p.2 else lookP (kv ++ [(w, c)]) j) = if j = w then some c else (if p.1 = j then some p.2 else lookP kv j)
    rw [ih]
    by_cases h2 : p.1 = j
    · rw [if_pos h2, if_pos h2, if_neg fun e => h1 (h2.trans e)]
    · rw [if_neg h2, if_neg h2]
theorem lookP_map : ∀ (kv : KP) (w j : Nat) (c : Int × Int), lookP (kv.map fun p => if p.1 = w then (p.1, c) else p) j = if j = w then (lookP kv j).map fun _ => c else lookP kv j
  | [], w, j, c => by
    show none = if j = w then none else none
    split <;> rfl
  | p :: kv, w, j, c => by
    have ih := lookP_map kv w j c
    show (if (if p.1 = w then (p.1, c) else p).1 = j then some (if p.1 = w then (p.1, c) else p).2 else lookP (kv.map fun p => if p.1 = w then (p.1, c) else p) j) = if j = w then (if p.1 = j then some p.2 else lookP kv j).map fun _ => c else (if p.1 = j then some p.2 else lookP kv j)
    rw [ih]
    by_cases h1 : p.1 = w
    · rw [if_pos h1]
      by_cases h2 : p.1 = j
      · rw [if_pos h2, if_pos (h2.symm.trans h1), if_pos h2]
        rfl
      · rw [if_neg h2, if_neg h2]
    · rw [if_neg h1]
      by_cases h2 : p.1 = j
      · rw [if_pos h2, if_neg fun e => h1 (h2.trans e), if_pos h2]
      · rw [if_neg h2, if_neg h2]
theorem lookP_any : ∀ (kv : KP) (w : Nat), (kv.any fun p => decide (p.1 = w)) = (lookP kv w).isSome
  | [], _ => rfl
  | p :: kv, w => by
    rw [List.any_cons, lookP_any kv w]
    show _ = (if p.1 = w then some p.2 else lookP kv w).isSome
    by_cases h : p.1 = w
    · rw [if_pos h, decide_eq_true h]
      rfl
    · rw [if_neg h, decide_eq_false h]
      rfl
theorem lookP_put (kv : KP) (w j : Nat) (c : Int × Int) : lookP (putP kv w c) j = if j = w then some c else lookP kv j := by
  unfold putP
  split
  · rename_i h
    rw [lookP_map]
    by_cases e : j = w
    · subst e
      rw [if_pos rfl, if_pos rfl]
      rw [lookP_any] at h
      obtain ⟨v, q⟩ := Option.isSome_iff_exists.mp h
      rw [q]
      rfl
    · rw [if_neg e, if_neg e]
  · rename_i h
    exact lookP_app kv w j c h
def updP (kv : KP) (k : Nat) (fr : Int × Int) : KP := match lookP kv k with
  | none => putP kv k fr
  | some a => if SrtO.lexB fr a then putP kv k fr else kv
theorem lookP_upd (kv : KP) (k j : Nat) (fr : Int × Int) : lookP (updP kv k fr) j = if j = k then cmb (lookP kv k) (some fr) else lookP kv j := by
  unfold updP
  cases e : lookP kv k with
  | none =>
    show lookP (putP kv k fr) j = _
    rw [lookP_put]
    rfl
  | some a =>
    show lookP (if SrtO.lexB fr a then putP kv k fr else kv) j = if j = k then (if SrtO.lexB fr a then some fr else some a) else lookP kv j
    cases SrtO.lexB fr a with
    | true =>
      simp only [if_true]
      exact lookP_put kv k j fr
    | false =>
      simp only [Bool.false_eq_true, if_false]
      by_cases h : j = k
      · rw [if_pos h, h, e]
      · rw [if_neg h]
theorem updP_len (kv : KP) (k : Nat) (fr : Int × Int) : (updP kv k fr).length ≤ kv.length + 1 := by
  unfold updP
  split
  · exact putP_len _ _ _
  · split
    · exact putP_len _ _ _
    · omega
theorem updP_nd {kv : KP} (h : (kv.map Prod.fst).Nodup) (k : Nat) (fr : Int × Int) : ((updP kv k fr).map Prod.fst).Nodup := by
  unfold updP
  split
  · exact putP_nd h _ _
  · split
    · exact putP_nd h _ _
    · exact h
def moreF (p o : Nat) (l more : KP) : KP := l.foldl (fun more q => updP more (q.1 ^^^ o) (shP p q.2)) more
theorem more_nd (p o : Nat) : ∀ (l more : KP), (more.map Prod.fst).Nodup → ((moreF p o l more).map Prod.fst).Nodup
  | [], _, h => h
  | q :: l, more, h => more_nd p o l _ (updP_nd h _ _)
theorem more_len (p o : Nat) : ∀ (l more : KP), (moreF p o l more).length ≤ more.length + l.length
  | [], _ => Nat.le_refl _
  | q :: l, more => by
    have h1 := more_len p o l (updP more (q.1 ^^^ o) (shP p q.2))
    have h2 := updP_len more (q.1 ^^^ o) (shP p q.2)
    show (moreF p o l (updP more (q.1 ^^^ o) (shP p q.2))).length ≤ _
    rw [List.length_cons]
    omega
theorem cmb_none (a : Option (Int × Int)) : cmb a none = a := by cases a <;> rfl
theorem look_more (p o : Nat) : ∀ (l more : KP) (m : Nat), (l.map Prod.fst).Nodup → lookP (moreF p o l more) m = cmb (lookP more m) ((lookP l (m ^^^ o)).map (shP p))
  | [], more, m, _ => (cmb_none _).symm
  | q :: l, more, m, nd => by
    have nd := List.nodup_cons.mp nd
    have ih := look_more p o l (updP more (q.1 ^^^ o) (shP p q.2)) m nd.2
    show lookP (moreF p o l (updP more (q.1 ^^^ o) (shP p q.2))) m = cmb (lookP more m) ((if q.1 = m ^^^ o then some q.2 else lookP l (m ^^^ o)).map (shP p))
    rw [ih, lookP_upd]
    by_cases h : m = q.1 ^^^ o
    · have h2 : m ^^^ o = q.1 := by rw [h, xx]
      rw [if_pos h, h2, if_pos rfl, lookP_none nd.1]
      show cmb (cmb (lookP more (q.1 ^^^ o)) (some (shP p q.2))) none = cmb (lookP more m) (some (shP p q.2))
      rw [cmb_none, h]
    · rw [if_neg h, if_neg fun e => h (by rw [e, xx])]
theorem kp_len {kv : KP} {N : Nat} (nd : (kv.map Prod.fst).Nodup) (h : ∀ m pr, lookP kv m = some pr → m < N) : kv.length ≤ N := by
  have mem : ∀ m, m ∈ kv.map Prod.fst → m < N := fun m hm => by
    obtain ⟨p, hp, rfl⟩ := List.mem_map.mp hm
    have a : (kv.any fun q => decide (q.1 = p.1)) = true := List.any_eq_true.mpr ⟨p, hp, decide_eq_true rfl⟩
    rw [lookP_any] at a
    obtain ⟨v, q⟩ := Option.isSome_iff_exists.mp a
    exact h _ _ q
  have e : ((List.range N).filter fun m => decide (m ∈ kv.map Prod.fst)).length = (kv.map Prod.fst).length := ((List.perm_ext_iff_of_nodup ((List.nodup_range).sublist List.filter_sublist) nd).mpr fun m => by
    rw [List.mem_filter, List.mem_range, decide_eq_true_eq]
    exact ⟨fun z => z.2, fun z => ⟨mem m z, z⟩⟩).length_eq
  have l := List.length_filter_le (fun m => decide (m ∈ kv.map Prod.fst)) (List.range N)
  rw [e, List.length_map, List.length_range] at l
  exact l
theorem items_P : ∀ kv : KP, itemsD (keysP kv) (valsP kv) = kv.map fun p => D.tup [.int (p.1 : Nat), pD p.2]
  | [] => rfl
  | p :: kv => by
    show D.tup [kD (keyI p.1), pD p.2] :: itemsD (keysP kv) (valsP kv) = _
    rw [items_P kv]
    rfl
end Fin

set_option maxRecDepth 100000
set_option maxHeartbeats 4000000
namespace Fin
open Mv Mir Ev
open PySem (sizeLine sizeLine_eq)
open L2 (atI ixN)
noncomputable abbrev abB : SM := (sSeq (sSet 3 (eMe 2 tab_mark_by (eVar 0) (aCons (eBin gShl (eC (.int 1)) (eVar 2)) aNil))) (sSeq (sOwn 4 (eCal gDictD (aCons (eVar 1) aNil))) (sSeq (sItm 1 (gT 2 (gsC (gN 5) (gsC (gN 6) gsN))) (sSeq (sSet 7 (eTup (aCons (eBin gAdd (eBin gIx (eVar 6) (eC (.int 0))) (eC (.int 1))) (aCons (eBin gAdd (eBin gIx (eVar 6) (eC (.int 1))) (eBin gShl (eC (.int 1)) (eVar 2))) aNil)))) (sIf (tOrM (tVal (eBin gDNi (eBin gXor (eVar 5) (eVar 3)) (eVar 4))) (tVal (eBin gLtP (eVar 7) (eBin gDIx (eVar 4) (eBin gXor (eVar 5) (eVar 3)))))) (sDSub 4 (eBin gXor (eVar 5) (eVar 3)) (eVar 7)) sNil))) (sMove 1 4))))
noncomputable abbrev ibB : SM := (sSeq (sSet 7 (eTup (aCons (eBin gAdd (eBin gIx (eVar 6) (eC (.int 0))) (eC (.int 1))) (aCons (eBin gAdd (eBin gIx (eVar 6) (eC (.int 1))) (eBin gShl (eC (.int 1)) (eVar 2))) aNil)))) (sIf (tOrM (tVal (eBin gDNi (eBin gXor (eVar 5) (eVar 3)) (eVar 4))) (tVal (eBin gLtP (eVar 7) (eBin gDIx (eVar 4) (eBin gXor (eVar 5) (eVar 3)))))) (sDSub 4 (eBin gXor (eVar 5) (eVar 3)) (eVar 7)) sNil))
theorem dni_g (kv : KP) (k : Nat) (f f' : Fl) : gDNi (.int (k : Int), f') (kvP kv, f) = some (.bl (!(lookP kv k).isSome), .c) := by
  show some (D.bl (!(getK (keysP kv) (valsP kv) (keyI k)).isSome), Fl.c) = _
  rw [getK_lookP, Option.isSome_map]
theorem dix_g (kv : KP) (k : Nat) (a : Int × Int) (f f' : Fl) (hf : f ≠ .t) (h : lookP kv k = some a) : gDIx (kvP kv, f) (.int (k : Int), f') = some (pD a, .c) := by
  show (getK (keysP kv) (valsP kv) (keyI k)).map (fun d => (d, if f = Fl.t then Fl.t else Fl.c)) = _
  rw [getK_lookP, h, if_neg hf]
  rfl
theorem ltp_g (a b : Int × Int) (f f' : Fl) : gLtP (pD a, f) (pD b, f') = some (.bl (SrtO.lexB a b), .c) := by
  show some (D.bl (HT.lexLt [a.1, a.2] [b.1, b.2]), Fl.c) = _
  rw [lexLt_B]
theorem ds_put (i : Nat) (mi m : EM) (r : Env) (S : Store) (kv : KP) (k : Nat) (c : Int × Int) (f1 : Fl) (h1 : r[i]? = some (.own (kvP kv))) (hk : mi r S = .ok (.int (k : Int), f1) S) (hv : m r S = .ok (pD c, .c) S) (hl : kv.length < 1000000) : sDSub i mi m r S = .nx (r.set i (.own (kvP (putP kv k c)))) S := by
  unfold sDSub
  rw [hv]
  show (match r[i]? with
    | some (.own (.dic ks xs)) => (mi r S).sb r fun j S2 => match keyD j.1 with
      | some k => if okst Fl.c (pD c) && decide (ks.length < sizeLine) then SR.nx (r.set i (.own (.dic (putKD ks xs k (pD c)).1 (putKD ks xs k (pD c)).2))) S2 else SR.no
      | none => SR.no
    | _ => SR.no) = _
  rw [h1]
  show (mi r S).sb r _ = _
  rw [hk]
  show (if okst Fl.c (pD c) && decide ((keysP kv).length < sizeLine) then SR.nx (r.set i (.own (.dic (putKD (keysP kv) (valsP kv) (keyI k) (pD c)).1 (putKD (keysP kv) (valsP kv) (keyI k) (pD c)).2))) S else SR.no) = _
  rw [putKD_putP]
  have l : (keysP kv).length < sizeLine := by
    unfold keysP
    rw [List.length_map, sizeLine_eq]
    omega
  rw [decide_eq_true l]
  rfl
theorem seq_set {i : Nat} {A : EM} {T : SM} {r : Env} {S : Store} {d : D} (h : A r S = .ok (d, .c) S) (hk : okst .c d = true) : sSeq (sSet i A) T r S = T (r.set i (.ar .c d)) S := by
  unfold sSeq sSet
  rw [h]
  simp only [Rs.sb, hk, if_true, SR.bind]
theorem if_t {t : TM} {a b : SM} {r : Env} {S : Store} {c : Bool} (h : t r S = .ok c S) : sIf t a b r S = if c then a r S else b r S := by
  unfold sIf
  rw [h]
  rfl
theorem ib_step (p o m : Nat) (more : KP) (pr : Int × Int) (a0 x7 : Slot) (S : Store) (hp : p ≤ 100) (hl : more.length < 1000000) : ∃ y7, ibB [a0, .no, .ar .c (.int (p : Nat)), .ar .c (.int (o : Nat)), .own (kvP more), .ar .c (.int (m : Nat)), .ar .c (pD pr), x7] S =
    .nx [a0, .no, .ar .c (.int (p : Nat)), .ar .c (.int (o : Nat)), .own (kvP (updP more (m ^^^ o) (shP p pr))), .ar .c (.int (m : Nat)), .ar .c (pD pr), y7] S := by
  have sh := sh1 p (by omega) .c
  have xg := xor_g m o .c .c
  have dn := dni_g more (m ^^^ o) .o .c
  have e7 : ∀ r : Env, r[6]? = some (.ar .c (pD pr)) → r[2]? = some (.ar .c (.int (p : Nat))) → eTup (aCons (eBin gAdd (eBin gIx (eVar 6) (eC (.int 0))) (eC (.int 1))) (aCons (eBin gAdd (eBin gIx (eVar 6) (eC (.int 1))) (eBin gShl (eC (.int 1)) (eVar 2))) aNil)) r S = .ok (pD (shP p pr), .c) S := fun r h6 h2 => by
    have a0 : ∀ a b : Int, atI [D.int a, D.int b] 0 = some (.int a) := fun _ _ => rfl
    have a1 : ∀ a b : Int, atI [D.int a, D.int b] 1 = some (.int b) := fun _ _ => rfl
    unfold pD shP at *
    generalize 2 ^ p = P at *
    simp [h6, h2, a0, a1, sh, sizeLine_eq]
  have ex : ∀ r : Env, r[5]? = some (.ar .c (.int (m : Nat))) → r[3]? = some (.ar .c (.int (o : Nat))) → eBin gXor (eVar 5) (eVar 3) r S = .ok (.int ((m ^^^ o : Nat) : Int), .c) S := fun r h5 h3 => by
    generalize m ^^^ o = k at *
    simp [h5, h3, xg]
  have pt := fun r h1 hk hv => ds_put 4 (eBin gXor (eVar 5) (eVar 3)) (eVar 7) r S more (m ^^^ o) (shP p pr) .c h1 hk hv hl
  refine ⟨.ar .c (pD (shP p pr)), ?_⟩
  have e7' := e7 [a0, .no, .ar .c (.int (p : Nat)), .ar .c (.int (o : Nat)), .own (kvP more), .ar .c (.int (m : Nat)), .ar .c (pD pr), x7] rfl rfl
  have ex' := ex [a0, .no, .ar .c (.int (p : Nat)), .ar .c (.int (o : Nat)), .own (kvP more), .ar .c (.int (m : Nat)), .ar .c (pD pr), .ar .c (pD (shP p pr))] rfl rfl
  have ok7 : okst .c (pD (shP p pr)) = true := rfl
  have pt' := pt [a0, .no, .ar .c (.int (p : Nat)), .ar .c (.int (o : Nat)), .own (kvP more), .ar .c (.int (m : Nat)), .ar .c (pD pr), .ar .c (pD (shP p pr))] rfl ex' rfl
  unfold updP
  refine (seq_set e7' ok7).trans ?_
  show sIf _ _ sNil [a0, .no, .ar .c (.int (p : Nat)), .ar .c (.int (o : Nat)), .own (kvP more), .ar .c (.int (m : Nat)), .ar .c (pD pr), .ar .c (pD (shP p pr))] S = _
  cases e : lookP more (m ^^^ o) with
  | none =>
    rw [e] at dn
    have t : tOrM (tVal (eBin gDNi (eBin gXor (eVar 5) (eVar 3)) (eVar 4))) (tVal (eBin gLtP (eVar 7) (eBin gDIx (eVar 4) (eBin gXor (eVar 5) (eVar 3))))) [a0, .no, .ar .c (.int (p : Nat)), .ar .c (.int (o : Nat)), .own (kvP more), .ar .c (.int (m : Nat)), .ar .c (pD pr), .ar .c (pD (shP p pr))] S = .ok true S := by
      generalize kvP more = K at *
      generalize m ^^^ o = k at *
      unfold eBin at ex'
      simp at dn
      simp [xg, dn]
    rw [if_t t, if_pos rfl, pt']
    rfl
  | some a =>
    rw [e] at dn
    have dx := dix_g more (m ^^^ o) a .o .c (by decide) e
    have lt := ltp_g (shP p pr) a .c .c
    have t : tOrM (tVal (eBin gDNi (eBin gXor (eVar 5) (eVar 3)) (eVar 4))) (tVal (eBin gLtP (eVar 7) (eBin gDIx (eVar 4) (eBin gXor (eVar 5) (eVar 3))))) [a0, .no, .ar .c (.int (p : Nat)), .ar .c (.int (o : Nat)), .own (kvP more), .ar .c (.int (m : Nat)), .ar .c (pD pr), .ar .c (pD (shP p pr))] S = .ok (SrtO.lexB (shP p pr) a) S := by
      generalize kvP more = K at *
      generalize pD (shP p pr) = F at *
      generalize pD a = A at *
      generalize m ^^^ o = k at *
      generalize SrtO.lexB (shP p pr) a = B at *
      simp at dn
      simp [xg, dn, dx, lt]
    rw [if_t t]
    dsimp only
    cases SrtO.lexB (shP p pr) a with
    | true =>
      simp only [if_true]
      rw [pt']
      rfl
    | false =>
      simp only [Bool.false_eq_true, if_false]
      rfl
structure Good (w : Nat) (xs : List Nat) (kv : KP) : Prop where
  nd : (kv.map Prod.fst).Nodup
  bst : Bst (evens w xs) w (lookP kv)
theorem seq_own {i : Nat} {A : EM} {T : SM} {r : Env} {S : Store} {d : D} (h : A r S = .ok (d, .n) S) : sSeq (sOwn i A) T r S = T (r.set i (.own d)) S := by
  unfold sSeq sOwn
  rw [h]
  rfl
theorem seq_nx {A T : SM} {r r' : Env} {S S' : Store} (h : A r S = .nx r' S') : sSeq A T r S = T r' S' := by
  unfold sSeq
  rw [h]
  rfl
theorem s_mkE (i w x : Nat) (xs : List Nat) (d : D) (f f2 : Fl) (S : Store) (hS : S[i]? = some (0, spanE w xs d)) (hw : w ≤ 24) : m_Span_mark_by [(f, .ins i), (f2, .int (x : Nat))] S = .ok (.int ((mkS x (evens w xs) : Nat) : Int), .c) S := by
  have el : (evens w xs).length ≤ 100 := Nat.le_trans (bas_len _) (Nat.le_trans (raw_len _ _) (by omega))
  have := s_mark i x (evens w xs) (.int (w : Nat)) (.lst (nI (basF xs))) d f f2 S hS el
  rwa [mk_eq] at this
theorem itm_step (p o : Nat) (kv : KP) (a0 x5 x6 x7 : Slot) (S : Store) (hp : p ≤ 100) (hl : kv.length ≤ 4096) : ∃ y5 y6 y7, sItm 1 (gT 2 (gsC (gN 5) (gsC (gN 6) gsN))) ibB [a0, .own (kvP kv), .ar .c (.int (p : Nat)), .ar .c (.int (o : Nat)), .own (kvP kv), x5, x6, x7] S =
    .nx [a0, .no, .ar .c (.int (p : Nat)), .ar .c (.int (o : Nat)), .own (kvP (moreF p o kv kv)), y5, y6, y7] S := by
  obtain ⟨r2, S2, e, hS, y5, y6, y7, rfl⟩ := for_inv (P := fun j r S' => S' = S ∧ ∃ x5 x6 x7, r = [a0, .no, .ar .c (.int (p : Nat)), .ar .c (.int (o : Nat)), .own (kvP (moreF p o (kv.take j) kv)), x5, x6, x7]) (g := gT 2 (gsC (gN 5) (gsC (gN 6) gsN))) (p := ibB) (kv.map fun q => D.tup [.int (q.1 : Nat), pD q.2]) 0 [a0, .no, .ar .c (.int (p : Nat)), .ar .c (.int (o : Nat)), .own (kvP kv), x5, x6, x7] S ⟨rfl, x5, x6, x7, rfl⟩ (fun j d r S' hd ⟨e1, x5, x6, x7, e2⟩ => by
    subst e1 e2
    rw [List.getElem?_map] at hd
    cases hv : kv[j]? with
    | none => rw [hv] at hd; cases hd
    | some q =>
      rw [hv] at hd
      obtain rfl := Option.some.inj hd
      have l := more_len p o (kv.take (0 + j)) kv
      have l2 : (kv.take (0 + j)).length ≤ kv.length := by rw [List.length_take]; omega
      obtain ⟨z7, st⟩ := ib_step p o q.1 (moreF p o (kv.take (0 + j)) kv) q.2 a0 x7 S' hp (by omega)
      refine ⟨_, rfl, _, _, st, rfl, .ar .c (.int (q.1 : Nat)), .ar .c (pD q.2), z7, ?_⟩
      have e : moreF p o (kv.take (0 + j + 1)) kv = updP (moreF p o (kv.take (0 + j)) kv) (q.1 ^^^ o) (shP p q.2) := by
        rw [Nat.zero_add, List.take_add_one, hv]
        unfold moreF
        rw [List.foldl_append]
        rfl
      rw [e])
  rw [List.length_map, Nat.zero_add, List.take_length] at e
  rw [hS] at e
  refine ⟨y5, y6, y7, ?_⟩
  show (match forL (gT 2 (gsC (gN 5) (gsC (gN 6) gsN))) ibB (itemsD (keysP kv) (valsP kv)) [a0, .no, .ar .c (.int (p : Nat)), .ar .c (.int (o : Nat)), .own (kvP kv), x5, x6, x7] S with
    | .nx r' S' => SR.nx r' S'
    | _ => .no) = _
  rw [items_P, e]
theorem ab_step (i w p : Nat) (xs : List Nat) (d : D) (kv : KP) (f : Fl) (x3 x5 x6 x7 : Slot) (S : Store) (hS : S[i]? = some (0, spanE w xs d)) (hw : w ≤ 24) (hp : p ≤ 100) (hl : kv.length ≤ 4096) : ∃ y5 y6 y7, abB [.ar f (.ins i), .own (kvP kv), .ar .c (.int (p : Nat)), x3, .no, x5, x6, x7] S =
    .nx [.ar f (.ins i), .own (kvP (moreF p (mkS (2 ^ p) (evens w xs)) kv kv)), .ar .c (.int (p : Nat)), .ar .c (.int ((mkS (2 ^ p) (evens w xs) : Nat) : Int)), .no, y5, y6, y7] S := by
  have mk := s_mkE i w (2 ^ p) xs d .c .c S hS hw
  have sh := sh1 p (by omega) .c
  have e3 : eMe 2 tab_mark_by (eVar 0) (aCons (eBin gShl (eC (.int 1)) (eVar 2)) aNil) [.ar f (.ins i), .own (kvP kv), .ar .c (.int (p : Nat)), x3, .no, x5, x6, x7] S = .ok (.int ((mkS (2 ^ p) (evens w xs) : Nat) : Int), .c) S := by
    generalize mkS (2 ^ p) (evens w xs) = o at *
    unfold spanE at hS
    generalize 2 ^ p = P at *
    generalize kvP kv = KK at *
    generalize nI (evens w xs) = E at *
    generalize nI (basF xs) = RB at *
    cases f <;> simp [hS, tabM, sh, mk]
  generalize mkS (2 ^ p) (evens w xs) = o at *
  obtain ⟨y5, y6, y7, q⟩ := itm_step p o kv (.ar f (.ins i)) x5 x6 x7 S hp hl
  have e4 : eCal gDictD (aCons (eVar 1) aNil) [.ar f (.ins i), .own (kvP kv), .ar .c (.int (p : Nat)), .ar .c (.int (o : Nat)), .no, x5, x6, x7] S = .ok (kvP kv, .n) S := rfl
  have e5 : sMove 1 4 [.ar f (.ins i), .no, .ar .c (.int (p : Nat)), .ar .c (.int (o : Nat)), .own (kvP (moreF p o kv kv)), y5, y6, y7] S = .nx [.ar f (.ins i), .own (kvP (moreF p o kv kv)), .ar .c (.int (p : Nat)), .ar .c (.int (o : Nat)), .no, y5, y6, y7] S := by
    unfold sMove
    show (if (1 : Nat) ≠ 4 ∧ 1 < 8 then SR.nx _ S else SR.no) = _
    rw [if_pos ⟨by decide, by decide⟩]
    rfl
  exact ⟨y5, y6, y7, (seq_set e3 rfl).trans ((seq_own e4).trans ((seq_nx q).trans e5))⟩
theorem bst_len {E : List Nat} {p : Nat} {kv : KP} (nd : (kv.map Prod.fst).Nodup) (B : Bst E p (lookP kv)) (hE : E.length ≤ 12) : kv.length ≤ 4096 := by
  refine Nat.le_trans (kp_len (N := 2 ^ E.length) nd fun m pr h => ?_) (Nat.le_trans (Nat.pow_le_pow_right (by decide) hE) (by decide))
  obtain ⟨x, _, rfl, _⟩ := B.of m pr h
  exact mkS_lt x E
theorem s_best (i w : Nat) (xs : List Nat) (d : D) (f : Fl) (S : Store) (hS : S[i]? = some (0, spanE w xs d)) (hw : 1 ≤ w ∧ w ≤ 24) (hE : (evens w xs).length ≤ 12) : ∃ kv, Good w xs kv ∧ m_Span_all_best [(f, .ins i)] S = .ok (kvP kv, .n) S := by
  have B0 : Bst (evens w xs) 0 (lookP [(0, (0, 0))]) := by
    have z := Bst.zero (evens w xs)
    have e : (fun m => if m = 0 then some ((0 : Int), (0 : Int)) else none) = lookP [(0, (0, 0))] := by
      funext m
      show _ = if 0 = m then some ((0 : Int), (0 : Int)) else none
      by_cases h : m = 0
      · rw [if_pos h, if_pos h.symm]
      · rw [if_neg h, if_neg fun e => h e.symm]
    rw [← e]
    exact z
  obtain ⟨r2, S2, e, hS2, kv, x2, x3, x5, x6, x7, nd, B, rfl⟩ := for_inv (P := fun k r S' => S' = S ∧ ∃ kv x2 x3 x5 x6 x7, (kv.map Prod.fst).Nodup ∧ Bst (evens w xs) k (lookP kv) ∧ r = [.ar f (.ins i), .own (kvP kv), x2, x3, .no, x5, x6, x7]) (g := gN 2) (p := abB) (rangeD 0 1 w) 0 [.ar f (.ins i), .own (kvP [(0, (0, 0))]), .no, .no, .no, .no, .no, .no] S ⟨rfl, [(0, (0, 0))], .no, .no, .no, .no, .no, by simp, B0, rfl⟩ (fun k d' r S' hd ⟨e1, kv, x2, x3, x5, x6, x7, nd, B, e2⟩ => by
    subst e1 e2
    have hj : k < w := by
      have := (List.getElem?_eq_some_iff.mp hd).1
      rwa [rangeD_len] at this
    rw [rangeD_get hj] at hd
    have hd := (Option.some.inj hd).symm
    subst hd
    have e0 : ((0 : Int) + (k : Nat) * 1) = (k : Nat) := by omega
    rw [e0]
    rw [Nat.zero_add] at B
    obtain ⟨y5, y6, y7, q⟩ := ab_step i w k xs d kv f x3 x5 x6 x7 S' hS hw.2 (by omega) (bst_len nd B hE)
    refine ⟨_, rfl, _, _, q, rfl, moreF k (mkS (2 ^ k) (evens w xs)) kv kv, .ar .c (.int (k : Nat)), .ar .c (.int ((mkS (2 ^ k) (evens w xs) : Nat) : Int)), y5, y6, y7, more_nd _ _ _ _ nd, ?_, rfl⟩
    have st := B.step (by omega)
    have e : (fun m => cmb (lookP kv m) ((lookP kv (m ^^^ mkS (2 ^ k) (evens w xs))).map (shP k))) = lookP (moreF k (mkS (2 ^ k) (evens w xs)) kv kv) := by
      funext m
      exact (look_more k _ kv kv m nd).symm
    rw [Nat.zero_add, ← e]
    exact st)
  rw [rangeD_len, Nat.zero_add] at B
  rw [hS2] at e
  refine ⟨kv, ⟨nd, B⟩, ?_⟩
  have rn := rng1_ap (f := .c) (w : Int) (inR_of _ (by omega))
  rw [Int.toNat_natCast] at rn
  have e1 : ∀ T r, sSeq (sOwn 1 (eDict1 0 0 0)) T r S = T (r.set 1 (.own (kvP [(0, (0, 0))]))) S := fun T r => rfl
  have hf : ∀ r : Env, r[0]? = some (.ar f (.ins i)) → (iArgs gRng1 (aCons (eFld [0] 0 (eVar 0)) aNil)) r S = .ok (rangeD 0 1 w) S := fun r hr => by
    unfold spanE at hS
    generalize nI (evens w xs) = E at *
    generalize nI (basF xs) = RB at *
    simp [hr, hS, rn, -rng1_ap]
  show kFn (sSeq (sOwn 1 (eDict1 0 0 0)) _ [.ar f (.ins i), .no, .no, .no, .no, .no, .no, .no] S) = _
  rw [e1]
  have h2 := hf [.ar f (.ins i), .own (kvP [(0, (0, 0))]), .no, .no, .no, .no, .no, .no] rfl
  have h3 : sFor (iArgs gRng1 (aCons (eFld [0] 0 (eVar 0)) aNil)) (gN 2) abB [.ar f (.ins i), .own (kvP [(0, (0, 0))]), .no, .no, .no, .no, .no, .no] S = .nx [.ar f (.ins i), .own (kvP kv), x2, x3, .no, x5, x6, x7] S := by
    unfold sFor
    rw [h2]
    exact e
  show kFn (sSeq (sFor (iArgs gRng1 (aCons (eFld [0] 0 (eVar 0)) aNil)) (gN 2) abB) (sRetV 1) [.ar f (.ins i), .own (kvP [(0, (0, 0))]), .no, .no, .no, .no, .no, .no] S) = _
  rw [seq_nx h3]
  rfl
structure IsLead (w : Nat) (xs : List Nat) (m x : Nat) : Prop where
  lt : x < 2 ^ w
  mark : MK w xs x = m
  le : ∀ y, y < 2 ^ w → MK w xs y = m → leP (prI x) (prI y) = true
theorem lead_one {w : Nat} {xs : List Nat} {m x y : Nat} (h : IsLead w xs m x) (h' : IsLead w xs m y) : x = y := by
  have h1 := leP_iff.mp (h.le y h'.lt h'.mark)
  have h2 := leP_iff.mp (h'.le x h.lt h.mark)
  unfold prI at h1 h2
  dsimp only at h1 h2
  omega
theorem good_at {w : Nat} {xs : List Nat} {kv : KP} (G : Good w xs kv) (hb : ∀ y ∈ xs, y < 2 ^ w) {m : Nat} (hm : m < 2 ^ (evens w xs).length) : ∃ x, IsLead w xs m x ∧ lookP kv m = some (prI x) := by
  obtain ⟨x0, h1, h2⟩ := mk_onto w xs hb m hm
  obtain ⟨pr, q⟩ := G.bst.all x0 h1
  rw [show mkS x0 (evens w xs) = m from h2] at q
  obtain ⟨x, k1, k2, rfl, k4⟩ := G.bst.of m pr q
  exact ⟨x, ⟨k1, k2, k4⟩, q⟩
def DOk (w : Nat) (xs : List Nat) (d : D) : Prop := d = .non ∨ ∃ kv, Good w xs kv ∧ d = kvP kv
theorem s_leader (i w m : Nat) (xs : List Nat) (d : D) (f f2 : Fl) (S : Store) (hS : S[i]? = some (0, spanE w xs d)) (hd : DOk w xs d) (hw : 1 ≤ w ∧ w ≤ 24) (hE : (evens w xs).length ≤ 12) (hb : ∀ y ∈ xs, y < 2 ^ w) (hm : m < 2 ^ (evens w xs).length) : ∃ kv x, Good w xs kv ∧ IsLead w xs m x ∧ m_Span_leader [(f, .ins i), (f2, .int (m : Nat))] S = .ok (.int (x : Nat), .c) (S.set i (0, spanE w xs (kvP kv))) := by
  have a := s_is_among (.int (m : Nat)) 0 ((2 ^ (evens w xs).length : Nat) - 1 : Int) (inf f2) .c .c S rfl
  rw [show amongD (.int (m : Nat)) 0 ((2 ^ (evens w xs).length : Nat) - 1 : Int) = true from decide_eq_true (by omega)] at a
  have sh := sh1 (evens w xs).length (by omega) .c
  have nl := nI_len (evens w xs)
  rw [← nl] at a sh
  have hn : i < S.length := (List.getElem?_eq_some_iff.mp hS).1
  have a1 : ∀ a b : Int, atI [D.int a, D.int b] 1 = some (.int b) := fun _ _ => rfl
  have ln : (nI (evens w xs)).length ≤ 16777216 := by omega
  rcases hd with rfl | ⟨kv, G, rfl⟩
  · obtain ⟨kv, G, sb⟩ := s_best i w xs .non .c S hS hw hE
    obtain ⟨x, L, lk⟩ := good_at G hb hm
    have dx := dix_g kv m (prI x) .c (inf f2) (by decide) lk
    have s1 : ∀ v, (S.set i v)[i]? = some v := fun v => List.getElem?_set_self hn
    have pd : ∀ a b c d e : D, putD 3 e [a, b, c, d] = [a, b, c, e] := fun _ _ _ _ _ => rfl
    refine ⟨kv, x, G, L, ?_⟩
    unfold pD prI at dx
    generalize lw x = lx at *
    unfold spanE at *
    generalize ((2 ^ (nI (evens w xs)).length : Nat) : Int) = z at *
    generalize kvP kv = KD at *
    generalize nI (evens w xs) = E at *
    generalize nI (basF xs) = RB at *
    simp only [m_Span_leader, b_Span_leader, fnM_ap]
    simp [hS, sh, sub_i, a, m_need, b_need, sb, s1, pd, dx, a1, tab_all_best, ln, -int_ap]
  · obtain ⟨x, L, lk⟩ := good_at G hb hm
    have dx := dix_g kv m (prI x) .c (inf f2) (by decide) lk
    have se : S.set i (0, spanE w xs (kvP kv)) = S := by
      obtain ⟨h1, h2⟩ := List.getElem?_eq_some_iff.mp hS
      rw [← h2]
      exact List.set_getElem_self h1
    have nn : isNon (kvP kv) = false := rfl
    refine ⟨kv, x, G, L, ?_⟩
    rw [se]
    unfold pD prI at dx
    generalize lw x = lx at *
    unfold spanE at *
    generalize ((2 ^ (nI (evens w xs)).length : Nat) : Int) = z at *
    generalize kvP kv = KD at *
    generalize nI (evens w xs) = E at *
    generalize nI (basF xs) = RB at *
    simp only [m_Span_leader, b_Span_leader, fnM_ap]
    simp [hS, sh, sub_i, a, m_need, b_need, dx, a1, nn, ln, -int_ap]
theorem tabL : tab_leader 0 = some m_Span_leader := rfl
theorem tabNe : tab_nearest 0 = some m_Span_nearest := rfl
theorem s_near (i w x : Nat) (xs : List Nat) (d : D) (f f2 : Fl) (S : Store) (hS : S[i]? = some (0, spanE w xs d)) (hd : DOk w xs d) (hw : 1 ≤ w ∧ w ≤ 24) (hE : (evens w xs).length ≤ 12) (hb : ∀ y ∈ xs, y < 2 ^ w) (hx : x < 2 ^ w) : ∃ kv z, Good w xs kv ∧ IsLead w xs (MK w xs x) z ∧ m_Span_nearest [(f, .ins i), (f2, .int (x : Nat))] S = .ok (.int ((x ^^^ z : Nat) : Int), .c) (S.set i (0, spanE w xs (kvP kv))) := by
  have nn := need_num i x w (.lst (nI (basF xs))) (.lst (nI (evens w xs))) d .c (inf f2) S hS hw.2 hx
  have mk := s_mkE i w x xs d .c (inf f2) S hS hw.2
  obtain ⟨kv, z, G, L, le⟩ := s_leader i w (MK w xs x) xs d .c .c S hS hd hw hE hb (mkS_lt x _)
  have xg := xor_g x z (inf f2) .c
  refine ⟨kv, z, G, L, ?_⟩
  unfold MK at le
  generalize mkS x (evens w xs) = m at *
  generalize x ^^^ z = y at *
  generalize S.set i (0, spanE w xs (kvP kv)) = S2 at *
  unfold spanE at *
  generalize nI (evens w xs) = E at *
  generalize nI (basF xs) = RB at *
  simp [m_Span_nearest, b_Span_nearest, hS, tabN, tabM, tabL, nn, mk, le, xg, -int_ap]
theorem s_mark2 (i w x : Nat) (xs : List Nat) (d : D) (f f2 : Fl) (S : Store) (hS : S[i]? = some (0, spanE w xs d)) (hw : w ≤ 24) (hx : x < 2 ^ w) : m_Span_mark [(f, .ins i), (f2, .int (x : Nat))] S = .ok (.int ((MK w xs x : Nat) : Int), .c) S := by
  have nn := need_num i x w (.lst (nI (basF xs))) (.lst (nI (evens w xs))) d .c (inf f2) S hS hw hx
  have mk := s_mkE i w x xs d .c (inf f2) S hS hw
  unfold MK
  generalize mkS x (evens w xs) = m at *
  unfold spanE at *
  generalize nI (evens w xs) = E at *
  generalize nI (basF xs) = RB at *
  simp [m_Span_mark, b_Span_mark, hS, tabN, tabM, nn, mk, -int_ap]
theorem s_chks2 (i w : Nat) (xs : List Nat) (d : D) (f : Fl) (S : Store) (hS : S[i]? = some (0, spanE w xs d)) : m_Span_checks [(f, .ins i)] S = .ok (.lst (nI (evens w xs)), .n) S := by
  unfold spanE at hS
  generalize nI (evens w xs) = E at *
  simp [m_Span_checks, b_Span_checks, hS]
end Fin

set_option maxRecDepth 100000
set_option maxHeartbeats 4000000
namespace Fin
open Mv Mir Ev
open PySem (sizeLine sizeLine_eq)
open L2 (atI ixN)
def SOk (i w : Nat) (xs : List Nat) (S : Store) : Prop := ∃ d, DOk w xs d ∧ S[i]? = some (0, spanE w xs d)
theorem sok_set {i w : Nat} {xs : List Nat} {S : Store} (h : SOk i w xs S) {kv : KP} (G : Good w xs kv) : (S.set i (0, spanE w xs (kvP kv)))[i]? = some (0, spanE w xs (kvP kv)) := by
  obtain ⟨d, _, hS⟩ := h
  exact List.getElem?_set_self (List.getElem?_eq_some_iff.mp hS).1
noncomputable abbrev clB : SM := (sSeq (sSet 7 (eBin gDiv (eFn 2 m__law_mixed (aCons (eVar 0) (aCons (eBin gAdd (eC (.int 2)) (eVar 6)) aNil))) (eC (.int 8)))) (sSeq (sSet 8 (eBin gShl (eC (.int 1)) (eBin gSub (eBin gSub (eVar 2) (eC (.int 1))) (eBin gMod (eVar 6) (eVar 2))))) (sApp 5 (eIf (tVal (eBin gLt (eVar 6) (eVar 3))) (eBin gAdd (eVar 8) (eBin gMod (eVar 7) (eVar 8))) (eBin gMod (eVar 7) (eBin gShl (eC (.int 1)) (eVar 2)))))))
/-! the spans that the law lays have twelve checks at the most -/
theorem sub_len {a b : List Nat} (na : a.Nodup) (nb : b.Nodup) (h : ∀ x ∈ a, x ∈ b) : a.length ≤ b.length := by
  have e : (b.filter fun m => decide (m ∈ a)).length = a.length := ((List.perm_ext_iff_of_nodup (nb.sublist List.filter_sublist) na).mpr fun m => by
    rw [List.mem_filter, decide_eq_true_eq]
    exact ⟨fun z => z.2, fun z => ⟨h m z, z⟩⟩).length_eq
  have l := List.length_filter_le (fun m => decide (m ∈ a)) b
  omega
/-- the j-th of the first ones has its highest bit at w - 1 - j -/
def Fall (w least : Nat) (ys : List Nat) : Prop := ∀ j y, j < least → ys[j]? = some y → 2 ^ (w - 1 - j) ≤ y ∧ y < 2 ^ (w - j)
theorem fall_top {w least : Nat} {ys : List Nat} (F : Fall w least ys) (hw : least ≤ w) {j y : Nat} (hj : j < least) (e : ys[j]? = some y) : 0 < y ∧ top y = w - 1 - j := by
  obtain ⟨h1, h2⟩ := F j y hj e
  have e2 : w - j = (w - 1 - j) + 1 := by omega
  rw [e2] at h2
  have p : 0 < y := Nat.lt_of_lt_of_le (Nat.two_pow_pos _) h1
  refine ⟨p, ?_⟩
  unfold top
  rw [bl_eq h1 h2]
  omega
theorem fall_rank {w least : Nat} {ys xs : List Nat} (F : Fall w least ys) (hw : least ≤ w) (hl : least ≤ ys.length) (hm : ∀ y ∈ ys, y ∈ xs) (hb : ∀ y ∈ xs, y < 2 ^ w) : (evens w xs).length + least ≤ w := by
  have own : lsF (ys.take least).reverse = sumF (ys.take least).reverse := by
    refine ls_own top (ys.take least).reverse [0] [] sp_nil (fun r hr => ?_) ?_ fun _ _ _ hd => nomatch hd
    · rw [List.mem_reverse] at hr
      obtain ⟨j, hj⟩ := List.getElem?_of_mem hr
      rw [List.getElem?_take] at hj
      split at hj
      · rename_i h
        exact top_bit (fall_top F hw h hj).1
      · cases hj
    · rw [List.pairwise_reverse, List.pairwise_iff_getElem]
      intro i j hi hj hij
      rw [List.length_take] at hi hj
      have gi : ys[i]? = some (ys.take least)[i] := by
        rw [List.getElem_take, List.getElem?_eq_getElem (by omega)]
      have gj : ys[j]? = some (ys.take least)[j] := by
        rw [List.getElem_take, List.getElem?_eq_getElem (by omega)]
      have ti := fall_top F hw (by omega) gi
      have tj := fall_top F hw (by omega) gj
      exact over_top (by omega)
  have len : (lsF (ys.take least).reverse).length = 2 ^ least := by
    rw [own, len_sumF, List.length_reverse, List.length_take, Nat.min_eq_left hl]
  have sub := sub_len (nd_lsF (ys.take least).reverse) (nd_lsF xs) fun z hz => (mem_lsF xs z).mpr (Sp.sub (fun x hx => .mem (hm x (List.mem_of_mem_take (List.mem_reverse.mp hx)))) ((mem_lsF _ z).mp hz))
  have d := dims w xs hb
  rw [len] at sub
  have p : 2 ^ (least + (evens w xs).length) ≤ 2 ^ w := by
    rw [← d, Nat.pow_add]
    exact Nat.mul_le_mul_right _ sub
  have := (Nat.pow_le_pow_iff_right (show 1 < 2 by decide)).mp p
  omega
theorem cl_step (n most w least k : Nat) (ys : List Nat) (x4 x7 x8 : Slot) (S : Store) (hw : 1 ≤ w ∧ w ≤ 24) (hl : least ≤ w) (hk : k ≤ 100) (hlen : ys.length = k) : ∃ v y7 y8, v < 2 ^ w ∧ (k < least → 2 ^ (w - 1 - k) ≤ v ∧ v < 2 ^ (w - k)) ∧
    clB [.ar .c (.int (n : Nat)), .ar .c (.int (most : Nat)), .ar .c (.int (w : Nat)), .ar .c (.int (least : Nat)), x4, .own (.lst (nI ys)), .ar .c (.int (k : Nat)), x7, x8] S =
    .nx [.ar .c (.int (n : Nat)), .ar .c (.int (most : Nat)), .ar .c (.int (w : Nat)), .ar .c (.int (least : Nat)), x4, .own (.lst (nI (ys ++ [v]))), .ar .c (.int (k : Nat)), y7, y8] S := by
  have m2 := s_mixed n (2 + (k : Int)) .c .c S (by omega)
  have m3 := mix_nn n (2 + (k : Int))
  generalize mixF n (2 + (k : Int)) = u2 at m2 m3
  obtain ⟨q, rfl⟩ := Int.eq_ofNat_of_zero_le m3
  have k8 := fun v => div_i v 8 .c .c (by decide) (by decide +kernel)
  have e8 : (q : Int) / 8 = ((q / 8 : Nat) : Int) := by omega
  generalize q / 8 = more at *
  have jw := fun v => mod_i v (w : Int) .c .c (by omega)
  have ekw : (k : Int) % (w : Int) = ((k % w : Nat) : Int) := by push_cast; rfl
  have kw : k % w < w := Nat.mod_lt _ (by omega)
  have es : (w : Int) - 1 - ((k % w : Nat) : Int) = ((w - 1 - k % w : Nat) : Int) := by omega
  have sh := sh1 (w - 1 - k % w) (by omega) .c
  have shw := sh1 w (by omega) .c
  have jl := fun v => mod_i v ((2 ^ (w - 1 - k % w) : Nat) : Int) .c .c (by have := Nat.two_pow_pos (w - 1 - k % w); omega)
  have jp := fun v => mod_i v ((2 ^ w : Nat) : Int) .c .c (by have := Nat.two_pow_pos w; omega)
  have el : (more : Int) % ((2 ^ (w - 1 - k % w) : Nat) : Int) = ((more % 2 ^ (w - 1 - k % w) : Nat) : Int) := by push_cast; rfl
  have ep : (more : Int) % ((2 ^ w : Nat) : Int) = ((more % 2 ^ w : Nat) : Int) := by push_cast; rfl
  have hb2 : more % 2 ^ w < 2 ^ w := Nat.mod_lt _ (Nat.two_pow_pos w)
  have hb1 : more % 2 ^ (w - 1 - k % w) < 2 ^ (w - 1 - k % w) := Nat.mod_lt _ (Nat.two_pow_pos _)
  have l1 : (nI ys).length < 16777216 := by rw [nI_len]; omega
  have ea : ∀ v : Nat, nI (ys ++ [v]) = nI ys ++ [D.int (v : Int)] := fun v => nI_app ys [v]
  by_cases h : k < least
  · have hkw : k % w = k := Nat.mod_eq_of_lt (by omega)
    have e2 : w - k = (w - 1 - k) + 1 := by omega
    refine ⟨2 ^ (w - 1 - k % w) + more % 2 ^ (w - 1 - k % w), .ar .c (.int (more : Nat)), .ar .c (.int ((2 ^ (w - 1 - k % w) : Nat) : Int)), ?_, fun _ => ?_, ?_⟩
    · have p2 : 2 ^ ((w - 1 - k % w) + 1) ≤ 2 ^ w := Nat.pow_le_pow_right (by decide) (by omega)
      rw [Nat.pow_succ] at p2
      omega
    · rw [hkw] at hb1 ⊢
      rw [e2, Nat.pow_succ]
      omega
    · rw [ea]
      have ec : ((2 ^ (w - 1 - k % w) + more % 2 ^ (w - 1 - k % w) : Nat) : Int) = ((2 ^ (w - 1 - k % w) : Nat) : Int) + ((more % 2 ^ (w - 1 - k % w) : Nat) : Int) := by push_cast; rfl
      rw [ec]
      have hi : (k : Int) < (least : Int) := by omega
      generalize more % 2 ^ (w - 1 - k % w) = v1 at *
      generalize 2 ^ (w - 1 - k % w) = P at *
      generalize w - 1 - k % w = sft at *
      generalize k % w = kk at *
      generalize 2 ^ w = PW at *
      generalize nI ys = Y at *
      simp [clB, m2, k8, e8, jw, ekw, sub_i, es, sh, lt_i, hi, h, jl, el, l1, sizeLine_eq, -int_ap]
  · refine ⟨more % 2 ^ w, .ar .c (.int (more : Nat)), .ar .c (.int ((2 ^ (w - 1 - k % w) : Nat) : Int)), hb2, fun z => absurd z h, ?_⟩
    rw [ea]
    have hi : ¬ (k : Int) < (least : Int) := by omega
    generalize more % 2 ^ w = v1 at *
    generalize 2 ^ (w - 1 - k % w) = P at *
    generalize w - 1 - k % w = sft at *
    generalize k % w = kk at *
    generalize 2 ^ w = PW at *
    generalize nI ys = Y at *
    simp [clB, m2, k8, e8, jw, ekw, sub_i, es, sh, shw, lt_i, hi, h, jp, ep, l1, sizeLine_eq, -int_ap]
theorem s_close (n most : Nat) (S : Store) (hm : most = 12 ∨ most = 24) : ∃ w xs, (1 ≤ w ∧ w ≤ 24) ∧ (1 ≤ xs.length ∧ xs.length ≤ 12) ∧ (∀ x ∈ xs, x < 2 ^ w) ∧ (evens w xs).length ≤ 12 ∧ m__law_close [(.c, .int (n : Nat)), (.c, .int (most : Nat))] S = .ok (.tup [.int (w : Nat), .lst (nI xs)], .c) S := by
  have jm := fun v => mod_i v (most : Int) .c .c (by omega)
  have ew : (1 : Int) + (n : Int) % (most : Int) = ((1 + n % most : Nat) : Int) := by push_cast; rfl
  have hwm : n % most < most := Nat.mod_lt _ (by omega)
  have hw : 1 ≤ 1 + n % most ∧ 1 + n % most ≤ 24 := by omega
  have hw12 : most = 12 → 1 + n % most ≤ 12 := by omega
  generalize 1 + n % most = w at *
  have gx : gMax [(.c, .int 0), (.c, .int ((w : Int) - 12))] = some (.int ((w - 12 : Nat) : Int), .c) := by
    show some (D.int (max 0 ((w : Int) - 12)), Fl.c) = _
    rw [show max 0 ((w : Int) - 12) = ((w - 12 : Nat) : Int) by omega]
  have hl : w - 12 ≤ w ∧ w - 12 ≤ 12 := by omega
  have hlm : most = 12 → w - 12 = 0 := by omega
  have hle : w - (w - 12) ≤ 12 := by omega
  generalize w - 12 = least at *
  have gx1 : gMax [(.c, .int 1), (.c, .int (least : Int))] = some (.int ((max 1 least : Nat) : Int), .c) := by
    show some (D.int (max 1 (least : Int)), Fl.c) = _
    rw [show max 1 (least : Int) = ((max 1 least : Nat) : Int) by omega]
  have h1l : 1 ≤ max 1 least ∧ max 1 least ≤ 12 ∧ least ≤ max 1 least := by omega
  generalize max 1 least = M at *
  have m1 := s_mixed n 1 .c .c S (by omega)
  have m0 := mix_nn n 1
  generalize mixF n 1 = u at m1 m0
  obtain ⟨m, rfl⟩ := Int.eq_ofNat_of_zero_le m0
  have e13 : (13 : Int) - (M : Int) = ((13 - M : Nat) : Int) := by omega
  have j13 := fun v => mod_i v ((13 - M : Nat) : Int) .c .c (by omega)
  have em : (m : Int) % ((13 - M : Nat) : Int) = ((m % (13 - M) : Nat) : Int) := by push_cast; rfl
  have hm13 : m % (13 - M) < 13 - M := Nat.mod_lt _ (by omega)
  have ea : (M : Int) + ((m % (13 - M) : Nat) : Int) = ((M + m % (13 - M) : Nat) : Int) := by push_cast; rfl
  have hmany : 1 ≤ M + m % (13 - M) ∧ M + m % (13 - M) ≤ 12 ∧ least ≤ M + m % (13 - M) := by omega
  generalize M + m % (13 - M) = many0 at *
  generalize m % (13 - M) = mm at *
  generalize 13 - M = T at *
  have j5 := fun v => mod_i v 5 .c .c (by decide)
  have e5 : (1 : Int) + (many0 : Int) % 5 = ((1 + many0 % 5 : Nat) : Int) := by push_cast; rfl
  have pk : ∃ many : Nat, (1 ≤ many ∧ many ≤ 12 ∧ least ≤ many) ∧ ((most = 12 ∧ (1 : Int) + (many0 : Int) % 5 = (many : Int)) ∨ (most = 24 ∧ many = many0)) := by
    rcases hm with h | h
    · exact ⟨1 + many0 % 5, ⟨by omega, by omega, by rw [hlm h]; omega⟩, .inl ⟨h, e5⟩⟩
    · exact ⟨many0, hmany, .inr ⟨h, rfl⟩⟩
  obtain ⟨many, hmy, pk⟩ := pk
  obtain ⟨r2, S2, e, hS, ys, x6, x7, x8, hlen, hb, F, rfl⟩ := for_inv (P := fun k r S' => S' = S ∧ ∃ ys x6 x7 x8, ys.length = k ∧ (∀ y ∈ ys, y < 2 ^ w) ∧ Fall w least ys ∧ r = [.ar .c (.int (n : Nat)), .ar .c (.int (most : Nat)), .ar .c (.int (w : Nat)), .ar .c (.int (least : Nat)), .ar .c (.int (many : Nat)), .own (.lst (nI ys)), x6, x7, x8]) (g := gN 6) (p := clB) (rangeD 0 1 many) 0 [.ar .c (.int (n : Nat)), .ar .c (.int (most : Nat)), .ar .c (.int (w : Nat)), .ar .c (.int (least : Nat)), .ar .c (.int (many : Nat)), .own (.lst (nI [])), .no, .no, .no] S ⟨rfl, [], .no, .no, .no, rfl, (fun _ h => nomatch h), (fun j y _ e => by simp at e), rfl⟩ (fun k d r S' hd ⟨e1, ys, x6, x7, x8, hlen, hb, F, e2⟩ => by
    subst e1 e2
    have hj : k < many := by
      have := (List.getElem?_eq_some_iff.mp hd).1
      rwa [rangeD_len] at this
    rw [rangeD_get hj] at hd
    have hd := (Option.some.inj hd).symm
    subst hd
    have e0 : ((0 : Int) + (k : Nat) * 1) = (k : Nat) := by omega
    rw [e0]
    rw [Nat.zero_add] at hlen
    obtain ⟨v, y7, y8, hv, hv2, q⟩ := cl_step n most w least k ys (.ar .c (.int (many : Nat))) x7 x8 S' hw hl.1 (by omega) hlen
    refine ⟨_, rfl, _, _, q, rfl, ys ++ [v], _, _, _, by rw [List.length_append]; simp; omega, fun z hz => ?_, fun j y hjl e => ?_, rfl⟩
    · rcases List.mem_append.mp hz with h | h
      · exact hb z h
      · rw [List.mem_singleton.mp h]
        exact hv
    · rcases Nat.lt_or_ge j ys.length with h | h
      · rw [List.getElem?_append_left h] at e
        exact F j y hjl e
      · rw [List.getElem?_append_right h] at e
        have hjk : j = k := by
          have := (List.getElem?_eq_some_iff.mp e).1
          simp at this
          omega
        subst hjk
        rw [hlen, Nat.sub_self] at e
        cases e
        exact hv2 hjl)
  rw [rangeD_len, Nat.zero_add] at hlen
  rw [hS] at e
  rw [show nI [] = [] from rfl] at e
  have rn := rng1_ap (f := .c) (many : Int) (inR_of _ (by omega))
  rw [Int.toNat_natCast] at rn
  have j24 := fun v => div_i v 24 .c .c (by decide) (by decide +kernel)
  have j2 := fun v => mod_i v 2 .c .c (by decide)
  have fin : ∃ (i : Int) (xs : List Nat), atI [D.int 1, D.int (-1)] ((n : Int) / 24 % 2) = some (.int i) ∧ gStp (.lst (nI ys), .o) (.int i, .c) = some (.lst (nI xs), .n) ∧ xs.length = ys.length ∧ (∀ y, y ∈ xs ↔ y ∈ ys) := by
    have h2 : (n : Int) / 24 % 2 = 0 ∨ (n : Int) / 24 % 2 = 1 := by omega
    rcases h2 with h | h
    · exact ⟨1, ys, by rw [h]; rfl, rfl, rfl, fun _ => Iff.rfl⟩
    · refine ⟨-1, ys.reverse, by rw [h]; rfl, ?_, List.length_reverse, fun y => List.mem_reverse⟩
      show some (D.lst (nI ys).reverse, Fl.n) = _
      unfold nI
      rw [List.map_reverse]
  obtain ⟨i, xs, at1, gs, xl, xm⟩ := fin
  have hbx : ∀ x ∈ xs, x < 2 ^ w := fun x hx => hb x ((xm x).mp hx)
  have rank := fall_rank F hl.1 (by omega) (fun y hy => (xm y).mpr hy) hbx
  refine ⟨w, xs, hw, by omega, hbx, by omega, ?_⟩
  generalize nI xs = X at *
  generalize nI ys = Y at *
  unfold clB at e
  rcases pk with ⟨hq, pk⟩ | ⟨hq, rfl⟩
  · have hlt : (most : Int) < 13 := by omega
    simp only [m__law_close, b__law_close, fnM_ap]
    simp [jm, ew, sub_i, gx, gx1, m1, e13, j13, em, ea, lt_i, hlt, j5, pk, rn, e, j24, j2, at1, gs, sizeLine_eq, -int_ap, -rng1_ap]
  · have hlt : ¬ (most : Int) < 13 := by omega
    simp only [m__law_close, b__law_close, fnM_ap]
    simp [jm, ew, sub_i, gx, gx1, m1, e13, j13, em, ea, lt_i, hlt, rn, e, j24, j2, at1, gs, sizeLine_eq, -int_ap, -rng1_ap]
end Fin

set_option maxRecDepth 100000
set_option maxHeartbeats 4000000
/-! k19: what is whole about spans, without the program -/
namespace Fin
open Mv Ev
theorem sp_cons {x z : Nat} {A : List Nat} : Sp (x :: A) z ↔ Sp A z ∨ Sp A (z ^^^ x) := by
  rw [← sp_snoc]
  exact sp_perm (List.perm_append_singleton x A).symm z
theorem rr_tail {x : Nat} {A : List Nat} (h : RR (x :: A)) : RR A := ⟨fun r hr => h.pos r (.tail _ hr), (List.pairwise_cons.mp h.pw).2⟩
theorem sp_off {x z : Nat} {A : List Nat} (h : RR (x :: A)) (hz : Sp A z) : z.testBit (top x) = false := sp_bit (fun r hr => ((List.pairwise_cons.mp h.pw).1 r hr).2) hz
theorem sp_null : ∀ {A : List Nat} {z : Nat}, RR A → Sp A z → (∀ r ∈ A, z.testBit (top r) = false) → z = 0
  | [], z, _, h, _ => by
    have := (sp_nil z).mpr h
    simpa using this
  | x :: A, z, R, h, q => by
    rcases sp_cons.mp h with h | h
    · exact sp_null (rr_tail R) h fun r hr => q r (.tail _ hr)
    · have h1 := sp_off R h
      rw [Nat.testBit_xor, q x (.head _), top_bit (R.pos x (.head _))] at h1
      cases h1
theorem sp_top : ∀ {A : List Nat} {z : Nat}, RR A → Sp A z → z ≠ 0 → ∃ b ∈ A, top b = top z
  | [], z, _, h, n => by
    have := (sp_nil z).mpr h
    exact absurd (by simpa using this) n
  | x :: A, z, R, h, n => by
    rcases sp_cons.mp h with h | h
    · obtain ⟨b, hb, e⟩ := sp_top (rr_tail R) h n
      exact ⟨b, .tail _ hb, e⟩
    · have px := R.pos x (.head _)
      have tx := top_bit px
      have o := sp_off R h
      have ez : z = (z ^^^ x) ^^^ x := (xx z x).symm
      generalize z ^^^ x = y at *
      by_cases hy : y = 0
      · rw [hy, Nat.zero_xor] at ez
        exact ⟨x, .head _, by rw [ez]⟩
      · obtain ⟨b, hb, e⟩ := sp_top (rr_tail R) h hy
        have py : 0 < y := by omega
        have ty := top_bit py
        rcases Nat.lt_trichotomy (top y) (top x) with q | q | q
        · refine ⟨x, .head _, ((top_of (n := z) (t := top x) ?_ fun j hj => ?_).2).symm⟩
          · rw [ez, Nat.testBit_xor, o, tx]
            rfl
          · rw [ez, Nat.testBit_xor, over_top (by omega), over_top hj]
            rfl
        · rw [q, o] at ty
          cases ty
        · refine ⟨b, .tail _ hb, ?_⟩
          rw [e]
          refine ((top_of (n := z) (t := top y) ?_ fun j hj => ?_).2).symm
          · rw [ez, Nat.testBit_xor, ty, over_top q]
            rfl
          · rw [ez, Nat.testBit_xor, over_top hj, over_top (by omega)]
            rfl
theorem rr_sub {A B : List Nat} (hA : RR A) (hB : RR B) (h : ∀ z, Sp A z ↔ Sp B z) {r : Nat} (hr : r ∈ A) : r ∈ B := by
  have pr := hA.pos r hr
  obtain ⟨b, hb, e⟩ := sp_top hB ((h r).mp (.mem hr)) (by omega)
  have z : r ^^^ b = 0 := by
    refine sp_null hA ((Sp.mem hr).xor ((h b).mpr (.mem hb))) fun a ha => ?_
    rw [Nat.testBit_xor]
    by_cases q : r = a
    · subst q
      rw [top_bit pr, ← e, top_bit (hB.pos b hb)]
      rfl
    · have ra := (rl_of hA hr ha q).1
      rw [ra]
      obtain ⟨c, hc, ec⟩ := sp_top hB ((h a).mp (.mem ha)) (by have := hA.pos a ha; omega)
      have nbc : b ≠ c := fun z => by
        have t1 : top r = top a := by rw [← e, z, ec]
        rw [← t1, top_bit pr] at ra
        cases ra
      rw [← ec, (rl_of hB hb hc nbc).1]
      rfl
  have : r = b := by
    have := congrArg (· ^^^ b) z
    simp only [Nat.zero_xor] at this
    rwa [xx] at this
  rw [this]
  exact hb
theorem rr_nd {A : List Nat} (h : RR A) : A.Nodup := List.nodup_iff_pairwise_ne.mpr (List.Pairwise.of_map top (fun a b n z => n (by rw [z])) (List.nodup_iff_pairwise_ne.mp (tops_nd h)))
theorem bas_uniq {xs ys : List Nat} (h : ∀ z, Sp xs z ↔ Sp ys z) : basF xs = basF ys := by
  unfold basF
  have hA := bas_rr xs
  have hB := bas_rr ys
  have hs : ∀ z, Sp (basR xs) z ↔ Sp (basR ys) z := fun z => by rw [bas_sp, bas_sp, h]
  refine srt_eq ((List.perm_ext_iff_of_nodup (rr_nd hA) (rr_nd hB)).mpr fun r => ⟨rr_sub hA hB hs, rr_sub hB hA fun z => (hs z).symm⟩)
theorem bas_bas (xs : List Nat) : basF (basF xs) = basF xs := bas_uniq fun z => bas_sp' xs z
/-- the checks' own checks are the basis -/
theorem dual (w : Nat) (xs : List Nat) (hb : ∀ y ∈ xs, y < 2 ^ w) : basF (evens w xs) = evens w xs ∧ evens w (evens w xs) = basF xs := by
  have e1 : basF (evens w xs) = evens w xs := bas_bas _
  refine ⟨e1, ?_⟩
  show basF (rawF w (basF (evens w xs))) = basF xs
  rw [e1]
  refine bas_uniq fun z => ?_
  have R : RR (evens w xs) := bas_rr' _
  have lt := ev_lt w xs hb
  constructor
  · intro h
    have zl : z < 2 ^ w := sp_lt (raw_mem_lt R lt) h
    have q := (ann R lt zl).mpr h
    refine (mem_lsF xs z).mp ((key w z xs hb zl).mp ((mkzero z _ 0).mpr fun c hc => ?_))
    rw [ev_comm]
    exact q c hc
  · intro h
    have zl : z < 2 ^ w := sp_lt hb h
    refine (ann R lt zl).mp fun c hc => ?_
    rw [ev_comm]
    exact (mkzero z _ 0).mp ((key w z xs hb zl).mpr ((mem_lsF xs z).mpr h)) c hc
theorem count_both (w : Nat) (xs : List Nat) (hb : ∀ y ∈ xs, y < 2 ^ w) : (basF xs).length + (evens w xs).length = w := by
  have e2 := bas_count (bas_rr' xs) w
  have e3 := raw_count (bas_rr' xs) (bas_lt xs w hb)
  unfold evens
  omega
/-! weights of sums -/
theorem wt_xor : ∀ (k a b : Nat), a < 2 ^ k → b < 2 ^ k → wtF (a ^^^ b) ≤ wtF a + wtF b
  | 0, a, b, h1, h2 => by
    have : a = 0 := by simpa using h1
    have : b = 0 := by simpa using h2
    subst a b
    simp [wtF]
  | k + 1, a, b, h1, h2 => by
    have ih := wt_xor k (a / 2) (b / 2) (by rw [Nat.pow_succ] at h1; omega) (by rw [Nat.pow_succ] at h2; omega)
    have e1 : (a ^^^ b) / 2 = a / 2 ^^^ b / 2 := by
      apply Nat.eq_of_testBit_eq
      intro j
      rw [← Nat.testBit_succ, Nat.testBit_xor, Nat.testBit_xor, Nat.testBit_succ, Nat.testBit_succ]
    have e2 : (a ^^^ b) % 2 ≤ a % 2 + b % 2 := by
      have z : (a ^^^ b).testBit 0 = (a.testBit 0 != b.testBit 0) := Nat.testBit_xor ..
      rw [Nat.testBit_zero, Nat.testBit_zero, Nat.testBit_zero] at z
      have h1 : a % 2 = 0 ∨ a % 2 = 1 := by omega
      have h2 : b % 2 = 0 ∨ b % 2 = 1 := by omega
      have h3 : (a ^^^ b) % 2 = 0 ∨ (a ^^^ b) % 2 = 1 := by omega
      rcases h1 with h1 | h1 <;> rcases h2 with h2 | h2 <;> rcases h3 with h3 | h3 <;> rw [h1, h2, h3] at z <;> simp at z <;> omega
    rw [wt_eq (a ^^^ b), wt_eq a, wt_eq b, e1]
    omega
theorem lw_xor (a b : Nat) (h1 : a < 4294967296) (h2 : b < 4294967296) : lw (a ^^^ b) ≤ lw a + lw b := by
  have h := wt_xor 32 a b h1 h2
  rw [wt_lw _ (Nat.xor_lt_two_pow (n := 32) h1 h2), wt_lw a h1, wt_lw b h2] at h
  omega
theorem wt_pos : ∀ (n : Nat), 0 ≤ wtF n ∧ (wtF n = 0 → n = 0) := by
  intro n
  induction n using Nat.strongRecOn with
  | _ n ih =>
    by_cases h : n = 0
    · subst h
      exact ⟨by simp [wtF], fun _ => rfl⟩
    · obtain ⟨i1, i2⟩ := ih (n / 2) (by omega)
      rw [wt_eq n]
      refine ⟨by omega, fun z => ?_⟩
      have : n / 2 = 0 := i2 (by omega)
      omega
theorem lw_pos {n : Nat} (h : n < 4294967296) (hz : lw n = 0) : n = 0 := (wt_pos n).2 (by rw [wt_lw n h, hz]; rfl)
theorem lw_pow (p : Nat) (hp : p < 32) : lw (2 ^ p) = 1 := by
  have := lw_add p 0 (Nat.two_pow_pos p)
  rw [Nat.zero_add] at this
  have l : 2 ^ p < 2 ^ 32 := Nat.pow_lt_pow_right (by decide) hp
  rw [wt_lw _ l] at this
  have z : wtF 0 = 0 := by simp [wtF]
  rw [z] at this
  omega
/-! counts -/
def sumV (kv : KV) : Int := (kv.map Prod.snd).sum
theorem sumV_map (w c : Int) : ∀ {kv : KV} {c0 : Int}, (kv.map Prod.fst).Nodup → look kv w = some c0 → sumV (kv.map fun p => if p.1 = w then (p.1, c) else p) = sumV kv - c0 + c
  | [], c0, _, h => by cases h
  | p :: kv, c0, nd, h => by
    have nd := List.nodup_cons.mp nd
    have h : (if p.1 = w then some p.2 else look kv w) = some c0 := h
    show ((if p.1 = w then (p.1, c) else p).2 :: ((kv.map fun p => if p.1 = w then (p.1, c) else p).map Prod.snd)).sum = (p.2 :: kv.map Prod.snd).sum - c0 + c
    rw [List.sum_cons, List.sum_cons]
    by_cases e : p.1 = w
    · rw [if_pos e] at h ⊢
      cases h
      have same : (kv.map fun p => if p.1 = w then (p.1, c) else p) = kv := by
        have : (kv.map fun p => if p.1 = w then (p.1, c) else p) = kv.map id := List.map_congr_left fun q hq => by
          show (if q.1 = w then (q.1, c) else q) = q
          rw [if_neg fun z => nd.1 (List.mem_map.mpr ⟨q, hq, z.trans e.symm⟩)]
        rw [this, List.map_id]
      rw [same]
      show c + _ = _
      omega
    · rw [if_neg e] at h ⊢
      have ih := sumV_map w c nd.2 h
      unfold sumV at ih
      rw [ih]
      omega
theorem look_any : ∀ (kv : KV) (w : Int), (kv.any fun p => decide (p.1 = w)) = (look kv w).isSome
  | [], _ => rfl
  | p :: kv, w => by
    rw [List.any_cons, look_any kv w]
    show _ = (if p.1 = w then some p.2 else look kv w).isSome
    by_cases h : p.1 = w
    · rw [if_pos h, decide_eq_true h]
      rfl
    · rw [if_neg h, decide_eq_false h]
      rfl
theorem sumV_bump {kv : KV} (nd : (kv.map Prod.fst).Nodup) (w : Int) : sumV (bump kv w) = sumV kv + 1 := by
  unfold bump putI
  rw [look_any]
  cases h : look kv w with
  | none =>
    rw [if_neg (by decide)]
    unfold sumV
    rw [List.map_append, List.sum_append]
    rfl
  | some c0 =>
    rw [if_pos (show (some c0).isSome = true from rfl), sumV_map w _ nd h]
    show sumV kv - c0 + (c0 + 1) = _
    omega
theorem sumV_cnt (ws : List Int) : sumV (cntF ws) = ws.length := by
  have go : ∀ (ws : List Int) (kv : KV), (kv.map Prod.fst).Nodup → sumV (ws.foldl bump kv) = sumV kv + ws.length := by
    intro ws
    induction ws with
    | nil => intro kv _; simp
    | cons w ws ih =>
      intro kv nd
      rw [List.foldl_cons, ih (bump kv w) (show ((bump kv w).map Prod.fst).Nodup from put_nd nd _ _), sumV_bump nd, List.length_cons]
      push_cast
      omega
  have := go ws [] (by simp)
  rw [show sumV [] = 0 from rfl] at this
  unfold cntF
  omega
theorem keys_grow : ∀ (ws : List Int) (kv : KV), ∃ t, (ws.foldl bump kv).map Prod.fst = kv.map Prod.fst ++ t
  | [], kv => ⟨[], by simp⟩
  | w :: ws, kv => by
    obtain ⟨t, e⟩ := keys_grow ws (bump kv w)
    have f := put_fst kv w ((look kv w).getD 0 + 1)
    rw [List.foldl_cons, e]
    unfold bump
    rw [f]
    split
    · exact ⟨t, rfl⟩
    · exact ⟨[w] ++ t, by rw [List.append_assoc]⟩
theorem keys_two (l : Int) (rest : List Int) (h : l ≠ 0) : ((cntF (0 :: l :: rest)).map Prod.fst).take 2 = [0, l] := by
  obtain ⟨t, e⟩ := keys_grow rest (bump (bump [] 0) l)
  have e0 : (bump (bump [] 0) l).map Prod.fst = [0, l] := by
    have h0 : bump [] 0 = [(0, 1)] := rfl
    rw [h0]
    unfold bump
    rw [put_fst]
    have : ([((0 : Int), (1 : Int))].any fun p => decide (p.1 = l)) = false := by
      simp
      omega
    rw [this, if_neg (by decide)]
    rfl
  show ((rest.foldl bump (bump (bump [] 0) l)).map Prod.fst).take 2 = _
  rw [e, e0]
  rfl
theorem PP_nd {xs : List Nat} (nd : xs.Nodup) : (PP xs).Nodup := by
  unfold PP
  rw [(sortP_perm _).nodup_iff]
  refine List.nodup_iff_pairwise_ne.mpr (List.pairwise_map.mpr ((List.nodup_iff_pairwise_ne.mp nd).imp fun {a b} n h => n ?_))
  have := congrArg Prod.snd h
  unfold prI at this
  simp only at this
  omega
theorem PP_two {xs : List Nat} (nd : xs.Nodup) (h0 : 0 ∈ xs) {v : Nat} (h : (PP xs)[1]? = some (prI v)) : v ≠ 0 ∧ ∃ rest, (PP xs).map Prod.fst = 0 :: (lw v : Int) :: rest := by
  have f := PP_first h0
  have n := PP_nd nd
  generalize PP xs = L at *
  cases L with
  | nil => cases f
  | cons p L =>
    cases L with
    | nil => cases h
    | cons q L =>
      have e1 : p = prI 0 := Option.some.inj f
      have e2 : q = prI v := Option.some.inj h
      subst e1 e2
      refine ⟨fun z => ?_, L.map Prod.fst, ?_⟩
      · subst z
        exact (List.nodup_cons.mp n).1 List.mem_cons_self
      · show ((lw 0 : Nat) : Int) :: ((lw v : Nat) : Int) :: _ = _
        rw [lw_zero]
        rfl
end Fin

set_option maxRecDepth 100000
set_option maxHeartbeats 4000000
namespace Fin
open Mv Mir Ev
open PySem (sizeLine sizeLine_eq)
open L2 (atI ixN)
noncomputable abbrev tnB : SM := (sSeq (sSet 4 (eBin gMod (eFn 2 m__law_mixed (aCons (eVar 1) (aCons (eBin gAdd (eC (.int 80)) (eVar 3)) aNil))) (eCal gLen (aCons (eVar 2) aNil)))) (sIf (tVal (eBin (gEq true) (eVar 4) (eVar 3))) (sSub 2 (eVar 3) (eBin gXor (eBin gIx (eVar 2) (eVar 3)) (eBin gIx (eVar 2) (eVar 4)))) sNil))
theorem intsOf_nI (a : List Nat) : intsOf (nI a) = some (a.map fun (b : Nat) => (b : Int)) := by
  rw [nI_eq, intsOf_m]
theorem eqV_ok (a b : List Nat) (kv : KV) (nd : (kv.map Prod.fst).Nodup) (f f' : Fl) : gEqV (.lst [.lst (nI a), .lst (nI b), kvD kv], f) (.lst [.lst (nI a), .lst (nI b), kvD kv], f') = some (.bl true, .c) := by
  have e : ∀ c, elEq (.lst (nI c)) (.lst (nI c)) = true := fun c => by
    show (match intsOf (nI c), intsOf (nI c) with
      | some is, some js => decide (is = js)
      | _, _ => false) = true
    rw [intsOf_nI]
    exact decide_eq_true rfl
  have e2 : elEq (kvD kv) (kvD kv) = true := by
    show (decide ((keysK kv).length = (keysK kv).length) && alikeD (keysK kv) (valsK kv) (keysK kv) (valsK kv)) = true
    rw [alike_ok (look_mem nd), decide_eq_true rfl]
    rfl
  show (if (elEq (.lst (nI a)) (.lst (nI a)) && (elEq (.lst (nI b)) (.lst (nI b)) && (elEq (kvD kv) (kvD kv) && true))) = true then some (D.bl true, Fl.c) else none) = _
  rw [e, e, e2]
  rfl
theorem s_same (i j w : Nat) (xs ys : List Nat) (d d' : D) (S : Store) (hS : S[i]? = some (0, spanE w xs d)) (hS' : S[j]? = some (0, spanE w ys d')) (hl : xs.length ≤ 12) (hl' : ys.length ≤ 12) (hb : basF ys = basF xs) : m__law_same [(.c, .ins i), (.c, .ins j)] S = .ok (.bl true, .c) S := by
  have b1 := s_bas i w xs .c S hS
  have b2 := s_bas j w ys .c S hS'
  have c1 := s_chks2 i w xs d .c S hS
  have c2 := s_chks2 j w ys d' .c S hS'
  have w1 := s_weights i w xs .c S hS hl
  have w2 := s_weights j w ys .c S hS' hl'
  have he : evens w ys = evens w xs := by
    show basF (rawF w (basF ys)) = basF (rawF w (basF xs))
    rw [hb]
  rw [hb] at b2 w2
  rw [he] at c2
  have ev := eqV_ok (basF xs) (evens w xs) (cntF (sortI ((srt (sumF (basF xs))).map wtF))) (cnt_nd _) .n .n
  unfold spanE at hS hS'
  rw [hb, he] at hS'
  generalize kvD (cntF (sortI ((srt (sumF (basF xs))).map wtF))) = K at *
  generalize nI (evens w xs) = E at *
  generalize nI (basF xs) = RB at *
  have tb : tab_basis 0 = some m_Span_basis := rfl
  have td : ∀ k, okst .n k = true := fun _ => rfl
  simp [m__law_same, b__law_same, hS, hS', tb, tabC, tabWe, b1, b2, c1, c2, w1, w2, ev, sizeLine_eq]
theorem sp_set {ys : List Nat} {k o : Nat} {a b : Nat} (hk : ys[k]? = some a) (ho : ys[o]? = some b) (n : o ≠ k) (z : Nat) : Sp (ys.set k (a ^^^ b)) z ↔ Sp ys z := by
  have lk := (List.getElem?_eq_some_iff.mp hk).1
  have o' : (ys.set k (a ^^^ b))[o]? = some b := by rw [List.getElem?_set_ne (fun z => n z.symm)]; exact ho
  have k' : (ys.set k (a ^^^ b))[k]? = some (a ^^^ b) := List.getElem?_set_self lk
  refine Sp.iff (fun x hx => ?_) (fun x hx => ?_) z
  · obtain ⟨j, hj⟩ := List.getElem?_of_mem hx
    by_cases e : k = j
    · subst e
      rw [k'] at hj
      cases hj
      exact (Sp.mem (List.mem_of_getElem? hk)).xor (.mem (List.mem_of_getElem? ho))
    · rw [List.getElem?_set_ne e] at hj
      exact .mem (List.mem_of_getElem? hj)
  · obtain ⟨j, hj⟩ := List.getElem?_of_mem hx
    by_cases e : k = j
    · subst e
      rw [hk] at hj
      cases hj
      have := (Sp.mem (List.mem_of_getElem? k')).xor (Sp.mem (List.mem_of_getElem? o'))
      rwa [xx] at this
    · refine .mem (List.mem_of_getElem? (i := j) ?_)
      rw [List.getElem?_set_ne e]
      exact hj
theorem tn_step (n k : Nat) (ys : List Nat) (a0 x4 : Slot) (S : Store) (hk : k < ys.length) (hl : ys.length ≤ 12) : ∃ zs y4, zs.length = ys.length ∧ (∀ z, Sp zs z ↔ Sp ys z) ∧ tnB [a0, .ar .c (.int (n : Nat)), .own (.lst (nI ys)), .ar .c (.int (k : Nat)), x4] S = .nx [a0, .ar .c (.int (n : Nat)), .own (.lst (nI zs)), .ar .c (.int (k : Nat)), y4] S := by
  have m1 := s_mixed n (80 + (k : Int)) .c .c S (by omega)
  have m0 := mix_nn n (80 + (k : Int))
  generalize mixF n (80 + (k : Int)) = u at m1 m0
  obtain ⟨m, rfl⟩ := Int.eq_ofNat_of_zero_le m0
  have nl := nI_len ys
  have jl := fun v => mod_i v ((nI ys).length : Int) .c .c (by omega)
  have ei : (m : Int) % ((nI ys).length : Int) = ((m % ys.length : Nat) : Int) := by rw [nl]; push_cast; rfl
  have ho : m % ys.length < ys.length := Nat.mod_lt _ (by omega)
  have ln : (nI ys).length ≤ 16777216 := by omega
  generalize m % ys.length = o at *
  have at1 := nI_at ys k hk
  have at2 := nI_at ys o ho
  have xg := xor_g ys[k] ys[o] .c .c
  have gk : ys[k]? = some ys[k] := List.getElem?_eq_getElem hk
  have go : ys[o]? = some ys[o] := List.getElem?_eq_getElem ho
  by_cases h : o = k
  · subst h
    refine ⟨ys, .ar .c (.int (o : Nat)), rfl, fun _ => Iff.rfl, ?_⟩
    generalize nI ys = Y at *
    simp [tnB, m1, jl, ei, ln, sizeLine_eq, -int_ap]
  · have ss := fun z => sp_set gk go h z
    refine ⟨ys.set k (ys[k] ^^^ ys[o]), .ar .c (.int (o : Nat)), List.length_set, ss, ?_⟩
    have es : nI (ys.set k (ys[k] ^^^ ys[o])) = (nI ys).set k (.int ((ys[k] ^^^ ys[o] : Nat) : Int)) := by
      unfold nI
      rw [List.map_set]
    rw [es]
    have ix : ixN (nI ys).length (k : Int) = some k := by
      unfold ixN
      rw [if_pos (by omega), if_pos (by rw [nI_len]; omega), Int.toNat_natCast]
    have hi : ¬ (o : Int) = (k : Int) := by omega
    generalize ys[k] ^^^ ys[o] = v at *
    generalize ys[k] = v1 at *
    generalize ys[o] = v2 at *
    generalize nI ys = Y at *
    simp [tnB, m1, jl, ei, ln, hi, h, at1, at2, xg, ix, sizeLine_eq, -int_ap]
theorem s_turned (n : Nat) (xs : List Nat) (S : Store) (hl : 1 ≤ xs.length ∧ xs.length ≤ 12) : ∃ ys, ys.length = xs.length ∧ (∀ z, Sp ys z ↔ Sp xs z) ∧ m__law_turned [(.c, .lst (nI xs)), (.c, .int (n : Nat))] S = .ok (.lst (nI ys), .n) S := by
  obtain ⟨r2, S2, e, hS, ys, x3, x4, hlen, hsp, rfl⟩ := for_inv (P := fun k r S' => S' = S ∧ ∃ ys x3 x4, ys.length = xs.length ∧ (∀ z, Sp ys z ↔ Sp xs z) ∧ r = [.ar .c (.lst (nI xs)), .ar .c (.int (n : Nat)), .own (.lst (nI ys)), x3, x4]) (g := gN 3) (p := tnB) (rangeD 0 1 xs.length) 0 [.ar .c (.lst (nI xs)), .ar .c (.int (n : Nat)), .own (.lst (nI xs.reverse)), .no, .no] S ⟨rfl, xs.reverse, .no, .no, List.length_reverse, sp_perm (List.reverse_perm xs), rfl⟩ (fun k d r S' hd ⟨e1, ys, x3, x4, hlen, hsp, e2⟩ => by
    subst e1 e2
    have hj : k < xs.length := by
      have := (List.getElem?_eq_some_iff.mp hd).1
      rwa [rangeD_len] at this
    rw [rangeD_get hj] at hd
    have hd := (Option.some.inj hd).symm
    subst hd
    have e0 : ((0 : Int) + (k : Nat) * 1) = (k : Nat) := by omega
    rw [e0]
    obtain ⟨zs, y4, z1, z2, q⟩ := tn_step n k ys (.ar .c (.lst (nI xs))) x4 S' (by omega) (by omega)
    exact ⟨_, rfl, _, _, q, rfl, zs, _, _, by omega, fun z => (z2 z).trans (hsp z), rfl⟩)
  rw [hS] at e
  refine ⟨ys, hlen, hsp, ?_⟩
  have er : nI xs.reverse = (nI xs).reverse := by
    unfold nI
    rw [List.map_reverse]
  rw [er] at e
  have rn := rng1_ap (f := .c) (xs.length : Int) (inR_of _ (by omega))
  rw [Int.toNat_natCast] at rn
  have nl := nI_len xs
  have lr : ((nI xs).reverse).length = xs.length := by rw [List.length_reverse, nl]
  have sr : eRevL (eVar 0) [.ar .c (.lst (nI xs)), .ar .c (.int (n : Nat)), .no, .no, .no] S = .ok (.lst (nI xs).reverse, .n) S := rfl
  generalize nI ys = Y at *
  generalize nI xs = X at *
  have hx : xs.length ≤ 16777216 := by omega
  have nl' : X.length = xs.length := nl
  unfold tnB at e
  simp only [m__law_turned, b__law_turned, fnM_ap]
  simp [sr, nl', hx, rn, e, sizeLine_eq, -rng1_ap]
theorem s_duals (i w : Nat) (xs : List Nat) (d : D) (S : Store) (hS : S[i]? = some (0, spanE w xs d)) (hw : 1 ≤ w ∧ w ≤ 24) (hE : (evens w xs).length ≤ 12) (hb : ∀ y ∈ xs, y < 2 ^ w) : ∃ S2 : Store, (∀ (k : Nat) (v : Nat × List D), S[k]? = some v → S2[k]? = some v) ∧ m__law_duals_good [(.c, .ins i), (.c, .int (w : Nat))] S = .ok (.bl true, .c) S2 := by
  have b1 := s_bas i w xs .c S hS
  have c1 := s_chks2 i w xs d .c S hS
  have cb := count_both w xs hb
  have nl1 := nI_len (basF xs)
  have nl2 := nI_len (evens w xs)
  have tb : tab_basis 0 = some m_Span_basis := rfl
  have e1 := eq_nI (evens w xs) []
  have l1 : (nI (basF xs)).length ≤ 16777216 := by omega
  have l2 : (nI (evens w xs)).length ≤ 16777216 := by omega
  by_cases hz : evens w xs = []
  · refine ⟨S, fun _ _ h => h, ?_⟩
    rw [decide_eq_true hz] at e1
    have lb : ((nI (basF xs)).length : Int) = (w : Int) := by
      rw [nl1]
      rw [hz] at cb
      simp at cb
      omega
    unfold spanE at hS
    have e1' : eqO (.lst (nI (evens w xs))) (.lst []) = some true := e1
    generalize nI (evens w xs) = E at *
    generalize nI (basF xs) = RB at *
    simp [m__law_duals_good, b__law_duals_good, hS, tb, tabC, b1, c1, e1', lb, l1, sizeLine_eq]
  · rw [decide_eq_false hz] at e1
    have e1' : eqO (.lst (nI (evens w xs))) (.lst []) = some false := e1
    have lp : 1 ≤ (evens w xs).length := List.length_pos_iff.mpr hz
    have hS0 : (S ++ [(0, ([] : List D))])[S.length]? = some (0, []) := by simp
    have hlt : S.length < (S ++ [(0, ([] : List D))]).length := by simp
    have ini := s_init S.length w (evens w xs) .c .c .c (S ++ [(0, [])]) hS0 hw ⟨lp, hE⟩ rfl (ev_lt w xs hb)
    have hS1 : ((S ++ [(0, ([] : List D))]).set S.length (0, spanD w (evens w xs)))[S.length]? = some (0, spanE w (evens w xs) .non) := List.getElem?_set_self hlt
    have b2 := s_bas S.length w (evens w xs) .c _ hS1
    have c2 := s_chks2 S.length w (evens w xs) .non .c _ hS1
    obtain ⟨q1, q2⟩ := dual w xs hb
    rw [q1] at b2
    rw [q2] at c2
    have q3 := eq_nI (evens w xs) (evens w xs)
    rw [decide_eq_true rfl] at q3
    have q4 := eq_nI (basF xs) (basF xs)
    rw [decide_eq_true rfl] at q4
    have sum : ((nI (basF xs)).length : Int) + ((nI (evens w xs)).length : Int) = (w : Int) := by omega
    refine ⟨(S ++ [(0, ([] : List D))]).set S.length (0, spanD w (evens w xs)), fun k v h => ?_, ?_⟩
    · have hk := (List.getElem?_eq_some_iff.mp h).1
      rw [List.getElem?_set_ne (by omega), List.getElem?_append_left hk]
      exact h
    · generalize (S ++ [(0, ([] : List D))]).set S.length (0, spanD w (evens w xs)) = S1 at *
      unfold spanE at hS hS1
      generalize nI (basF (evens w xs)) = Z1 at *
      generalize nI (evens w (evens w xs)) = Z2 at *
      generalize nI (evens w xs) = E at *
      generalize nI (basF xs) = RB at *
      simp [m__law_duals_good, b__law_duals_good, hS, tb, tabC, b1, c1, e1', l1, l2, sum, ini, hS1, b2, c2, q3, q4, sizeLine_eq]
end Fin

set_option maxRecDepth 100000
set_option maxHeartbeats 4000000
namespace Fin
open Mv Mir Ev
open PySem (sizeLine sizeLine_eq)
open L2 (atI ixN)
theorem lead_zero (w : Nat) (xs : List Nat) : IsLead w xs 0 0 := by
  refine ⟨Nat.two_pow_pos w, mkS_zero 0 _ fun c _ => by rw [ev_comm, ev_zero], fun y _ _ => ?_⟩
  unfold prI
  rw [lw_zero]
  refine leP_iff.mpr ?_
  dsimp only
  omega
theorem mk_word (w : Nat) (xs : List Nat) (hb : ∀ y ∈ xs, y < 2 ^ w) {x : Nat} (h : x ∈ lsF xs) : MK w xs x = 0 := by
  have hx := sp_lt hb ((mem_lsF xs x).mp h)
  have := (key w x xs hb hx).mpr h
  rwa [mk_eq] at this
theorem s_sumsgood (i w n : Nat) (xs : List Nat) (S : Store) (hS : SOk i w xs S) (hw : 1 ≤ w ∧ w ≤ 24) (hl : xs.length ≤ 12) (hE : (evens w xs).length ≤ 12) (hb : ∀ y ∈ xs, y < 2 ^ w) : ∃ S2, SOk i w xs S2 ∧ m__law_sums_good [(.c, .ins i), (.c, .int (w : Nat)), (.c, .int (n : Nat))] S = .ok (.bl true, .c) S2 := by
  obtain ⟨d, hd, hS0⟩ := id hS
  have p24 : 2 ^ w ≤ 16777216 := Nat.le_trans (Nat.pow_le_pow_right (by decide) hw.2) (by decide)
  have wd := s_words i w xs .c S hS0 (by omega)
  rw [words_eq] at wd
  have wl : (srt (lsF xs)).length ≤ 4096 := by
    rw [(srt_perm _).length_eq]
    exact Nat.le_trans (lsF_len xs) (Nat.le_trans (Nat.pow_le_pow_right (by decide) hl) (by decide))
  have z : 0 ∈ srt (lsF xs) := (srt_perm _).mem_iff.mpr ((mem_lsF xs 0).mpr .zero)
  have wm : ∀ x ∈ srt (lsF xs), x ∈ lsF xs := fun x h => (srt_perm _).mem_iff.mp h
  generalize srt (lsF xs) = W at *
  have sh := sh1 w (by omega) .c
  have jw := fun v => mod_i v ((2 ^ w : Nat) : Int) .c .c (by have := Nat.two_pow_pos w; omega)
  -- two numbers
  have pk : ∀ j : Nat, j < 2 → ∃ v, v < 2 ^ w ∧ eBin gMod (eFn 2 m__law_mixed (aCons (eVar 2) (aCons (eBin gAdd (eC (.int 40)) (eVar 8)) aNil))) (eBin gShl (eC (.int 1)) (eVar 1)) [.ar .c (.ins i), .ar .c (.int (w : Nat)), .ar .c (.int (n : Nat)), .ar .c (.lst (nI W)), .no, .no, .no, .no, .ar .c (.int ((0 : Int) + (j : Nat)))] S = .ok (.int (v : Nat), .c) S := fun j hj => by
    have m1 := s_mixed n (40 + ((0 : Int) + (j : Nat))) .c .c S (by omega)
    have m0 := mix_nn n (40 + ((0 : Int) + (j : Nat)))
    generalize (0 : Int) + (j : Nat) = jj at *
    generalize mixF n (40 + jj) = u at m1 m0
    obtain ⟨m, rfl⟩ := Int.eq_ofNat_of_zero_le m0
    have ei : (m : Int) % ((2 ^ w : Nat) : Int) = ((m % 2 ^ w : Nat) : Int) := by push_cast; rfl
    refine ⟨m % 2 ^ w, Nat.mod_lt _ (Nat.two_pow_pos w), ?_⟩
    generalize m % 2 ^ w = v1 at *
    generalize 2 ^ w = P at *
    generalize nI W = L at *
    simp [m1, jw, ei, sh, -int_ap]
  have ch : ∃ h : Nat → Nat, ∀ j < 2, h j < 2 ^ w ∧ eBin gMod (eFn 2 m__law_mixed (aCons (eVar 2) (aCons (eBin gAdd (eC (.int 40)) (eVar 8)) aNil))) (eBin gShl (eC (.int 1)) (eVar 1)) [.ar .c (.ins i), .ar .c (.int (w : Nat)), .ar .c (.int (n : Nat)), .ar .c (.lst (nI W)), .no, .no, .no, .no, .ar .c (.int ((0 : Int) + (j : Nat)))] S = .ok (.int ((h j : Nat) : Int), .c) S := by
    obtain ⟨v0, h0⟩ := pk 0 (by omega)
    obtain ⟨v1, h1⟩ := pk 1 (by omega)
    refine ⟨fun j => if j = 0 then v0 else v1, fun j hj => ?_⟩
    have : j = 0 ∨ j = 1 := by omega
    rcases this with rfl | rfl
    · exact h0
    · exact h1
  obtain ⟨h, hh⟩ := ch
  have c := comp_rng [.ar .c (.ins i), .ar .c (.int (w : Nat)), .ar .c (.int (n : Nat)), .ar .c (.lst (nI W)), .no, .no, .no, .no, .no] S (gN 8) tYesM (eBin gMod (eFn 2 m__law_mixed (aCons (eVar 2) (aCons (eBin gAdd (eC (.int 40)) (eVar 8)) aNil))) (eBin gShl (eC (.int 1)) (eVar 1))) (fun j => .int ((h j : Nat) : Int)) 0 2 fun j hj => ⟨_, rfl, rfl, .c, (hh j hj).2, rfl⟩
  have c2 := kcp_ap [.ar .c (.ins i), .ar .c (.int (w : Nat)), .ar .c (.int (n : Nat)), .ar .c (.lst (nI W)), .no, .no, .no, .no, .no] S [8] (gN 8) tYesM _ (rangeD 0 1 2) _ S (by rw [rangeD_len]; decide) c
  have e2 : (List.range 2).map (fun j => D.int ((h j : Nat) : Int)) = [.int ((h 0 : Nat) : Int), .int ((h 1 : Nat) : Int)] := rfl
  rw [e2] at c2
  have b0 := (hh 0 (by omega)).1
  have b1 := (hh 1 (by omega)).1
  generalize h 0 = one at *
  generalize h 1 = oth at *
  have r2' := rng1_ap (f := .c) 2 (by decide)
  have gl : ∀ r : Env, gL 2 (gsC (gN 4) (gsC (gN 5) gsN)) (.lst [.int (one : Nat), .int (oth : Nat)]) r = some ((r.set 4 (.ar .c (.int (one : Nat)))).set 5 (.ar .c (.int (oth : Nat)))) := fun r => rfl
  -- a word
  have m1 := s_mixed n 42 .c .c S (by omega)
  have m0 := mix_nn n 42
  generalize mixF n 42 = u at m1 m0
  obtain ⟨m, rfl⟩ := Int.eq_ofNat_of_zero_le m0
  have lp : 0 < W.length := List.length_pos_of_mem z
  have hi : m % W.length < W.length := Nat.mod_lt _ lp
  have at1 := nI_at W _ hi
  have nl := nI_len W
  have jl := fun v => mod_i v ((nI W).length : Int) .c .c (by omega)
  have ei : (m : Int) % ((nI W).length : Int) = ((m % W.length : Nat) : Int) := by rw [nl]; push_cast; rfl
  have ln : (nI W).length ≤ 16777216 := by omega
  have hwd := wm _ (List.getElem_mem hi)
  generalize W[m % W.length] = word at *
  generalize m % W.length = i1 at *
  have bw : word < 2 ^ w := sp_lt hb ((mem_lsF xs word).mp hwd)
  have box : one ^^^ oth < 2 ^ w := Nat.xor_lt_two_pow b0 b1
  have bow : one ^^^ word < 2 ^ w := Nat.xor_lt_two_pow b0 bw
  -- marks
  have k1 := s_mark2 i w (one ^^^ oth) xs d .c .c S hS0 hw.2 box
  rw [show MK w xs (one ^^^ oth) = MK w xs one ^^^ MK w xs oth from mkS_xor one oth _] at k1
  have k2 := s_mark2 i w one xs d .c .c S hS0 hw.2 b0
  have k3 := s_mark2 i w oth xs d .c .c S hS0 hw.2 b1
  have k4 := s_mark2 i w word xs d .c .c S hS0 hw.2 bw
  have mw := mk_word w xs hb hwd
  rw [mw] at k4
  have k5 := s_mark2 i w (one ^^^ word) xs d .c .c S hS0 hw.2 bow
  have mow : MK w xs (one ^^^ word) = MK w xs one := by
    rw [show MK w xs (one ^^^ word) = MK w xs one ^^^ MK w xs word from mkS_xor one word _, mw, Nat.xor_zero]
  rw [mow] at k5
  have hs := s_has i w one xs .c .c S hS0 hw.2 hb b0
  have hk : decide (one ∈ lsF xs) = decide (((MK w xs one : Nat) : Int) = 0) := by
    have ky := key w one xs hb b0
    rw [mk_eq] at ky
    by_cases q : one ∈ lsF xs
    · rw [decide_eq_true q, decide_eq_true (by have : MK w xs one = 0 := ky.mpr q; omega)]
    · rw [decide_eq_false q]
      exact (decide_eq_false (show ¬ ((MK w xs one : Nat) : Int) = 0 from fun z => q (ky.mp (Int.ofNat.inj z)))).symm
  rw [hk] at hs
  -- nearest ones
  obtain ⟨kv1, lead, G1, L1, ne1⟩ := s_near i w one xs d .c .c S hS0 hd hw hE hb b0
  have hS1 := sok_set hS G1
  generalize S.set i (0, spanE w xs (kvP kv1)) = S1 at *
  have nb : one ^^^ lead < 2 ^ w := Nat.xor_lt_two_pow b0 L1.lt
  have nw : one ^^^ lead ∈ lsF xs := (mk_same w xs hb b0 L1.lt).mp L1.mark.symm
  have hs1 := s_has i w (one ^^^ lead) xs .c .c S1 hS1 hw.2 hb nb
  rw [decide_eq_true nw] at hs1
  have k6 := s_mark2 i w one xs (kvP kv1) .c .c S1 hS1 hw.2 b0
  obtain ⟨kv2, lead2, G2, L2, le2⟩ := s_leader i w (MK w xs one) xs (kvP kv1) .c .c S1 hS1 (.inr ⟨kv1, G1, rfl⟩) hw hE hb (mkS_lt one _)
  obtain rfl := lead_one L1 L2
  have hS2 := sok_set (S := S1) ⟨_, .inr ⟨kv1, G1, rfl⟩, hS1⟩ G2
  generalize S1.set i (0, spanE w xs (kvP kv2)) = S2 at *
  obtain ⟨kv3, lead3, G3, L3, ne3⟩ := s_near i w (one ^^^ word) xs (kvP kv2) .c .c S2 hS2 (.inr ⟨kv2, G2, rfl⟩) hw hE hb bow
  rw [mow] at L3
  obtain rfl := lead_one L1 L3
  have hS3 := sok_set (S := S2) ⟨_, .inr ⟨kv2, G2, rfl⟩, hS2⟩ G3
  generalize S2.set i (0, spanE w xs (kvP kv3)) = S3 at *
  obtain ⟨kv4, lead4, G4, L4, ne4⟩ := s_near i w word xs (kvP kv3) .c .c S3 hS3 (.inr ⟨kv3, G3, rfl⟩) hw hE hb bw
  rw [mw] at L4
  obtain rfl := lead_one (lead_zero w xs) L4
  rw [Nat.xor_zero] at ne4
  have hS4 := sok_set (S := S3) ⟨_, .inr ⟨kv3, G3, rfl⟩, hS3⟩ G4
  generalize S3.set i (0, spanE w xs (kvP kv4)) = S4 at *
  have xa := xor_g one oth .c .c
  have xb := xor_g (MK w xs one) (MK w xs oth) .c .c
  have xc := xor_g one word .c .c
  have xd := xor_g (one ^^^ lead) lead .c .c
  rw [xx] at xd
  have xe := xor_g (one ^^^ lead) word .c .c
  have ec : (one ^^^ word) ^^^ lead = (one ^^^ lead) ^^^ word := by rw [Nat.xor_assoc, Nat.xor_comm word, ← Nat.xor_assoc]
  rw [ec] at ne3
  have xf := xor_g one (one ^^^ lead) .c .c
  rw [xxl] at xf
  have lw1 := s_lweight lead .c S4
  have lw2 := s_lweight (one ^^^ word) .c S4
  have le := leP_iff.mp (L1.le (one ^^^ word) bow mow)
  have lle : ((lw lead : Nat) : Int) ≤ ((lw (one ^^^ word) : Nat) : Int) := by
    unfold prI at le
    dsimp only at le
    omega
  have tabHa : tab_has 0 = some m_Span_has := rfl
  refine ⟨S4, ⟨_, .inr ⟨kv4, G4, rfl⟩, hS4⟩, ?_⟩
  generalize lw lead = l1 at *
  generalize lw (one ^^^ word) = l2 at *
  generalize MK w xs one ^^^ MK w xs oth = mm at *
  generalize MK w xs one = ma at *
  generalize MK w xs oth = mb at *
  generalize (one ^^^ lead) ^^^ word = nword at *
  generalize one ^^^ lead = near at *
  generalize one ^^^ oth = oo at *
  generalize one ^^^ word = ow at *
  generalize kvP kv1 = K1 at *
  generalize kvP kv2 = K2 at *
  generalize kvP kv3 = K3 at *
  generalize kvP kv4 = K4 at *
  unfold spanE at *
  generalize nI (evens w xs) = E at *
  generalize nI (basF xs) = RB at *
  generalize nI W = WW at *
  simp at k4
  simp [m__law_sums_good, b__law_sums_good, hS0, hS1, hS2, hS3, tabW, tabK, tabHa, tabNe, tabL, wd, r2', freeE, c2, gl, m1, jl, ei, at1, ln, xa, xb, xc, xd, xe, xf, k1, k2, k3, k4, k5, k6, hs, hs1, ne1, ne3, ne4, le2, lw1, lw2, le_i, lle, sizeLine_eq, -int_ap, -rng1_ap]
end Fin

set_option maxRecDepth 100000
set_option maxHeartbeats 4000000
namespace Fin
open Mv Mir Ev
open PySem (sizeLine sizeLine_eq)
open L2 (atI ixN)
noncomputable abbrev cbT : SM := (sSet 7 (eBin gXor (eVar 7) (eBin gShl (eC (.int 1)) (eBin gMod (eFn 2 m__law_mixed (aCons (eVar 2) (aCons (eBin gAdd (eBin gAdd (eC (.int 54)) (eBin gMul (eC (.int 9)) (eVar 5))) (eVar 8)) aNil))) (eVar 1)))))
noncomputable abbrev cbB : SM := (sSeq (sSet 6 (eBin gIx (eVar 3) (eBin gMod (eFn 2 m__law_mixed (aCons (eVar 2) (aCons (eBin gAdd (eC (.int 50)) (eVar 5)) aNil))) (eCal gLen (aCons (eVar 3) aNil)))))
    (sSeq (sSet 7 (eVar 6))
    (sSeq (sFor (iArgs gRng1 (aCons (eBin gDiv (eBin gSub (eVar 4) (eC (.int 1))) (eC (.int 2))) aNil)) (gN 8) cbT)
    (sIf (tVal (eBin (gEq true) (eMe 2 tab_nearest (eVar 0) (aCons (eVar 7) aNil)) (eVar 6))) (sRet (eC (.bl false))) sNil))))
theorem lw_le (x : Nat) : lw x ≤ 32 := by
  have : ∀ l : List Nat, (l.map fun p => x / 2 ^ p % 2).sum ≤ l.length := by
    intro l
    induction l with
    | nil => simp
    | cons p l ih => rw [List.map_cons, List.sum_cons, List.length_cons]; have : x / 2 ^ p % 2 < 2 := Nat.mod_lt _ (by decide); omega
  have := this (List.range 32)
  rwa [List.length_range] at this
theorem cb_turns (n w k t word : Nat) (a0 a3 a4 a6 a9 a10 x8 : Slot) (S : Store) (hw : 1 ≤ w ∧ w ≤ 24) (hk : k ≤ 4) (ht : t ≤ 32) : ∃ e y8, e < 2 ^ w ∧ lw e ≤ t ∧ forL (gN 8) cbT (rangeD 0 1 t) [a0, .ar .c (.int (w : Nat)), .ar .c (.int (n : Nat)), a3, a4, .ar .c (.int (k : Nat)), a6, .ar .c (.int (word : Nat)), x8, a9, a10] S = .nx [a0, .ar .c (.int (w : Nat)), .ar .c (.int (n : Nat)), a3, a4, .ar .c (.int (k : Nat)), a6, .ar .c (.int ((word ^^^ e : Nat) : Int)), y8, a9, a10] S := by
  obtain ⟨r2, S2, q, hS, e, y8, he, hl, rfl⟩ := for_inv (P := fun j r S' => S' = S ∧ ∃ e y8, e < 2 ^ w ∧ lw e ≤ j ∧ r = [a0, .ar .c (.int (w : Nat)), .ar .c (.int (n : Nat)), a3, a4, .ar .c (.int (k : Nat)), a6, .ar .c (.int ((word ^^^ e : Nat) : Int)), y8, a9, a10]) (g := gN 8) (p := cbT) (rangeD 0 1 t) 0 [a0, .ar .c (.int (w : Nat)), .ar .c (.int (n : Nat)), a3, a4, .ar .c (.int (k : Nat)), a6, .ar .c (.int (word : Nat)), x8, a9, a10] S ⟨rfl, 0, x8, Nat.two_pow_pos w, by rw [lw_zero]; omega, by rw [Nat.xor_zero]⟩ (fun j d r S' hd ⟨e1, e, y8, he, hl, e2⟩ => by
    subst e1 e2
    have hj : j < t := by
      have := (List.getElem?_eq_some_iff.mp hd).1
      rwa [rangeD_len] at this
    rw [rangeD_get hj] at hd
    have hd := (Option.some.inj hd).symm
    subst hd
    have e0 : ((0 : Int) + (j : Nat) * 1) = (j : Nat) := by omega
    rw [e0]
    have m1 := s_mixed n (54 + 9 * (k : Int) + (j : Int)) .c .c S' (by omega)
    have m0 := mix_nn n (54 + 9 * (k : Int) + (j : Int))
    generalize mixF n (54 + 9 * (k : Int) + (j : Int)) = u at m1 m0
    obtain ⟨m, rfl⟩ := Int.eq_ofNat_of_zero_le m0
    have jw := fun v => mod_i v (w : Int) .c .c (by omega)
    have ei : (m : Int) % (w : Int) = ((m % w : Nat) : Int) := by push_cast; rfl
    have hp : m % w < w := Nat.mod_lt _ (by omega)
    generalize m % w = p at *
    have sh := sh1 p (by omega) .c
    have xg := xor_g (word ^^^ e) (2 ^ p) .c .c
    have m9 : mulOk 9 (k : Int) = true := mulOk_l (by decide)
    have pb : 2 ^ p < 2 ^ w := Nat.pow_lt_pow_right (by decide) hp
    have w32 : 2 ^ w ≤ 4294967296 := Nat.le_trans (Nat.pow_le_pow_right (by decide) (show w ≤ 32 by omega)) (by decide)
    have lx := lw_xor e (2 ^ p) (by omega) (by omega)
    rw [lw_pow p (by omega)] at lx
    refine ⟨_, rfl, [a0, .ar .c (.int (w : Nat)), .ar .c (.int (n : Nat)), a3, a4, .ar .c (.int (k : Nat)), a6, .ar .c (.int ((word ^^^ (e ^^^ 2 ^ p) : Nat) : Int)), .ar .c (.int (j : Nat)), a9, a10], S', ?_, rfl, e ^^^ 2 ^ p, _, Nat.xor_lt_two_pow he pb, by omega, rfl⟩
    rw [← Nat.xor_assoc]
    generalize word ^^^ e = v1 at *
    generalize 2 ^ p = v2 at *
    generalize v1 ^^^ v2 = v3 at *
    simp [cbT, m9, m1, jw, ei, sh, xg, -int_ap])
  rw [hS] at q
  rw [rangeD_len, Nat.zero_add] at hl
  exact ⟨e, y8, he, hl, q⟩
end Fin

set_option maxRecDepth 100000
set_option maxHeartbeats 4000000
namespace Fin
open Mv Mir Ev
open PySem (sizeLine sizeLine_eq)
open L2 (atI ixN)
theorem zero_ls (xs : List Nat) : 0 ∈ lsF xs := (mem_lsF xs 0).mpr .zero
/-- bent back -/
theorem near_back {w : Nat} {xs : List Nat} (hw : w ≤ 24) (hb : ∀ y ∈ xs, y < 2 ^ w) {v : Nat} (h1 : (PP (lsF xs))[1]? = some (prI v)) {word e z : Nat} (hword : word ∈ lsF xs) (he : e < 2 ^ w) (hl : lw e ≤ (lw v - 1) / 2) (L : IsLead w xs (MK w xs (word ^^^ e)) z) (hv : 0 < lw v) : z = e := by
  have w32 : 2 ^ w ≤ 4294967296 := Nat.le_trans (Nat.pow_le_pow_right (by decide) (show w ≤ 32 by omega)) (by decide)
  have mw := mk_word w xs hb hword
  have me : MK w xs (word ^^^ e) = MK w xs e := by
    rw [show MK w xs (word ^^^ e) = MK w xs word ^^^ MK w xs e from mkS_xor word e _, mw, Nat.zero_xor]
  rw [me] at L
  have le := leP_iff.mp (L.le e he rfl)
  have lle : lw z ≤ lw e := by
    unfold prI at le
    dsimp only at le
    omega
  have mem : z ^^^ e ∈ lsF xs := (mk_same w xs hb L.lt he).mp L.mark
  have lx := lw_xor z e (by have := L.lt; omega) (by omega)
  by_cases q : z ^^^ e = 0
  · have := xx z e
    rw [q, Nat.zero_xor] at this
    exact this.symm
  · obtain ⟨v', _, g, l⟩ := PP_second (nd_lsF xs) (zero_ls xs) mem q
    rw [h1] at g
    have g := congrArg Prod.snd (Option.some.inj g)
    unfold prI at g
    dsimp only at g
    have : v = v' := by omega
    subst this
    omega
theorem cb_step (i w n k word0 : Nat) (xs : List Nat) (v : Nat) (S : Store) (hS : SOk i w xs S) (hw : 1 ≤ w ∧ w ≤ 24) (hl : xs.length ≤ 12) (hE : (evens w xs).length ≤ 12) (hb : ∀ y ∈ xs, y < 2 ^ w) (h1 : (PP (lsF xs))[1]? = some (prI v)) (hv : 0 < lw v) (hk : k ≤ 3) (x6 x7 x8 a9 a10 : Slot) : ∃ S2 y6 y7 y8, SOk i w xs S2 ∧ cbB [.ar .c (.ins i), .ar .c (.int (w : Nat)), .ar .c (.int (n : Nat)), .ar .c (.lst (nI (srt (lsF xs)))), .ar .c (.int (lw v : Nat)), .ar .c (.int (k : Nat)), x6, x7, x8, a9, a10] S = .nx [.ar .c (.ins i), .ar .c (.int (w : Nat)), .ar .c (.int (n : Nat)), .ar .c (.lst (nI (srt (lsF xs)))), .ar .c (.int (lw v : Nat)), .ar .c (.int (k : Nat)), y6, y7, y8, a9, a10] S2 := by
  obtain ⟨d, hd, hS0⟩ := id hS
  have wl : (srt (lsF xs)).length ≤ 4096 := by
    rw [(srt_perm _).length_eq]
    exact Nat.le_trans (lsF_len xs) (Nat.le_trans (Nat.pow_le_pow_right (by decide) hl) (by decide))
  have z : 0 ∈ srt (lsF xs) := (srt_perm _).mem_iff.mpr (zero_ls xs)
  have wm : ∀ x ∈ srt (lsF xs), x ∈ lsF xs := fun x h => (srt_perm _).mem_iff.mp h
  generalize srt (lsF xs) = W at *
  have m1 := s_mixed n (50 + (k : Int)) .c .c S (by omega)
  have m0 := mix_nn n (50 + (k : Int))
  generalize mixF n (50 + (k : Int)) = u at m1 m0
  obtain ⟨m, rfl⟩ := Int.eq_ofNat_of_zero_le m0
  have lp : 0 < W.length := List.length_pos_of_mem z
  have hi : m % W.length < W.length := Nat.mod_lt _ lp
  have at1 := nI_at W _ hi
  have nl := nI_len W
  have jl := fun v => mod_i v ((nI W).length : Int) .c .c (by omega)
  have ei : (m : Int) % ((nI W).length : Int) = ((m % W.length : Nat) : Int) := by rw [nl]; push_cast; rfl
  have ln : (nI W).length ≤ 16777216 := by omega
  have hwd := wm _ (List.getElem_mem hi)
  generalize W[m % W.length] = word at *
  generalize m % W.length = i1 at *
  have bw : word < 2 ^ w := sp_lt hb ((mem_lsF xs word).mp hwd)
  have l32 := lw_le v
  have dv := fun v => div_i v 2 .c .c (by decide) (by decide +kernel)
  have ed : ((lw v : Nat) : Int) - 1 = ((lw v - 1 : Nat) : Int) := by omega
  have ed2 : ((lw v - 1 : Nat) : Int) / 2 = (((lw v - 1) / 2 : Nat) : Int) := by push_cast; rfl
  have rn := rng1_ap (f := .c) (((lw v - 1) / 2 : Nat) : Int) (inR_of _ (by omega))
  rw [Int.toNat_natCast] at rn
  obtain ⟨e, y8, he, hle, q⟩ := cb_turns n w k ((lw v - 1) / 2) word (.ar .c (.ins i)) (.ar .c (.lst (nI W))) (.ar .c (.int (lw v : Nat))) (.ar .c (.int (word : Nat))) a9 a10 x8 S hw (by omega) (by omega)
  have bb : word ^^^ e < 2 ^ w := Nat.xor_lt_two_pow bw he
  obtain ⟨kv, z1, G, L, ne⟩ := s_near i w (word ^^^ e) xs d .c .c S hS0 hd hw hE hb bb
  obtain rfl := near_back hw.2 hb h1 hwd he hle L hv
  rw [xx] at ne
  have hS2 := sok_set hS G
  refine ⟨S.set i (0, spanE w xs (kvP kv)), .ar .c (.int (word : Nat)), .ar .c (.int ((word ^^^ z1 : Nat) : Int)), y8, ⟨_, .inr ⟨kv, G, rfl⟩, hS2⟩, ?_⟩
  generalize S.set i (0, spanE w xs (kvP kv)) = S2 at *
  generalize word ^^^ z1 = bent at *
  generalize (lw v - 1) / 2 = t at *
  generalize lw v - 1 = l1 at *
  generalize lw v = l at *
  unfold spanE at *
  generalize nI (evens w xs) = E at *
  generalize nI (basF xs) = RB at *
  generalize nI W = WW at *
  unfold cbT at q
  simp [cbB, hS0, m1, jl, ei, at1, ln, sub_i, ed, dv, ed2, rn, q, tabNe, ne, sizeLine_eq, -int_ap, -rng1_ap]
theorem cutk (xs : List D) (i : Nat) : cutD xs none (some (i : Int)) = xs.take i := by
  unfold cutD
  rw [HT.sIx_none, HT.sIx_nat, Nat.sub_zero, List.drop_zero]
  rcases Nat.le_total i xs.length with h | h
  · rw [Nat.min_eq_left h]
  · rw [Nat.min_eq_right h, List.take_of_length_le (Nat.le_refl _), List.take_of_length_le h]
def valO (kv : KV) : D → D
  | .int j => .int ((look kv j).getD 0)
  | _ => .non
theorem keys_kD (kv : KV) : (keysK kv).map kD = kv.map fun p => D.int p.1 := by
  unfold keysK
  rw [List.map_map]
  rfl
theorem vals_kD {kv : KV} (nd : (kv.map Prod.fst).Nodup) : ((keysK kv).map kD).map (valO kv) = (kv.map Prod.snd).map D.int := by
  rw [keys_kD, List.map_map, List.map_map]
  exact List.map_congr_left fun p hp => by
    show D.int ((look kv p.1).getD 0) = D.int p.2
    rw [look_mem nd p hp]
    rfl
theorem s_comeback (i w n : Nat) (xs : List Nat) (S : Store) (hS : SOk i w xs S) (hw : 1 ≤ w ∧ w ≤ 24) (hl : xs.length ≤ 12) (hE : (evens w xs).length ≤ 12) (hb : ∀ y ∈ xs, y < 2 ^ w) : ∃ S2, SOk i w xs S2 ∧ m__law_come_back [(.c, .ins i), (.c, .int (w : Nat)), (.c, .int (n : Nat))] S = .ok (.bl true, .c) S2 := by
  obtain ⟨d, hd, hS0⟩ := id hS
  have p24 : 2 ^ w ≤ 16777216 := Nat.le_trans (Nat.pow_le_pow_right (by decide) hw.2) (by decide)
  have wd := s_words i w xs .c S hS0 (by omega)
  rw [words_eq] at wd
  have ds := s_distance i w xs .c S hS0 hw.2 hl hb
  unfold secD at ds
  have tb : tab_basis 0 = some m_Span_basis := rfl
  have tabHa : tab_has 0 = some m_Span_has := rfl
  rcases sec_of xs with ⟨v, hv, e⟩ | e
  · rw [e] at ds
    obtain ⟨v0, rest, er⟩ := PP_two (nd_lsF xs) (zero_ls xs) e
    have vb : v < 2 ^ w := sp_lt hb ((mem_lsF xs v).mp hv)
    have vp : 0 < lw v := Nat.pos_of_ne_zero fun z => v0 (lw_pos (by omega) z)
    obtain ⟨r2, S2, q, hS2, y5, y6, y7, y8, rfl⟩ := for_inv (P := fun k r S' => SOk i w xs S' ∧ ∃ y5 y6 y7 y8, r = [.ar .c (.ins i), .ar .c (.int (w : Nat)), .ar .c (.int (n : Nat)), .ar .c (.lst (nI (srt (lsF xs)))), .ar .c (.int (lw v : Nat)), y5, y6, y7, y8, .no, .no]) (g := gN 5) (p := cbB) (rangeD 0 1 4) 0 [.ar .c (.ins i), .ar .c (.int (w : Nat)), .ar .c (.int (n : Nat)), .ar .c (.lst (nI (srt (lsF xs)))), .ar .c (.int (lw v : Nat)), .no, .no, .no, .no, .no, .no] S ⟨hS, .no, .no, .no, .no, rfl⟩ (fun j d r S' hd ⟨e1, y5, y6, y7, y8, e2⟩ => by
      subst e2
      have hj : j < 4 := by
        have := (List.getElem?_eq_some_iff.mp hd).1
        rwa [rangeD_len] at this
      rw [rangeD_get hj] at hd
      have hd := (Option.some.inj hd).symm
      subst hd
      have e0 : ((0 : Int) + (j : Nat) * 1) = (j : Nat) := by omega
      rw [e0]
      obtain ⟨S3, z6, z7, z8, ok, q⟩ := cb_step i w n j 0 xs v S' e1 hw hl hE hb e vp (by omega) y6 y7 y8 .no .no
      exact ⟨_, rfl, _, _, q, ok, _, _, _, _, rfl⟩)
    refine ⟨S2, hS2, ?_⟩
    obtain ⟨d2, hd2, hT⟩ := hS2
    have wt := s_weights i w xs .c S2 hT hl
    have pw := PP_wts (xs := lsF xs) (ys := srt (sumF (basF xs))) (by rw [words_eq]; exact (srt_perm _).symm) (fun y hy => by
      rw [words_eq] at hy
      have := sp_lt hb ((mem_lsF xs y).mp ((srt_perm _).mem_iff.mp hy))
      omega)
    rw [← pw] at wt
    have wlen : ((PP (lsF xs)).map Prod.fst).length = 2 ^ (basF xs).length := by rw [List.length_map, PP_len, len_eq]
    have sv := sumV_cnt ((PP (lsF xs)).map Prod.fst)
    rw [wlen] at sv
    have nd := cnt_nd ((PP (lsF xs)).map Prod.fst)
    have k2 : ((cntF ((PP (lsF xs)).map Prod.fst)).map Prod.fst).take 2 = [0, (lw v : Int)] := by
      rw [er]
      exact keys_two _ _ (by omega)
    have kl := cnt_len ((PP (lsF xs)).map Prod.fst)
    rw [wlen] at kl
    generalize cntF ((PP (lsF xs)).map Prod.fst) = kv at *
    have bl := bas_len xs
    have kl2 : kv.length ≤ 4096 := Nat.le_trans kl (Nat.le_trans (Nat.pow_le_pow_right (by decide) (Nat.le_trans bl hl)) (by decide))
    have klen : ((keysK kv).map kD).length = kv.length := by rw [keys_kD, List.length_map]
    have c := comp_map (S := S2) (r := [.ar .c (.ins i), .ar .c (.int (w : Nat)), .ar .c (.int (n : Nat)), .ar .c (.lst (nI (srt (lsF xs)))), .ar .c (.int (lw v : Nat)), y5, y6, y7, y8, .ar .c (kvD kv), .no]) (gN 10) tYesM (eBin gDIx (eVar 9) (eVar 10)) (valO kv) ((keysK kv).map kD) fun x hx => by
      rw [keys_kD] at hx
      obtain ⟨p, hp, rfl⟩ := List.mem_map.mp hx
      refine ⟨[.ar .c (.ins i), .ar .c (.int (w : Nat)), .ar .c (.int (n : Nat)), .ar .c (.lst (nI (srt (lsF xs)))), .ar .c (.int (lw v : Nat)), y5, y6, y7, y8, .ar .c (kvD kv), .ar .c (.int p.1)], rfl, rfl, .c, ?_, rfl⟩
      have g : gDIx (kvD kv, .c) (.int p.1, .c) = some (.int p.2, .c) := by
        show (getK (keysK kv) (valsK kv) (Sum.inl p.1)).map (fun d => (d, Fl.c)) = _
        rw [getK_look, look_mem nd p hp]
        rfl
      have ev : valO kv (.int p.1) = .int p.2 := by
        show D.int ((look kv p.1).getD 0) = _
        rw [look_mem nd p hp]
        rfl
      rw [ev]
      generalize kvD kv = K at *
      simp [g]
    rw [vals_kD nd] at c
    have c2 := kcp_ap [.ar .c (.ins i), .ar .c (.int (w : Nat)), .ar .c (.int (n : Nat)), .ar .c (.lst (nI (srt (lsF xs)))), .ar .c (.int (lw v : Nat)), y5, y6, y7, y8, .ar .c (kvD kv), .no] S2 [10] (gN 10) tYesM _ ((keysK kv).map kD) _ S2 (by omega) c
    have gl : gListD [(.c, kvD kv)] = some (.lst ((keysK kv).map kD), .n) := rfl
    have gs : gSum [(.n, .lst ((kv.map Prod.snd).map D.int))] = some (.int ((2 ^ (basF xs).length : Nat) : Int), .c) := by
      show (match seqOf (D.lst ((kv.map Prod.snd).map D.int)) with
        | some xs => match intsOf xs with
          | some is => (some (D.int is.sum, Fl.c) : Option (D × Fl))
          | none => none
        | none => none) = _
      show (match intsOf ((kv.map Prod.snd).map D.int) with
          | some is => (some (D.int is.sum, Fl.c) : Option (D × Fl))
          | none => none) = _
      rw [intsOf_m]
      show some (D.int (sumV kv), Fl.c) = _
      rw [sv]
    have cu : cutD ((keysK kv).map kD) none (some 2) = [.int 0, .int (lw v : Nat)] := by
      have := cutk ((keysK kv).map kD) 2
      refine this.trans ?_
      have e3 : (kv.map fun p => D.int p.1) = (kv.map Prod.fst).map D.int := by rw [List.map_map]; rfl
      rw [keys_kD, e3, ← List.map_take, k2]
      rfl
    have q2 := eq_nI [0, lw v] [0, lw v]
    rw [decide_eq_true rfl] at q2
    have q2' : eqO (.lst [.int 0, .int (lw v : Nat)]) (.lst [.int 0, .int (lw v : Nat)]) = some true := q2
    have b1 := s_bas i w xs .c S2 hT
    have nl1 := nI_len (basF xs)
    have ln : (nI (basF xs)).length ≤ 16777216 := by omega
    have sh := sh1 (basF xs).length (by omega) .c
    rw [← nl1] at sh
    have li := s_lightest i w xs .c S2 hT hw.2 hl hb
    unfold secD at li
    rw [e] at li
    have hs := s_has i w v xs .c .c S2 hT hw.2 hb vb
    rw [decide_eq_true hv] at hs
    have lv := s_lweight v .c S2
    have r4 := rng1_ap (f := .c) 4 (by decide)
    unfold prI at ds li
    rw [nl1] at sh
    generalize 2 ^ (basF xs).length = P2 at *
    rw [← nl1] at sh
    generalize lw v = l at *
    unfold cbB at q
    unfold spanE at hS0 hT
    generalize (keysK kv).map kD = KL at *
    generalize (kv.map Prod.snd).map D.int = VL at *
    generalize kvD kv = K at *
    generalize nI (evens w xs) = E at *
    generalize nI (basF xs) = RB at *
    generalize nI (srt (lsF xs)) = W at *
    simp only at ds li
    simp [m__law_come_back, b__law_come_back, hS0, hT, tb, tabHa, tabW, tabDi, tabLi, tabWe, wd, ds, r4, q, wt, gl, freeE, c2, gs, b1, ln, sh, cu, q2', li, hs, lv, sizeLine_eq, -int_ap, -rng1_ap]
  · rw [e] at ds
    have li := s_lightest i w xs .c S hS0 hw.2 hl hb
    unfold secD at li
    rw [e] at li
    have l1 := List.getElem?_eq_none_iff.mp e
    rw [PP_len, len_eq] at l1
    have eb : basF xs = [] := by
      refine List.length_eq_zero_iff.mp ?_
      by_cases h : (basF xs).length = 0
      · exact h
      · have := Nat.one_lt_two_pow h
        omega
    have ls1 : (lsF xs).length = 1 := by rw [len_eq, eb]; rfl
    have es : srt (lsF xs) = [0] := by
      have z := zero_ls xs
      refine List.perm_singleton.mp ((srt_perm _).trans ?_)
      obtain ⟨a, ha⟩ := List.length_eq_one_iff.mp ls1
      rw [ha] at z ⊢
      rw [List.mem_singleton.mp z]
    have q1 := eq_nI [0] [0]
    rw [decide_eq_true rfl] at q1
    have q1' : eqO (.lst (nI (srt (lsF xs)))) (.lst [D.int 0]) = some true := by rw [es]; exact q1
    have q3 := eq_nI [] []
    rw [decide_eq_true rfl] at q3
    have q3' : eqO (.lst (nI (basF xs))) (.lst []) = some true := by rw [eb]; exact q3
    have b1 := s_bas i w xs .c S hS0
    refine ⟨S, hS, ?_⟩
    unfold spanE at hS0
    generalize nI (evens w xs) = E at *
    generalize nI (basF xs) = RB at *
    generalize nI (srt (lsF xs)) = W at *
    simp [m__law_come_back, b__law_come_back, hS0, tb, tabW, tabDi, tabLi, wd, ds, li, b1, q1', q3', sizeLine_eq]
end Fin

set_option maxRecDepth 100000
set_option maxHeartbeats 4000000
namespace Fin
open Mv Mir Ev
open PySem (sizeLine sizeLine_eq)
open L2 (atI ixN)
noncomputable abbrev outB : SM := (sSeq (sSet 2 (eFn 2 m__law_number (aCons (eVar 0) (aCons (eVar 1) aNil))))
    (sSeq (sAsg (gT 2 (gsC (gN 3) (gsC (gN 4) gsN))) (eFn 2 m__law_close (aCons (eVar 2) (aCons (eBin gIx (eLst (aCons (eC (.int 12)) (aCons (eC (.int 24)) aNil))) (eCal gIntT (aCons (eBin (gEq false) (eVar 1) (eC (.int 0))) aNil))) aNil))))
    (sSeq (sSet 5 (eNew 0 3 m_Span___init__ (aCons (eVar 3) (aCons (eVar 4) aNil))))
    (sSeq (sIf (tOrM (tNotM (tVal (eFn 2 m__law_same (aCons (eVar 5) (aCons (eNew 0 3 m_Span___init__ (aCons (eVar 3) (aCons (eFn 2 m__law_turned (aCons (eVar 4) (aCons (eVar 2) aNil))) aNil))) aNil))))) (tNotM (tVal (eFn 2 m__law_duals_good (aCons (eVar 5) (aCons (eVar 3) aNil)))))) (sRet (eC (.bl false))) sNil)
    (sIf (tOrM (tNotM (tVal (eFn 3 m__law_sums_good (aCons (eVar 5) (aCons (eVar 3) (aCons (eVar 2) aNil)))))) (tNotM (tVal (eFn 3 m__law_come_back (aCons (eVar 5) (aCons (eVar 3) (aCons (eVar 2) aNil))))))) (sRet (eC (.bl false))) sNil)))))
theorem out_step (ns : List Int) (k : Nat) (hk : k ≤ 100) (x2 x3 x4 x5 : Slot) (S : Store) : ∃ y2 y3 y4 y5 S2, outB [.ar .c (.frz (ns.map D.int)), .ar .c (.int (k : Nat)), x2, x3, x4, x5] S = .nx [.ar .c (.frz (ns.map D.int)), .ar .c (.int (k : Nat)), y2, y3, y4, y5] S2 := by
  obtain ⟨n, nu⟩ := s_number ns k .c S (by omega)
  have pick : ∃ most : Nat, (most = 12 ∨ most = 24) ∧ atI [D.int 12, D.int 24] (if k = 0 then 1 else 0) = some (.int (most : Nat)) := by
    by_cases h : k = 0
    · exact ⟨24, .inr rfl, by rw [if_pos h]; rfl⟩
    · exact ⟨12, .inl rfl, by rw [if_neg h]; rfl⟩
  obtain ⟨most, hm, at1⟩ := pick
  obtain ⟨w, xs, hw, hl, hb, hE, sp⟩ := s_close n most S hm
  have hS0 : (S ++ [(0, ([] : List D))])[S.length]? = some (0, []) := by simp
  have hlt : S.length < (S ++ [(0, ([] : List D))]).length := by simp
  have ini := s_init S.length w xs .c .c .c (S ++ [(0, [])]) hS0 hw hl rfl hb
  have hS1 : ((S ++ [(0, ([] : List D))]).set S.length (0, spanD w xs))[S.length]? = some (0, spanE w xs .non) := List.getElem?_set_self hlt
  generalize (S ++ [(0, ([] : List D))]).set S.length (0, spanD w xs) = S1 at *
  obtain ⟨ys, hlen, hsp, tu⟩ := s_turned n xs S1 hl
  have hby : ∀ y ∈ ys, y < 2 ^ w := fun y hy => sp_lt hb ((hsp y).mp (.mem hy))
  have hbas : basF ys = basF xs := bas_uniq hsp
  have hT0 : (S1 ++ [(0, ([] : List D))])[S1.length]? = some (0, []) := by simp
  have hlt1 : S1.length < (S1 ++ [(0, ([] : List D))]).length := by simp
  have hi : S.length < S1.length := (List.getElem?_eq_some_iff.mp hS1).1
  have ini2 := s_init S1.length w ys .c .c .n (S1 ++ [(0, [])]) hT0 hw (by omega) rfl hby
  have hT1 : ((S1 ++ [(0, ([] : List D))]).set S1.length (0, spanD w ys))[S1.length]? = some (0, spanE w ys .non) := List.getElem?_set_self hlt1
  have hT2 : ((S1 ++ [(0, ([] : List D))]).set S1.length (0, spanD w ys))[S.length]? = some (0, spanE w xs .non) := by
    rw [List.getElem?_set_ne (by omega), List.getElem?_append_left hi]
    exact hS1
  generalize (S1 ++ [(0, ([] : List D))]).set S1.length (0, spanD w ys) = S2 at *
  have sa := s_same S.length S1.length w xs ys .non .non S2 hT2 hT1 hl.2 (by omega) hbas
  obtain ⟨S3, mono, du⟩ := s_duals S.length w xs .non S2 hT2 hw hE hb
  have hS3 := mono _ _ hT2
  obtain ⟨S4, ok4, su⟩ := s_sumsgood S.length w n xs S3 ⟨.non, .inl rfl, hS3⟩ hw hl.2 hE hb
  obtain ⟨S5, ok5, cb⟩ := s_comeback S.length w n xs S4 ok4 hw hl.2 hE hb
  have l1 : (nI xs).length ≤ 16777216 := by rw [nI_len]; omega
  refine ⟨.ar .c (.int (n : Nat)), .ar .c (.int (w : Nat)), .ar .c (.lst (nI xs)), .ar .c (.ins S.length), S5, ?_⟩
  generalize nI ys = Y at *
  generalize nI xs = X at *
  simp [outB, nu, at1, sp, ini, tu, ini2, sa, du, su, cb, l1, sizeLine_eq]
theorem math : ∀ ns : List Int, ns.length ≤ 63 → ∃ S f, m_law [(.c, .frz (ns.map D.int))] [] = .ok (.bl true, f) S := by
  intro ns hns
  have mx : ∃ c : Nat, c ≤ 30 ∧ (max (1 : Int) (min (30 : Int) (ns.length : Int))) = (c : Int) := ⟨max 1 (min 30 ns.length), by omega, by omega⟩
  obtain ⟨c, hc, mx⟩ := mx
  have rn := rng1_ap (f := .c) (c : Int) (inR_of _ (by omega))
  rw [Int.toNat_natCast] at rn
  obtain ⟨r2, S2, h1, x1, x2, x3, x4, x5, h2⟩ := for_inv (P := fun j r S' => ∃ x1 x2 x3 x4 x5, r = [.ar .c (.frz (ns.map D.int)), x1, x2, x3, x4, x5])
    (g := gN 1) (p := outB) (rangeD 0 1 c) 0 [.ar .c (.frz (ns.map D.int)), .no, .no, .no, .no, .no] [] ⟨.no, .no, .no, .no, .no, rfl⟩ (fun j d r S' hd hP => by
      obtain ⟨x1, x2, x3, x4, x5, rfl⟩ := hP
      have hj : j < c := by
        have := (List.getElem?_eq_some_iff.mp hd).1
        rwa [rangeD_len] at this
      rw [rangeD_get hj] at hd
      have hd := (Option.some.inj hd).symm
      subst hd
      have e0 : ((0 : Int) + (j : Nat) * 1) = (j : Nat) := by omega
      rw [e0]
      obtain ⟨y2, y3, y4, y5, S2, q⟩ := out_step ns j (by omega) x2 x3 x4 x5 S'
      exact ⟨_, rfl, _, _, q, _, _, _, _, _, rfl⟩)
  refine ⟨S2, .c, ?_⟩
  subst h2
  have gm : gMin [(.c, .int 30), (.c, .int (ns.length : Int))] = some (.int (min (30 : Int) (ns.length : Int)), .c) := rfl
  have gx : gMax [(.c, .int 1), (.c, .int (min (30 : Int) (ns.length : Int)))] = some (.int (c : Int), .c) := by
    rw [← mx]
    rfl
  have ll : (ns.map D.int).length = ns.length := List.length_map _
  have h3 := congrArg (fun z : SR => kFn (z.bind (sRet (eC (.bl true))))) h1
  unfold outB at h3
  simp only [m_law, b_law, fnM_ap]
  rw [← ll] at gm gx
  generalize ns.map D.int = X at *
  simp at h3
  simp [gm, gx, rn, -rng1_ap]
  exact h3
end Fin

set_option maxHeartbeats 4000000
/-! the walks of codewright_k19_whole_spans, printed by gen.py -/
namespace Wlk
open PySem PySem.Spec PyProof.Rows L2 Mv Mir
set_option maxRecDepth 100000
abbrev topS (i : Nat) : Stmt := PySem.Challenge.pw_codewright_k19_whole_spans.main.body.getD i (.Pass ⟨0, 0, 0, 0⟩)
def fdt : Nat → List Str := fun n => ([["wide", "rows", "evens", "best"], [], [], []] : List (List Str)).getD n []
abbrev ctOf (A0 A1 A2 A3 : Addr) : CT := ⟨fun n => [A0, A1, A2, A3].getD n 0, fdt, fun n => ([false, true, true, true] : List Bool).getD n false, []⟩
theorem sc__law_mixed : FnScope ["number", "k"] ["number", "k"] (defScope (topS 24)) := ⟨rfl, rfl, rfl, by decide +kernel, rfl, by decide +kernel, by decide +kernel⟩
theorem sc__law_close : FnScope ["number", "most", "wide", "least", "many", "found", "k", "more", "low"] ["number", "most"] (defScope (topS 27)) := ⟨rfl, rfl, rfl, by decide +kernel, rfl, by decide +kernel, by decide +kernel⟩
theorem sc__law_weight : FnScope ["number", "place"] ["number"] (defScope (topS 26)) := ⟨rfl, rfl, rfl, by decide +kernel, rfl, by decide +kernel, by decide +kernel⟩
theorem sc_Span_basis : FnScope ["self"] ["self"] (defScope (inClass (topS 21) 2)) := ⟨rfl, rfl, rfl, by decide +kernel, rfl, by decide +kernel, by decide +kernel⟩
theorem sc_weight : FnScope ["number", "found"] ["number"] (defScope (topS 3)) := ⟨rfl, rfl, rfl, by decide +kernel, rfl, by decide +kernel, by decide +kernel⟩
theorem sc_sums_of : FnScope ["rows", "found", "row", "one"] ["rows"] (defScope (topS 20)) := ⟨rfl, rfl, rfl, by decide +kernel, rfl, by decide +kernel, by decide +kernel⟩
theorem sc_Span_words : FnScope ["self"] ["self"] (defScope (inClass (topS 21) 10)) := ⟨rfl, rfl, rfl, by decide +kernel, rfl, by decide +kernel, by decide +kernel⟩
theorem sc_Span_lightest : FnScope ["self", "found", "word"] ["self"] (defScope (inClass (topS 21) 11)) := ⟨rfl, rfl, rfl, by decide +kernel, rfl, by decide +kernel, by decide +kernel⟩
theorem sc_Span_distance : FnScope ["self", "word"] ["self"] (defScope (inClass (topS 21) 12)) := ⟨rfl, rfl, rfl, by decide +kernel, rfl, by decide +kernel, by decide +kernel⟩
theorem sc_is_odd : FnScope ["number"] ["number"] (defScope (topS 4)) := ⟨rfl, rfl, rfl, by decide +kernel, rfl, by decide +kernel, by decide +kernel⟩
theorem sc_Span_mark_by : FnScope ["self", "number", "place", "check"] ["self", "number"] (defScope (inClass (topS 21) 5)) := ⟨rfl, rfl, rfl, by decide +kernel, rfl, by decide +kernel, by decide +kernel⟩
theorem sc_is_whole : FnScope ["thing"] ["thing"] (defScope (topS 1)) := ⟨rfl, rfl, rfl, by decide +kernel, rfl, by decide +kernel, by decide +kernel⟩
theorem sc_is_among : FnScope ["thing", "least", "most"] ["thing", "least", "most"] (defScope (topS 2)) := ⟨rfl, rfl, rfl, by decide +kernel, rfl, by decide +kernel, by decide +kernel⟩
theorem sc_need : FnScope ["good"] ["good"] (defScope (topS 17)) := ⟨rfl, rfl, rfl, by decide +kernel, rfl, by decide +kernel, by decide +kernel⟩
theorem sc_Span_need_number : FnScope ["self", "number"] ["self", "number"] (defScope (inClass (topS 21) 1)) := ⟨rfl, rfl, rfl, by decide +kernel, rfl, by decide +kernel, by decide +kernel⟩
theorem sc_Span_has : FnScope ["self", "number"] ["self", "number"] (defScope (inClass (topS 21) 4)) := ⟨rfl, rfl, rfl, by decide +kernel, rfl, by decide +kernel, by decide +kernel⟩
theorem sc_Span_all_best : FnScope ["self", "found", "place", "own", "more", "one", "pair", "fresh"] ["self"] (defScope (inClass (topS 21) 7)) := ⟨rfl, rfl, rfl, by decide +kernel, rfl, by decide +kernel, by decide +kernel⟩
theorem sc_Span_leader : FnScope ["self", "told"] ["self", "told"] (defScope (inClass (topS 21) 8)) := ⟨rfl, rfl, rfl, by decide +kernel, rfl, by decide +kernel, by decide +kernel⟩
theorem sc_Span_nearest : FnScope ["self", "number"] ["self", "number"] (defScope (inClass (topS 21) 9)) := ⟨rfl, rfl, rfl, by decide +kernel, rfl, by decide +kernel, by decide +kernel⟩
theorem sc_Span_weights : FnScope ["self", "found", "one", "word"] ["self"] (defScope (inClass (topS 21) 13)) := ⟨rfl, rfl, rfl, by decide +kernel, rfl, by decide +kernel, by decide +kernel⟩
theorem sc__law_come_back : FnScope ["span", "wide", "number", "words", "least", "k", "word", "bent", "turn", "weights", "one"] ["span", "wide", "number"] (defScope (topS 32)) := ⟨rfl, rfl, rfl, by decide +kernel, rfl, by decide +kernel, by decide +kernel⟩
theorem sc_Span_checks : FnScope ["self"] ["self"] (defScope (inClass (topS 21) 3)) := ⟨rfl, rfl, rfl, by decide +kernel, rfl, by decide +kernel, by decide +kernel⟩
theorem sc_high_place : FnScope ["form", "found"] ["form"] (defScope (topS 12)) := ⟨rfl, rfl, rfl, by decide +kernel, rfl, by decide +kernel, by decide +kernel⟩
theorem sc_need_form : FnScope ["thing"] ["thing"] (defScope (topS 11)) := ⟨rfl, rfl, rfl, by decide +kernel, rfl, by decide +kernel, by decide +kernel⟩
theorem sc_degree : FnScope ["form"] ["form"] (defScope (topS 13)) := ⟨rfl, rfl, rfl, by decide +kernel, rfl, by decide +kernel, by decide +kernel⟩
theorem sc_basis_of : FnScope ["numbers", "found", "number", "row", "top"] ["numbers"] (defScope (topS 18)) := ⟨rfl, rfl, rfl, by decide +kernel, rfl, by decide +kernel, by decide +kernel⟩
theorem sc_checks_of : FnScope ["wide", "basis", "tops", "found", "place", "under", "row", "top"] ["wide", "basis"] (defScope (topS 19)) := ⟨rfl, rfl, rfl, by decide +kernel, rfl, by decide +kernel, by decide +kernel⟩
theorem sc_Span___init__ : FnScope ["self", "wide", "numbers", "number"] ["self", "wide", "numbers"] (defScope (inClass (topS 21) 0)) := ⟨rfl, rfl, rfl, by decide +kernel, rfl, by decide +kernel, by decide +kernel⟩
theorem sc__law_duals_good : FnScope ["span", "wide", "basis", "checks", "dual"] ["span", "wide"] (defScope (topS 30)) := ⟨rfl, rfl, rfl, by decide +kernel, rfl, by decide +kernel, by decide +kernel⟩
theorem sc__law_number : FnScope ["script", "k", "cell"] ["script", "k"] (defScope (topS 23)) := ⟨rfl, rfl, rfl, by decide +kernel, rfl, by decide +kernel, by decide +kernel⟩
theorem sc__law_same : FnScope ["one", "other"] ["one", "other"] (defScope (topS 28)) := ⟨rfl, rfl, rfl, by decide +kernel, rfl, by decide +kernel, by decide +kernel⟩
theorem sc_Span_mark : FnScope ["self", "number"] ["self", "number"] (defScope (inClass (topS 21) 6)) := ⟨rfl, rfl, rfl, by decide +kernel, rfl, by decide +kernel, by decide +kernel⟩
theorem sc__law_sums_good : FnScope ["span", "wide", "number", "words", "one", "other", "word", "near", "k"] ["span", "wide", "number"] (defScope (topS 31)) := ⟨rfl, rfl, rfl, by decide +kernel, rfl, by decide +kernel, by decide +kernel⟩
theorem sc__law_turned : FnScope ["numbers", "number", "found", "k", "other"] ["numbers", "number"] (defScope (topS 29)) := ⟨rfl, rfl, rfl, by decide +kernel, rfl, by decide +kernel, by decide +kernel⟩
theorem sc_law : FnScope ["script", "k", "number", "wide", "numbers", "span"] ["script"] (defScope (topS 33)) := ⟨rfl, rfl, rfl, by decide +kernel, rfl, by decide +kernel, by decide +kernel⟩
structure Txt (K : PySem.W.Frag) (mg : Str → Option Value) (A0 A1 A2 A3 : Addr) : Prop where
  fn__law_mixed : FunO K mg "_law_mixed" (topS 24) ["number", "k"]
  fn__law_close : FunO K mg "_law_close" (topS 27) ["number", "most"]
  fn__law_weight : FunO K mg "_law_weight" (topS 26) ["number"]
  fn_weight : FunO K mg "weight" (topS 3) ["number"]
  fn_sums_of : FunO K mg "sums_of" (topS 20) ["rows"]
  fn_is_odd : FunO K mg "is_odd" (topS 4) ["number"]
  fn_is_whole : FunO K mg "is_whole" (topS 1) ["thing"]
  fn_is_among : FunO K mg "is_among" (topS 2) ["thing", "least", "most"]
  fn_need : FunO K mg "need" (topS 17) ["good"]
  fn__law_come_back : FunO K mg "_law_come_back" (topS 32) ["span", "wide", "number"]
  fn_high_place : FunO K mg "high_place" (topS 12) ["form"]
  fn_need_form : FunO K mg "need_form" (topS 11) ["thing"]
  fn_degree : FunO K mg "degree" (topS 13) ["form"]
  fn_basis_of : FunO K mg "basis_of" (topS 18) ["numbers"]
  fn_checks_of : FunO K mg "checks_of" (topS 19) ["wide", "basis"]
  fn__law_duals_good : FunO K mg "_law_duals_good" (topS 30) ["span", "wide"]
  fn__law_number : FunO K mg "_law_number" (topS 23) ["script", "k"]
  fn__law_same : FunO K mg "_law_same" (topS 28) ["one", "other"]
  fn__law_sums_good : FunO K mg "_law_sums_good" (topS 31) ["span", "wide", "number"]
  fn__law_turned : FunO K mg "_law_turned" (topS 29) ["numbers", "number"]
  fn_law : FunO K mg "law" (topS 33) ["script"]
  cls_Span : Cls K A0
  me_Span_all_best : MeO K A0 "all_best" "Span.all_best" (inClass (topS 21) 7) ["self"]
  me_Span_basis : MeO K A0 "basis" "Span.basis" (inClass (topS 21) 2) ["self"]
  me_Span_checks : MeO K A0 "checks" "Span.checks" (inClass (topS 21) 3) ["self"]
  me_Span_distance : MeO K A0 "distance" "Span.distance" (inClass (topS 21) 12) ["self"]
  me_Span_has : MeO K A0 "has" "Span.has" (inClass (topS 21) 4) ["self", "number"]
  me_Span_leader : MeO K A0 "leader" "Span.leader" (inClass (topS 21) 8) ["self", "told"]
  me_Span_lightest : MeO K A0 "lightest" "Span.lightest" (inClass (topS 21) 11) ["self"]
  me_Span_mark : MeO K A0 "mark" "Span.mark" (inClass (topS 21) 6) ["self", "number"]
  me_Span_mark_by : MeO K A0 "mark_by" "Span.mark_by" (inClass (topS 21) 5) ["self", "number"]
  me_Span_nearest : MeO K A0 "nearest" "Span.nearest" (inClass (topS 21) 9) ["self", "number"]
  me_Span_need_number : MeO K A0 "need_number" "Span.need_number" (inClass (topS 21) 1) ["self", "number"]
  me_Span_weights : MeO K A0 "weights" "Span.weights" (inClass (topS 21) 13) ["self"]
  me_Span_words : MeO K A0 "words" "Span.words" (inClass (topS 21) 10) ["self"]
  mk_Span : MkO K mg A0 "Span" "Span.__init__" (inClass (topS 21) 0) ["self", "wide", "numbers"]
  na_Span_best : NoAttr K A0 "best"
  na_Span_evens : NoAttr K A0 "evens"
  na_Span_rows : NoAttr K A0 "rows"
  na_Span_wide : NoAttr K A0 "wide"
  g_MOST_FORM : ∃ t, mg "MOST_FORM" = some (.int 4294967295 t)
  g_MOST_WIDE : ∃ t, mg "MOST_WIDE" = some (.int 24 t)
  g_MOST_NUMBERS : ∃ t, mg "MOST_NUMBERS" = some (.int 12 t)
  z_all : mg "all" = none
  z_bool : mg "bool" = none
  z_dict : mg "dict" = none
  z_enumerate : mg "enumerate" = none
  z_int : mg "int" = none
  z_isinstance : mg "isinstance" = none
  z_len : mg "len" = none
  z_list : mg "list" = none
  z_max : mg "max" = none
  z_min : mg "min" = none
  z_range : mg "range" = none
  z_sorted : mg "sorted" = none
  z_sum : mg "sum" = none
  z_zip : mg "zip" = none
  ra_BadForm : RaC K mg A2 "BadForm"
  ra_BadSpan : RaC K mg A3 "BadSpan"
section
variable {P : Program} {w : World} {K : PySem.W.Frag} {mg : Str → Option Value} {base : Heap} {A0 A1 A2 A3 : Addr}
theorem Txt.fd_best (T : Txt K mg A0 A1 A2 A3) : ∀ C ∈ [0], FdT K (ctOf A0 A1 A2 A3) "best" 3 C := (List.forall_mem_cons.mpr ⟨⟨T.cls_Span, T.na_Span_best, rfl, (show (fdt 0).Nodup by decide +kernel), rfl⟩, (fun _ h => nomatch h)⟩)
theorem Txt.fa_best (T : Txt K mg A0 A1 A2 A3) : ∀ C ∈ [0], FdT K (ctOf A0 A1 A2 A3) "best" 3 C ∧ ((ctOf A0 A1 A2 A3).fd C).length < 900 := (List.forall_mem_cons.mpr ⟨⟨⟨T.cls_Span, T.na_Span_best, rfl, (show (fdt 0).Nodup by decide +kernel), rfl⟩, (show (fdt 0).length < 900 by decide +kernel)⟩, (fun _ h => nomatch h)⟩)
theorem Txt.fd_evens (T : Txt K mg A0 A1 A2 A3) : ∀ C ∈ [0], FdT K (ctOf A0 A1 A2 A3) "evens" 2 C := (List.forall_mem_cons.mpr ⟨⟨T.cls_Span, T.na_Span_evens, rfl, (show (fdt 0).Nodup by decide +kernel), rfl⟩, (fun _ h => nomatch h)⟩)
theorem Txt.fa_evens (T : Txt K mg A0 A1 A2 A3) : ∀ C ∈ [0], FdT K (ctOf A0 A1 A2 A3) "evens" 2 C ∧ ((ctOf A0 A1 A2 A3).fd C).length < 900 := (List.forall_mem_cons.mpr ⟨⟨⟨T.cls_Span, T.na_Span_evens, rfl, (show (fdt 0).Nodup by decide +kernel), rfl⟩, (show (fdt 0).length < 900 by decide +kernel)⟩, (fun _ h => nomatch h)⟩)
theorem Txt.fd_rows (T : Txt K mg A0 A1 A2 A3) : ∀ C ∈ [0], FdT K (ctOf A0 A1 A2 A3) "rows" 1 C := (List.forall_mem_cons.mpr ⟨⟨T.cls_Span, T.na_Span_rows, rfl, (show (fdt 0).Nodup by decide +kernel), rfl⟩, (fun _ h => nomatch h)⟩)
theorem Txt.fa_rows (T : Txt K mg A0 A1 A2 A3) : ∀ C ∈ [0], FdT K (ctOf A0 A1 A2 A3) "rows" 1 C ∧ ((ctOf A0 A1 A2 A3).fd C).length < 900 := (List.forall_mem_cons.mpr ⟨⟨⟨T.cls_Span, T.na_Span_rows, rfl, (show (fdt 0).Nodup by decide +kernel), rfl⟩, (show (fdt 0).length < 900 by decide +kernel)⟩, (fun _ h => nomatch h)⟩)
theorem Txt.fd_wide (T : Txt K mg A0 A1 A2 A3) : ∀ C ∈ [0], FdT K (ctOf A0 A1 A2 A3) "wide" 0 C := (List.forall_mem_cons.mpr ⟨⟨T.cls_Span, T.na_Span_wide, rfl, (show (fdt 0).Nodup by decide +kernel), rfl⟩, (fun _ h => nomatch h)⟩)
theorem Txt.fa_wide (T : Txt K mg A0 A1 A2 A3) : ∀ C ∈ [0], FdT K (ctOf A0 A1 A2 A3) "wide" 0 C ∧ ((ctOf A0 A1 A2 A3).fd C).length < 900 := (List.forall_mem_cons.mpr ⟨⟨⟨T.cls_Span, T.na_Span_wide, rfl, (show (fdt 0).Nodup by decide +kernel), rfl⟩, (show (fdt 0).length < 900 by decide +kernel)⟩, (fun _ h => nomatch h)⟩)
theorem w__law_mixed (T : Txt K mg A0 A1 A2 A3) : FnG P w K mg base (ctOf A0 A1 A2 A3) 1 "_law_mixed" 2 m__law_mixed :=
  fn_g (b := b__law_mixed) T.fn__law_mixed sc__law_mixed rfl rfl fun f cdv A outer s H E hr =>
    (ms_one (ms_ret (me_op op_fdivW ok_div (me_op op_mod ok_mod (me_op op_mulA ok_mul (me_op op_mod ok_mod (me_op op_mulA ok_mul (me_op op_addA ok_add (me_op op_addA ok_add (me_op op_addA ok_add (me_var (pv 0)) (me_op op_mulA ok_mul (me_op op_mulA ok_mul me_int (me_var (pv 1))) (me_var (pv 1)))) (me_op op_mulA ok_mul me_int (me_var (pv 1)))) me_int) me_int) me_int) me_int) me_int) me_int)))
theorem w__law_close (T : Txt K mg A0 A1 A2 A3) : FnG P w K mg base (ctOf A0 A1 A2 A3) 2 "_law_close" 2 m__law_close :=
  fn_g (b := b__law_close) T.fn__law_close sc__law_close rfl rfl fun f cdv A outer s H E hr =>
    (ms_cons (ms_set (i := 2) sc__law_close.nd rfl (by first | exact Or.inl rfl | exact Or.inr rfl) (me_op op_addA ok_add me_int (me_op op_mod ok_mod (me_var (pv 0)) (me_var (pv 1)))))
    (ms_cons (ms_set (i := 3) sc__law_close.nd rfl (by first | exact Or.inl rfl | exact Or.inr rfl) (me_callB (call_maxA rfl) ok_max (by rfl) T.z_max (by decide +kernel) (ma_cons me_int (ma_cons (me_op op_sub ok_sub (me_var (pv 2)) me_int) ma_nil))))
    (ms_cons (ms_set (i := 4) sc__law_close.nd rfl (by first | exact Or.inl rfl | exact Or.inr rfl) (me_op op_addA ok_add (me_callB (call_maxA rfl) ok_max (by rfl) T.z_max (by decide +kernel) (ma_cons me_int (ma_cons (me_var (pv 3)) ma_nil))) (me_op op_mod ok_mod (me_call (w__law_mixed T) (hr.mono (by decide)) (by rfl) (ma_cons (me_var (pv 0)) (ma_cons me_int ma_nil))) (me_op op_sub ok_sub me_int (me_callB (call_maxA rfl) ok_max (by rfl) T.z_max (by decide +kernel) (ma_cons me_int (ma_cons (me_var (pv 3)) ma_nil)))))))
    (ms_cons (ms_if (mt_cmp op_lt ok_lt (me_var (pv 1)) me_int (nomark _)) (ms_one (ms_set (i := 4) sc__law_close.nd rfl (by first | exact Or.inl rfl | exact Or.inr rfl) (me_op op_addA ok_add me_int (me_op op_mod ok_mod (me_var (pv 4)) me_int)))) ms_nil)
    (ms_cons (ms_own (i := 5) sc__law_close.nd rfl (by first | exact Or.inl rfl | exact Or.inr rfl) (me_lst ma_nil))
    (ms_cons (ms_for rfl (mi_range1 (by rfl) T.z_range (ma_cons (me_var (pv 4)) ma_nil)) (mg_name (i := 6) sc__law_close.nd rfl (by first | exact Or.inl rfl | exact Or.inr rfl)) (ms_cons (ms_set (i := 7) sc__law_close.nd rfl (by first | exact Or.inl rfl | exact Or.inr rfl) (me_op op_fdivW ok_div (me_call (w__law_mixed T) (hr.mono (by decide)) (by rfl) (ma_cons (me_var (pv 0)) (ma_cons (me_op op_addA ok_add me_int (me_var (pv 6))) ma_nil))) me_int))
    (ms_cons (ms_set (i := 8) sc__law_close.nd rfl (by first | exact Or.inl rfl | exact Or.inr rfl) (me_op op_shl ok_shl me_int (me_op op_sub ok_sub (me_op op_sub ok_sub (me_var (pv 2)) me_int) (me_op op_mod ok_mod (me_var (pv 6)) (me_var (pv 2))))))
    (ms_one (ms_app (i := 5) (pv 5) (me_if (mt_cmp op_lt ok_lt (me_var (pv 6)) (me_var (pv 3)) (nomark _)) (me_op op_addA ok_add (me_var (pv 8)) (me_op op_mod ok_mod (me_var (pv 7)) (me_var (pv 8)))) (me_op op_mod ok_mod (me_var (pv 7)) (me_op op_shl ok_shl me_int (me_var (pv 2))))) (fun h1 h2 => pe_bm PySem.F.plainAttrs_list PySem.F.slot_list_append PySem.F.type_list_append mt_append h1 h2))))))
    (ms_one (ms_ret (me_tup (ma_cons (me_var (pv 2)) (ma_cons (me_stp (me_var (pv 5)) (me_ix (me_lst (ma_cons me_int (ma_cons (me_neg me_int) ma_nil))) (me_op op_mod ok_mod (me_op op_fdivW ok_div (me_var (pv 0)) me_int) me_int))) ma_nil)))))))))))
theorem w__law_weight (T : Txt K mg A0 A1 A2 A3) : FnG P w K mg base (ctOf A0 A1 A2 A3) 1 "_law_weight" 1 m__law_weight :=
  fn_g (b := b__law_weight) T.fn__law_weight sc__law_weight rfl rfl fun f cdv A outer s H E hr =>
    (ms_one (ms_ret (me_callB (cr_sum rfl) ok_sum (by rfl) T.z_sum (by decide +kernel) (ma_cons (me_lc rfl sc__law_weight.nd (MLc.mk (own := [("place", 1)]) (mi_range1 (by rfl) T.z_range (ma_cons me_int ma_nil)) (blkOk_by (N := ["number", "place"]) (sc := defScope (topS 26)) (own := [("place", 1)]) (by decide +kernel)) ⟨[1], by decide, fun _ _ _ _ _ => (mg_name (i := 1) sc__law_weight.nd rfl (by first | exact Or.inl rfl | exact Or.inr rfl))⟩ (fun _ _ _ _ _ _ => pts_nilM) (fun _ _ _ _ _ => (me_op op_and ok_and (me_op op_shr ok_shr (me_var (pv 0)) (me_var (pv 1))) me_int)))) ma_nil))))
theorem w_Span_basis (T : Txt K mg A0 A1 A2 A3) : MeG P w K mg base (ctOf A0 A1 A2 A3) 1 0 "basis" 1 m_Span_basis :=
  me_g (b := b_Span_basis) T.me_Span_basis T.cls_Span (show _ ∉ fdt 0 by decide +kernel) rfl sc_Span_basis rfl rfl fun f cdv A outer s H E hr =>
    (ms_one (ms_ret (me_callTy call_list_of ok_list (by rfl) T.z_list (by decide +kernel) (ma_cons (me_fld (cs := [0]) (i := 1) (me_var (pv 0)) T.fd_rows) ma_nil))))
theorem w_weight (T : Txt K mg A0 A1 A2 A3) : FnG P w K mg base (ctOf A0 A1 A2 A3) 1 "weight" 1 m_weight :=
  fn_g (b := b_weight) T.fn_weight sc_weight rfl rfl fun f cdv A outer s H E hr =>
    (ms_cons (ms_set (i := 1) sc_weight.nd rfl (by first | exact Or.inl rfl | exact Or.inr rfl) me_int)
    (ms_cons (ms_while (mt_cmp op_gt ok_gt (me_var (pv 0)) me_int (nomark _)) (ms_cons (ms_set (i := 1) sc_weight.nd rfl (by first | exact Or.inl rfl | exact Or.inr rfl) (me_op op_addA ok_add (me_var (pv 1)) (me_op op_and ok_and (me_var (pv 0)) me_int)))
    (ms_one (ms_set (i := 0) sc_weight.nd rfl (by first | exact Or.inl rfl | exact Or.inr rfl) (me_op op_shr ok_shr (me_var (pv 0)) me_int)))))
    (ms_one (ms_retV (pv 1)))))
theorem w_sums_of (T : Txt K mg A0 A1 A2 A3) : FnG P w K mg base (ctOf A0 A1 A2 A3) 1 "sums_of" 1 m_sums_of :=
  fn_g (b := b_sums_of) T.fn_sums_of sc_sums_of rfl rfl fun f cdv A outer s H E hr =>
    (ms_cons (ms_set (i := 1) sc_sums_of.nd rfl (by first | exact Or.inl rfl | exact Or.inr rfl) (me_lst (ma_cons me_int ma_nil)))
    (ms_cons (ms_for rfl (mi_seq (me_var (pv 0))) (mg_name (i := 2) sc_sums_of.nd rfl (by first | exact Or.inl rfl | exact Or.inr rfl)) (ms_one (ms_set (i := 1) sc_sums_of.nd rfl (by first | exact Or.inl rfl | exact Or.inr rfl) (me_op op_addA ok_add (me_var (pv 1)) (me_lc rfl sc_sums_of.nd (MLc.mk (own := [("one", 3)]) (mi_seq (me_var (pv 1))) (blkOk_by (N := ["rows", "found", "row", "one"]) (sc := defScope (topS 20)) (own := [("one", 3)]) (by decide +kernel)) ⟨[3], by decide, fun _ _ _ _ _ => (mg_name (i := 3) sc_sums_of.nd rfl (by first | exact Or.inl rfl | exact Or.inr rfl))⟩ (fun _ _ _ _ _ _ => pts_nilM) (fun _ _ _ _ _ => (me_op op_xor ok_xor (me_var (pv 3)) (me_var (pv 2))))))))))
    (ms_one (ms_retV (pv 1)))))
theorem w_Span_words (T : Txt K mg A0 A1 A2 A3) : MeG P w K mg base (ctOf A0 A1 A2 A3) 2 0 "words" 1 m_Span_words :=
  me_g (b := b_Span_words) T.me_Span_words T.cls_Span (show _ ∉ fdt 0 by decide +kernel) rfl sc_Span_words rfl rfl fun f cdv A outer s H E hr =>
    (ms_one (ms_ret (me_callB cr_sortedI ok_sorted (by rfl) T.z_sorted (by decide +kernel) (ma_cons (me_call (w_sums_of T) (hr.mono (by decide)) (by rfl) (ma_cons (me_fld (cs := [0]) (i := 1) (me_var (pv 0)) T.fd_rows) ma_nil)) ma_nil))))
theorem t_tab_words (T : Txt K mg A0 A1 A2 A3) : ∀ C m, tab_words C = some m → MeG P w K mg base (ctOf A0 A1 A2 A3) 2 C "words" 1 m := fun C m h => by
  unfold tab_words at h
  split at h
  · rename_i e; subst e; cases h; exact (w_Span_words T).mono (by decide)
  cases h
theorem w_Span_lightest (T : Txt K mg A0 A1 A2 A3) : MeG P w K mg base (ctOf A0 A1 A2 A3) 3 0 "lightest" 1 m_Span_lightest :=
  me_g (b := b_Span_lightest) T.me_Span_lightest T.cls_Span (show _ ∉ fdt 0 by decide +kernel) rfl sc_Span_lightest rfl rfl fun f cdv A outer s H E hr =>
    (ms_cons (ms_set (i := 1) sc_Span_lightest.nd rfl (by first | exact Or.inl rfl | exact Or.inr rfl) (me_callB cr_sortPT ok_sortP (by rfl) T.z_sorted (by decide +kernel) (ma_cons (me_lc rfl sc_Span_lightest.nd (MLc.mk (own := [("word", 2)]) (mi_seq (me_meth0 (tab := tab_words) (me_var (pv 0)) (t_tab_words T) (hr.mono (by decide)))) (blkOk_by (N := ["self", "found", "word"]) (sc := defScope (inClass (topS 21) 11)) (own := [("word", 2)]) (by decide +kernel)) ⟨[2], by decide, fun _ _ _ _ _ => (mg_name (i := 2) sc_Span_lightest.nd rfl (by first | exact Or.inl rfl | exact Or.inr rfl))⟩ (fun _ _ _ _ _ _ => pts_nilM) (fun _ _ _ _ _ => (me_tup (ma_cons (me_call (w_weight T) (hr.mono (by decide)) (by rfl) (ma_cons (me_var (pv 2)) ma_nil)) (ma_cons (me_var (pv 2)) ma_nil)))))) ma_nil)))
    (ms_one (ms_ret (me_if (mt_cmp op_gt ok_gt (me_callB call_lenA ok_len (by rfl) T.z_len (by decide +kernel) (ma_cons (me_var (pv 1)) ma_nil)) me_int (nomark _)) (me_ix (me_ix (me_var (pv 1)) me_int) me_int) me_non))))
theorem t_tab_lightest (T : Txt K mg A0 A1 A2 A3) : ∀ C m, tab_lightest C = some m → MeG P w K mg base (ctOf A0 A1 A2 A3) 3 C "lightest" 1 m := fun C m h => by
  unfold tab_lightest at h
  split at h
  · rename_i e; subst e; cases h; exact (w_Span_lightest T).mono (by decide)
  cases h
theorem w_Span_distance (T : Txt K mg A0 A1 A2 A3) : MeG P w K mg base (ctOf A0 A1 A2 A3) 4 0 "distance" 1 m_Span_distance :=
  me_g (b := b_Span_distance) T.me_Span_distance T.cls_Span (show _ ∉ fdt 0 by decide +kernel) rfl sc_Span_distance rfl rfl fun f cdv A outer s H E hr =>
    (ms_cons (ms_set (i := 1) sc_Span_distance.nd rfl (by first | exact Or.inl rfl | exact Or.inr rfl) (me_meth0 (tab := tab_lightest) (me_var (pv 0)) (t_tab_lightest T) (hr.mono (by decide))))
    (ms_one (ms_ret (me_if (mt_cmp op_isN ok_isN (me_var (pv 1)) me_non (nomark _)) me_non (me_call (w_weight T) (hr.mono (by decide)) (by rfl) (ma_cons (me_var (pv 1)) ma_nil))))))
theorem w_is_odd (T : Txt K mg A0 A1 A2 A3) : FnG P w K mg base (ctOf A0 A1 A2 A3) 2 "is_odd" 1 m_is_odd :=
  fn_g (b := b_is_odd) T.fn_is_odd sc_is_odd rfl rfl fun f cdv A outer s H E hr =>
    (ms_one (ms_ret (me_cmp (op_eqA hr.units) ok_eq (me_op op_mod ok_mod (me_call (w_weight T) (hr.mono (by decide)) (by rfl) (ma_cons (me_var (pv 0)) ma_nil)) me_int) me_int (nomark _))))
theorem w_Span_mark_by (T : Txt K mg A0 A1 A2 A3) : MeG P w K mg base (ctOf A0 A1 A2 A3) 3 0 "mark_by" 2 m_Span_mark_by :=
  me_g (b := b_Span_mark_by) T.me_Span_mark_by T.cls_Span (show _ ∉ fdt 0 by decide +kernel) rfl sc_Span_mark_by rfl rfl fun f cdv A outer s H E hr =>
    (ms_one (ms_ret (me_callB (cr_sum rfl) ok_sum (by rfl) T.z_sum (by decide +kernel) (ma_cons (me_lc rfl sc_Span_mark_by.nd (MLc.mk (own := [("place", 2), ("check", 3)]) (mi_enum (by rfl) T.z_enumerate (ma_cons (me_fld (cs := [0]) (i := 2) (me_var (pv 0)) T.fd_evens) ma_nil)) (blkOk_by (N := ["self", "number", "place", "check"]) (sc := defScope (inClass (topS 21) 5)) (own := [("place", 2), ("check", 3)]) (by decide +kernel)) ⟨[2, 3], by decide, fun _ _ _ _ _ => (mg_tup rfl (mgs_cons (mg_name (i := 2) sc_Span_mark_by.nd rfl (by first | exact Or.inl rfl | exact Or.inr rfl)) (mgs_cons (mg_name (i := 3) sc_Span_mark_by.nd rfl (by first | exact Or.inl rfl | exact Or.inr rfl)) mgs_nil)))⟩ (fun _ _ _ _ _ _ => (pts_oneM takesB (mt_val (me_call (w_is_odd T) (hr.mono (by decide)) (by rfl) (ma_cons (me_op op_and ok_and (me_var (pv 1)) (me_var (pv 3))) ma_nil))))) (fun _ _ _ _ _ => (me_op op_shl ok_shl me_int (me_var (pv 2)))))) ma_nil))))
theorem w_is_whole (T : Txt K mg A0 A1 A2 A3) : FnG P w K mg base (ctOf A0 A1 A2 A3) 1 "is_whole" 1 m_is_whole :=
  fn_g (b := b_is_whole) T.fn_is_whole sc_is_whole rfl rfl fun f cdv A outer s H E hr =>
    (ms_one (ms_ret (me_and (me_callB call_isi (ok_isi (g := isiInt) isi_int) (by rfl) T.z_isinstance (by decide +kernel) (ma_cons (me_var (pv 0)) (ma_cons (me_ty (by rfl) T.z_int (by decide +kernel)) ma_nil))) (me_one (me_not (me_callB call_isi (ok_isi (g := (isiOne "bool")) isi_bool) (by rfl) T.z_isinstance (by decide +kernel) (ma_cons (me_var (pv 0)) (ma_cons (me_ty (by rfl) T.z_bool (by decide +kernel)) ma_nil))))))))
theorem w_is_among (T : Txt K mg A0 A1 A2 A3) : FnG P w K mg base (ctOf A0 A1 A2 A3) 2 "is_among" 3 m_is_among :=
  fn_g (b := b_is_among) T.fn_is_among sc_is_among rfl rfl fun f cdv A outer s H E hr =>
    (ms_one (ms_ret (me_and (me_call (w_is_whole T) (hr.mono (by decide)) (by rfl) (ma_cons (me_var (pv 0)) ma_nil)) (me_one (me_chain op_le ok_le op_le ok_le (me_var (pv 1)) (me_var (pv 0)) (me_var (pv 2)))))))
theorem w_need (T : Txt K mg A0 A1 A2 A3) : FnG P w K mg base (ctOf A0 A1 A2 A3) 1 "need" 1 m_need :=
  fn_g (b := b_need) T.fn_need sc_need rfl rfl fun f cdv A outer s H E hr =>
    (ms_one (ms_if (mt_not (mt_val (me_var (pv 0)))) (ms_one (ms_raise rfl T.ra_BadSpan (by rfl))) ms_nil))
theorem w_Span_need_number (T : Txt K mg A0 A1 A2 A3) : MeG P w K mg base (ctOf A0 A1 A2 A3) 3 0 "need_number" 2 m_Span_need_number :=
  me_g (b := b_Span_need_number) T.me_Span_need_number T.cls_Span (show _ ∉ fdt 0 by decide +kernel) rfl sc_Span_need_number rfl rfl fun f cdv A outer s H E hr =>
    (ms_one (ms_expr (me_call (w_need T) (hr.mono (by decide)) (by rfl) (ma_cons (me_call (w_is_among T) (hr.mono (by decide)) (by rfl) (ma_cons (me_var (pv 1)) (ma_cons me_int (ma_cons (me_op op_sub ok_sub (me_op op_shl ok_shl me_int (me_fld (cs := [0]) (i := 0) (me_var (pv 0)) T.fd_wide)) me_int) ma_nil)))) ma_nil))))
theorem t_tab_need_number (T : Txt K mg A0 A1 A2 A3) : ∀ C m, tab_need_number C = some m → MeG P w K mg base (ctOf A0 A1 A2 A3) 3 C "need_number" 2 m := fun C m h => by
  unfold tab_need_number at h
  split at h
  · rename_i e; subst e; cases h; exact (w_Span_need_number T).mono (by decide)
  cases h
theorem t_tab_mark_by (T : Txt K mg A0 A1 A2 A3) : ∀ C m, tab_mark_by C = some m → MeG P w K mg base (ctOf A0 A1 A2 A3) 3 C "mark_by" 2 m := fun C m h => by
  unfold tab_mark_by at h
  split at h
  · rename_i e; subst e; cases h; exact (w_Span_mark_by T).mono (by decide)
  cases h
theorem w_Span_has (T : Txt K mg A0 A1 A2 A3) : MeG P w K mg base (ctOf A0 A1 A2 A3) 4 0 "has" 2 m_Span_has :=
  me_g (b := b_Span_has) T.me_Span_has T.cls_Span (show _ ∉ fdt 0 by decide +kernel) rfl sc_Span_has rfl rfl fun f cdv A outer s H E hr =>
    (ms_cons (ms_expr (me_meth (tab := tab_need_number) (me_var (pv 0)) (t_tab_need_number T) (hr.mono (by decide)) (ma_cons (me_var (pv 1)) ma_nil)))
    (ms_one (ms_ret (me_cmp (op_eqA hr.units) ok_eq (me_meth (tab := tab_mark_by) (me_var (pv 0)) (t_tab_mark_by T) (hr.mono (by decide)) (ma_cons (me_var (pv 1)) ma_nil)) me_int (nomark _)))))
theorem w_Span_all_best (T : Txt K mg A0 A1 A2 A3) : MeG P w K mg base (ctOf A0 A1 A2 A3) 4 0 "all_best" 1 m_Span_all_best :=
  me_g (b := b_Span_all_best) T.me_Span_all_best T.cls_Span (show _ ∉ fdt 0 by decide +kernel) rfl sc_Span_all_best rfl rfl fun f cdv A outer s H E hr =>
    (ms_cons (ms_own (i := 1) sc_Span_all_best.nd rfl (by first | exact Or.inl rfl | exact Or.inr rfl) me_dict1)
    (ms_cons (ms_for rfl (mi_range1 (by rfl) T.z_range (ma_cons (me_fld (cs := [0]) (i := 0) (me_var (pv 0)) T.fd_wide) ma_nil)) (mg_name (i := 2) sc_Span_all_best.nd rfl (by first | exact Or.inl rfl | exact Or.inr rfl)) (ms_cons (ms_set (i := 3) sc_Span_all_best.nd rfl (by first | exact Or.inl rfl | exact Or.inr rfl) (me_meth (tab := tab_mark_by) (me_var (pv 0)) (t_tab_mark_by T) (hr.mono (by decide)) (ma_cons (me_op op_shl ok_shl me_int (me_var (pv 2))) ma_nil)))
    (ms_cons (ms_own (i := 4) sc_Span_all_best.nd rfl (by first | exact Or.inl rfl | exact Or.inr rfl) (me_callTy call_dictD ok_dictD (by rfl) T.z_dict (by decide +kernel) (ma_cons (me_var (pv 1)) ma_nil)))
    (ms_cons (ms_itm (i := 1) rfl (pv 1) (mg_tup rfl (mgs_cons (mg_name (i := 5) sc_Span_all_best.nd rfl (by first | exact Or.inl rfl | exact Or.inr rfl)) (mgs_cons (mg_name (i := 6) sc_Span_all_best.nd rfl (by first | exact Or.inl rfl | exact Or.inr rfl)) mgs_nil))) (ms_cons (ms_set (i := 7) sc_Span_all_best.nd rfl (by first | exact Or.inl rfl | exact Or.inr rfl) (me_tup (ma_cons (me_op op_addA ok_add (me_ix (me_var (pv 6)) me_int) me_int) (ma_cons (me_op op_addA ok_add (me_ix (me_var (pv 6)) me_int) (me_op op_shl ok_shl me_int (me_var (pv 2)))) ma_nil))))
    (ms_one (ms_if (MW.mt (mw_or (mt_dni hr.units (me_op op_xor ok_xor (me_var (pv 5)) (me_var (pv 3))) (me_var (pv 4))) (mw_or1 (mt_cmp (op_ltT (Nat.lt_of_le_of_lt (Nat.le_add_right _ _) hr.units)) ok_ltP (me_var (pv 7)) (me_dix hr.units (me_var (pv 4)) (me_op op_xor ok_xor (me_var (pv 5)) (me_var (pv 3)))) (nomark _))))) (ms_one (ms_dsub (i := 4) hr.units (pv 4) (me_op op_xor ok_xor (me_var (pv 5)) (me_var (pv 3))) (me_var (pv 7)))) ms_nil))))
    (ms_one (ms_move (i := 1) (j := 4) sc_Span_all_best.nd rfl (by first | exact Or.inl rfl | exact Or.inr rfl) (pv 4)))))))
    (ms_one (ms_retV (pv 1)))))
theorem t_tab_all_best (T : Txt K mg A0 A1 A2 A3) : ∀ C m, tab_all_best C = some m → MeG P w K mg base (ctOf A0 A1 A2 A3) 4 C "all_best" 1 m := fun C m h => by
  unfold tab_all_best at h
  split at h
  · rename_i e; subst e; cases h; exact (w_Span_all_best T).mono (by decide)
  cases h
theorem w_Span_leader (T : Txt K mg A0 A1 A2 A3) : MeG P w K mg base (ctOf A0 A1 A2 A3) 5 0 "leader" 2 m_Span_leader :=
  me_g (b := b_Span_leader) T.me_Span_leader T.cls_Span (show _ ∉ fdt 0 by decide +kernel) rfl sc_Span_leader rfl rfl fun f cdv A outer s H E hr =>
    (ms_cons (ms_expr (me_call (w_need T) (hr.mono (by decide)) (by rfl) (ma_cons (me_call (w_is_among T) (hr.mono (by decide)) (by rfl) (ma_cons (me_var (pv 1)) (ma_cons me_int (ma_cons (me_op op_sub ok_sub (me_op op_shl ok_shl me_int (me_callB call_lenA ok_len (by rfl) T.z_len (by decide +kernel) (ma_cons (me_fld (cs := [0]) (i := 2) (me_var (pv 0)) T.fd_evens) ma_nil))) me_int) ma_nil)))) ma_nil)))
    (ms_cons (ms_if (mt_cmp op_isN ok_isN (me_fld (cs := [0]) (i := 3) (me_var (pv 0)) T.fd_best) me_non (nomark _)) (ms_one (ms_at (cs := [0]) (i := 3) (me_var (pv 0)) (me_meth0 (tab := tab_all_best) (me_var (pv 0)) (t_tab_all_best T) (hr.mono (by decide))) T.fa_best)) ms_nil)
    (ms_one (ms_ret (me_ix (me_dix hr.units (me_fld (cs := [0]) (i := 3) (me_var (pv 0)) T.fd_best) (me_var (pv 1))) me_int)))))
theorem t_tab_leader (T : Txt K mg A0 A1 A2 A3) : ∀ C m, tab_leader C = some m → MeG P w K mg base (ctOf A0 A1 A2 A3) 5 C "leader" 2 m := fun C m h => by
  unfold tab_leader at h
  split at h
  · rename_i e; subst e; cases h; exact (w_Span_leader T).mono (by decide)
  cases h
theorem w_Span_nearest (T : Txt K mg A0 A1 A2 A3) : MeG P w K mg base (ctOf A0 A1 A2 A3) 6 0 "nearest" 2 m_Span_nearest :=
  me_g (b := b_Span_nearest) T.me_Span_nearest T.cls_Span (show _ ∉ fdt 0 by decide +kernel) rfl sc_Span_nearest rfl rfl fun f cdv A outer s H E hr =>
    (ms_cons (ms_expr (me_meth (tab := tab_need_number) (me_var (pv 0)) (t_tab_need_number T) (hr.mono (by decide)) (ma_cons (me_var (pv 1)) ma_nil)))
    (ms_one (ms_ret (me_op op_xor ok_xor (me_var (pv 1)) (me_meth (tab := tab_leader) (me_var (pv 0)) (t_tab_leader T) (hr.mono (by decide)) (ma_cons (me_meth (tab := tab_mark_by) (me_var (pv 0)) (t_tab_mark_by T) (hr.mono (by decide)) (ma_cons (me_var (pv 1)) ma_nil)) ma_nil))))))
theorem w_Span_weights (T : Txt K mg A0 A1 A2 A3) : MeG P w K mg base (ctOf A0 A1 A2 A3) 3 0 "weights" 1 m_Span_weights :=
  me_g (b := b_Span_weights) T.me_Span_weights T.cls_Span (show _ ∉ fdt 0 by decide +kernel) rfl sc_Span_weights rfl rfl fun f cdv A outer s H E hr =>
    (ms_cons (ms_own (i := 1) sc_Span_weights.nd rfl (by first | exact Or.inl rfl | exact Or.inr rfl) me_dict0)
    (ms_cons (ms_for rfl (mi_seq (me_callB cr_sortedI ok_sorted (by rfl) T.z_sorted (by decide +kernel) (ma_cons (me_lc rfl sc_Span_weights.nd (MLc.mk (own := [("word", 3)]) (mi_seq (me_meth0 (tab := tab_words) (me_var (pv 0)) (t_tab_words T) (hr.mono (by decide)))) (blkOk_by (N := ["self", "found", "one", "word"]) (sc := defScope (inClass (topS 21) 13)) (own := [("word", 3)]) (by decide +kernel)) ⟨[3], by decide, fun _ _ _ _ _ => (mg_name (i := 3) sc_Span_weights.nd rfl (by first | exact Or.inl rfl | exact Or.inr rfl))⟩ (fun _ _ _ _ _ _ => pts_nilM) (fun _ _ _ _ _ => (me_call (w_weight T) (hr.mono (by decide)) (by rfl) (ma_cons (me_var (pv 3)) ma_nil))))) ma_nil))) (mg_name (i := 2) sc_Span_weights.nd rfl (by first | exact Or.inl rfl | exact Or.inr rfl)) (ms_one (ms_dsub (i := 1) hr.units (pv 1) (me_var (pv 2)) (me_op op_addA ok_add (me_dget2 hr.units (me_var (pv 1)) (me_var (pv 2)) me_int ⟨rfl, rfl, rfl, rfl⟩) me_int))))
    (ms_one (ms_retV (pv 1)))))
theorem t_tab_distance (T : Txt K mg A0 A1 A2 A3) : ∀ C m, tab_distance C = some m → MeG P w K mg base (ctOf A0 A1 A2 A3) 4 C "distance" 1 m := fun C m h => by
  unfold tab_distance at h
  split at h
  · rename_i e; subst e; cases h; exact (w_Span_distance T).mono (by decide)
  cases h
theorem t_tab_basis (T : Txt K mg A0 A1 A2 A3) : ∀ C m, tab_basis C = some m → MeG P w K mg base (ctOf A0 A1 A2 A3) 1 C "basis" 1 m := fun C m h => by
  unfold tab_basis at h
  split at h
  · rename_i e; subst e; cases h; exact (w_Span_basis T).mono (by decide)
  cases h
theorem t_tab_nearest (T : Txt K mg A0 A1 A2 A3) : ∀ C m, tab_nearest C = some m → MeG P w K mg base (ctOf A0 A1 A2 A3) 6 C "nearest" 2 m := fun C m h => by
  unfold tab_nearest at h
  split at h
  · rename_i e; subst e; cases h; exact (w_Span_nearest T).mono (by decide)
  cases h
theorem t_tab_weights (T : Txt K mg A0 A1 A2 A3) : ∀ C m, tab_weights C = some m → MeG P w K mg base (ctOf A0 A1 A2 A3) 3 C "weights" 1 m := fun C m h => by
  unfold tab_weights at h
  split at h
  · rename_i e; subst e; cases h; exact (w_Span_weights T).mono (by decide)
  cases h
theorem t_tab_has (T : Txt K mg A0 A1 A2 A3) : ∀ C m, tab_has C = some m → MeG P w K mg base (ctOf A0 A1 A2 A3) 4 C "has" 2 m := fun C m h => by
  unfold tab_has at h
  split at h
  · rename_i e; subst e; cases h; exact (w_Span_has T).mono (by decide)
  cases h
theorem w__law_come_back (T : Txt K mg A0 A1 A2 A3) : FnG P w K mg base (ctOf A0 A1 A2 A3) 7 "_law_come_back" 3 m__law_come_back :=
  fn_g (b := b__law_come_back) T.fn__law_come_back sc__law_come_back rfl rfl fun f cdv A outer s H E hr =>
    (ms_cons (ms_set (i := 3) sc__law_come_back.nd rfl (by first | exact Or.inl rfl | exact Or.inr rfl) (me_meth0 (tab := tab_words) (me_var (pv 0)) (t_tab_words T) (hr.mono (by decide))))
    (ms_cons (ms_set (i := 4) sc__law_come_back.nd rfl (by first | exact Or.inl rfl | exact Or.inr rfl) (me_meth0 (tab := tab_distance) (me_var (pv 0)) (t_tab_distance T) (hr.mono (by decide))))
    (ms_cons (ms_if (mt_cmp op_isN ok_isN (me_var (pv 4)) me_non (nomark _)) (ms_one (ms_ret (me_and (me_cmp (op_eqA hr.units) ok_eq (me_var (pv 3)) (me_lst (ma_cons me_int ma_nil)) (nomark _)) (me_and (me_cmp op_isN ok_isN (me_meth0 (tab := tab_lightest) (me_var (pv 0)) (t_tab_lightest T) (hr.mono (by decide))) me_non (nomark _)) (me_one (me_cmp (op_eqA hr.units) ok_eq (me_meth0 (tab := tab_basis) (me_var (pv 0)) (t_tab_basis T) (hr.mono (by decide))) (me_lst ma_nil) (nomark _))))))) ms_nil)
    (ms_cons (ms_for rfl (mi_range1 (by rfl) T.z_range (ma_cons me_int ma_nil)) (mg_name (i := 5) sc__law_come_back.nd rfl (by first | exact Or.inl rfl | exact Or.inr rfl)) (ms_cons (ms_set (i := 6) sc__law_come_back.nd rfl (by first | exact Or.inl rfl | exact Or.inr rfl) (me_ix (me_var (pv 3)) (me_op op_mod ok_mod (me_call (w__law_mixed T) (hr.mono (by decide)) (by rfl) (ma_cons (me_var (pv 2)) (ma_cons (me_op op_addA ok_add me_int (me_var (pv 5))) ma_nil))) (me_callB call_lenA ok_len (by rfl) T.z_len (by decide +kernel) (ma_cons (me_var (pv 3)) ma_nil)))))
    (ms_cons (ms_set (i := 7) sc__law_come_back.nd rfl (by first | exact Or.inl rfl | exact Or.inr rfl) (me_var (pv 6)))
    (ms_cons (ms_for rfl (mi_range1 (by rfl) T.z_range (ma_cons (me_op op_fdivW ok_div (me_op op_sub ok_sub (me_var (pv 4)) me_int) me_int) ma_nil)) (mg_name (i := 8) sc__law_come_back.nd rfl (by first | exact Or.inl rfl | exact Or.inr rfl)) (ms_one (ms_set (i := 7) sc__law_come_back.nd rfl (by first | exact Or.inl rfl | exact Or.inr rfl) (me_op op_xor ok_xor (me_var (pv 7)) (me_op op_shl ok_shl me_int (me_op op_mod ok_mod (me_call (w__law_mixed T) (hr.mono (by decide)) (by rfl) (ma_cons (me_var (pv 2)) (ma_cons (me_op op_addA ok_add (me_op op_addA ok_add me_int (me_op op_mulA ok_mul me_int (me_var (pv 5)))) (me_var (pv 8))) ma_nil))) (me_var (pv 1))))))))
    (ms_one (ms_if (mt_cmp (op_neA hr.units) ok_ne (me_meth (tab := tab_nearest) (me_var (pv 0)) (t_tab_nearest T) (hr.mono (by decide)) (ma_cons (me_var (pv 7)) ma_nil)) (me_var (pv 6)) (nomark _)) (ms_one (ms_ret me_bl)) ms_nil))))))
    (ms_cons (ms_set (i := 9) sc__law_come_back.nd rfl (by first | exact Or.inl rfl | exact Or.inr rfl) (me_meth0 (tab := tab_weights) (me_var (pv 0)) (t_tab_weights T) (hr.mono (by decide))))
    (ms_cons (ms_if (MW.mt (mw_or (mt_cmp (op_neA hr.units) ok_ne (me_callB (cr_sum rfl) ok_sum (by rfl) T.z_sum (by decide +kernel) (ma_cons (me_lc rfl sc__law_come_back.nd (MLc.mk (own := [("one", 10)]) (mi_seq (me_callTy (call_listD rfl) ok_listD (by rfl) T.z_list (by decide +kernel) (ma_cons (me_var (pv 9)) ma_nil))) (blkOk_by (N := ["span", "wide", "number", "words", "least", "k", "word", "bent", "turn", "weights", "one"]) (sc := defScope (topS 32)) (own := [("one", 10)]) (by decide +kernel)) ⟨[10], by decide, fun _ _ _ _ _ => (mg_name (i := 10) sc__law_come_back.nd rfl (by first | exact Or.inl rfl | exact Or.inr rfl))⟩ (fun _ _ _ _ _ _ => pts_nilM) (fun _ _ _ _ _ => (me_dix hr.units (me_var (pv 9)) (me_var (pv 10)))))) ma_nil)) (me_op op_shl ok_shl me_int (me_callB call_lenA ok_len (by rfl) T.z_len (by decide +kernel) (ma_cons (me_meth0 (tab := tab_basis) (me_var (pv 0)) (t_tab_basis T) (hr.mono (by decide))) ma_nil))) (nomark _)) (mw_or1 (mt_cmp (op_neA hr.units) ok_ne (me_sl (me_callTy (call_listD rfl) ok_listD (by rfl) T.z_list (by decide +kernel) (ma_cons (me_var (pv 9)) ma_nil)) mo_no (mo_so me_int)) (me_lst (ma_cons me_int (ma_cons (me_var (pv 4)) ma_nil))) (nomark _))))) (ms_one (ms_ret me_bl)) ms_nil)
    (ms_one (ms_ret (me_and (me_meth (tab := tab_has) (me_var (pv 0)) (t_tab_has T) (hr.mono (by decide)) (ma_cons (me_meth0 (tab := tab_lightest) (me_var (pv 0)) (t_tab_lightest T) (hr.mono (by decide))) ma_nil)) (me_one (me_cmp (op_eqA hr.units) ok_eq (me_call (w__law_weight T) (hr.mono (by decide)) (by rfl) (ma_cons (me_meth0 (tab := tab_lightest) (me_var (pv 0)) (t_tab_lightest T) (hr.mono (by decide))) ma_nil)) (me_var (pv 4)) (nomark _))))))))))))
theorem w_Span_checks (T : Txt K mg A0 A1 A2 A3) : MeG P w K mg base (ctOf A0 A1 A2 A3) 1 0 "checks" 1 m_Span_checks :=
  me_g (b := b_Span_checks) T.me_Span_checks T.cls_Span (show _ ∉ fdt 0 by decide +kernel) rfl sc_Span_checks rfl rfl fun f cdv A outer s H E hr =>
    (ms_one (ms_ret (me_callTy call_list_of ok_list (by rfl) T.z_list (by decide +kernel) (ma_cons (me_fld (cs := [0]) (i := 2) (me_var (pv 0)) T.fd_evens) ma_nil))))
theorem w_high_place (T : Txt K mg A0 A1 A2 A3) : FnG P w K mg base (ctOf A0 A1 A2 A3) 1 "high_place" 1 m_high_place :=
  fn_g (b := b_high_place) T.fn_high_place sc_high_place rfl rfl fun f cdv A outer s H E hr =>
    (ms_cons (ms_set (i := 1) sc_high_place.nd rfl (by first | exact Or.inl rfl | exact Or.inr rfl) (me_neg me_int))
    (ms_cons (ms_while (mt_cmp op_gt ok_gt (me_var (pv 0)) me_int (nomark _)) (ms_cons (ms_set (i := 1) sc_high_place.nd rfl (by first | exact Or.inl rfl | exact Or.inr rfl) (me_op op_addA ok_add (me_var (pv 1)) me_int))
    (ms_one (ms_set (i := 0) sc_high_place.nd rfl (by first | exact Or.inl rfl | exact Or.inr rfl) (me_op op_shr ok_shr (me_var (pv 0)) me_int)))))
    (ms_one (ms_retV (pv 1)))))
theorem w_need_form (T : Txt K mg A0 A1 A2 A3) : FnG P w K mg base (ctOf A0 A1 A2 A3) 3 "need_form" 1 m_need_form :=
  fn_g (b := b_need_form) T.fn_need_form sc_need_form rfl rfl fun f cdv A outer s H E hr =>
    (ms_one (ms_if (mt_not (mt_val (me_call (w_is_among T) (hr.mono (by decide)) (by rfl) (ma_cons (me_var (pv 0)) (ma_cons me_int (ma_cons (me_gint (by rfl) T.g_MOST_FORM) ma_nil)))))) (ms_one (ms_raise rfl T.ra_BadForm (by rfl))) ms_nil))
theorem w_degree (T : Txt K mg A0 A1 A2 A3) : FnG P w K mg base (ctOf A0 A1 A2 A3) 4 "degree" 1 m_degree :=
  fn_g (b := b_degree) T.fn_degree sc_degree rfl rfl fun f cdv A outer s H E hr =>
    (ms_cons (ms_expr (me_call (w_need_form T) (hr.mono (by decide)) (by rfl) (ma_cons (me_var (pv 0)) ma_nil)))
    (ms_one (ms_ret (me_call (w_high_place T) (hr.mono (by decide)) (by rfl) (ma_cons (me_var (pv 0)) ma_nil)))))
theorem w_basis_of (T : Txt K mg A0 A1 A2 A3) : FnG P w K mg base (ctOf A0 A1 A2 A3) 5 "basis_of" 1 m_basis_of :=
  fn_g (b := b_basis_of) T.fn_basis_of sc_basis_of rfl rfl fun f cdv A outer s H E hr =>
    (ms_cons (ms_own (i := 1) sc_basis_of.nd rfl (by first | exact Or.inl rfl | exact Or.inr rfl) (me_lst ma_nil))
    (ms_cons (ms_for rfl (mi_seq (me_var (pv 0))) (mg_name (i := 2) sc_basis_of.nd rfl (by first | exact Or.inl rfl | exact Or.inr rfl)) (ms_cons (ms_dem (i := 1) (ms_for rfl (mi_seq (me_var (pv 1))) (mg_name (i := 3) sc_basis_of.nd rfl (by first | exact Or.inl rfl | exact Or.inr rfl)) (ms_one (ms_if (mt_cmp (op_eqA hr.units) ok_eq (me_op op_and ok_and (me_op op_shr ok_shr (me_var (pv 2)) (me_call (w_degree T) (hr.mono (by decide)) (by rfl) (ma_cons (me_var (pv 3)) ma_nil))) me_int) me_int (nomark _)) (ms_one (ms_set (i := 2) sc_basis_of.nd rfl (by first | exact Or.inl rfl | exact Or.inr rfl) (me_op op_xor ok_xor (me_var (pv 2)) (me_var (pv 3))))) ms_nil))))
    (ms_one (ms_if (mt_cmp op_gt ok_gt (me_var (pv 2)) me_int (nomark _)) (ms_cons (ms_set (i := 4) sc_basis_of.nd rfl (by first | exact Or.inl rfl | exact Or.inr rfl) (me_call (w_degree T) (hr.mono (by decide)) (by rfl) (ma_cons (me_var (pv 2)) ma_nil)))
    (ms_cons (ms_dem (i := 1) (ms_ownLc (i := 1) rfl sc_basis_of.nd rfl rfl (sw_true rfl rfl rfl (by decide +kernel)) (MLc.mk (own := [("row", 3)]) (mi_seq (me_var (pv 1))) (blkOk_by (N := ["numbers", "found", "number", "row", "top"]) (sc := defScope (topS 18)) (own := [("row", 3)]) (by decide +kernel)) ⟨[3], by decide, fun _ _ _ _ _ => (mg_name (i := 3) sc_basis_of.nd rfl (by first | exact Or.inl rfl | exact Or.inr rfl))⟩ (fun _ _ _ _ _ _ => pts_nilM) (fun _ _ _ _ _ => (me_if (mt_cmp (op_eqA hr.units) ok_eq (me_op op_and ok_and (me_op op_shr ok_shr (me_var (pv 3)) (me_var (pv 4))) me_int) me_int (nomark _)) (me_op op_xor ok_xor (me_var (pv 3)) (me_var (pv 2))) (me_var (pv 3)))))))
    (ms_one (ms_app (i := 1) (pv 1) (me_var (pv 2)) (fun h1 h2 => pe_bm PySem.F.plainAttrs_list PySem.F.slot_list_append PySem.F.type_list_append mt_append h1 h2))))) ms_nil))))
    (ms_one (ms_ret (me_callB cr_sortedI ok_sorted (by rfl) T.z_sorted (by decide +kernel) (ma_cons (me_var (pv 1)) ma_nil))))))
theorem w_checks_of (T : Txt K mg A0 A1 A2 A3) : FnG P w K mg base (ctOf A0 A1 A2 A3) 6 "checks_of" 2 m_checks_of :=
  fn_g (b := b_checks_of) T.fn_checks_of sc_checks_of rfl rfl fun f cdv A outer s H E hr =>
    (ms_cons (ms_setLc (i := 2) rfl sc_checks_of.nd rfl rfl (sw_true rfl rfl rfl (by decide +kernel)) (MLc.mk (own := [("row", 6)]) (mi_seq (me_var (pv 1))) (blkOk_by (N := ["wide", "basis", "tops", "found", "place", "under", "row", "top"]) (sc := defScope (topS 19)) (own := [("row", 6)]) (by decide +kernel)) ⟨[6], by decide, fun _ _ _ _ _ => (mg_name (i := 6) sc_checks_of.nd rfl (by first | exact Or.inl rfl | exact Or.inr rfl))⟩ (fun _ _ _ _ _ _ => pts_nilM) (fun _ _ _ _ _ => (me_call (w_degree T) (hr.mono (by decide)) (by rfl) (ma_cons (me_var (pv 6)) ma_nil)))))
    (ms_cons (ms_own (i := 3) sc_checks_of.nd rfl (by first | exact Or.inl rfl | exact Or.inr rfl) (me_lst ma_nil))
    (ms_cons (ms_for rfl (mi_range1 (by rfl) T.z_range (ma_cons (me_var (pv 0)) ma_nil)) (mg_name (i := 4) sc_checks_of.nd rfl (by first | exact Or.inl rfl | exact Or.inr rfl)) (ms_one (ms_if (mt_cmp op_notInA ok_notIn (me_var (pv 4)) (me_var (pv 2)) (by rfl)) (ms_cons (ms_setLc (i := 5) rfl sc_checks_of.nd rfl rfl (sw_true rfl rfl rfl (by decide +kernel)) (MLc.mk (own := [("top", 7), ("row", 6)]) (mi_zip (by rfl) T.z_zip (ma_cons (me_var (pv 2)) (ma_cons (me_var (pv 1)) ma_nil))) (blkOk_by (N := ["wide", "basis", "tops", "found", "place", "under", "row", "top"]) (sc := defScope (topS 19)) (own := [("top", 7), ("row", 6)]) (by decide +kernel)) ⟨[7, 6], by decide, fun _ _ _ _ _ => (mg_tup rfl (mgs_cons (mg_name (i := 7) sc_checks_of.nd rfl (by first | exact Or.inl rfl | exact Or.inr rfl)) (mgs_cons (mg_name (i := 6) sc_checks_of.nd rfl (by first | exact Or.inl rfl | exact Or.inr rfl)) mgs_nil)))⟩ (fun _ _ _ _ _ _ => (pts_oneM takesB (mt_cmp (op_eqA hr.units) ok_eq (me_op op_and ok_and (me_op op_shr ok_shr (me_var (pv 6)) (me_var (pv 4))) me_int) me_int (nomark _)))) (fun _ _ _ _ _ => (me_op op_shl ok_shl me_int (me_var (pv 7))))))
    (ms_one (ms_app (i := 3) (pv 3) (me_op op_addA ok_add (me_callB (cr_sum rfl) ok_sum (by rfl) T.z_sum (by decide +kernel) (ma_cons (me_var (pv 5)) ma_nil)) (me_op op_shl ok_shl me_int (me_var (pv 4)))) (fun h1 h2 => pe_bm PySem.F.plainAttrs_list PySem.F.slot_list_append PySem.F.type_list_append mt_append h1 h2)))) ms_nil)))
    (ms_one (ms_ret (me_call (w_basis_of T) (hr.mono (by decide)) (by rfl) (ma_cons (me_var (pv 3)) ma_nil)))))))
theorem k_Span (T : Txt K mg A0 A1 A2 A3) : MkG P w K mg base (ctOf A0 A1 A2 A3) 7 0 "Span" 3 m_Span___init__ :=
  mk_g (b := b_Span___init__) T.mk_Span rfl sc_Span___init__ rfl rfl fun f cdv A outer s H E hr =>
    (ms_cons (ms_expr (me_call (w_need T) (hr.mono (by decide)) (by rfl) (ma_cons (me_and (me_call (w_is_among T) (hr.mono (by decide)) (by rfl) (ma_cons (me_var (pv 1)) (ma_cons me_int (ma_cons (me_gint (by rfl) T.g_MOST_WIDE) ma_nil)))) (me_and (me_callB call_isi (ok_isi (g := (isiOne "list")) isi_list) (by rfl) T.z_isinstance (by decide +kernel) (ma_cons (me_var (pv 2)) (ma_cons (me_ty (by rfl) T.z_list (by decide +kernel)) ma_nil))) (me_one (me_chain op_le ok_le op_le ok_le me_int (me_callB call_lenA ok_len (by rfl) T.z_len (by decide +kernel) (ma_cons (me_var (pv 2)) ma_nil)) (me_gint (by rfl) T.g_MOST_NUMBERS))))) ma_nil)))
    (ms_cons (ms_expr (me_call (w_need T) (hr.mono (by decide)) (by rfl) (ma_cons (me_callB (cr_all rfl) ok_all (by rfl) T.z_all (by decide +kernel) (ma_cons (me_lc rfl sc_Span___init__.nd (MLc.mk (own := [("number", 3)]) (mi_seq (me_var (pv 2))) (blkOk_by (N := ["self", "wide", "numbers", "number"]) (sc := defScope (inClass (topS 21) 0)) (own := [("number", 3)]) (by decide +kernel)) ⟨[3], by decide, fun _ _ _ _ _ => (mg_name (i := 3) sc_Span___init__.nd rfl (by first | exact Or.inl rfl | exact Or.inr rfl))⟩ (fun _ _ _ _ _ _ => pts_nilM) (fun _ _ _ _ _ => (me_call (w_is_among T) (hr.mono (by decide)) (by rfl) (ma_cons (me_var (pv 3)) (ma_cons me_int (ma_cons (me_op op_sub ok_sub (me_op op_shl ok_shl me_int (me_var (pv 1))) me_int) ma_nil))))))) ma_nil)) ma_nil)))
    (ms_cons (ms_at (cs := [0]) (i := 0) (me_var (pv 0)) (me_var (pv 1)) T.fa_wide)
    (ms_cons (ms_at (cs := [0]) (i := 1) (me_var (pv 0)) (me_call (w_basis_of T) (hr.mono (by decide)) (by rfl) (ma_cons (me_var (pv 2)) ma_nil)) T.fa_rows)
    (ms_cons (ms_at (cs := [0]) (i := 2) (me_var (pv 0)) (me_call (w_checks_of T) (hr.mono (by decide)) (by rfl) (ma_cons (me_var (pv 1)) (ma_cons (me_fld (cs := [0]) (i := 1) (me_var (pv 0)) T.fd_rows) ma_nil))) T.fa_evens)
    (ms_one (ms_at (cs := [0]) (i := 3) (me_var (pv 0)) me_non T.fa_best)))))))
theorem t_tab_checks (T : Txt K mg A0 A1 A2 A3) : ∀ C m, tab_checks C = some m → MeG P w K mg base (ctOf A0 A1 A2 A3) 1 C "checks" 1 m := fun C m h => by
  unfold tab_checks at h
  split at h
  · rename_i e; subst e; cases h; exact (w_Span_checks T).mono (by decide)
  cases h
theorem w__law_duals_good (T : Txt K mg A0 A1 A2 A3) : FnG P w K mg base (ctOf A0 A1 A2 A3) 9 "_law_duals_good" 2 m__law_duals_good :=
  fn_g (b := b__law_duals_good) T.fn__law_duals_good sc__law_duals_good rfl rfl fun f cdv A outer s H E hr =>
    (ms_cons (ms_par (i := 2) (j := 3) rfl sc__law_duals_good.nd rfl rfl (by decide) rfl rfl (me_meth0 (tab := tab_basis) (me_var (pv 0)) (t_tab_basis T) (hr.mono (by decide))) (me_meth0 (tab := tab_checks) (me_var (pv 0)) (t_tab_checks T) (hr.mono (by decide))) (by rfl) (by rfl) (by rfl))
    (ms_cons (ms_if (MW.mt (mw_or (mt_cmp (op_eqA hr.units) ok_eq (me_var (pv 3)) (me_lst ma_nil) (nomark _)) (mw_or1 (mt_cmp (op_neA hr.units) ok_ne (me_op op_addA ok_add (me_callB call_lenA ok_len (by rfl) T.z_len (by decide +kernel) (ma_cons (me_var (pv 2)) ma_nil)) (me_callB call_lenA ok_len (by rfl) T.z_len (by decide +kernel) (ma_cons (me_var (pv 3)) ma_nil))) (me_var (pv 1)) (nomark _))))) (ms_one (ms_ret (me_and (me_cmp (op_eqA hr.units) ok_eq (me_var (pv 3)) (me_lst ma_nil) (nomark _)) (me_one (me_cmp (op_eqA hr.units) ok_eq (me_callB call_lenA ok_len (by rfl) T.z_len (by decide +kernel) (ma_cons (me_var (pv 2)) ma_nil)) (me_var (pv 1)) (nomark _)))))) ms_nil)
    (ms_cons (ms_set (i := 4) sc__law_duals_good.nd rfl (by first | exact Or.inl rfl | exact Or.inr rfl) (me_new (C := 0) (k_Span T) (hr.mono (by decide)) (by rfl) (ma_cons (me_var (pv 1)) (ma_cons (me_var (pv 3)) ma_nil))))
    (ms_one (ms_ret (me_and (me_cmp (op_eqA hr.units) ok_eq (me_meth0 (tab := tab_basis) (me_var (pv 4)) (t_tab_basis T) (hr.mono (by decide))) (me_var (pv 3)) (nomark _)) (me_one (me_cmp (op_eqA hr.units) ok_eq (me_meth0 (tab := tab_checks) (me_var (pv 4)) (t_tab_checks T) (hr.mono (by decide))) (me_var (pv 2)) (nomark _)))))))))
theorem w__law_number (T : Txt K mg A0 A1 A2 A3) : FnG P w K mg base (ctOf A0 A1 A2 A3) 1 "_law_number" 2 m__law_number :=
  fn_g (b := b__law_number) T.fn__law_number sc__law_number rfl rfl fun f cdv A outer s H E hr =>
    (ms_cons (ms_set (i := 2) sc__law_number.nd rfl (by first | exact Or.inl rfl | exact Or.inr rfl) me_int)
    (ms_cons (ms_if (mt_cmp op_gt ok_gt (me_callB call_lenA ok_len (by rfl) T.z_len (by decide +kernel) (ma_cons (me_var (pv 0)) ma_nil)) me_int (nomark _)) (ms_one (ms_set (i := 2) sc__law_number.nd rfl (by first | exact Or.inl rfl | exact Or.inr rfl) (me_op op_mod ok_mod (me_ix (me_var (pv 0)) (me_op op_mod ok_mod (me_var (pv 1)) (me_callB call_lenA ok_len (by rfl) T.z_len (by decide +kernel) (ma_cons (me_var (pv 0)) ma_nil)))) me_int))) ms_nil)
    (ms_one (ms_ret (me_op op_fdivW ok_div (me_op op_mod ok_mod (me_op op_mulA ok_mul (me_op op_mod ok_mod (me_op op_mulA ok_mul (me_op op_addA ok_add (me_op op_addA ok_add (me_op op_addA ok_add (me_var (pv 2)) (me_op op_mulA ok_mul (me_op op_mulA ok_mul me_int (me_var (pv 1))) (me_var (pv 1)))) (me_op op_mulA ok_mul me_int (me_var (pv 1)))) me_int) me_int) me_int) me_int) me_int) me_int)))))
theorem w__law_same (T : Txt K mg A0 A1 A2 A3) : FnG P w K mg base (ctOf A0 A1 A2 A3) 4 "_law_same" 2 m__law_same :=
  fn_g (b := b__law_same) T.fn__law_same sc__law_same rfl rfl fun f cdv A outer s H E hr =>
    (ms_one (ms_ret (me_cmp (op_eqV hr.units) ok_eqV (me_lst (ma_cons (me_meth0 (tab := tab_basis) (me_var (pv 0)) (t_tab_basis T) (hr.mono (by decide))) (ma_cons (me_meth0 (tab := tab_checks) (me_var (pv 0)) (t_tab_checks T) (hr.mono (by decide))) (ma_cons (me_meth0 (tab := tab_weights) (me_var (pv 0)) (t_tab_weights T) (hr.mono (by decide))) ma_nil)))) (me_lst (ma_cons (me_meth0 (tab := tab_basis) (me_var (pv 1)) (t_tab_basis T) (hr.mono (by decide))) (ma_cons (me_meth0 (tab := tab_checks) (me_var (pv 1)) (t_tab_checks T) (hr.mono (by decide))) (ma_cons (me_meth0 (tab := tab_weights) (me_var (pv 1)) (t_tab_weights T) (hr.mono (by decide))) ma_nil)))) (nomark _))))
theorem w_Span_mark (T : Txt K mg A0 A1 A2 A3) : MeG P w K mg base (ctOf A0 A1 A2 A3) 4 0 "mark" 2 m_Span_mark :=
  me_g (b := b_Span_mark) T.me_Span_mark T.cls_Span (show _ ∉ fdt 0 by decide +kernel) rfl sc_Span_mark rfl rfl fun f cdv A outer s H E hr =>
    (ms_cons (ms_expr (me_meth (tab := tab_need_number) (me_var (pv 0)) (t_tab_need_number T) (hr.mono (by decide)) (ma_cons (me_var (pv 1)) ma_nil)))
    (ms_one (ms_ret (me_meth (tab := tab_mark_by) (me_var (pv 0)) (t_tab_mark_by T) (hr.mono (by decide)) (ma_cons (me_var (pv 1)) ma_nil)))))
theorem t_tab_mark (T : Txt K mg A0 A1 A2 A3) : ∀ C m, tab_mark C = some m → MeG P w K mg base (ctOf A0 A1 A2 A3) 4 C "mark" 2 m := fun C m h => by
  unfold tab_mark at h
  split at h
  · rename_i e; subst e; cases h; exact (w_Span_mark T).mono (by decide)
  cases h
theorem w__law_sums_good (T : Txt K mg A0 A1 A2 A3) : FnG P w K mg base (ctOf A0 A1 A2 A3) 7 "_law_sums_good" 3 m__law_sums_good :=
  fn_g (b := b__law_sums_good) T.fn__law_sums_good sc__law_sums_good rfl rfl fun f cdv A outer s H E hr =>
    (ms_cons (ms_set (i := 3) sc__law_sums_good.nd rfl (by first | exact Or.inl rfl | exact Or.inr rfl) (me_meth0 (tab := tab_words) (me_var (pv 0)) (t_tab_words T) (hr.mono (by decide))))
    (ms_cons (ms_asg (me_lc rfl sc__law_sums_good.nd (MLc.mk (own := [("k", 8)]) (mi_range1 (by rfl) T.z_range (ma_cons me_int ma_nil)) (blkOk_by (N := ["span", "wide", "number", "words", "one", "other", "word", "near", "k"]) (sc := defScope (topS 31)) (own := [("k", 8)]) (by decide +kernel)) ⟨[8], by decide, fun _ _ _ _ _ => (mg_name (i := 8) sc__law_sums_good.nd rfl (by first | exact Or.inl rfl | exact Or.inr rfl))⟩ (fun _ _ _ _ _ _ => pts_nilM) (fun _ _ _ _ _ => (me_op op_mod ok_mod (me_call (w__law_mixed T) (hr.mono (by decide)) (by rfl) (ma_cons (me_var (pv 2)) (ma_cons (me_op op_addA ok_add me_int (me_var (pv 8))) ma_nil))) (me_op op_shl ok_shl me_int (me_var (pv 1))))))) (mg_unl rfl (mgs_cons (mg_name (i := 4) sc__law_sums_good.nd rfl (by first | exact Or.inl rfl | exact Or.inr rfl)) (mgs_cons (mg_name (i := 5) sc__law_sums_good.nd rfl (by first | exact Or.inl rfl | exact Or.inr rfl)) mgs_nil))))
    (ms_cons (ms_set (i := 6) sc__law_sums_good.nd rfl (by first | exact Or.inl rfl | exact Or.inr rfl) (me_ix (me_var (pv 3)) (me_op op_mod ok_mod (me_call (w__law_mixed T) (hr.mono (by decide)) (by rfl) (ma_cons (me_var (pv 2)) (ma_cons me_int ma_nil))) (me_callB call_lenA ok_len (by rfl) T.z_len (by decide +kernel) (ma_cons (me_var (pv 3)) ma_nil)))))
    (ms_cons (ms_if (MW.mt (mw_or (mt_cmp (op_neA hr.units) ok_ne (me_meth (tab := tab_mark) (me_var (pv 0)) (t_tab_mark T) (hr.mono (by decide)) (ma_cons (me_op op_xor ok_xor (me_var (pv 4)) (me_var (pv 5))) ma_nil)) (me_op op_xor ok_xor (me_meth (tab := tab_mark) (me_var (pv 0)) (t_tab_mark T) (hr.mono (by decide)) (ma_cons (me_var (pv 4)) ma_nil)) (me_meth (tab := tab_mark) (me_var (pv 0)) (t_tab_mark T) (hr.mono (by decide)) (ma_cons (me_var (pv 5)) ma_nil))) (nomark _)) (mw_or1 (mt_cmp (op_neA hr.units) ok_ne (me_meth (tab := tab_mark) (me_var (pv 0)) (t_tab_mark T) (hr.mono (by decide)) (ma_cons (me_var (pv 6)) ma_nil)) me_int (nomark _))))) (ms_one (ms_ret me_bl)) ms_nil)
    (ms_cons (ms_if (MW.mt (mw_or (mt_cmp (op_neA hr.units) ok_ne (me_meth (tab := tab_mark) (me_var (pv 0)) (t_tab_mark T) (hr.mono (by decide)) (ma_cons (me_var (pv 4)) ma_nil)) (me_meth (tab := tab_mark) (me_var (pv 0)) (t_tab_mark T) (hr.mono (by decide)) (ma_cons (me_op op_xor ok_xor (me_var (pv 4)) (me_var (pv 6))) ma_nil)) (nomark _)) (mw_or1 (mt_cmp (op_neA hr.units) ok_ne (me_meth (tab := tab_has) (me_var (pv 0)) (t_tab_has T) (hr.mono (by decide)) (ma_cons (me_var (pv 4)) ma_nil)) (me_cmp (op_eqA hr.units) ok_eq (me_meth (tab := tab_mark) (me_var (pv 0)) (t_tab_mark T) (hr.mono (by decide)) (ma_cons (me_var (pv 4)) ma_nil)) me_int (nomark _)) (nomark _))))) (ms_one (ms_ret me_bl)) ms_nil)
    (ms_cons (ms_set (i := 7) sc__law_sums_good.nd rfl (by first | exact Or.inl rfl | exact Or.inr rfl) (me_meth (tab := tab_nearest) (me_var (pv 0)) (t_tab_nearest T) (hr.mono (by decide)) (ma_cons (me_var (pv 4)) ma_nil)))
    (ms_cons (ms_if (MW.mt (mw_or (mt_not (mt_val (me_meth (tab := tab_has) (me_var (pv 0)) (t_tab_has T) (hr.mono (by decide)) (ma_cons (me_var (pv 7)) ma_nil)))) (mw_or (mt_cmp (op_neA hr.units) ok_ne (me_op op_xor ok_xor (me_var (pv 7)) (me_meth (tab := tab_leader) (me_var (pv 0)) (t_tab_leader T) (hr.mono (by decide)) (ma_cons (me_meth (tab := tab_mark) (me_var (pv 0)) (t_tab_mark T) (hr.mono (by decide)) (ma_cons (me_var (pv 4)) ma_nil)) ma_nil))) (me_var (pv 4)) (nomark _)) (mw_or1 (mt_cmp (op_neA hr.units) ok_ne (me_meth (tab := tab_nearest) (me_var (pv 0)) (t_tab_nearest T) (hr.mono (by decide)) (ma_cons (me_op op_xor ok_xor (me_var (pv 4)) (me_var (pv 6))) ma_nil)) (me_op op_xor ok_xor (me_var (pv 7)) (me_var (pv 6))) (nomark _)))))) (ms_one (ms_ret me_bl)) ms_nil)
    (ms_one (ms_ret (me_and (me_cmp (op_eqA hr.units) ok_eq (me_meth (tab := tab_nearest) (me_var (pv 0)) (t_tab_nearest T) (hr.mono (by decide)) (ma_cons (me_var (pv 6)) ma_nil)) (me_var (pv 6)) (nomark _)) (me_one (me_cmp op_le ok_le (me_call (w__law_weight T) (hr.mono (by decide)) (by rfl) (ma_cons (me_op op_xor ok_xor (me_var (pv 4)) (me_var (pv 7))) ma_nil)) (me_call (w__law_weight T) (hr.mono (by decide)) (by rfl) (ma_cons (me_op op_xor ok_xor (me_var (pv 4)) (me_var (pv 6))) ma_nil)) (nomark _)))))))))))))
theorem w__law_turned (T : Txt K mg A0 A1 A2 A3) : FnG P w K mg base (ctOf A0 A1 A2 A3) 2 "_law_turned" 2 m__law_turned :=
  fn_g (b := b__law_turned) T.fn__law_turned sc__law_turned rfl rfl fun f cdv A outer s H E hr =>
    (ms_cons (ms_own (i := 2) sc__law_turned.nd rfl (by first | exact Or.inl rfl | exact Or.inr rfl) (me_callTy call_list_of ok_list (by rfl) T.z_list (by decide +kernel) (ma_cons (me_revL (me_var (pv 0))) ma_nil)))
    (ms_cons (ms_for rfl (mi_range1 (by rfl) T.z_range (ma_cons (me_callB call_lenA ok_len (by rfl) T.z_len (by decide +kernel) (ma_cons (me_var (pv 2)) ma_nil)) ma_nil)) (mg_name (i := 3) sc__law_turned.nd rfl (by first | exact Or.inl rfl | exact Or.inr rfl)) (ms_cons (ms_set (i := 4) sc__law_turned.nd rfl (by first | exact Or.inl rfl | exact Or.inr rfl) (me_op op_mod ok_mod (me_call (w__law_mixed T) (hr.mono (by decide)) (by rfl) (ma_cons (me_var (pv 1)) (ma_cons (me_op op_addA ok_add me_int (me_var (pv 3))) ma_nil))) (me_callB call_lenA ok_len (by rfl) T.z_len (by decide +kernel) (ma_cons (me_var (pv 2)) ma_nil))))
    (ms_one (ms_if (mt_cmp (op_neA hr.units) ok_ne (me_var (pv 4)) (me_var (pv 3)) (nomark _)) (ms_one (ms_sub (i := 2) (pv 2) (me_var (pv 3)) (me_op op_xor ok_xor (me_ix (me_var (pv 2)) (me_var (pv 3))) (me_ix (me_var (pv 2)) (me_var (pv 4)))))) ms_nil))))
    (ms_one (ms_retV (pv 2)))))
theorem law_ok (T : Txt K mg A0 A1 A2 A3) {fa : Addr} (hfa : mg "law" = some (.ref fa)) (math : ∀ ns : List Int, ns.length ≤ 63 → ∃ S f, m_law [(.c, .frz (ns.map D.int))] [] = .ok (.bl true, f) S) :
    ∃ fd : FuncData, (∀ (s : Shared) (u : Value), BindsTo s fd ⟨[u], []⟩ [("script", u)]) ∧ ∀ base : Heap, K.In base → base.Ns mainGlobals mg → FnOk P w K mg base (L2.CX P w) 10 fa fd ["script"] (spLaw K) :=
  law_end (ct := (ctOf A0 A1 A2 A3)) (m := b_law) T.fn_law hfa sc_law rfl (fun base f cdv A outer s H E hr =>
    (ms_cons (ms_for rfl (mi_range1 (by rfl) T.z_range (ma_cons (me_callB (call_maxA rfl) ok_max (by rfl) T.z_max (by decide +kernel) (ma_cons me_int (ma_cons (me_callB (call_minA rfl) ok_min (by rfl) T.z_min (by decide +kernel) (ma_cons me_int (ma_cons (me_callB call_lenA ok_len (by rfl) T.z_len (by decide +kernel) (ma_cons (me_var (pv 0)) ma_nil)) ma_nil))) ma_nil))) ma_nil)) (mg_name (i := 1) sc_law.nd rfl (by first | exact Or.inl rfl | exact Or.inr rfl)) (ms_cons (ms_set (i := 2) sc_law.nd rfl (by first | exact Or.inl rfl | exact Or.inr rfl) (me_call (w__law_number T) (hr.mono (by decide)) (by rfl) (ma_cons (me_var (pv 0)) (ma_cons (me_var (pv 1)) ma_nil))))
    (ms_cons (ms_asg (me_call (w__law_close T) (hr.mono (by decide)) (by rfl) (ma_cons (me_var (pv 2)) (ma_cons (me_ix (me_lst (ma_cons me_int (ma_cons me_int ma_nil))) (me_callTy call_int1 ok_intT (by rfl) T.z_int (by decide +kernel) (ma_cons (me_cmp (op_eqA hr.units) ok_eq (me_var (pv 1)) me_int (nomark _)) ma_nil))) ma_nil))) (mg_tup rfl (mgs_cons (mg_name (i := 3) sc_law.nd rfl (by first | exact Or.inl rfl | exact Or.inr rfl)) (mgs_cons (mg_name (i := 4) sc_law.nd rfl (by first | exact Or.inl rfl | exact Or.inr rfl)) mgs_nil))))
    (ms_cons (ms_set (i := 5) sc_law.nd rfl (by first | exact Or.inl rfl | exact Or.inr rfl) (me_new (C := 0) (k_Span T) (hr.mono (by decide)) (by rfl) (ma_cons (me_var (pv 3)) (ma_cons (me_var (pv 4)) ma_nil))))
    (ms_cons (ms_if (MW.mt (mw_or (mt_not (mt_val (me_call (w__law_same T) (hr.mono (by decide)) (by rfl) (ma_cons (me_var (pv 5)) (ma_cons (me_new (C := 0) (k_Span T) (hr.mono (by decide)) (by rfl) (ma_cons (me_var (pv 3)) (ma_cons (me_call (w__law_turned T) (hr.mono (by decide)) (by rfl) (ma_cons (me_var (pv 4)) (ma_cons (me_var (pv 2)) ma_nil))) ma_nil))) ma_nil))))) (mw_or1 (mt_not (mt_val (me_call (w__law_duals_good T) (hr.mono (by decide)) (by rfl) (ma_cons (me_var (pv 5)) (ma_cons (me_var (pv 3)) ma_nil)))))))) (ms_one (ms_ret me_bl)) ms_nil)
    (ms_one (ms_if (MW.mt (mw_or (mt_not (mt_val (me_call (w__law_sums_good T) (hr.mono (by decide)) (by rfl) (ma_cons (me_var (pv 5)) (ma_cons (me_var (pv 3)) (ma_cons (me_var (pv 2)) ma_nil)))))) (mw_or1 (mt_not (mt_val (me_call (w__law_come_back T) (hr.mono (by decide)) (by rfl) (ma_cons (me_var (pv 5)) (ma_cons (me_var (pv 3)) (ma_cons (me_var (pv 2)) ma_nil))))))))) (ms_one (ms_ret me_bl)) ms_nil)))))))
    (ms_one (ms_ret me_bl)))) math
end
end Wlk

open PySem PySem.W PyProof.Rows
set_option maxRecDepth 100000 in
set_option maxHeartbeats 0 in
theorem PySem.Challenge.cw_codewright_k19_whole_spans_holds : PySem.Challenge.rw_codewright_k19_whole_spans.Holds := by
  w_on; o_law; k_head; (case hw => w_witness2)
  k_fill
  refine Mv.law_walk (k := 10) (l := PySem.Challenge.rw_codewright_k19_whole_spans) rfl rfl ⟨rfl, by decide, by decide⟩ (fun w h Y => PySem.W.kIn_of Y) ?F
  case F =>
    intro w mg fa h KX G hmg
    refine' Wlk.law_ok (Wlk.Txt.mk (K := _) (mg := mg) (A1 := 0) (Mv.FunO.mk' KX G ?a_fn__law_mixed ?l_fn__law_mixed ?c_fn__law_mixed ?k_fn__law_mixed fun _ _ _ _ _ _ us hl => match us, hl with | [_, _], _ => rfl) (Mv.FunO.mk' KX G ?a_fn__law_close ?l_fn__law_close ?c_fn__law_close ?k_fn__law_close fun _ _ _ _ _ _ us hl => match us, hl with | [_, _], _ => rfl) (Mv.FunO.mk' KX G ?a_fn__law_weight ?l_fn__law_weight ?c_fn__law_weight ?k_fn__law_weight fun _ _ _ _ _ _ us hl => match us, hl with | [_], _ => rfl) (Mv.FunO.mk' KX G ?a_fn_weight ?l_fn_weight ?c_fn_weight ?k_fn_weight fun _ _ _ _ _ _ us hl => match us, hl with | [_], _ => rfl) (Mv.FunO.mk' KX G ?a_fn_sums_of ?l_fn_sums_of ?c_fn_sums_of ?k_fn_sums_of fun _ _ _ _ _ _ us hl => match us, hl with | [_], _ => rfl) (Mv.FunO.mk' KX G ?a_fn_is_odd ?l_fn_is_odd ?c_fn_is_odd ?k_fn_is_odd fun _ _ _ _ _ _ us hl => match us, hl with | [_], _ => rfl) (Mv.FunO.mk' KX G ?a_fn_is_whole ?l_fn_is_whole ?c_fn_is_whole ?k_fn_is_whole fun _ _ _ _ _ _ us hl => match us, hl with | [_], _ => rfl) (Mv.FunO.mk' KX G ?a_fn_is_among ?l_fn_is_among ?c_fn_is_among ?k_fn_is_among fun _ _ _ _ _ _ us hl => match us, hl with | [_, _, _], _ => rfl) (Mv.FunO.mk' KX G ?a_fn_need ?l_fn_need ?c_fn_need ?k_fn_need fun _ _ _ _ _ _ us hl => match us, hl with | [_], _ => rfl) (Mv.FunO.mk' KX G ?a_fn__law_come_back ?l_fn__law_come_back ?c_fn__law_come_back ?k_fn__law_come_back fun _ _ _ _ _ _ us hl => match us, hl with | [_, _, _], _ => rfl) (Mv.FunO.mk' KX G ?a_fn_high_place ?l_fn_high_place ?c_fn_high_place ?k_fn_high_place fun _ _ _ _ _ _ us hl => match us, hl with | [_], _ => rfl) (Mv.FunO.mk' KX G ?a_fn_need_form ?l_fn_need_form ?c_fn_need_form ?k_fn_need_form fun _ _ _ _ _ _ us hl => match us, hl with | [_], _ => rfl) (Mv.FunO.mk' KX G ?a_fn_degree ?l_fn_degree ?c_fn_degree ?k_fn_degree fun _ _ _ _ _ _ us hl => match us, hl with | [_], _ => rfl) (Mv.FunO.mk' KX G ?a_fn_basis_of ?l_fn_basis_of ?c_fn_basis_of ?k_fn_basis_of fun _ _ _ _ _ _ us hl => match us, hl with | [_], _ => rfl) (Mv.FunO.mk' KX G ?a_fn_checks_of ?l_fn_checks_of ?c_fn_checks_of ?k_fn_checks_of fun _ _ _ _ _ _ us hl => match us, hl with | [_, _], _ => rfl) (Mv.FunO.mk' KX G ?a_fn__law_duals_good ?l_fn__law_duals_good ?c_fn__law_duals_good ?k_fn__law_duals_good fun _ _ _ _ _ _ us hl => match us, hl with | [_, _], _ => rfl) (Mv.FunO.mk' KX G ?a_fn__law_number ?l_fn__law_number ?c_fn__law_number ?k_fn__law_number fun _ _ _ _ _ _ us hl => match us, hl with | [_, _], _ => rfl) (Mv.FunO.mk' KX G ?a_fn__law_same ?l_fn__law_same ?c_fn__law_same ?k_fn__law_same fun _ _ _ _ _ _ us hl => match us, hl with | [_, _], _ => rfl) (Mv.FunO.mk' KX G ?a_fn__law_sums_good ?l_fn__law_sums_good ?c_fn__law_sums_good ?k_fn__law_sums_good fun _ _ _ _ _ _ us hl => match us, hl with | [_, _, _], _ => rfl) (Mv.FunO.mk' KX G ?a_fn__law_turned ?l_fn__law_turned ?c_fn__law_turned ?k_fn__law_turned fun _ _ _ _ _ _ us hl => match us, hl with | [_, _], _ => rfl) (Mv.FunO.mk' KX G ?a_fn_law ?l_fn_law ?c_fn_law ?k_fn_law fun _ _ _ _ _ _ us hl => match us, hl with | [_], _ => rfl) ⟨?p_cls_Span, ?h_cls_Span, ?o_cls_Span, ?s_cls_Span⟩ (Mv.MeO.mk' ?a_me_Span_all_best ?i_me_Span_all_best ?l_me_Span_all_best ?c_me_Span_all_best ?k_me_Span_all_best fun _ _ _ _ _ _ us hl => match us, hl with | [_], _ => rfl) (Mv.MeO.mk' ?a_me_Span_basis ?i_me_Span_basis ?l_me_Span_basis ?c_me_Span_basis ?k_me_Span_basis fun _ _ _ _ _ _ us hl => match us, hl with | [_], _ => rfl) (Mv.MeO.mk' ?a_me_Span_checks ?i_me_Span_checks ?l_me_Span_checks ?c_me_Span_checks ?k_me_Span_checks fun _ _ _ _ _ _ us hl => match us, hl with | [_], _ => rfl) (Mv.MeO.mk' ?a_me_Span_distance ?i_me_Span_distance ?l_me_Span_distance ?c_me_Span_distance ?k_me_Span_distance fun _ _ _ _ _ _ us hl => match us, hl with | [_], _ => rfl) (Mv.MeO.mk' ?a_me_Span_has ?i_me_Span_has ?l_me_Span_has ?c_me_Span_has ?k_me_Span_has fun _ _ _ _ _ _ us hl => match us, hl with | [_, _], _ => rfl) (Mv.MeO.mk' ?a_me_Span_leader ?i_me_Span_leader ?l_me_Span_leader ?c_me_Span_leader ?k_me_Span_leader fun _ _ _ _ _ _ us hl => match us, hl with | [_, _], _ => rfl) (Mv.MeO.mk' ?a_me_Span_lightest ?i_me_Span_lightest ?l_me_Span_lightest ?c_me_Span_lightest ?k_me_Span_lightest fun _ _ _ _ _ _ us hl => match us, hl with | [_], _ => rfl) (Mv.MeO.mk' ?a_me_Span_mark ?i_me_Span_mark ?l_me_Span_mark ?c_me_Span_mark ?k_me_Span_mark fun _ _ _ _ _ _ us hl => match us, hl with | [_, _], _ => rfl) (Mv.MeO.mk' ?a_me_Span_mark_by ?i_me_Span_mark_by ?l_me_Span_mark_by ?c_me_Span_mark_by ?k_me_Span_mark_by fun _ _ _ _ _ _ us hl => match us, hl with | [_, _], _ => rfl) (Mv.MeO.mk' ?a_me_Span_nearest ?i_me_Span_nearest ?l_me_Span_nearest ?c_me_Span_nearest ?k_me_Span_nearest fun _ _ _ _ _ _ us hl => match us, hl with | [_, _], _ => rfl) (Mv.MeO.mk' ?a_me_Span_need_number ?i_me_Span_need_number ?l_me_Span_need_number ?c_me_Span_need_number ?k_me_Span_need_number fun _ _ _ _ _ _ us hl => match us, hl with | [_, _], _ => rfl) (Mv.MeO.mk' ?a_me_Span_weights ?i_me_Span_weights ?l_me_Span_weights ?c_me_Span_weights ?k_me_Span_weights fun _ _ _ _ _ _ us hl => match us, hl with | [_], _ => rfl) (Mv.MeO.mk' ?a_me_Span_words ?i_me_Span_words ?l_me_Span_words ?c_me_Span_words ?k_me_Span_words fun _ _ _ _ _ _ us hl => match us, hl with | [_], _ => rfl) (Mv.MkO.mk' KX G ?A_mk_Span ?m_mk_Span ?K_mk_Span ?a_mk_Span ?i_mk_Span ?l_mk_Span ?c_mk_Span ?k_mk_Span fun _ _ _ _ _ _ us hl => match us, hl with | [_, _, _], _ => rfl) ?n_na_Span_best ?n_na_Span_evens ?n_na_Span_rows ?n_na_Span_wide (Mv.ex_int (PySem.W.mg_of KX G ?v_g_MOST_FORM)) (Mv.ex_int (PySem.W.mg_of KX G ?v_g_MOST_WIDE)) (Mv.ex_int (PySem.W.mg_of KX G ?v_g_MOST_NUMBERS)) (PySem.W.mg_none_of KX G ?z_z_all) (PySem.W.mg_none_of KX G ?z_z_bool) (PySem.W.mg_none_of KX G ?z_z_dict) (PySem.W.mg_none_of KX G ?z_z_enumerate) (PySem.W.mg_none_of KX G ?z_z_int) (PySem.W.mg_none_of KX G ?z_z_isinstance) (PySem.W.mg_none_of KX G ?z_z_len) (PySem.W.mg_none_of KX G ?z_z_list) (PySem.W.mg_none_of KX G ?z_z_max) (PySem.W.mg_none_of KX G ?z_z_min) (PySem.W.mg_none_of KX G ?z_z_range) (PySem.W.mg_none_of KX G ?z_z_sorted) (PySem.W.mg_none_of KX G ?z_z_sum) (PySem.W.mg_none_of KX G ?z_z_zip) ⟨?e_ra_BadForm, PySem.W.mg_of KX G ?g_ra_BadForm, ?k_ra_BadForm, ?s_ra_BadForm, ?t_ra_BadForm⟩ ⟨?e_ra_BadSpan, PySem.W.mg_of KX G ?g_ra_BadSpan, ?k_ra_BadSpan, ?s_ra_BadSpan, ?t_ra_BadSpan⟩) hmg Fin.math
    (case A_mk_Span => k_is)
    (case g_ra_BadForm => k_is)
    (case g_ra_BadSpan => k_is)
    (case a_fn__law_mixed => k_is)
    (case l_fn__law_mixed => k_is)
    (case c_fn__law_mixed => k_is)
    (case k_fn__law_mixed => k_is)
    (case a_fn__law_close => k_is)
    (case l_fn__law_close => k_is)
    (case c_fn__law_close => k_is)
    (case k_fn__law_close => k_is)
    (case a_fn__law_weight => k_is)
    (case l_fn__law_weight => k_is)
    (case c_fn__law_weight => k_is)
    (case k_fn__law_weight => k_is)
    (case a_fn_weight => k_is)
    (case l_fn_weight => k_is)
    (case c_fn_weight => k_is)
    (case k_fn_weight => k_is)
    (case a_fn_sums_of => k_is)
    (case l_fn_sums_of => k_is)
    (case c_fn_sums_of => k_is)
    (case k_fn_sums_of => k_is)
    (case a_fn_is_odd => k_is)
    (case l_fn_is_odd => k_is)
    (case c_fn_is_odd => k_is)
    (case k_fn_is_odd => k_is)
    (case a_fn_is_whole => k_is)
    (case l_fn_is_whole => k_is)
    (case c_fn_is_whole => k_is)
    (case k_fn_is_whole => k_is)
    (case a_fn_is_among => k_is)
    (case l_fn_is_among => k_is)
    (case c_fn_is_among => k_is)
    (case k_fn_is_among => k_is)
    (case a_fn_need => k_is)
    (case l_fn_need => k_is)
    (case c_fn_need => k_is)
    (case k_fn_need => k_is)
    (case a_fn__law_come_back => k_is)
    (case l_fn__law_come_back => k_is)
    (case c_fn__law_come_back => k_is)
    (case k_fn__law_come_back => k_is)
    (case a_fn_high_place => k_is)
    (case l_fn_high_place => k_is)
    (case c_fn_high_place => k_is)
    (case k_fn_high_place => k_is)
    (case a_fn_need_form => k_is)
    (case l_fn_need_form => k_is)
    (case c_fn_need_form => k_is)
    (case k_fn_need_form => k_is)
    (case a_fn_degree => k_is)
    (case l_fn_degree => k_is)
    (case c_fn_degree => k_is)
    (case k_fn_degree => k_is)
    (case a_fn_basis_of => k_is)
    (case l_fn_basis_of => k_is)
    (case c_fn_basis_of => k_is)
    (case k_fn_basis_of => k_is)
    (case a_fn_checks_of => k_is)
    (case l_fn_checks_of => k_is)
    (case c_fn_checks_of => k_is)
    (case k_fn_checks_of => k_is)
    (case a_fn__law_duals_good => k_is)
    (case l_fn__law_duals_good => k_is)
    (case c_fn__law_duals_good => k_is)
    (case k_fn__law_duals_good => k_is)
    (case a_fn__law_number => k_is)
    (case l_fn__law_number => k_is)
    (case c_fn__law_number => k_is)
    (case k_fn__law_number => k_is)
    (case a_fn__law_same => k_is)
    (case l_fn__law_same => k_is)
    (case c_fn__law_same => k_is)
    (case k_fn__law_same => k_is)
    (case a_fn__law_sums_good => k_is)
    (case l_fn__law_sums_good => k_is)
    (case c_fn__law_sums_good => k_is)
    (case k_fn__law_sums_good => k_is)
    (case a_fn__law_turned => k_is)
    (case l_fn__law_turned => k_is)
    (case c_fn__law_turned => k_is)
    (case k_fn__law_turned => k_is)
    (case a_fn_law => k_is)
    (case l_fn_law => k_is)
    (case c_fn_law => k_is)
    (case k_fn_law => k_is)
    (case p_cls_Span => k_is)
    (case h_cls_Span => k_is)
    (case o_cls_Span => k_is)
    (case s_cls_Span => k_is)
    (case a_me_Span_all_best => k_is)
    (case i_me_Span_all_best => k_is)
    (case l_me_Span_all_best => k_is)
    (case c_me_Span_all_best => k_is)
    (case k_me_Span_all_best => k_is)
    (case a_me_Span_basis => k_is)
    (case i_me_Span_basis => k_is)
    (case l_me_Span_basis => k_is)
    (case c_me_Span_basis => k_is)
    (case k_me_Span_basis => k_is)
    (case a_me_Span_checks => k_is)
    (case i_me_Span_checks => k_is)
    (case l_me_Span_checks => k_is)
    (case c_me_Span_checks => k_is)
    (case k_me_Span_checks => k_is)
    (case a_me_Span_distance => k_is)
    (case i_me_Span_distance => k_is)
    (case l_me_Span_distance => k_is)
    (case c_me_Span_distance => k_is)
    (case k_me_Span_distance => k_is)
    (case a_me_Span_has => k_is)
    (case i_me_Span_has => k_is)
    (case l_me_Span_has => k_is)
    (case c_me_Span_has => k_is)
    (case k_me_Span_has => k_is)
    (case a_me_Span_leader => k_is)
    (case i_me_Span_leader => k_is)
    (case l_me_Span_leader => k_is)
    (case c_me_Span_leader => k_is)
    (case k_me_Span_leader => k_is)
    (case a_me_Span_lightest => k_is)
    (case i_me_Span_lightest => k_is)
    (case l_me_Span_lightest => k_is)
    (case c_me_Span_lightest => k_is)
    (case k_me_Span_lightest => k_is)
    (case a_me_Span_mark => k_is)
    (case i_me_Span_mark => k_is)
    (case l_me_Span_mark => k_is)
    (case c_me_Span_mark => k_is)
    (case k_me_Span_mark => k_is)
    (case a_me_Span_mark_by => k_is)
    (case i_me_Span_mark_by => k_is)
    (case l_me_Span_mark_by => k_is)
    (case c_me_Span_mark_by => k_is)
    (case k_me_Span_mark_by => k_is)
    (case a_me_Span_nearest => k_is)
    (case i_me_Span_nearest => k_is)
    (case l_me_Span_nearest => k_is)
    (case c_me_Span_nearest => k_is)
    (case k_me_Span_nearest => k_is)
    (case a_me_Span_need_number => k_is)
    (case i_me_Span_need_number => k_is)
    (case l_me_Span_need_number => k_is)
    (case c_me_Span_need_number => k_is)
    (case k_me_Span_need_number => k_is)
    (case a_me_Span_weights => k_is)
    (case i_me_Span_weights => k_is)
    (case l_me_Span_weights => k_is)
    (case c_me_Span_weights => k_is)
    (case k_me_Span_weights => k_is)
    (case a_me_Span_words => k_is)
    (case i_me_Span_words => k_is)
    (case l_me_Span_words => k_is)
    (case c_me_Span_words => k_is)
    (case k_me_Span_words => k_is)
    (case m_mk_Span => k_is)
    (case K_mk_Span => k_is)
    (case a_mk_Span => k_is)
    (case i_mk_Span => k_is)
    (case l_mk_Span => k_is)
    (case c_mk_Span => k_is)
    (case k_mk_Span => k_is)
    (case n_na_Span_best => show PySem.W.findIn _ _ _ = _; k_is)
    (case n_na_Span_evens => show PySem.W.findIn _ _ _ = _; k_is)
    (case n_na_Span_rows => show PySem.W.findIn _ _ _ = _; k_is)
    (case n_na_Span_wide => show PySem.W.findIn _ _ _ = _; k_is)
    (case v_g_MOST_FORM => k_is)
    (case v_g_MOST_WIDE => k_is)
    (case v_g_MOST_NUMBERS => k_is)
    (case z_z_all => k_is)
    (case z_z_bool => k_is)
    (case z_z_dict => k_is)
    (case z_z_enumerate => k_is)
    (case z_z_int => k_is)
    (case z_z_isinstance => k_is)
    (case z_z_len => k_is)
    (case z_z_list => k_is)
    (case z_z_max => k_is)
    (case z_z_min => k_is)
    (case z_z_range => k_is)
    (case z_z_sorted => k_is)
    (case z_z_sum => k_is)
    (case z_z_zip => k_is)
    (case e_ra_BadForm => k_exc)
    (case k_ra_BadForm => k_is)
    (case s_ra_BadForm => k_is)
    (case t_ra_BadForm => k_is)
    (case e_ra_BadSpan => k_exc)
    (case k_ra_BadSpan => k_is)
    (case s_ra_BadSpan => k_is)
    (case t_ra_BadSpan => k_is)
